import PyProof.Rows.All
import Wide.All
import OpenK.AllK
import Wide.FinOn
import HandS.ForMost
import HandS.Deep
import KE.KDictKeyed
import KE.KeyNested
import HandS.TupAny
import HandS.Flow
import HandS.Conv
import HandS.Style
import HandS.Zip
import KE.GoesEnum
import KE.GoesMore
import KE.GoesNew
import PyProof.EnumMake
import KE.KDictPairs
import HandS.SortOrd
import KE.SortData
import HandS.Defaults
import HandS.Head0
import HandS.HeadHook2
import PySem.Challenge.RW_soundsled_k46_whole_machines_of_longer_h
import KE.KStateDown
import HandS.WordsExc
import HandS.Head1
import HandS.Head2
import HandS.HeadEnd
import HandS.HeadHook1
set_option Elab.async false
set_option linter.all false
set_option maxRecDepth 100000
set_option maxHeartbeats 0
/-! the data layer: values as pure data, locals as data or as owned lists -/
namespace SS
open PySem PySem.Spec PyProof.Rows L2

/-- pure data -/
inductive D where
  | non
  | bl (b : Bool)
  | int (i : Int)
  | str (x : List Nat)
  | tup (l : List D)
  /-- a tuple that a loop over zip, enumerate lays -/
  | row (l : List D)
  | lst (l : List D)
  | mach (s h : D)
  | obj (c : Nat) (l : List D)
  | dct (ks vs : List D)
  deriving Inhabited

mutual
/-- a datum as a key of a dict -/
def nk : D → NestedKey
  | .non => .none
  | .bl b => .num (if b then 1 else 0)
  | .int i => .num i
  | .str x => .text ⟨x.toArray⟩
  | .tup l => .tup (nks l)
  | .row _ => .none
  | .lst _ => .none
  | .mach _ _ => .none
  | .obj _ _ => .none
  | .dct _ _ => .none
def nks : List D → List NestedKey
  | [] => []
  | d :: r => nk d :: nks r
end

/-- the program's classes, what a Machine's memo may hold -/
structure Gx where
  P : Program
  w : World
  cM : Addr
  cls : Nat → Addr
  flds : Nat → List Str
  memo : D → D → D → D → Prop

abbrev DRow := NestedKey × Addr × V
/-- a dict with tuple keys stands at a -/
def DOk (P : Program) (w : World) (a : Addr) (rows : List DRow) (h : Heap) : Prop :=
  rows.length ≤ sizeLine ∧ (a == sysModules) = false ∧ (rows.map (·.1)).Nodup ∧
  ∃ us : List Value, Vals (rows.map (·.2.2)) us ∧ ∃ o es ep, h.get? a = some o ∧ o.ExactDict ∧ o.data = .dict es ep ∧
    es.toList = (rows.zip us).map fun (z : DRow × Value) => (⟨(nestedKind P w).hash z.1.1, .ref z.1.2.1, z.2⟩ : DictEntry)
def dHO (G : Gx) (a : Addr) (rows : List DRow) : HO := .ext (DOk G.P G.w a rows)

/-- a tuple, known to have no dict of its own -/
def TupAt (H : Hp) (a : Addr) (vs : List V) : Prop := ∃ ob : Obj, H a = some (.frz ob (.tup vs)) ∧ ob.dict = none
theorem TupAt.sq {K : PySem.W.Frag} {H : Hp} {a : Addr} {vs : List V} (h : TupAt H a vs) : SqT K H a vs := .inl (.inr (let ⟨ob, e, _⟩ := h; ⟨ob, e⟩))
inductive FO where
  | ho (o : HO)
  | pt (vs : List V)
  | memo (s h : D)
/-- what is frozen -/
abbrev Fz := Addr → Option FO
def Fz.Le (Φ Φ' : Fz) : Prop := ∀ a fo, Φ a = some fo → Φ' a = some fo
theorem Fz.Le.refl (Φ : Fz) : Fz.Le Φ Φ := fun _ _ h => h
theorem Fz.Le.trans {Φ Φ' Φ'' : Fz} (h : Fz.Le Φ Φ') (h' : Fz.Le Φ' Φ'') : Fz.Le Φ Φ'' := fun a fo e => h' a fo (h a fo e)

mutual
def Rep (G : Gx) (Φ : Fz) : D → V → Prop
  | .non, v => v = .non
  | .bl b, v => v = .bl b
  | .int i, v => v = .int i
  | .str x, v => v = .str ⟨x.toArray⟩
  | .tup l, v => ∃ a vs, v = .ref a ∧ Φ a = some (.pt vs) ∧ Reps G Φ l vs
  | .row l, v => ∃ a vs, v = .ref a ∧ Φ a = some (.ho (.tup vs)) ∧ Reps G Φ l vs
  | .lst l, v => ∃ a vs, v = .ref a ∧ Φ a = some (.ho (.lst vs)) ∧ Reps G Φ l vs
  | .mach s h, v => ∃ a dx d vs vh, v = .ref a ∧ Φ a = some (.ho (.ins G.cM dx [("sounds", vs), ("history", vh), ("known", .ref d)])) ∧ Φ d = some (.memo s h) ∧ Rep G Φ s vs ∧ Rep G Φ h vh
  | .obj c l, v => ∃ a dx vs, v = .ref a ∧ Φ a = some (.ho (.ins (G.cls c) dx ((G.flds c).zip vs))) ∧ vs.length = (G.flds c).length ∧ Reps G Φ l vs
  | .dct ks ws, v => ∃ a rows, v = .ref a ∧ Φ a = some (.ho (dHO G a rows)) ∧ nks ks = rows.map (·.1) ∧ Reps G Φ ks (rows.map fun r => .ref r.2.1) ∧ Reps G Φ ws (rows.map (·.2.2))
def Reps (G : Gx) (Φ : Fz) : List D → List V → Prop
  | [], vs => vs = []
  | d :: r, vs => ∃ v vr, vs = v :: vr ∧ Rep G Φ d v ∧ Reps G Φ r vr
end
section
variable {G : Gx} {Φ Φ' : Fz}
mutual
theorem Rep.mono (le : Fz.Le Φ Φ') : ∀ (d : D) (v : V), Rep G Φ d v → Rep G Φ' d v
  | .non, _, h => by simp only [Rep] at h ⊢; exact h
  | .bl _, _, h => by simp only [Rep] at h ⊢; exact h
  | .int _, _, h => by simp only [Rep] at h ⊢; exact h
  | .str _, _, h => by simp only [Rep] at h ⊢; exact h
  | .tup l, _, h => by
    simp only [Rep] at h ⊢
    obtain ⟨a, vs, e, p, r⟩ := h
    exact ⟨a, vs, e, le _ _ p, Reps.mono le l vs r⟩
  | .row l, _, h => by
    simp only [Rep] at h ⊢
    obtain ⟨a, vs, e, p, r⟩ := h
    exact ⟨a, vs, e, le _ _ p, Reps.mono le l vs r⟩
  | .lst l, _, h => by
    simp only [Rep] at h ⊢
    obtain ⟨a, vs, e, p, r⟩ := h
    exact ⟨a, vs, e, le _ _ p, Reps.mono le l vs r⟩
  | .mach s m, _, h => by
    simp only [Rep] at h ⊢
    obtain ⟨a, dx, d, vs, vh, e, p, q, r1, r2⟩ := h
    exact ⟨a, dx, d, vs, vh, e, le _ _ p, le _ _ q, Rep.mono le s vs r1, Rep.mono le m vh r2⟩
  | .obj c l, _, h => by
    simp only [Rep] at h ⊢
    obtain ⟨a, dx, vs, e, p, hl, r⟩ := h
    exact ⟨a, dx, vs, e, le _ _ p, hl, Reps.mono le l vs r⟩
  | .dct ks ws, _, h => by
    simp only [Rep] at h ⊢
    obtain ⟨a, rows, e, p, hk, r1, r2⟩ := h
    exact ⟨a, rows, e, le _ _ p, hk, Reps.mono le ks _ r1, Reps.mono le ws _ r2⟩
theorem Reps.mono (le : Fz.Le Φ Φ') : ∀ (ds : List D) (vs : List V), Reps G Φ ds vs → Reps G Φ' ds vs
  | [], _, h => by simp only [Reps] at h ⊢; exact h
  | d :: r, _, h => by
    simp only [Reps] at h ⊢
    obtain ⟨v, vr, e, p, q⟩ := h
    exact ⟨v, vr, e, Rep.mono le d v p, Reps.mono le r vr q⟩
end
theorem Reps.nil : Reps G Φ [] [] := by simp only [Reps]
theorem Reps.cons {d : D} {v : V} {ds : List D} {vs : List V} (h : Rep G Φ d v) (hs : Reps G Φ ds vs) : Reps G Φ (d :: ds) (v :: vs) := by
  simp only [Reps]
  exact ⟨v, vs, rfl, h, hs⟩
theorem Reps.cons_inv {d : D} {v : V} {ds : List D} {vs : List V} (h : Reps G Φ (d :: ds) (v :: vs)) : Rep G Φ d v ∧ Reps G Φ ds vs := by
  simp only [Reps] at h
  obtain ⟨v', r, e, p, q⟩ := h
  cases e
  exact ⟨p, q⟩
theorem Reps.length : ∀ {ds : List D} {vs : List V}, Reps G Φ ds vs → ds.length = vs.length
  | [], vs, h => by simp only [Reps] at h; rw [h]; rfl
  | d :: r, vs, h => by
    simp only [Reps] at h
    obtain ⟨v, vr, e, _, q⟩ := h
    rw [e, List.length_cons, List.length_cons, Reps.length q]
theorem Reps.get : ∀ {ds : List D} {vs : List V} {i : Nat} {d : D}, Reps G Φ ds vs → ds[i]? = some d → ∃ v, vs[i]? = some v ∧ Rep G Φ d v
  | [], _, _, _, _, e => by simp at e
  | x :: r, vs, 0, d, h, e => by
    simp only [Reps] at h
    obtain ⟨v, vr, ev, p, q⟩ := h
    simp at e
    subst e ev
    exact ⟨v, rfl, p⟩
  | x :: r, vs, i + 1, d, h, e => by
    simp only [Reps] at h
    obtain ⟨v, vr, ev, p, q⟩ := h
    subst ev
    simp at e
    obtain ⟨u, e1, e2⟩ := Reps.get q e
    exact ⟨u, by simpa using e1, e2⟩
theorem Reps.getV : ∀ {ds : List D} {vs : List V} {i : Nat} {v : V}, Reps G Φ ds vs → vs[i]? = some v → ∃ d, ds[i]? = some d ∧ Rep G Φ d v
  | [], vs, _, _, h, e => by simp only [Reps] at h; subst h; simp at e
  | x :: r, vs, 0, d, h, e => by
    simp only [Reps] at h
    obtain ⟨v, vr, ev, p, q⟩ := h
    subst ev
    simp at e
    subst e
    exact ⟨x, rfl, p⟩
  | x :: r, vs, i + 1, d, h, e => by
    simp only [Reps] at h
    obtain ⟨v, vr, ev, p, q⟩ := h
    subst ev
    simp at e
    obtain ⟨u, e1, e2⟩ := Reps.getV q e
    exact ⟨u, by simpa using e1, e2⟩
theorem Reps.append : ∀ {ds es : List D} {vs us : List V}, Reps G Φ ds vs → Reps G Φ es us → Reps G Φ (ds ++ es) (vs ++ us)
  | [], _, vs, _, h, h' => by simp only [Reps] at h; subst h; exact h'
  | d :: r, es, vs, us, h, h' => by
    simp only [Reps] at h
    obtain ⟨v, vr, e, p, q⟩ := h
    subst e
    exact Reps.cons p (Reps.append q h')
theorem Reps.take : ∀ (n : Nat) {ds : List D} {vs : List V}, Reps G Φ ds vs → Reps G Φ (ds.take n) (vs.take n)
  | 0, _, _, _ => by simp [Reps.nil]
  | _ + 1, [], vs, h => by simp only [Reps] at h; subst h; simp [Reps.nil]
  | n + 1, d :: r, vs, h => by
    simp only [Reps] at h
    obtain ⟨v, vr, e, p, q⟩ := h
    subst e
    exact Reps.cons p (Reps.take n q)
theorem Reps.drop : ∀ (n : Nat) {ds : List D} {vs : List V}, Reps G Φ ds vs → Reps G Φ (ds.drop n) (vs.drop n)
  | 0, _, _, h => by simpa using h
  | _ + 1, [], vs, h => by simp only [Reps] at h; subst h; simp [Reps.nil]
  | n + 1, d :: r, vs, h => by
    simp only [Reps] at h
    obtain ⟨v, vr, e, p, q⟩ := h
    subst e
    exact Reps.drop n q
theorem Reps.set : ∀ (i : Nat) {ds : List D} {vs : List V} {d : D} {v : V}, Reps G Φ ds vs → Rep G Φ d v → Reps G Φ (ds.set i d) (vs.set i v)
  | _, [], vs, _, _, h, _ => by simp only [Reps] at h; subst h; simp [Reps.nil]
  | 0, x :: r, vs, d, v, h, hd => by
    simp only [Reps] at h
    obtain ⟨y, vr, e, p, q⟩ := h
    subst e
    exact Reps.cons hd q
  | i + 1, x :: r, vs, d, v, h, hd => by
    simp only [Reps] at h
    obtain ⟨y, vr, e, p, q⟩ := h
    subst e
    exact Reps.cons p (Reps.set i q hd)
theorem Reps.reverse : ∀ {ds : List D} {vs : List V}, Reps G Φ ds vs → Reps G Φ ds.reverse vs.reverse
  | [], vs, h => by simp only [Reps] at h; subst h; simp [Reps.nil]
  | d :: r, vs, h => by
    simp only [Reps] at h
    obtain ⟨v, vr, e, p, q⟩ := h
    subst e
    rw [List.reverse_cons, List.reverse_cons]
    exact Reps.append (Reps.reverse q) (Reps.cons p Reps.nil)
theorem Reps.snoc {ds : List D} {vs : List V} {d : D} {v : V} (h : Reps G Φ ds vs) (hd : Rep G Φ d v) : Reps G Φ (ds ++ [d]) (vs ++ [v]) := Reps.append h (Reps.cons hd Reps.nil)
end

/-- what stands frozen is so in the heap -/
def FoOk (G : Gx) (Φ : Fz) (H : Hp) (a : Addr) : FO → Prop
  | .ho o => H a = some o
  | .pt vs => TupAt H a vs
  | .memo s h => ∃ rows : List DRow, H a = some (dHO G a rows) ∧ (rows.map (·.1)).Nodup ∧ ∀ r ∈ rows, ∃ kd vd, Rep G Φ kd (.ref r.2.1) ∧ nk kd = r.1 ∧ Rep G Φ vd r.2.2 ∧ G.memo s h kd vd
def FzOk (G : Gx) (Φ : Fz) (H : Hp) : Prop := ∀ a fo, Φ a = some fo → FoOk G Φ H a fo
theorem FoOk.there {G : Gx} {Φ : Fz} {H : Hp} {a : Addr} {fo : FO} (h : FoOk G Φ H a fo) : ∃ o, H a = some o := by
  cases fo with
  | ho o => exact ⟨o, h⟩
  | pt vs => obtain ⟨ob, e, _⟩ := h; exact ⟨_, e⟩
  | memo s m => obtain ⟨rows, e, _⟩ := h; exact ⟨_, e⟩
theorem FoOk.mono {G : Gx} {Φ Φ' : Fz} {H H' : Hp} {a : Addr} {fo : FO} (le : Fz.Le Φ Φ') (h : FoOk G Φ H a fo) (e : H' a = H a) : FoOk G Φ' H' a fo := by
  cases fo with
  | ho o => exact e.trans h
  | pt vs => obtain ⟨ob, q, n⟩ := h; exact ⟨ob, e.trans q, n⟩
  | memo s m =>
    obtain ⟨rows, q, nd, r⟩ := h
    refine ⟨rows, e.trans q, nd, fun x hx => ?_⟩
    obtain ⟨kd, vd, r1, r2, r3, r4⟩ := r x hx
    exact ⟨kd, vd, Rep.mono le _ _ r1, r2, Rep.mono le _ _ r3, r4⟩

/-- what a local holds -/
inductive LV where
  /-- nothing is known -/
  | none
  /-- frozen data -/
  | fro (d : D)
  /-- a list of this def's own -/
  | own (l : List D)
  /-- the caller's list, handed in, that this def may change -/
  | pin (l : List D)
  /-- a dict of this def's own, with tuple keys -/
  | ownd (ks ws : List D)
  /-- a dict of this def's own, with text keys -/
  | ownk (kvs : List (List Nat × D))
  deriving Inhabited
def LV.isOwn : LV → Bool
  | .own _ => true
  | .pin _ => true
  | .ownd _ _ => true
  | .ownk _ => true
  | _ => false
abbrev Loc := List LV

/-- a def's entry -/
structure Base where
  H : Hp
  Φ : Fz
  pa : Option Addr
  pi : Nat

def RepK (G : Gx) (Φ : Fz) (kvs : List (List Nat × D)) (kv : List (Key × V)) : Prop := kv.map (·.1) = kvs.map (fun p => (Sum.inr ⟨p.1.toArray⟩ : Key)) ∧ Reps G Φ (kvs.map (·.2)) (kv.map (·.2))
def RepD (G : Gx) (Φ : Fz) (ks ws : List D) (rows : List DRow) : Prop := nks ks = rows.map (·.1) ∧ Reps G Φ ks (rows.map fun r => .ref r.2.1) ∧ Reps G Φ ws (rows.map (·.2.2))
def SlotOk (G : Gx) (B : Base) (Φ : Fz) (H : Hp) : LV → Option V → Prop
  | .none, _ => True
  | .fro d, o => ∃ v, o = some v ∧ Rep G Φ d v
  | .own l, o => ∃ a vs, o = some (.ref a) ∧ H a = some (.lst vs) ∧ Reps G Φ l vs ∧ Φ a = none
  | .pin l, o => ∃ a vs, o = some (.ref a) ∧ B.pa = some a ∧ H a = some (.lst vs) ∧ Reps G Φ l vs ∧ Φ a = none
  | .ownd ks ws, o => ∃ a rows, o = some (.ref a) ∧ H a = some (dHO G a rows) ∧ RepD G Φ ks ws rows ∧ Φ a = none
  | .ownk kvs, o => ∃ a kv, o = some (.ref a) ∧ H a = some (.dK kv) ∧ RepK G Φ kvs kv ∧ Φ a = none
theorem SlotOk.mono {G : Gx} {B : Base} {Φ Φ' : Fz} {H H' : Hp} {lv : LV} {o : Option V} (le : Fz.Le Φ Φ') (h : SlotOk G B Φ H lv o)
    (k : ∀ a, lv.isOwn = true → o = some (.ref a) → H' a = H a ∧ Φ' a = none) : SlotOk G B Φ' H' lv o := by
  cases lv with
  | none => trivial
  | fro d => obtain ⟨v, e, r⟩ := h; exact ⟨v, e, Rep.mono le _ _ r⟩
  | own l =>
    obtain ⟨a, vs, e, p, r, n⟩ := h
    obtain ⟨k1, k2⟩ := k a rfl e
    exact ⟨a, vs, e, k1.trans p, Reps.mono le _ _ r, k2⟩
  | pin l =>
    obtain ⟨a, vs, e, b, p, r, n⟩ := h
    obtain ⟨k1, k2⟩ := k a rfl e
    exact ⟨a, vs, e, b, k1.trans p, Reps.mono le _ _ r, k2⟩
  | ownd ks ws =>
    obtain ⟨a, rows, e, p, ⟨r1, r2, r3⟩, n⟩ := h
    obtain ⟨k1, k2⟩ := k a rfl e
    exact ⟨a, rows, e, k1.trans p, ⟨r1, Reps.mono le _ _ r2, Reps.mono le _ _ r3⟩, k2⟩
  | ownk kvs =>
    obtain ⟨a, kv, e, p, ⟨r1, r2⟩, n⟩ := h
    obtain ⟨k1, k2⟩ := k a rfl e
    exact ⟨a, kv, e, k1.trans p, ⟨r1, Reps.mono le _ _ r2⟩, k2⟩
theorem SlotOk.own_at {G : Gx} {B : Base} {Φ : Fz} {H : Hp} {lv : LV} {o : Option V} (h : SlotOk G B Φ H lv o) (i : lv.isOwn = true) : ∃ a u, o = some (.ref a) ∧ H a = some u ∧ Φ a = none := by
  cases lv with
  | none => cases i
  | fro d => cases i
  | own l => obtain ⟨a, vs, e, p, r, n⟩ := h; exact ⟨a, _, e, p, n⟩
  | pin l => obtain ⟨a, vs, e, b, p, r, n⟩ := h; exact ⟨a, _, e, p, n⟩
  | ownd ks ws => obtain ⟨a, rows, e, p, r, n⟩ := h; exact ⟨a, _, e, p, n⟩
  | ownk kvs => obtain ⟨a, kv, e, p, r, n⟩ := h; exact ⟨a, _, e, p, n⟩

/-- slot i owns what stands at a -/
def OwnI (L : Loc) (σ : L2.St) (i : Nat) (a : Addr) : Prop := ∃ lv, L[i]? = some lv ∧ lv.isOwn = true ∧ σ[i]? = some (some (.ref a))
def OwnAt (L : Loc) (σ : L2.St) (a : Addr) : Prop := ∃ i, OwnI L σ i a

structure Sim (G : Gx) (B : Base) (Φ : Fz) (L : Loc) (σ : L2.St) (H : Hp) : Prop where
  len : L.length = σ.length
  fz : FzOk G Φ H
  slot : ∀ (i : Nat) (lv : LV), L[i]? = some lv → SlotOk G B Φ H lv (σ[i]?.join)
  sep : ∀ (i j : Nat) (a : Addr), OwnI L σ i a → OwnI L σ j a → i = j
  ext : Fz.Le B.Φ Φ
  keep : ∀ a o, B.H a = some o → B.Φ a = none → B.pa ≠ some a → H a = some o ∧ Φ a = none ∧ ¬ OwnAt L σ a
  dom : ∀ a, H a = none → B.H a = none
  pinned : ∀ a, B.pa = some a → ∃ (i : Nat) (l : List D), L[i]? = some (.pin l) ∧ σ[i]? = some (some (.ref a)) ∧ i = B.pi

/-- one goes on, the slots' values unchanged -/
structure Step (Φ : Fz) (L : Loc) (σ : L2.St) (H : Hp) (Φ' : Fz) (L' : Loc) (H' : Hp) : Prop where
  le : Fz.Le Φ Φ'
  stray : ∀ a o, H a = some o → Φ a = none → ¬ OwnAt L σ a → H' a = some o ∧ Φ' a = none ∧ ¬ OwnAt L' σ a
  dom : ∀ a, H' a = none → H a = none
  own : ∀ a, OwnAt L' σ a → OwnAt L σ a
theorem Step.refl {Φ : Fz} {L : Loc} {σ : L2.St} {H : Hp} : Step Φ L σ H Φ L H := ⟨Fz.Le.refl _, fun _ _ h h' h'' => ⟨h, h', h''⟩, fun _ h => h, fun _ h => h⟩
theorem Step.trans {Φ Φ1 Φ2 : Fz} {σ : L2.St} {L L1 L3 : Loc} {H H1 H2 : Hp} (a : Step Φ L σ H Φ1 L1 H1) (b : Step Φ1 L1 σ H1 Φ2 L3 H2) : Step Φ L σ H Φ2 L3 H2 :=
  ⟨a.le.trans b.le, fun c o h h' h'' => by obtain ⟨x, y, z⟩ := a.stray c o h h' h''; exact b.stray c o x y z, fun c h => a.dom c (b.dom c h), fun c h => a.own c (b.own c h)⟩

/-- what an expression hands on -/
inductive EV where
  | fro (d : D)
  /-- a new list that nobody holds yet -/
  | tmp (l : List D)
  /-- a new dict (tuple keys; text keys) that nobody holds yet -/
  | tmpd (ks ws : List D)
  | tmpk (kvs : List (List Nat × D))
  /-- what slot i owns -/
  | loc (i : Nat)
  deriving Inhabited
def RepE (G : Gx) (B : Base) (Φ : Fz) (L : Loc) (σ : L2.St) (H : Hp) : EV → V → Prop
  | .fro d, v => Rep G Φ d v
  | .tmp l, v => ∃ a vs, v = .ref a ∧ H a = some (.lst vs) ∧ Reps G Φ l vs ∧ Φ a = none ∧ ¬ OwnAt L σ a ∧ B.H a = none
  | .tmpd ks ws, v => ∃ a rows, v = .ref a ∧ H a = some (dHO G a rows) ∧ RepD G Φ ks ws rows ∧ Φ a = none ∧ ¬ OwnAt L σ a ∧ B.H a = none
  | .tmpk kvs, v => ∃ a kv, v = .ref a ∧ H a = some (.dK kv) ∧ RepK G Φ kvs kv ∧ Φ a = none ∧ ¬ OwnAt L σ a ∧ B.H a = none
  | .loc i, v => σ[i]? = some (some v)
theorem RepE.step {G : Gx} {B : Base} {Φ Φ' : Fz} {L L' : Loc} {σ : L2.St} {H H' : Hp} {ev : EV} {v : V} (h : RepE G B Φ L σ H ev v) (s : Step Φ L σ H Φ' L' H') : RepE G B Φ' L' σ H' ev v := by
  cases ev with
  | fro d => exact Rep.mono s.le _ _ h
  | tmp l =>
    obtain ⟨a, vs, e, p, r, n, o, b⟩ := h
    obtain ⟨x, y, z⟩ := s.stray a _ p n o
    exact ⟨a, vs, e, x, Reps.mono s.le _ _ r, y, z, b⟩
  | tmpd ks ws =>
    obtain ⟨a, rows, e, p, ⟨r1, r2, r3⟩, n, o, b⟩ := h
    obtain ⟨x, y, z⟩ := s.stray a _ p n o
    exact ⟨a, rows, e, x, ⟨r1, Reps.mono s.le _ _ r2, Reps.mono s.le _ _ r3⟩, y, z, b⟩
  | tmpk kvs =>
    obtain ⟨a, kv, e, p, ⟨r1, r2⟩, n, o, b⟩ := h
    obtain ⟨x, y, z⟩ := s.stray a _ p n o
    exact ⟨a, kv, e, x, ⟨r1, Reps.mono s.le _ _ r2⟩, y, z, b⟩
  | loc i => exact h

/-! ### readings by functions -/
abbrev EM := Loc → Option (EV × Loc)
abbrev TM := Loc → Option (Bool × Loc)
abbrev AM := Loc → Option (List EV × Loc)
inductive Out where
  | nx
  | rt (e : EV)
  | bk
  | ct
abbrev SM := Loc → Option (Out × Loc)

def NewE (H : Hp) : EV → V → Prop
  | .tmp _, v => ∃ a, v = .ref a ∧ H a = none
  | .tmpd _ _, v => ∃ a, v = .ref a ∧ H a = none
  | .tmpk _, v => ∃ a, v = .ref a ∧ H a = none
  | _, _ => True
theorem NewE.back {H H' : Hp} {ev : EV} {v : V} (h : NewE H' ev v) (d : ∀ a, H' a = none → H a = none) : NewE H ev v := by
  cases ev with
  | tmp l => obtain ⟨a, e, n⟩ := h; exact ⟨a, e, d a n⟩
  | tmpd ks ws => obtain ⟨a, e, n⟩ := h; exact ⟨a, e, d a n⟩
  | tmpk kvs => obtain ⟨a, e, n⟩ := h; exact ⟨a, e, d a n⟩
  | fro d => trivial
  | loc i => trivial
def tE (G : Gx) (B : Base) (m : EM) : TE := fun σ H Q => ∃ Φ L ev L', Sim G B Φ L σ H ∧ m L = some (ev, L') ∧
  ∀ v Φ' H', Sim G B Φ' L' σ H' → Step Φ L σ H Φ' L' H' → RepE G B Φ' L' σ H' ev v → NewE H ev v → Q v H'
def tT (G : Gx) (B : Base) (m : TM) : TT := fun σ H Q => ∃ Φ L b L', Sim G B Φ L σ H ∧ m L = some (b, L') ∧
  ∀ Φ' H', Sim G B Φ' L' σ H' → Step Φ L σ H Φ' L' H' → Q b H'
def RepEs (G : Gx) (B : Base) (Φ : Fz) (L : Loc) (σ : L2.St) (H : Hp) : List EV → List V → Prop := Paired (RepE G B Φ L σ H)
def tA (G : Gx) (B : Base) (m : AM) : TA := fun σ H Q => ∃ Φ L evs L', Sim G B Φ L σ H ∧ m L = some (evs, L') ∧
  ∀ vs Φ' H', Sim G B Φ' L' σ H' → Step Φ L σ H Φ' L' H' → RepEs G B Φ' L' σ H' evs vs → Q vs H'
def outQ (G : Gx) (B : Base) (D : Ends) (Φ : Fz) (L' : Loc) : Out → Prop
  | .nx => ∀ σ' Φ' H', Fz.Le Φ Φ' → Sim G B Φ' L' σ' H' → D.nx σ' H'
  | .rt ev => ∀ v σ' Φ' H', Fz.Le Φ Φ' → Sim G B Φ' L' σ' H' → RepE G B Φ' L' σ' H' ev v → D.rt v H'
  | .bk => ∀ σ' Φ' H', Fz.Le Φ Φ' → Sim G B Φ' L' σ' H' → D.bk σ' H'
  | .ct => ∀ σ' Φ' H', Fz.Le Φ Φ' → Sim G B Φ' L' σ' H' → D.ct σ' H'
theorem outQ.le {G : Gx} {B : Base} {D : Ends} {Φ Φ' : Fz} {L' : Loc} {o : Out} (h : outQ G B D Φ L' o) (le : Fz.Le Φ Φ') : outQ G B D Φ' L' o := by
  cases o with
  | nx => exact fun σ Φ2 H l S => h σ Φ2 H (le.trans l) S
  | rt ev => exact fun v σ Φ2 H l S r => h v σ Φ2 H (le.trans l) S r
  | bk => exact fun σ Φ2 H l S => h σ Φ2 H (le.trans l) S
  | ct => exact fun σ Φ2 H l S => h σ Φ2 H (le.trans l) S
def tS (G : Gx) (B : Base) (m : SM) : TS := fun D σ H => ∃ Φ L o L', Sim G B Φ L σ H ∧ m L = some (o, L') ∧ outQ G B D Φ L' o

/-! ### weakening of readings -/
theorem PE.imp {X : Cx} {e : Expr} {t t' : TE} (h : PE X e t) (i : ∀ σ H Q, t' σ H Q → t σ H Q) : PE X e t' := ⟨fun pins s σ H Q I q => h.run pins s σ H Q I (i σ H Q q)⟩
theorem PT.imp {X : Cx} {e : Expr} {t t' : TT} (h : PT X e t) (i : ∀ σ H Q, t' σ H Q → t σ H Q) : PT X e t' := ⟨fun pins s σ H Q I q => h.run pins s σ H Q I (i σ H Q q)⟩
theorem PW.imp {X : Cx} {e : Expr} {t t' : TT} (h : PW X e t) (i : ∀ σ H Q, t' σ H Q → t σ H Q) : PW X e t' := ⟨fun wh pins s σ H Q I q => h.run wh pins s σ H Q I (i σ H Q q)⟩
theorem PA.imp {X : Cx} {es : List Expr} {t t' : TA} (h : PA X es t) (i : ∀ σ H Q, t' σ H Q → t σ H Q) : PA X es t' := ⟨fun p pins s σ H Q I q => h.run p pins s σ H Q I (i σ H Q q)⟩
theorem PS.imp {X : Cx} {st : Stmt} {t t' : TS} (h : PS X st t) (i : ∀ D σ H, t' D σ H → t D σ H) : PS X st t' := ⟨fun pins s σ H D I q => h.run pins s σ H D I (i D σ H q)⟩
theorem PSs.imp {X : Cx} {st : List Stmt} {t t' : TS} (h : PSs X st t) (i : ∀ D σ H, t' D σ H → t D σ H) : PSs X st t' := ⟨fun pins s σ H D I q => h.run pins s σ H D I (i D σ H q)⟩

/-! ### the state's changes -/
section
variable {G : Gx} {B : Base} {Φ Φ' : Fz} {L L' : Loc} {σ : L2.St} {H H' : Hp}
theorem Sim.hnone (S : Sim G B Φ L σ H) {p : Addr} (h : H p = none) : Φ p = none ∧ ¬ OwnAt L σ p ∧ B.H p = none := by
  refine ⟨?_, ?_, S.dom p h⟩
  · cases e : Φ p with
    | none => rfl
    | some fo =>
      obtain ⟨o, q⟩ := (S.fz p fo e).there
      rw [h] at q; cases q
  · rintro ⟨i, lv, e1, e2, e3⟩
    have := S.slot i lv e1
    obtain ⟨a, u, q1, q2, _⟩ := this.own_at e2
    rw [e3] at q1
    cases q1
    rw [h] at q2; cases q2
theorem joinEq {o : Option (Option V)} {v : V} : o.join = some v ↔ o = some (some v) := by
  cases o with
  | none => simp
  | some x => simp
/-- what a slot owns is not another's -/
theorem OwnI.of {S : Sim G B Φ L σ H} {i : Nat} {lv : LV} (e : L[i]? = some lv) (h : lv.isOwn = true) : ∃ a, OwnI L σ i a := by
  obtain ⟨a, u, q, _, _⟩ := (S.slot i lv e).own_at h
  exact ⟨a, lv, e, h, joinEq.mp q⟩
/-- a new object is laid at p, and not frozen -/
theorem Sim.laid (S : Sim G B Φ L σ H) {p : Addr} {o : HO} (h : H p = none) : Sim G B Φ L σ (upd H p o) ∧ Step Φ L σ H Φ L (upd H p o) := by
  obtain ⟨n1, n2, n3⟩ := S.hnone h
  have ne : ∀ a u, H a = some u → upd H p o a = H a := fun a u e => upd_ne (ne_of_none e h)
  refine ⟨⟨S.len, fun a fo e => ?_, fun i lv e => ?_, S.sep, S.ext, fun a u e1 e2 e3 => ?_, fun a e => ?_, S.pinned⟩, ⟨Fz.Le.refl _, fun a u e1 e2 e3 => ⟨?_, e2, e3⟩, fun a e => ?_, fun _ h => h⟩⟩
  · obtain ⟨u, q⟩ := (S.fz a fo e).there
    exact (S.fz a fo e).mono (Fz.Le.refl _) (ne a u q)
  · refine (S.slot i lv e).mono (Fz.Le.refl _) fun a hi ho => ?_
    obtain ⟨a', u, q1, q2, q3⟩ := (S.slot i lv e).own_at hi
    rw [ho] at q1; cases q1
    exact ⟨ne a u q2, q3⟩
  · obtain ⟨k1, k2, k3⟩ := S.keep a u e1 e2 e3
    exact ⟨(ne a _ k1).trans k1, k2, k3⟩
  · by_cases ea : a = p
    · subst ea; rw [upd_same] at e; cases e
    · rw [upd_ne ea] at e; exact S.dom a e
  · exact (ne a _ e1).trans e1
  · by_cases ea : a = p
    · subst ea; rw [upd_same] at e; cases e
    · rw [upd_ne ea] at e; exact e
/-- freezing a stray object -/
theorem Sim.freeze (S : Sim G B Φ L σ H) {a : Addr} {o : HO} (h : H a = some o) (n : Φ a = none) (no : ¬ OwnAt L σ a) (hb : B.H a = none) :
    ∃ Φ', Sim G B Φ' L σ H ∧ Fz.Le Φ Φ' ∧ Φ' a = some (.ho o) ∧ ∀ b, b ≠ a → Φ' b = Φ b := by
  refine ⟨fun b => if b = a then some (.ho o) else Φ b, ?_, fun b fo e => ?_, if_pos rfl, fun b hb => if_neg hb⟩
  · have le : Fz.Le Φ fun b => if b = a then some (.ho o) else Φ b := fun b fo e => by
      have : b ≠ a := fun z => by subst z; rw [n] at e; cases e
      show (if b = a then _ else _) = _
      rw [if_neg this]; exact e
    refine ⟨S.len, fun b fo e => ?_, fun i lv e => ?_, S.sep, S.ext.trans le, fun b u e1 e2 e3 => ?_, S.dom, S.pinned⟩
    · by_cases eb : b = a
      · subst eb
        have e' : (if b = b then some (FO.ho o) else Φ b) = some fo := e
        rw [if_pos rfl] at e'
        cases e'
        exact h
      · have e' : (if b = a then some (FO.ho o) else Φ b) = some fo := e
        rw [if_neg eb] at e'
        exact (S.fz b fo e').mono le rfl
    · refine (S.slot i lv e).mono le fun b hi ho => ⟨rfl, ?_⟩
      have hb' : b ≠ a := fun z => no ⟨i, lv, e, hi, by rw [← z]; exact joinEq.mp ho⟩
      obtain ⟨c, u, q1, q2, q3⟩ := (S.slot i lv e).own_at hi
      rw [ho] at q1; cases q1
      show (if b = a then _ else _) = _
      rw [if_neg hb']; exact q3
    · obtain ⟨k1, k2, k3⟩ := S.keep b u e1 e2 e3
      have hb' : b ≠ a := fun z => by subst z; rw [hb] at e1; cases e1
      refine ⟨k1, ?_, k3⟩
      show (if b = a then _ else _) = _
      rw [if_neg hb']; exact k2
  · have : b ≠ a := fun z => by subst z; rw [n] at e; cases e
    show (if b = a then _ else _) = _
    rw [if_neg this]; exact e
/-- freezing a stray tuple -/
theorem Sim.freezeT (S : Sim G B Φ L σ H) {a : Addr} {vs : List V} (h : TupAt H a vs) (n : Φ a = none) (no : ¬ OwnAt L σ a) (hb : B.H a = none) :
    ∃ Φ', Sim G B Φ' L σ H ∧ Fz.Le Φ Φ' ∧ Φ' a = some (.pt vs) ∧ ∀ b, b ≠ a → Φ' b = Φ b := by
  refine ⟨fun b => if b = a then some (.pt vs) else Φ b, ?_, fun b fo e => ?_, if_pos rfl, fun b hb => if_neg hb⟩
  · have le : Fz.Le Φ fun b => if b = a then some (.pt vs) else Φ b := fun b fo e => by
      have : b ≠ a := fun z => by subst z; rw [n] at e; cases e
      show (if b = a then _ else _) = _
      rw [if_neg this]; exact e
    refine ⟨S.len, fun b fo e => ?_, fun i lv e => ?_, S.sep, S.ext.trans le, fun b u e1 e2 e3 => ?_, S.dom, S.pinned⟩
    · by_cases eb : b = a
      · subst eb
        have e' : (if b = b then some (FO.pt vs) else Φ b) = some fo := e
        rw [if_pos rfl] at e'
        cases e'
        exact h
      · have e' : (if b = a then some (FO.pt vs) else Φ b) = some fo := e
        rw [if_neg eb] at e'
        exact (S.fz b fo e').mono le rfl
    · refine (S.slot i lv e).mono le fun b hi ho => ⟨rfl, ?_⟩
      have hb' : b ≠ a := fun z => no ⟨i, lv, e, hi, by rw [← z]; exact joinEq.mp ho⟩
      obtain ⟨c, u, q1, q2, q3⟩ := (S.slot i lv e).own_at hi
      rw [ho] at q1; cases q1
      show (if b = a then _ else _) = _
      rw [if_neg hb']; exact q3
    · obtain ⟨k1, k2, k3⟩ := S.keep b u e1 e2 e3
      have hb' : b ≠ a := fun z => by subst z; rw [hb] at e1; cases e1
      refine ⟨k1, ?_, k3⟩
      show (if b = a then _ else _) = _
      rw [if_neg hb']; exact k2
  · have : b ≠ a := fun z => by subst z; rw [n] at e; cases e
    show (if b = a then _ else _) = _
    rw [if_neg this]; exact e
end
end SS

/-! the data layer: expressions -/
namespace SS
open PySem PySem.Spec PyProof.Rows L2

def LIM : Nat := 2 ^ 24
theorem LIM_eq : LIM = sizeLine := rfl

/-! ### readings, chained -/
section
variable {G : Gx} {B : Base} {Φ Φ' : Fz} {L L' : Loc} {σ : L2.St} {H H' : Hp}
def Fin (G : Gx) (B : Base) (Φ : Fz) (L : Loc) (σ : L2.St) (H : Hp) (ev : EV) (L' : Loc) (Q : VK) : Prop :=
  ∀ v Φ' H', Sim G B Φ' L' σ H' → Step Φ L σ H Φ' L' H' → RepE G B Φ' L' σ H' ev v → NewE H ev v → Q v H'
def mB0 (r : EV) : EM := fun L => some (r, L)
def mB1 (f : EV → EM) (ma : EM) : EM := fun L => (ma L).bind fun p => f p.1 p.2
def mB2 (f : EV → EV → EM) (ma mb : EM) : EM := fun L => (ma L).bind fun p => (mb p.2).bind fun q => f p.1 q.1 q.2
def mBN (f : List EV → EM) (ma : AM) : EM := fun L => (ma L).bind fun p => f p.1 p.2
def mNil : AM := fun L => some ([], L)
def mCons (ma : EM) (mr : AM) : AM := fun L => (ma L).bind fun p => (mr p.2).bind fun q => some (p.1 :: q.1, q.2)
def k1 (G : Gx) (B : Base) (f : EV → EM) (σ : L2.St) (x : V) (H : Hp) (Q : VK) : Prop := ∃ Φ L a ev L', Sim G B Φ L σ H ∧ RepE G B Φ L σ H a x ∧ f a L = some (ev, L') ∧ Fin G B Φ L σ H ev L' Q
def k2 (G : Gx) (B : Base) (f : EV → EV → EM) (σ : L2.St) (x y : V) (H : Hp) (Q : VK) : Prop := ∃ Φ L a b ev L', Sim G B Φ L σ H ∧ RepE G B Φ L σ H a x ∧ RepE G B Φ L σ H b y ∧ f a b L = some (ev, L') ∧ Fin G B Φ L σ H ev L' Q
def kN (G : Gx) (B : Base) (f : List EV → EM) (σ : L2.St) (xs : List V) (H : Hp) (Q : VK) : Prop := ∃ Φ L as ev L', Sim G B Φ L σ H ∧ RepEs G B Φ L σ H as xs ∧ f as L = some (ev, L') ∧ Fin G B Φ L σ H ev L' Q
theorem Fin.of_step {ev : EV} {L1 L'' : Loc} {Φ1 : Fz} {H1 : Hp} {Q : VK} (k : ∀ v Φ' H', Sim G B Φ' L'' σ H' → Step Φ L σ H Φ' L'' H' → RepE G B Φ' L'' σ H' ev v → NewE H ev v → Q v H') (st : Step Φ L σ H Φ1 L1 H1) : Fin G B Φ1 L1 σ H1 ev L'' Q :=
  fun v Φ' H' S s r n => k v Φ' H' S (st.trans s) r (n.back st.dom)
theorem e1_of {f : EV → EM} {ma : EM} {Q : VK} (h : tE G B (mB1 f ma) σ H Q) : tE G B ma σ H fun x H1 => k1 G B f σ x H1 Q := by
  obtain ⟨Φ, L, ev, L', S, e, k⟩ := h
  unfold mB1 at e
  cases ea : ma L with
  | none => rw [ea] at e; cases e
  | some p =>
    rw [ea] at e
    exact ⟨Φ, L, p.1, p.2, S, ea, fun v Φ1 H1 S1 s1 r1 _ => ⟨Φ1, p.2, p.1, ev, L', S1, r1, e, Fin.of_step k s1⟩⟩
theorem e2_of {f : EV → EV → EM} {ma mb : EM} {Q : VK} (h : tE G B (mB2 f ma mb) σ H Q) : tE G B ma σ H fun x H1 => tE G B mb σ H1 fun y H2 => k2 G B f σ x y H2 Q := by
  obtain ⟨Φ, L, ev, L', S, e, k⟩ := h
  unfold mB2 at e
  cases ea : ma L with
  | none => rw [ea] at e; cases e
  | some p =>
    rw [ea] at e
    have e' : ((mb p.2).bind fun q => f p.1 q.1 q.2) = some (ev, L') := e
    cases eb : mb p.2 with
    | none => rw [eb] at e'; cases e'
    | some q =>
      rw [eb] at e'
      exact ⟨Φ, L, p.1, p.2, S, ea, fun v Φ1 H1 S1 s1 r1 _ => ⟨Φ1, p.2, q.1, q.2, S1, eb, fun u Φ2 H2 S2 s2 r2 _ =>
        ⟨Φ2, q.2, p.1, q.1, ev, L', S2, r1.step s2, r2, e', Fin.of_step k (s1.trans s2)⟩⟩⟩
theorem eN_of {f : List EV → EM} {ma : AM} {Q : VK} (h : tE G B (mBN f ma) σ H Q) : tA G B ma σ H fun xs H1 => kN G B f σ xs H1 Q := by
  obtain ⟨Φ, L, ev, L', S, e, k⟩ := h
  unfold mBN at e
  cases ea : ma L with
  | none => rw [ea] at e; cases e
  | some p =>
    rw [ea] at e
    exact ⟨Φ, L, p.1, p.2, S, ea, fun v Φ1 H1 S1 s1 r1 => ⟨Φ1, p.2, p.1, ev, L', S1, r1, e, Fin.of_step k s1⟩⟩
theorem RepEs.step {evs : List EV} {vs : List V} (h : RepEs G B Φ L σ H evs vs) (s : Step Φ L σ H Φ' L' H') : RepEs G B Φ' L' σ H' evs vs := Paired.mapP h fun _ _ r => r.step s
theorem pa_nil' {X : Cx} : PA X [] (tA G B mNil) := PA.imp pa_nil fun σ H Q h => by
  obtain ⟨Φ, L, evs, L', S, e, k⟩ := h
  cases e
  exact k [] Φ H S Step.refl .nil
theorem pa_cons' {X : Cx} {e : Expr} {es : List Expr} {ma : EM} {mr : AM} (ha : PE X e (tE G B ma)) (hr : PA X es (tA G B mr)) (hs : starEach (e :: es) X.env = (false, eval e X.env) :: starEach es X.env := by rfl) : PA X (e :: es) (tA G B (mCons ma mr)) :=
  PA.imp (pa_cons ha hr hs) fun σ H Q h => by
    obtain ⟨Φ, L, evs, L', S, e, k⟩ := h
    unfold mCons at e
    cases ea : ma L with
    | none => rw [ea] at e; cases e
    | some p =>
      rw [ea] at e
      have e' : ((mr p.2).bind fun q => some (p.1 :: q.1, q.2)) = some (evs, L') := e
      cases eb : mr p.2 with
      | none => rw [eb] at e'; cases e'
      | some q =>
        rw [eb] at e'
        cases e'
        exact ⟨Φ, L, p.1, p.2, S, ea, fun v Φ1 H1 S1 s1 r1 _ => ⟨Φ1, p.2, q.1, q.2, S1, eb, fun us Φ2 H2 S2 s2 r2 => k (v :: us) Φ2 H2 S2 (s1.trans s2) (.cons (r1.step s2) r2)⟩⟩

/-! ### a slot's change -/
theorem isOwn_set {i j : Nat} {lv : LV} {a : Addr} (h : OwnI (L.set i lv) σ j a) : (j = i ∧ lv.isOwn = true ∧ σ[i]? = some (some (.ref a))) ∨ (j ≠ i ∧ OwnI L σ j a) := by
  obtain ⟨x, e1, e2, e3⟩ := h
  by_cases hj : j = i
  · subst hj
    have : j < L.length := by
      have := (List.getElem?_eq_some_iff.mp e1).1
      simpa using this
    rw [List.getElem?_set_self this] at e1
    cases e1
    exact .inl ⟨rfl, e2, e3⟩
  · rw [List.getElem?_set_ne (Ne.symm hj)] at e1
    exact .inr ⟨hj, x, e1, e2, e3⟩
/-- slot i's object at a changes (or is frozen): all else stays -/
theorem Sim.chg (S : Sim G B Φ L σ H) {i : Nat} {a : Addr} {lv0 lv : LV} (e0 : L[i]? = some lv0) (hi : lv0.isOwn = true) (ha : σ[i]? = some (some (.ref a)))
    (le : Fz.Le Φ Φ') (hΦ : ∀ b, b ≠ a → Φ' b = Φ b) (hH : ∀ b, b ≠ a → H' b = H b) (hd : H' a ≠ none) (hfa : ∀ fo, Φ' a = some fo → FoOk G Φ' H' a fo)
    (new : SlotOk G B Φ' H' lv (some (.ref a))) (hpin : ∀ l, lv0 = .pin l → ∃ l', lv = .pin l') :
    Sim G B Φ' (L.set i lv) σ H' ∧ Step Φ L σ H Φ' (L.set i lv) H' := by
  have hil : i < L.length := (List.getElem?_eq_some_iff.mp e0).1
  have oi : OwnI L σ i a := ⟨lv0, e0, hi, ha⟩
  have na : Φ a = none := by
    obtain ⟨b, u, q1, _, q3⟩ := (S.slot i lv0 e0).own_at hi
    rw [ha] at q1; cases q1; exact q3
  have fz' : FzOk G Φ' H' := fun b fo e => by
    by_cases eb : b = a
    · subst eb; exact hfa fo e
    · rw [hΦ b eb] at e
      exact (S.fz b fo e).mono le (hH b eb)
  have own' : ∀ {j : Nat} {b : Addr}, OwnI (L.set i lv) σ j b → OwnI L σ j b := fun {j b} h => by
    rcases isOwn_set h with ⟨rfl, _, q⟩ | ⟨_, q⟩
    · rw [ha] at q; cases q; exact oi
    · exact q
  refine ⟨⟨by rw [List.length_set]; exact S.len, fz', fun j x e => ?_, fun j k b h h' => S.sep j k b (own' h) (own' h'), S.ext.trans le, fun b u e1 e2 e3 => ?_, fun b e => ?_, fun b e => ?_⟩, le, fun b u e1 e2 e3 => ?_, fun b e => ?_, fun b ⟨j, h⟩ => ⟨j, own' h⟩⟩
  · by_cases hj : j = i
    · subst hj
      rw [List.getElem?_set_self hil] at e
      cases e
      rw [ha]; exact new
    · rw [List.getElem?_set_ne (Ne.symm hj)] at e
      refine (S.slot j x e).mono le fun b hb ho => ?_
      have ob : OwnI L σ j b := ⟨x, e, hb, joinEq.mp ho⟩
      have nb : b ≠ a := fun z => hj (S.sep j i a (by rw [← z]; exact ob) oi)
      obtain ⟨c, u, q1, q2, q3⟩ := (S.slot j x e).own_at hb
      rw [ho] at q1; cases q1
      exact ⟨hH b nb, (hΦ b nb).trans q3⟩
  · obtain ⟨k1, k2, k3⟩ := S.keep b u e1 e2 e3
    have nb : b ≠ a := fun z => k3 ⟨i, by rw [z]; exact oi⟩
    exact ⟨(hH b nb).trans k1, (hΦ b nb).trans k2, fun ⟨j, h⟩ => k3 ⟨j, own' h⟩⟩
  · by_cases eb : b = a
    · subst eb; exact absurd e hd
    · rw [hH b eb] at e; exact S.dom b e
  · obtain ⟨j, l, q1, q2⟩ := S.pinned b e
    by_cases hj : j = i
    · subst hj
      rw [e0] at q1; cases q1
      obtain ⟨l', el⟩ := hpin l rfl
      exact ⟨j, l', by rw [el]; exact List.getElem?_set_self hil, q2⟩
    · exact ⟨j, l, by rw [List.getElem?_set_ne (Ne.symm hj)]; exact q1, q2⟩
  · have nb : b ≠ a := fun z => e3 ⟨i, by rw [z]; exact oi⟩
    exact ⟨(hH b nb).trans e1, (hΦ b nb).trans e2, fun ⟨j, h⟩ => e3 ⟨j, own' h⟩⟩
  · by_cases eb : b = a
    · subst eb; exact absurd e hd
    · rw [hH b eb] at e; exact e


/-! ### freezing -/
def frz1 : EV → Loc → Option (D × Loc)
  | .fro d, L => some (d, L)
  | .tmp l, L => some (.lst l, L)
  | .tmpd ks ws, L => some (.dct ks ws, L)
  | .tmpk _, _ => none
  | .loc i, L => match L[i]? with
    | some (.fro d) => some (d, L)
    | some (.own l) => some (.lst l, L.set i (.fro (.lst l)))
    | some (.ownd ks ws) => some (.dct ks ws, L.set i (.fro (.dct ks ws)))
    | _ => none
/-- evaluate, then freeze -/
def mF (ma : EM) : EM := fun L => (ma L).bind fun p => (frz1 p.1 p.2).bind fun q => some (.fro q.1, q.2)
/-- a slot's object is frozen -/
theorem Sim.frzSlot (S : Sim G B Φ L σ H) {i : Nat} {a : Addr} {o : HO} {lv0 : LV} {d : D} (e0 : L[i]? = some lv0) (hi : lv0.isOwn = true) (ha : σ[i]? = some (some (.ref a))) (ho : H a = some o) (np : ∀ l, lv0 ≠ .pin l) (n : Φ a = none)
    (hr : ∀ Φ' : Fz, Fz.Le Φ Φ' → Φ' a = some (.ho o) → Rep G Φ' d (.ref a)) :
    ∃ Φ', Sim G B Φ' (L.set i (.fro d)) σ H ∧ Step Φ L σ H Φ' (L.set i (.fro d)) H ∧ Rep G Φ' d (.ref a) := by
  have le : Fz.Le Φ fun b => if b = a then some (.ho o) else Φ b := fun b fo e => by
    have : b ≠ a := fun z => by subst z; rw [n] at e; cases e
    show (if b = a then _ else _) = _
    rw [if_neg this]; exact e
  have hr' := hr _ le (if_pos rfl)
  obtain ⟨S', st⟩ := S.chg (lv := .fro d) e0 hi ha le (fun b hb => if_neg hb) (fun _ _ => rfl) (by rw [ho]; intro z; cases z) (fun fo e => by
    have e' : (if a = a then some (FO.ho o) else Φ a) = some fo := e
    rw [if_pos rfl] at e'
    cases e'
    exact ho) ⟨_, rfl, hr'⟩ fun l z => absurd z (np l)
  exact ⟨_, S', st, hr'⟩
theorem pe_F {X : Cx} {e : Expr} {ma : EM} (h : PE X e (tE G B ma)) : PE X e (tE G B (mF ma)) := PE.imp h fun σ H Q q => by
  obtain ⟨Φ, L, ev, L', S, e, k⟩ := q
  unfold mF at e
  cases ea : ma L with
  | none => rw [ea] at e; cases e
  | some p =>
    rw [ea] at e
    have e' : ((frz1 p.1 p.2).bind fun q => some (EV.fro q.1, q.2)) = some (ev, L') := e
    cases eb : frz1 p.1 p.2 with
    | none => rw [eb] at e'; cases e'
    | some q =>
      rw [eb] at e'
      cases e'
      refine ⟨Φ, L, p.1, p.2, S, ea, fun v Φ1 H1 S1 s1 r1 n1 => ?_⟩
      obtain ⟨ev, L1⟩ := p
      obtain ⟨d, L2'⟩ := q
      simp only at eb r1 n1 S1 s1 k
      have tmpc : ∀ {a : Addr} {o : HO}, H a = none → H1 a = some o → Φ1 a = none → ¬ OwnAt L1 σ a → B.H a = none → (∀ Φ' : Fz, Fz.Le Φ1 Φ' → Φ' a = some (.ho o) → Rep G Φ' d (.ref a)) → L2' = L1 → Q (.ref a) H1 := fun {a o} hn p n no b hr el => by
        subst el
        obtain ⟨Φ2, S2, le, eΦ, eo⟩ := S1.freeze p n no b
        refine k _ Φ2 H1 S2 ⟨s1.le.trans le, fun c u e1 e2 e3 => ?_, s1.dom, s1.own⟩ (hr Φ2 le eΦ) trivial
        obtain ⟨x, y, z⟩ := s1.stray c u e1 e2 e3
        refine ⟨x, ?_, z⟩
        have hc : c ≠ a := fun z => by subst z; rw [hn] at e1; cases e1
        rw [eo c hc]; exact y
      cases ev with
      | fro d' => cases eb; exact k v Φ1 H1 S1 s1 r1 trivial
      | tmp l =>
        cases eb
        obtain ⟨a, vs, rfl, p, q, n, o, b⟩ := r1
        obtain ⟨a', e1, hn⟩ := n1
        cases e1
        exact tmpc hn p n o b (fun Φ' le ea => by simp only [Rep]; exact ⟨a, vs, rfl, ea, Reps.mono le _ _ q⟩) rfl
      | tmpd ks ws =>
        cases eb
        obtain ⟨a, rows, rfl, p, ⟨q1, q2, q3⟩, n, o, b⟩ := r1
        obtain ⟨a', e1, hn⟩ := n1
        cases e1
        exact tmpc hn p n o b (fun Φ' le ea => by simp only [Rep]; exact ⟨a, rows, rfl, ea, q1, Reps.mono le _ _ q2, Reps.mono le _ _ q3⟩) rfl
      | tmpk kvs => cases eb
      | loc i =>
        have hv : σ[i]? = some (some v) := r1
        unfold frz1 at eb
        cases el : L1[i]? with
        | none => simp only [el] at eb; cases eb
        | some lv =>
          have sl := S1.slot i lv el
          rw [hv] at sl
          cases lv with
          | none => simp only [el] at eb; cases eb
          | fro d' =>
            simp only [el] at eb
            cases eb
            obtain ⟨u, eu, r⟩ := sl
            cases eu
            exact k v Φ1 H1 S1 s1 r trivial
          | own l =>
            simp only [el] at eb
            cases eb
            obtain ⟨a, vs, eu, p, q, n⟩ := sl
            cases eu
            obtain ⟨Φ2, S2, st, hr⟩ := S1.frzSlot (d := .lst l) el rfl hv p (fun l z => by cases z) n fun Φ' le ea => by simp only [Rep]; exact ⟨a, vs, rfl, ea, Reps.mono le _ _ q⟩
            exact k _ Φ2 H1 S2 (s1.trans st) hr trivial
          | pin l => simp only [el] at eb; cases eb
          | ownd ks ws =>
            simp only [el] at eb
            cases eb
            obtain ⟨a, rows, eu, p, ⟨q1, q2, q3⟩, n⟩ := sl
            cases eu
            obtain ⟨Φ2, S2, st, hr⟩ := S1.frzSlot (d := .dct ks ws) el rfl hv p (fun l z => by cases z) n fun Φ' le ea => by simp only [Rep]; exact ⟨a, rows, rfl, ea, q1, Reps.mono le _ _ q2, Reps.mono le _ _ q3⟩
            exact k _ Φ2 H1 S2 (s1.trans st) hr trivial
          | ownk kvs => simp only [el] at eb; cases eb

/-! ### what a list, a tuple, a text holds -/
inductive Sq where
  | l (xs : List D)
  | t (xs : List D)
def contL : EV → Loc → Option (List D)
  | .fro (.lst l), _ => some l
  | .tmp l, _ => some l
  | .loc i, L => match L[i]? with
    | some (.own l) => some l
    | some (.pin l) => some l
    | some (.fro (.lst l)) => some l
    | _ => none
  | _, _ => none
theorem contL_ok (S : Sim G B Φ L σ H) {ev : EV} {v : V} {l : List D} (r : RepE G B Φ L σ H ev v) (e : contL ev L = some l) : ∃ a vs, v = .ref a ∧ H a = some (.lst vs) ∧ Reps G Φ l vs := by
  cases ev with
  | fro d =>
    cases d with
    | lst l' =>
      cases e
      have r' : Rep G Φ (.lst l) v := r
      simp only [Rep] at r'
      obtain ⟨a, vs, e, p, q⟩ := r'
      exact ⟨a, vs, e, S.fz _ _ p, q⟩
    | _ => cases e
  | tmp l' =>
    cases e
    obtain ⟨a, vs, e, p, q, _⟩ := r
    exact ⟨a, vs, e, p, q⟩
  | tmpd ks ws => cases e
  | tmpk kvs => cases e
  | loc i =>
    have hv : σ[i]? = some (some v) := r
    unfold contL at e
    cases el : L[i]? with
    | none => simp only [el] at e; cases e
    | some lv =>
      have sl := S.slot i lv el
      rw [hv] at sl
      cases lv with
      | none => simp only [el] at e; cases e
      | fro d' =>
        cases d' with
        | lst l' =>
          simp only [el] at e
          cases e
          obtain ⟨u, eu, r⟩ := sl
          cases eu
          simp only [Rep] at r
          obtain ⟨a, vs, e, p, q⟩ := r
          exact ⟨a, vs, e, S.fz _ _ p, q⟩
        | _ => simp only [el] at e; cases e
      | own l' =>
        simp only [el] at e
        cases e
        obtain ⟨a, vs, eu, p, q, n⟩ := sl
        cases eu
        exact ⟨a, vs, rfl, p, q⟩
      | pin l' =>
        simp only [el] at e
        cases e
        obtain ⟨a, vs, eu, _, p, q, n⟩ := sl
        cases eu
        exact ⟨a, vs, rfl, p, q⟩
      | ownd ks ws => simp only [el] at e; cases e
      | ownk kvs => simp only [el] at e; cases e
theorem tup_ok (S : Sim G B Φ L σ H) {l : List D} {v : V} (r : RepE G B Φ L σ H (.fro (.tup l)) v) : ∃ a vs, v = .ref a ∧ TupAt H a vs ∧ Reps G Φ l vs := by
  have r' : Rep G Φ (.tup l) v := r
  simp only [Rep] at r'
  obtain ⟨a, vs, e, p, q⟩ := r'
  exact ⟨a, vs, e, S.fz _ _ p, q⟩
/-- a new object, at once frozen -/
theorem Sim.newFro (S : Sim G B Φ L σ H) {p : Addr} {o : HO} (h : H p = none) : ∃ Φ', Sim G B Φ' L σ (upd H p o) ∧ Step Φ L σ H Φ' L (upd H p o) ∧ Φ' p = some (.ho o) := by
  obtain ⟨n1, n2, n3⟩ := S.hnone h
  obtain ⟨S1, s1⟩ := S.laid (o := o) h
  obtain ⟨Φ', S2, le, ea, eo⟩ := S1.freeze upd_same n1 n2 n3
  refine ⟨Φ', S2, ⟨s1.le.trans le, fun c u e1 e2 e3 => ?_, s1.dom, s1.own⟩, ea⟩
  obtain ⟨x, y, z⟩ := s1.stray c u e1 e2 e3
  have hc : c ≠ p := fun z => by subst z; rw [h] at e1; cases e1
  exact ⟨x, by rw [eo c hc]; exact y, z⟩
/-- a new tuple, at once frozen -/
theorem Sim.newTup (S : Sim G B Φ L σ H) {p : Addr} {vs : List V} {ob : Obj} (h : H p = none) (n : ob.dict = none) : ∃ Φ', Sim G B Φ' L σ (upd H p (.frz ob (.tup vs))) ∧ Step Φ L σ H Φ' L (upd H p (.frz ob (.tup vs))) ∧ Φ' p = some (.pt vs) := by
  obtain ⟨n1, n2, n3⟩ := S.hnone h
  obtain ⟨S1, s1⟩ := S.laid (o := .frz ob (.tup vs)) h
  obtain ⟨Φ', S2, le, ea, eo⟩ := S1.freezeT (vs := vs) ⟨ob, upd_same, n⟩ n1 n2 n3
  refine ⟨Φ', S2, ⟨s1.le.trans le, fun c u e1 e2 e3 => ?_, s1.dom, s1.own⟩, ea⟩
  obtain ⟨x, y, z⟩ := s1.stray c u e1 e2 e3
  have hc : c ≠ p := fun z => by subst z; rw [h] at e1; cases e1
  exact ⟨x, by rw [eo c hc]; exact y, z⟩
/-- a new list that nobody holds -/
theorem Sim.newTmp (S : Sim G B Φ L σ H) {p : Addr} {vs : List V} {l : List D} (h : H p = none) (r : Reps G Φ l vs) :
    Sim G B Φ L σ (upd H p (.lst vs)) ∧ Step Φ L σ H Φ L (upd H p (.lst vs)) ∧ RepE G B Φ L σ (upd H p (.lst vs)) (.tmp l) (.ref p) ∧ NewE H (.tmp l) (.ref p) := by
  obtain ⟨n1, n2, n3⟩ := S.hnone h
  obtain ⟨S1, s1⟩ := S.laid (o := .lst vs) h
  exact ⟨S1, s1, ⟨p, vs, rfl, upd_same, r, n1, n2, n3⟩, ⟨p, rfl, h⟩⟩
theorem Fin.fro {d : D} {v : V} {Q : VK} (k : Fin G B Φ L σ H (.fro d) L Q) (S : Sim G B Φ L σ H) (r : Rep G Φ d v) : Q v H := k v Φ H S Step.refl r trivial
end

/-! ### new tuples, known -/
section
variable {X : Cx} {es : List Expr} {pos : Pos} {t : TA}
def tTupF (t : TA) : TE := fun σ H Q => t σ H fun xs H1 => xs.length ≤ sizeLine ∧ ∀ p ob, H1 p = none → ob.dict = none → Q (.ref p) (upd H1 p (.frz ob (.tup xs)))
theorem pe_tupF {x1} (h : PA X es t) : PE X (.Tuple es x1 pos) (tTupF t) := by
  refine ⟨fun pins s σ H Q I hq => ?_⟩
  refine wpAny_Tuple_spliced (thn (h.run pos pins s σ H _ I hq) fun us s1 ⟨xs, H1, I1, r, z, q⟩ => ⟨by rw [← r.length]; exact z, ?_⟩)
  have hf : H1 s1.heap.objs.size = none := I1.hok.fresh (Nat.le_refl _)
  refine ⟨.ref s1.heap.objs.size, upd H1 s1.heap.objs.size (.frz { cls := .type "tuple", data := .seq us.toArray } (.tup xs)), I1.laid (t' := s1.toks) (fun b u e => Heap.get?_push_of_some _ e) (Nat.le_refl _) ?_, rfl, q _ _ hf rfl⟩
  exact ⟨Heap.get?_push_size _ rfl, z, us, r, ⟨_, Heap.get?_push_size _ rfl, rfl, _, rfl⟩⟩
theorem call_tupF : CallR X (.type "tuple") (fun xs H Q => ∃ p ys, xs = [.ref p] ∧ ((SqL X.K H p ys ∧ ∀ l ob, H l = none → ob.dict = none → Q (.ref l) (upd H l (.frz ob (.tup ys)))) ∨ (SqT X.K H p ys ∧ Q (.ref p) H))) := by
  intro pins s σ H xs us Q I r h
  obtain ⟨p, ys, rfl, h⟩ := h
  obtain ⟨u, rfl, rx⟩ := vals1 r
  cases rx
  rcases h with ⟨hq, q⟩ | ⟨hq, q⟩
  · obtain ⟨its, r', pl, hz⟩ := I.list hq
    have hlen := r'.length
    refine call_tuple_list pl.isList (fun h' kp => ?_) (by simp only [List.size_toArray] <;> omega)
    have I1 : Inv X pins σ H { s with heap := h' } := I.kept (t' := s.toks) kp
    have I2 : Inv X pins σ (upd H h'.objs.size (.frz { cls := .type "tuple", data := .seq its.toArray } (.tup ys))) { s with heap := h'.push { cls := .type "tuple", data := .seq its.toArray } } :=
      I1.laid (t' := s.toks) (fun b o e => Heap.get?_push_of_some _ e) (Nat.le_refl _) (show ObjOk X.prog X.w _ _ _ (.frz _ (.tup ys)) from ⟨Heap.get?_push_size _ rfl, hz, its, r', IsTup.new _ _⟩)
    exact ⟨.ref h'.objs.size, _, I2, rfl, q _ _ (I1.hok.fresh (Nat.le_refl _)) rfl⟩
  · obtain ⟨its, r', pl, hz⟩ := I.tuple hq
    exact call_tuple_same pl ⟨.ref p, H, I, rfl, q⟩
def rCatF (K : PySem.W.Frag) : R2 := fun x y H Q => ∃ a b xs ys, x = .ref a ∧ y = .ref b ∧ SqT K H a xs ∧ SqT K H b ys ∧ xs.length + ys.length ≤ sizeLine ∧
  (xs = [] → Q (.ref b) H) ∧ (xs ≠ [] → ys = [] → Q (.ref a) H) ∧ (xs ≠ [] → ys ≠ [] → ∀ p ob, H p = none → ob.dict = none → Q (.ref p) (upd H p (.frz ob (.tup (xs ++ ys)))))
theorem op_catF : OpR X (binaryOp .Add) (rCatF X.K) := by
  intro pins s σ H x y v u Q I rx ry h
  obtain ⟨a, b, xs, ys, rfl, rfl, ha, hb, hz, q0, q1, q2⟩ := h
  cases rx
  cases ry
  obtain ⟨its, r1, p1, _⟩ := I.tuple ha
  obtain ⟨its2, r2, p2, _⟩ := I.tuple hb
  by_cases hx : xs = []
  · subst hx
    cases r1
    exact cat_tup0 p1 p2 ⟨.ref b, H, I, rfl, q0 rfl⟩
  · refine HT.cat_tup p1 p2 (fun z => hx (r1.nil_iff.mp z)) (fun z => ⟨.ref a, H, I, rfl, q1 hx (r2.nil_iff.mp z)⟩) (fun z => ?_) (by rw [← r1.length, ← r2.length]; exact hz)
    refine ⟨.ref s.heap.objs.size, _, I.laid (t' := s.toks) (o := .frz { cls := .type "tuple", data := .seq (its ++ its2).toArray } (.tup (xs ++ ys))) (fun b ob q => Heap.get?_push_of_some _ q) (Nat.le_refl _) ?_, rfl, q2 hx (fun w => z (r2.nil_iff.mpr w)) _ _ (I.hok.fresh (Nat.le_refl _)) rfl⟩
    exact ⟨Heap.get?_push_size _ rfl, by rw [List.length_append]; exact hz, _, r1.append r2, IsTup.new _ _⟩
def rSlF (K : PySem.W.Frag) : V → Option Int → Option Int → Hp → VK → Prop := fun x lo hi H Q => ∃ a xs, x = .ref a ∧ SqT K H a xs ∧
  (HT.sIx xs.length 0 lo = 0 ∧ HT.sIx xs.length xs.length hi = xs.length → Q (.ref a) H) ∧ (¬ (HT.sIx xs.length 0 lo = 0 ∧ HT.sIx xs.length xs.length hi = xs.length) → ∀ p ob, H p = none → ob.dict = none → Q (.ref p) (upd H p (.frz ob (.tup (cutV xs lo hi)))))
theorem sl_tupF : SlR X (rSlF X.K) := by
  intro pins s σ H x v vl vu lo hi sl Q I rx hs pl pu h
  obtain ⟨a, xs, rfl, hx, q1, q2⟩ := h
  by_cases hw : HT.sIx xs.length 0 lo = 0 ∧ HT.sIx xs.length xs.length hi = xs.length
  · exact sl_tupA pins s σ H _ v vl vu lo hi sl Q I rx hs pl pu ⟨a, xs, rfl, hx, q1, fun n => absurd hw n⟩
  · cases rx
    obtain ⟨its, r, ht, hz⟩ := I.tuple hx
    have hlen : its.toArray.size = xs.length := by rw [List.size_toArray]; exact r.length.symm
    refine ⟨"tuple", _, PyProof.Rows.slot_tuple_getitem.lookup, ht.typeIs, ?_⟩
    refine HT.getItem_tuple_cut ht hs pl pu (by rw [hlen]; exact hw) ?_ (by rw [hlen]; exact hz)
    rw [hlen]
    refine ⟨.ref s.heap.objs.size, _, I.laid (t' := s.toks) (o := .frz { cls := .type "tuple", data := .seq ((its.toArray.toList.drop (HT.sIx xs.length 0 lo)).take (HT.sIx xs.length xs.length hi - HT.sIx xs.length 0 lo)).toArray } (.tup (cutV xs lo hi))) (fun b ob q => Heap.get?_push_of_some _ q) (Nat.le_refl _) ?_, rfl, q2 hw _ _ (I.hok.fresh (Nat.le_refl _)) rfl⟩
    exact ⟨Heap.get?_push_size _ rfl, Nat.le_trans (cutV_length xs lo hi) hz, _, (r.drop (HT.sIx xs.length 0 lo)).take (HT.sIx xs.length xs.length hi - HT.sIx xs.length 0 lo), IsTup.new _ _⟩
end
end SS

/-! the data layer: names, constants, operators, indices, built-ins -/
namespace SS
open PySem PySem.Spec PyProof.Rows L2

section
variable {G : Gx} {B : Base} {Φ Φ' : Fz} {L L' : Loc} {σ : L2.St} {H H' : Hp} {X : Cx}

/-! ### kinds of what is handed on -/
def asInt : EV → Option Int
  | .fro (.int i) => some i
  | _ => none
def asStr : EV → Option (List Nat)
  | .fro (.str x) => some x
  | _ => none
def asTup : EV → Option (List D)
  | .fro (.tup x) => some x
  | _ => none
def asBl : EV → Option Bool
  | .fro (.bl x) => some x
  | _ => none
theorem asInt_ok {ev : EV} {v : V} {i : Int} (r : RepE G B Φ L σ H ev v) (e : asInt ev = some i) : v = .int i := by
  unfold asInt at e
  split at e
  · cases e; have r' : Rep G Φ (.int i) v := r; simpa only [Rep] using r'
  · cases e
theorem asStr_ok {ev : EV} {v : V} {x : List Nat} (r : RepE G B Φ L σ H ev v) (e : asStr ev = some x) : v = .str ⟨x.toArray⟩ := by
  unfold asStr at e
  split at e
  · cases e; have r' : Rep G Φ (.str x) v := r; simpa only [Rep] using r'
  · cases e
theorem asBl_ok {ev : EV} {v : V} {x : Bool} (r : RepE G B Φ L σ H ev v) (e : asBl ev = some x) : v = .bl x := by
  unfold asBl at e
  split at e
  · cases e; have r' : Rep G Φ (.bl x) v := r; simpa only [Rep] using r'
  · cases e
theorem asTup_ok (S : Sim G B Φ L σ H) {ev : EV} {v : V} {x : List D} (r : RepE G B Φ L σ H ev v) (e : asTup ev = some x) : ∃ a vs, v = .ref a ∧ TupAt H a vs ∧ Reps G Φ x vs := by
  unfold asTup at e
  split at e
  · cases e; exact tup_ok S r
  · cases e

theorem asTup_rep {ev : EV} {v : V} {x : List D} (r : RepE G B Φ L σ H ev v) (e : asTup ev = some x) : Rep G Φ (.tup x) v := by
  unfold asTup at e
  split at e
  · cases e; exact r
  · cases e

def pu1 (f : EV → Loc → Option EV) : EV → EM := fun a L => (f a L).map fun r => (r, L)
def pu2 (f : EV → EV → Loc → Option EV) : EV → EV → EM := fun a b L => (f a b L).map fun r => (r, L)
def puN (f : List EV → Loc → Option EV) : List EV → EM := fun a L => (f a L).map fun r => (r, L)
theorem pu_inv {o : Option EV} {ev : EV} (h : (o.map fun r => (r, L)) = some (ev, L')) : o = some ev ∧ L' = L := by
  cases o with
  | none => cases h
  | some r => cases h; exact ⟨rfl, rfl⟩
theorem length_vs {ds : List D} {vs : List V} (r : Reps G Φ ds vs) : vs.length = ds.length := r.length.symm
theorem len_str' (x : List Nat) : (⟨x.toArray⟩ : PySem.Str).length = x.length := by simp [PySem.Str.length]
theorem app_str (x y : List Nat) : (⟨x.toArray⟩ : PySem.Str) ++ ⟨y.toArray⟩ = ⟨(x ++ y).toArray⟩ := by
  show (⟨x.toArray ++ y.toArray⟩ : PySem.Str) = _
  simp

/-! ### names, constants -/
def mVar (i : Nat) : EM := fun L => match L[i]? with
  | some (.fro d) => some (.fro d, L)
  | some (.own _) => some (.loc i, L)
  | some (.pin _) => some (.loc i, L)
  | some (.ownd _ _) => some (.loc i, L)
  | some (.ownk _) => some (.loc i, L)
  | _ => none
theorem mVar_imp {i : Nat} {Q : VK} (h : tE G B (mVar i) σ H Q) : tVar i σ H Q := by
  obtain ⟨Φ, L, ev, L', S, e, k⟩ := h
  unfold mVar at e
  cases el : L[i]? with
  | none => rw [el] at e; cases e
  | some lv =>
    rw [el] at e
    have sl := S.slot i lv el
    have fin : ∀ v, σ[i]?.join = some v → (∀ u, v = u → RepE G B Φ L σ H ev u) → NewE H ev v → L' = L → tVar i σ H Q := fun v hv r n eL => by
      subst eL
      exact ⟨v, joinEq.mp hv, k v Φ H S Step.refl (r v rfl) n⟩
    cases lv with
    | none => cases e
    | fro d => cases e; obtain ⟨v, ev, r⟩ := sl; exact fin v ev (fun u eu => eu ▸ r) trivial rfl
    | own l => cases e; obtain ⟨a, vs, ev, _⟩ := sl; exact fin _ ev (fun u eu => by subst eu; exact joinEq.mp ev) trivial rfl
    | pin l => cases e; obtain ⟨a, vs, ev, _⟩ := sl; exact fin _ ev (fun u eu => by subst eu; exact joinEq.mp ev) trivial rfl
    | ownd ks ws => cases e; obtain ⟨a, vs, ev, _⟩ := sl; exact fin _ ev (fun u eu => by subst eu; exact joinEq.mp ev) trivial rfl
    | ownk kvs => cases e; obtain ⟨a, vs, ev, _⟩ := sl; exact fin _ ev (fun u eu => by subst eu; exact joinEq.mp ev) trivial rfl
theorem dv (i : Nat) {x : Str} {pos : Pos} (hN : X.N[i]? = some x := by rfl) (hv : Vis X.env.scope x := by first | exact Or.inl rfl | exact Or.inr (Or.inl rfl) | exact Or.inr (Or.inr rfl)) (hd : (x == ("__debug__" : Str)) = false := by decide)
    (hcd : (x == ("__classdict__" : Str)) = false := by decide) : PE X (.Name x pos) (tE G B (mVar i)) := PE.imp (pv i hN hv hd hcd) fun σ H Q h => mVar_imp h
def mC (d : D) : EM := fun L => some (.fro d, L)
theorem mC_imp {d : D} {v : V} {Q : VK} (hr : ∀ Φ, Rep G Φ d v) (h : tE G B (mC d) σ H Q) : Q v H := by
  obtain ⟨Φ, L, ev, L', S, e, k⟩ := h
  cases e
  exact k v Φ H S Step.refl (hr Φ) trivial
theorem de_int {i j pos} : PE X (.Constant (.int i) j pos) (tE G B (mC (.int i))) := PE.imp pe_int fun σ H Q h => mC_imp (fun _ => by simp only [Rep]) h
theorem de_bl {b j pos} : PE X (.Constant (.bool b) j pos) (tE G B (mC (.bl b))) := PE.imp pe_bl fun σ H Q h => mC_imp (fun _ => by simp only [Rep]) h
theorem de_non {j pos} : PE X (.Constant .none j pos) (tE G B (mC .non)) := PE.imp pe_non fun σ H Q h => mC_imp (fun _ => by simp only [Rep]) h
theorem de_str (l : List Nat) {x j pos} (hx : x = ⟨l.toArray⟩ := by rfl) : PE X (.Constant (.str x) j pos) (tE G B (mC (.str l))) := PE.imp pe_str fun σ H Q h => by
  subst hx
  exact mC_imp (fun _ => by simp only [Rep]) h
theorem de_gstr (l : List Nat) {x : Str} {z : Str} {t : Tok} {pos : Pos} (hg : Gl X x) (hm : X.mg x = some (.str z t)) (hx : z = ⟨l.toArray⟩ := by rfl) (hd : (x == ("__debug__" : Str)) = false := by decide) : PE X (.Name x pos) (tE G B (mC (.str l))) :=
  PE.imp (pe_glob (v := .str z) hg hm ⟨t, rfl⟩ hd) fun σ H Q h => by
    subst hx
    exact mC_imp (fun _ => by simp only [Rep]) h

/-! ### operators -/
def opAdd (a b : EV) (L : Loc) : Option EV :=
  match asInt a, asInt b with
  | some i, some j => some (.fro (.int (i + j)))
  | _, _ => match asStr a, asStr b with
    | some x, some y => if x.length + y.length ≤ LIM then some (.fro (.str (x ++ y))) else none
    | _, _ => match asTup a, asTup b with
      | some x, some y => if x.length + y.length ≤ LIM then some (.fro (.tup (x ++ y))) else none
      | _, _ => match contL a L, contL b L with
        | some x, some y => if x.length + y.length ≤ LIM then some (.tmp (x ++ y)) else none
        | _, _ => none
theorem de_add {a b : Expr} {pos : Pos} {ma mb : EM} (ha : PE X a (tE G B ma)) (hb : PE X b (tE G B mb)) : PE X (.BinOp a .Add b pos) (tE G B (mB2 (pu2 opAdd) ma mb)) := by
  refine PE.imp (pe_op (op_add.or (op_add_str.or (op_catF.or op_cat))) ha hb) fun σ H Q h => ?_
  obtain ⟨Φ0, L0, e0, L0', S0, h0, k0⟩ := e2_of h
  refine ⟨Φ0, L0, e0, L0', S0, h0, fun v1 Φ1 H1 S1 s1 r1 n1 => ?_⟩
  obtain ⟨Φ2, L2', e2, L2'', S2, h2, k2⟩ := k0 v1 Φ1 H1 S1 s1 r1 n1
  refine ⟨Φ2, L2', e2, L2'', S2, h2, fun v2 Φ3 H3 S3 s3 r3 n3 => ?_⟩
  obtain ⟨Φ, L, x, y, ev, L', S, rx, ry, e, k⟩ := k2 v2 Φ3 H3 S3 s3 r3 n3
  obtain ⟨e, rfl⟩ := pu_inv e
  unfold opAdd at e
  split at e
  · rename_i i j hi hj
    cases e
    exact .inl ⟨i, j, asInt_ok rx hi, asInt_ok ry hj, k.fro S (by simp only [Rep])⟩
  · split at e
    · rename_i x' y' hx hy
      split at e
      · rename_i hl
        cases e
        refine .inr (.inl ⟨_, _, asStr_ok rx hx, asStr_ok ry hy, by rw [len_str', len_str']; exact hl, ?_⟩)
        rw [app_str]
        exact k.fro S (by simp only [Rep])
      · cases e
    · split at e
      · rename_i x' y' hx hy
        split at e
        · rename_i hl
          cases e
          obtain ⟨p, vs, rfl, hp, hr⟩ := asTup_ok S rx hx
          obtain ⟨q, us, rfl, hq, hs⟩ := asTup_ok S ry hy
          refine .inr (.inr (.inl ⟨p, q, vs, us, rfl, rfl, hp.sq, hq.sq, by rw [length_vs hr, length_vs hs]; exact hl, fun ez => ?_, fun _ ez => ?_, fun _ _ t ob ht hob => ?_⟩))
          · subst ez
            have : x' = [] := List.length_eq_zero_iff.mp hr.length
            subst this
            exact k.fro S (by show Rep G Φ (.tup ([] ++ y')) _; rw [List.nil_append]; exact asTup_rep ry hy)
          · subst ez
            have : y' = [] := List.length_eq_zero_iff.mp hs.length
            subst this
            exact k.fro S (by show Rep G Φ (.tup (x' ++ [])) _; rw [List.append_nil]; exact asTup_rep rx hx)
          · obtain ⟨Φ', S', st, hp'⟩ := S.newTup (vs := vs ++ us) ht hob
            exact k _ Φ' _ S' st (by show Rep G Φ' _ _; simp only [Rep]; exact ⟨t, _, rfl, hp', Reps.mono st.le _ _ (hr.append hs)⟩) trivial
        · cases e
      · split at e
        · rename_i x' y' hx hy
          split at e
          · rename_i hl
            cases e
            obtain ⟨p, vs, rfl, hp, hr⟩ := contL_ok S rx hx
            obtain ⟨q, us, rfl, hq, hs⟩ := contL_ok S ry hy
            refine .inr (.inr (.inr ⟨p, q, vs, us, rfl, rfl, hp, hq, by rw [length_vs hr, length_vs hs]; exact hl, fun t ht => ?_⟩))
            obtain ⟨S', st, r, n⟩ := S.newTmp ht (hr.append hs)
            exact k _ _ _ S' st r n
          · cases e
        · cases e
/-- two ints -/
def opI (f : Int → Int → D) (C : Int → Int → Bool) (a b : EV) (_ : Loc) : Option EV := match asInt a, asInt b with
  | some i, some j => if C i j then some (.fro (f i j)) else none
  | _, _ => none
def scD : D → Option V
  | .int i => some (.int i)
  | .bl b => some (.bl b)
  | .non => some .non
  | .str x => some (.str ⟨x.toArray⟩)
  | _ => none
theorem scD_ok {d : D} {v : V} (h : scD d = some v) : Rep G Φ d v := by
  cases d <;> cases h <;> simp only [Rep]
theorem opI_imp {f : Int → Int → D} {C : Int → Int → Bool} {g : Int → Int → V} {P : Int → Int → Prop} {ma mb : EM} {Q : VK} (hf : ∀ i j, scD (f i j) = some (g i j)) (hC : ∀ i j, C i j = true → P i j)
    (h : tE G B (mB2 (pu2 (opI f C)) ma mb) σ H Q) : tOp (rI P g) (tE G B ma) (tE G B mb) σ H Q := by
  obtain ⟨Φ0, L0, e0, L0', S0, h0, k0⟩ := e2_of h
  refine ⟨Φ0, L0, e0, L0', S0, h0, fun v1 Φ1 H1 S1 s1 r1 n1 => ?_⟩
  obtain ⟨Φ2, L2', e2, L2'', S2, h2, k2⟩ := k0 v1 Φ1 H1 S1 s1 r1 n1
  refine ⟨Φ2, L2', e2, L2'', S2, h2, fun v2 Φ3 H3 S3 s3 r3 n3 => ?_⟩
  obtain ⟨Φ, L, x, y, ev, L', S, rx, ry, e, k⟩ := k2 v2 Φ3 H3 S3 s3 r3 n3
  obtain ⟨e, rfl⟩ := pu_inv e
  unfold opI at e
  split at e
  · rename_i i j hi hj
    split at e
    · rename_i hc
      cases e
      exact ⟨i, j, asInt_ok rx hi, asInt_ok ry hj, hC i j hc, k.fro S (scD_ok (hf i j))⟩
    · cases e
  · cases e
theorem rI0_of {g : Int → Int → V} {ta tb : TE} {Q : VK} (h : tOp (rI (fun _ _ => True) g) ta tb σ H Q) (mono : ∀ (t : TE) (ht : t = ta ∨ t = tb) σ H (Q Q' : VK), (∀ v H, Q v H → Q' v H) → t σ H Q → t σ H Q') : tOp (rI0 g) ta tb σ H Q :=
  mono ta (.inl rfl) _ _ _ _ (fun x H1 h => mono tb (.inr rfl) _ _ _ _ (fun y H2 h => by obtain ⟨i, j, a, b, _, q⟩ := h; exact ⟨i, j, a, b, q⟩) h) h
theorem tE_mono {m : EM} {Q Q' : VK} (h : ∀ v H, Q v H → Q' v H) (q : tE G B m σ H Q) : tE G B m σ H Q' := by
  obtain ⟨Φ, L, ev, L', S, e, k⟩ := q
  exact ⟨Φ, L, ev, L', S, e, fun v Φ' H' a b c d => h _ _ (k v Φ' H' a b c d)⟩
theorem tE_two {ma mb : EM} : ∀ (t : TE) (ht : t = tE G B ma ∨ t = tE G B mb) σ H (Q Q' : VK), (∀ v H, Q v H → Q' v H) → t σ H Q → t σ H Q' := by
  rintro t (rfl | rfl) σ H Q Q' h q
  · exact tE_mono h q
  · exact tE_mono h q
variable {a b : Expr} {pos : Pos} {ma mb : EM}
def cT (_ _ : Int) : Bool := true
theorem opI0_imp {f : Int → Int → D} {g : Int → Int → V} {Q : VK} (hf : ∀ i j, scD (f i j) = some (g i j)) (h : tE G B (mB2 (pu2 (opI f cT)) ma mb) σ H Q) : tOp (rI0 g) (tE G B ma) (tE G B mb) σ H Q :=
  rI0_of (opI_imp (P := fun _ _ => True) hf (fun _ _ _ => trivial) h) tE_two
theorem de_sub (ha : PE X a (tE G B ma)) (hb : PE X b (tE G B mb)) : PE X (.BinOp a .Sub b pos) (tE G B (mB2 (pu2 (opI (fun i j => .int (i - j)) cT)) ma mb)) :=
  PE.imp (pe_op op_sub ha hb) fun σ H Q h => opI0_imp (fun _ _ => rfl) h
def cMul (i j : Int) : Bool := decide (-(2 ^ 64) < i ∧ i < 2 ^ 64) || decide (-(2 ^ 64) < j ∧ j < 2 ^ 64)
theorem de_mul (ha : PE X a (tE G B ma)) (hb : PE X b (tE G B mb)) : PE X (.BinOp a .Mult b pos) (tE G B (mB2 (pu2 (opI (fun i j => .int (i * j)) cMul)) ma mb)) :=
  PE.imp (pe_op op_mul ha hb) fun σ H Q h => opI_imp (fun _ _ => rfl) (fun i j hc => by
    unfold cMul at hc
    rcases Bool.or_eq_true_iff.mp hc with h | h
    · exact .inl (of_decide_eq_true h)
    · exact .inr (of_decide_eq_true h)) h
def cDv (i j : Int) : Bool := decide (0 < j ∧ j < 1073741824)
theorem de_fdiv (ha : PE X a (tE G B ma)) (hb : PE X b (tE G B mb)) : PE X (.BinOp a .FloorDiv b pos) (tE G B (mB2 (pu2 (opI (fun i j => .int (i / j)) cDv)) ma mb)) :=
  PE.imp (pe_op op_fdiv ha hb) fun σ H Q h => opI_imp (fun _ _ => rfl) (fun i j hc => show 0 < j ∧ j < 1073741824 from of_decide_eq_true hc) h
def cPos (i j : Int) : Bool := decide (0 < j)
theorem de_mod (ha : PE X a (tE G B ma)) (hb : PE X b (tE G B mb)) : PE X (.BinOp a .Mod b pos) (tE G B (mB2 (pu2 (opI (fun i j => .int (i % j)) cPos)) ma mb)) :=
  PE.imp (pe_op op_mod ha hb) fun σ H Q h => opI_imp (fun _ _ => rfl) (fun i j hc => of_decide_eq_true hc) h

/-! ### comparisons -/
def opB (f : EV → EV → Loc → Option Bool) : EV → EV → EM := pu2 fun a b L => (f a b L).map fun c => .fro (.bl c)
theorem opB_inv {f : EV → EV → Loc → Option Bool} {x y ev : EV} (e : opB f x y L = some (ev, L')) : ∃ c, f x y L = some c ∧ ev = .fro (.bl c) ∧ L' = L := by
  obtain ⟨e, rfl⟩ := pu_inv e
  have e' : ((f x y L').map fun c => EV.fro (.bl c)) = some ev := e
  cases h : f x y L' with
  | none => rw [h] at e'; cases e'
  | some c => rw [h] at e'; cases e'; exact ⟨c, rfl, rfl, rfl⟩
theorem cmp_imp {f : EV → EV → Loc → Option Bool} {r : R2} {Q : VK} (hr : ∀ Φ L x y v u c, Sim G B Φ L σ H' → RepE G B Φ L σ H' x v → RepE G B Φ L σ H' y u → f x y L = some c → ∀ Q : VK, Q (.bl c) H' → r v u H' Q)
    (hr' : ∀ (H' : Hp) Φ L x y v u c, Sim G B Φ L σ H' → RepE G B Φ L σ H' x v → RepE G B Φ L σ H' y u → f x y L = some c → ∀ Q : VK, Q (.bl c) H' → r v u H' Q) (h : tE G B (mB2 (opB f) ma mb) σ H Q) : tOp r (tE G B ma) (tE G B mb) σ H Q := by
  obtain ⟨Φ0, L0, e0, L0', S0, h0, k0⟩ := e2_of h
  refine ⟨Φ0, L0, e0, L0', S0, h0, fun v1 Φ1 H1 S1 s1 r1 n1 => ?_⟩
  obtain ⟨Φ2, L2', e2, L2'', S2, h2, k2⟩ := k0 v1 Φ1 H1 S1 s1 r1 n1
  refine ⟨Φ2, L2', e2, L2'', S2, h2, fun v2 Φ3 H3 S3 s3 r3 n3 => ?_⟩
  obtain ⟨Φ, L, x, y, ev, L', S, rx, ry, e, k⟩ := k2 v2 Φ3 H3 S3 s3 r3 n3
  obtain ⟨c, hc, rfl, rfl⟩ := opB_inv e
  exact hr' H3 Φ L' x y v1 v2 c S rx ry hc Q (k.fro S (by simp only [Rep]))
/-- what a comparison's rule must say -/
def CmpOk (G : Gx) (B : Base) (f : EV → EV → Loc → Option Bool) (r : R2) : Prop := ∀ (σ : L2.St) (H : Hp) Φ L x y v u c, Sim G B Φ L σ H → RepE G B Φ L σ H x v → RepE G B Φ L σ H y u → f x y L = some c → ∀ Q : VK, Q (.bl c) H → r v u H Q
theorem de_cmp {op : CmpOp} {r : R2} {f : EV → EV → Loc → Option Bool} (ho : OpR X (compareOp op) r) (hc : CmpOk G B f r) (hm : behindInMarks op b = false) (ha : PE X a (tE G B ma)) (hb : PE X b (tE G B mb)) :
    PE X (.Compare a [op] [b] pos) (tE G B (mB2 (opB f) ma mb)) :=
  PE.imp (pe_cmpR ho ha hb hm) fun σ H Q h => cmp_imp (H' := H) (hc σ H) (fun H' => hc σ H') h
def iCmp (p : Int → Int → Bool) (a b : EV) (_ : Loc) : Option Bool := match asInt a, asInt b with
  | some i, some j => some (p i j)
  | _, _ => none
theorem iCmp_ok {p : Int → Int → Bool} : CmpOk G B (iCmp p) (rI0 fun i j => .bl (p i j)) := by
  intro σ H Φ L x y v u c S rx ry e Q q
  unfold iCmp at e
  split at e
  · rename_i i j hi hj
    cases e
    exact ⟨i, j, asInt_ok rx hi, asInt_ok ry hj, q⟩
  · cases e
theorem de_lt (ha : PE X a (tE G B ma)) (hb : PE X b (tE G B mb)) : PE X (.Compare a [.Lt] [b] pos) (tE G B (mB2 (opB (iCmp fun i j => decide (i < j))) ma mb)) := de_cmp op_lt iCmp_ok (nomark _) ha hb
theorem de_le (ha : PE X a (tE G B ma)) (hb : PE X b (tE G B mb)) : PE X (.Compare a [.LtE] [b] pos) (tE G B (mB2 (opB (iCmp fun i j => decide (i ≤ j))) ma mb)) := de_cmp op_le iCmp_ok (nomark _) ha hb
theorem de_gt (ha : PE X a (tE G B ma)) (hb : PE X b (tE G B mb)) : PE X (.Compare a [.Gt] [b] pos) (tE G B (mB2 (opB (iCmp fun i j => decide (j < i))) ma mb)) := de_cmp op_gt iCmp_ok (nomark _) ha hb
theorem de_ge (ha : PE X a (tE G B ma)) (hb : PE X b (tE G B mb)) : PE X (.Compare a [.GtE] [b] pos) (tE G B (mB2 (opB (iCmp fun i j => decide (j ≤ i))) ma mb)) := de_cmp op_ge iCmp_ok (nomark _) ha hb

/-! data that == looks through -/
mutual
def py : D → PyData
  | .non => .none
  | .bl b => .bool b
  | .int i => .int i
  | .str x => .str ⟨x.toArray⟩
  | .tup l => .tuple (pys l)
  | .lst l => .list (pys l)
  | .row _ => .none
  | .mach _ _ => .none
  | .obj _ _ => .none
  | .dct _ _ => .none
def pys : List D → List PyData
  | [] => []
  | d :: r => py d :: pys r
end
mutual
def plOk : D → Bool
  | .non => true
  | .bl _ => true
  | .int _ => true
  | .str x => x.all (· < 0x110000)
  | .tup l => plOks l
  | .lst l => plOks l
  | .row _ => false
  | .mach _ _ => false
  | .obj _ _ => false
  | .dct _ _ => false
def plOks : List D → Bool
  | [] => true
  | d :: r => plOk d && plOks r
end
mutual
def dpt : D → Nat
  | .tup l => dpts l + 1
  | .lst l => dpts l + 1
  | _ => 0
def dpts : List D → Nat
  | [] => 0
  | d :: r => max (dpt d) (dpts r)
end
def cok (d : D) : Bool := plOk d && decide (dpt d ≤ 60)
def deq (a b : D) : Bool := PyData.eqv (py a) (py b)
mutual
theorem dpt_py : ∀ d : D, (py d).depth = dpt d
  | .non => rfl
  | .bl _ => rfl
  | .int _ => rfl
  | .str _ => rfl
  | .tup l => by simp only [py, PyData.depth, dpt, dpts_py l]
  | .lst l => by simp only [py, PyData.depth, dpt, dpts_py l]
  | .row _ => rfl
  | .mach _ _ => rfl
  | .obj _ _ => rfl
  | .dct _ _ => rfl
theorem dpts_py : ∀ ds : List D, PyData.depthAll (pys ds) = dpts ds
  | [] => rfl
  | d :: r => by simp only [pys, PyData.depthAll, dpts, dpt_py d, dpts_py r]
end
mutual
theorem lay_py : ∀ d : D, plOk d = true → (py d).canLay0 = true
  | .non, _ => rfl
  | .bl _, _ => rfl
  | .int _, _ => rfl
  | .str x, h => by
    simp only [plOk] at h
    simp only [py, PyData.canLay0, PyData.strOk]
    simpa using h
  | .tup l, h => by simp only [plOk] at h; simp only [py, PyData.canLay0, lays_py l h]
  | .lst l, h => by simp only [plOk] at h; simp only [py, PyData.canLay0, lays_py l h]
  | .row _, h => by simp [plOk] at h
  | .mach _ _, h => by simp [plOk] at h
  | .obj _ _, h => by simp [plOk] at h
  | .dct _ _, h => by simp [plOk] at h
theorem lays_py : ∀ ds : List D, plOks ds = true → PyData.canLayAll0 (pys ds) = true
  | [], _ => rfl
  | d :: r, h => by
    simp only [plOks, Bool.and_eq_true] at h
    simp only [pys, PyData.canLayAll0, lay_py d h.1, lays_py r h.2, Bool.and_self]
end
theorem shaped_py {d : D} (h : cok d = true) : SeqAt.shaped (py d) = true := by
  unfold cok at h
  obtain ⟨h1, h2⟩ := Bool.and_eq_true_iff.mp h
  have h3 := of_decide_eq_true h2
  unfold SeqAt.shaped
  rw [lay_py d h1, dpt_py, Bool.true_and]
  exact decide_eq_true (by omega)
mutual
theorem Rep.dp {K : PySem.W.Frag} (fz : FzOk G Φ H) : ∀ (d : D) (v : V), plOk d = true → Rep G Φ d v → Dp K H v (py d)
  | .non, v, _, h => by simp only [Rep] at h; subst h; exact .non
  | .bl b, v, _, h => by simp only [Rep] at h; subst h; exact .bl b
  | .int i, v, _, h => by simp only [Rep] at h; subst h; exact .int i
  | .str x, v, _, h => by simp only [Rep] at h; subst h; exact .str _
  | .tup l, v, p, h => by
    simp only [plOk] at p
    simp only [Rep] at h
    obtain ⟨a, vs, rfl, e, r⟩ := h
    exact .tup (fz a (.pt vs) e : TupAt H a vs).sq (Reps.dp fz l vs p r)
  | .lst l, v, p, h => by
    simp only [plOk] at p
    simp only [Rep] at h
    obtain ⟨a, vs, rfl, e, r⟩ := h
    exact .lst (SqL.of (fz _ _ e)) (Reps.dp fz l vs p r)
  | .row _, _, p, _ => by simp [plOk] at p
  | .mach _ _, _, p, _ => by simp [plOk] at p
  | .obj _ _, _, p, _ => by simp [plOk] at p
  | .dct _ _, _, p, _ => by simp [plOk] at p
theorem Reps.dp {K : PySem.W.Frag} (fz : FzOk G Φ H) : ∀ (ds : List D) (vs : List V), plOks ds = true → Reps G Φ ds vs → DpAll K H vs (pys ds)
  | [], vs, _, h => by simp only [Reps] at h; subst h; exact .nil
  | d :: r, vs, p, h => by
    simp only [plOks, Bool.and_eq_true] at p
    simp only [Reps] at h
    obtain ⟨v, vr, rfl, h1, h2⟩ := h
    exact .cons (Rep.dp fz d v p.1 h1) (Reps.dp fz r vr p.2 h2)
end
def datE (e : EV) (L : Loc) : Option D := match contL e L with
  | some l => some (.lst l)
  | none => match e with
    | .fro d => some d
    | _ => none
theorem datE_ok {K : PySem.W.Frag} (S : Sim G B Φ L σ H) {ev : EV} {v : V} {d : D} (r : RepE G B Φ L σ H ev v) (e : datE ev L = some d) (hc : cok d = true) : Dp K H v (py d) := by
  have hp : plOk d = true := (Bool.and_eq_true_iff.mp hc).1
  unfold datE at e
  cases hl : contL ev L with
  | some l =>
    rw [hl] at e
    cases e
    obtain ⟨a, vs, rfl, p, q⟩ := contL_ok S r hl
    simp only [plOk] at hp
    exact .lst (SqL.of p) (Reps.dp S.fz l vs hp q)
  | none =>
    rw [hl] at e
    cases ev with
    | fro d' => cases e; exact Rep.dp S.fz d v hp r
    | _ => cases e
def eqE (a b : EV) (L : Loc) : Option Bool := match asStr a, asStr b with
  | some x, some y => some (decide (x = y))
  | _, _ => match datE a L, datE b L with
    | some d, some e => if cok d && cok e then some (deq d e) else none
    | _, _ => none
def neE (a b : EV) (L : Loc) : Option Bool := (eqE a b L).map (! ·)
theorem str_dec (x y : List Nat) : decide (V.str ⟨x.toArray⟩ = V.str ⟨y.toArray⟩) = decide (x = y) := by
  by_cases h : x = y
  · subst h; simp
  · have : ¬ V.str ⟨x.toArray⟩ = V.str ⟨y.toArray⟩ := fun e => h (by injection e with e; injection e with e; simpa using e)
    rw [decide_eq_false h, decide_eq_false this]
theorem eqE_ok {K : PySem.W.Frag} : CmpOk G B eqE (fun x y H Q => rEq x y H Q ∨ rEqD K x y H Q) := by
  intro σ H Φ L x y v u c S rx ry e Q q
  unfold eqE at e
  split at e
  · rename_i x' y' hx hy
    cases e
    rw [asStr_ok rx hx, asStr_ok ry hy]
    exact .inl ⟨rfl, by rw [str_dec]; exact q⟩
  · split at e
    · rename_i d d' hd hd'
      split at e
      · rename_i hc
        obtain ⟨c1, c2⟩ := Bool.and_eq_true_iff.mp hc
        cases e
        exact .inr ⟨_, _, datE_ok S rx hd c1, datE_ok S ry hd' c2, shaped_py c1, shaped_py c2, q⟩
      · cases e
    · cases e
theorem neE_ok {K : PySem.W.Frag} : CmpOk G B neE (fun x y H Q => rNe x y H Q ∨ rNeD K x y H Q) := by
  intro σ H Φ L x y v u c S rx ry e Q q
  unfold neE at e
  cases he : eqE x y L with
  | none => rw [he] at e; cases e
  | some c' =>
    rw [he] at e
    cases e
    have h := eqE_ok (K := K) σ H Φ L x y v u c' S rx ry he (fun v' H' => v' = .bl c' ∧ H' = H) ⟨rfl, rfl⟩
    rcases h with ⟨h1, h2⟩ | ⟨d, d', h1, h2, h3, h4, h5⟩
    · refine .inl ⟨h1, ?_⟩
      have : decide (v = u) = c' := by injection h2.1
      rw [this]; exact q
    · refine .inr ⟨d, d', h1, h2, h3, h4, ?_⟩
      have : PyData.eqv d d' = c' := by injection h5.1
      rw [this]; exact q
theorem de_eq {k : Nat} (hr : Room k X.A) (ha : PE X a (tE G B ma)) (hb : PE X b (tE G B mb)) : PE X (.Compare a [.Eq] [b] pos) (tE G B (mB2 (opB eqE) ma mb)) := de_cmp (op_eq.or (op_eqD hr.units)) eqE_ok (nomark _) ha hb
theorem de_ne {k : Nat} (hr : Room k X.A) (ha : PE X a (tE G B ma)) (hb : PE X b (tE G B mb)) : PE X (.Compare a [.NotEq] [b] pos) (tE G B (mB2 (opB neE) ma mb)) := de_cmp (op_ne.or (op_neD hr.units)) neE_ok (nomark _) ha hb
/-- a sign in a text; a datum in a list -/
def inE (a b : EV) (L : Loc) : Option Bool := match asStr a, asStr b with
  | some [c], some z => some (decide (c ∈ z))
  | _, _ => match datE a L, contL b L with
    | some d, some l => if cok d && cok (.lst l) then some (l.any fun z => deq z d) else none
    | _, _ => none
def ninE (a b : EV) (L : Loc) : Option Bool := (inE a b L).map (! ·)
def rInS : R2 := fun x y H Q => ∃ (c : Nat) (z : Str), x = .str ⟨#[c]⟩ ∧ y = .str z ∧ Q (.bl (decide (c ∈ z.cps.toList))) H
theorem any_pys (l : List D) (d : D) : (pys l).any (fun z => PyData.eqv z (py d)) = l.any fun z => deq z d := by
  induction l with
  | nil => rfl
  | cons x r ih => simp only [pys, List.any_cons, ih]; rfl
theorem inE_ok {K : PySem.W.Frag} : CmpOk G B inE (fun x y H Q => rInS x y H Q ∨ rInD K x y H Q) := by
  intro σ H Φ L x y v u c S rx ry e Q q
  unfold inE at e
  split at e
  · rename_i c' z hx hy
    cases e
    rw [asStr_ok rx hx, asStr_ok ry hy]
    exact .inl ⟨c', _, rfl, rfl, by simpa using q⟩
  · split at e
    · rename_i d l hd hl
      split at e
      · rename_i hc
        obtain ⟨c1, c2⟩ := Bool.and_eq_true_iff.mp hc
        cases e
        obtain ⟨p, vs, rfl, hp, hr⟩ := contL_ok S ry hl
        have hpl : plOk (.lst l) = true := (Bool.and_eq_true_iff.mp c2).1
        simp only [plOk] at hpl
        refine .inr ⟨_, pys l, datE_ok S rx hd c1, .lst (SqL.of hp) (Reps.dp S.fz l vs hpl hr), shaped_py c1, shaped_py (d := .lst l) c2, ?_⟩
        rw [any_pys]; exact q
      · cases e
    · cases e
theorem ninE_ok {K : PySem.W.Frag} : CmpOk G B ninE (fun x y H Q => (∃ (c : Nat) (z : Str), x = .str ⟨#[c]⟩ ∧ y = .str z ∧ Q (.bl (!decide (c ∈ z.cps.toList))) H) ∨ rNotInD K x y H Q) := by
  intro σ H Φ L x y v u c S rx ry e Q q
  unfold ninE at e
  cases he : inE x y L with
  | none => rw [he] at e; cases e
  | some c' =>
    rw [he] at e
    cases e
    have h := inE_ok (K := K) σ H Φ L x y v u c' S rx ry he (fun v' H' => v' = .bl c' ∧ H' = H) ⟨rfl, rfl⟩
    rcases h with ⟨c1, z, h1, h2, h3⟩ | ⟨d, d', h1, h2, h3, h4, h5⟩
    · refine .inl ⟨c1, z, h1, h2, ?_⟩
      have : decide (c1 ∈ z.cps.toList) = c' := by injection h3.1
      rw [this]; exact q
    · refine .inr ⟨d, d', h1, h2, h3, h4, ?_⟩
      have : (d'.any fun z => PyData.eqv z d) = c' := by injection h5.1
      rw [this]; exact q
theorem hu65 {k : Nat} (hr : Room (k + 1) X.A) : X.A.units + 65 < cLine := by
  have h1 := hr.un
  omega
end
end SS

/-! the data layer: tests, indices, slices, displays, built-ins, calls -/
namespace SS
open PySem PySem.Spec PyProof.Rows L2

section
variable {G : Gx} {B : Base} {Φ Φ' : Fz} {L L' : Loc} {σ : L2.St} {H H' : Hp} {X : Cx} {a b : Expr} {pos : Pos} {ma mb : EM}

theorem de_in {k : Nat} (hr : Room (k + 1) X.A) (ha : PE X a (tE G B ma)) (hb : PE X b (tE G B mb)) (hm : behindInMarks .In b = false := by rfl) : PE X (.Compare a [.In] [b] pos) (tE G B (mB2 (opB inE) ma mb)) := de_cmp (op_in_sign.or (op_inD (hu65 hr))) inE_ok hm ha hb
theorem de_nin {k : Nat} (hr : Room (k + 1) X.A) (ha : PE X a (tE G B ma)) (hb : PE X b (tE G B mb)) (hm : behindInMarks .NotIn b = false := by rfl) : PE X (.Compare a [.NotIn] [b] pos) (tE G B (mB2 (opB ninE) ma mb)) := de_cmp (op_notIn_sign.or (op_notInD (hu65 hr))) ninE_ok hm ha hb
/-- a comparison as a test -/
def mT (m : EM) : TM := fun L => (m L).bind fun p => (asBl p.1).map fun c => (c, p.2)
theorem mT_imp {m : EM} {Q : Bool → Hp → Prop} (h : tT G B (mT m) σ H Q) : tB (tE G B m) σ H Q := by
  obtain ⟨Φ, L, c, L', S, e, k⟩ := h
  unfold mT at e
  cases em : m L with
  | none => rw [em] at e; cases e
  | some p =>
    rw [em] at e
    have e' : (asBl p.1).map (fun c => (c, p.2)) = some (c, L') := e
    cases eb : asBl p.1 with
    | none => rw [eb] at e'; cases e'
    | some c' =>
      rw [eb] at e'
      cases e'
      exact ⟨Φ, L, p.1, p.2, S, em, fun v Φ' H' S' st r _ => ⟨c, asBl_ok r eb, k Φ' H' S' st⟩⟩
theorem dt_cmp {op : CmpOp} {r : R2} {f : EV → EV → Loc → Option Bool} (ho : OpR X (compareOp op) r) (hc : CmpOk G B f r) (hm : behindInMarks op b = false) (ha : PE X a (tE G B ma)) (hb : PE X b (tE G B mb)) :
    PT X (.Compare a [op] [b] pos) (tT G B (mT (mB2 (opB f) ma mb))) :=
  PT.imp (pt_cmpR ho ha hb hm) fun σ H Q h => by
    have h1 := mT_imp h
    exact cmp_imp (H' := H) (hc σ H) (fun H' => hc σ H') h1
theorem dt_lt (ha : PE X a (tE G B ma)) (hb : PE X b (tE G B mb)) : PT X (.Compare a [.Lt] [b] pos) (tT G B (mT (mB2 (opB (iCmp fun i j => decide (i < j))) ma mb))) := dt_cmp op_lt iCmp_ok (nomark _) ha hb
theorem dt_le (ha : PE X a (tE G B ma)) (hb : PE X b (tE G B mb)) : PT X (.Compare a [.LtE] [b] pos) (tT G B (mT (mB2 (opB (iCmp fun i j => decide (i ≤ j))) ma mb))) := dt_cmp op_le iCmp_ok (nomark _) ha hb
theorem dt_gt (ha : PE X a (tE G B ma)) (hb : PE X b (tE G B mb)) : PT X (.Compare a [.Gt] [b] pos) (tT G B (mT (mB2 (opB (iCmp fun i j => decide (j < i))) ma mb))) := dt_cmp op_gt iCmp_ok (nomark _) ha hb
theorem dt_ge (ha : PE X a (tE G B ma)) (hb : PE X b (tE G B mb)) : PT X (.Compare a [.GtE] [b] pos) (tT G B (mT (mB2 (opB (iCmp fun i j => decide (j ≤ i))) ma mb))) := dt_cmp op_ge iCmp_ok (nomark _) ha hb
theorem dt_eq {k : Nat} (hr : Room k X.A) (ha : PE X a (tE G B ma)) (hb : PE X b (tE G B mb)) : PT X (.Compare a [.Eq] [b] pos) (tT G B (mT (mB2 (opB eqE) ma mb))) := dt_cmp (op_eq.or (op_eqD hr.units)) eqE_ok (nomark _) ha hb
theorem dt_ne {k : Nat} (hr : Room k X.A) (ha : PE X a (tE G B ma)) (hb : PE X b (tE G B mb)) : PT X (.Compare a [.NotEq] [b] pos) (tT G B (mT (mB2 (opB neE) ma mb))) := dt_cmp (op_ne.or (op_neD hr.units)) neE_ok (nomark _) ha hb
theorem dt_in {k : Nat} (hr : Room (k + 1) X.A) (ha : PE X a (tE G B ma)) (hb : PE X b (tE G B mb)) (hm : behindInMarks .In b = false := by rfl) : PT X (.Compare a [.In] [b] pos) (tT G B (mT (mB2 (opB inE) ma mb))) := dt_cmp (op_in_sign.or (op_inD (hu65 hr))) inE_ok hm ha hb
theorem dt_nin {k : Nat} (hr : Room (k + 1) X.A) (ha : PE X a (tE G B ma)) (hb : PE X b (tE G B mb)) (hm : behindInMarks .NotIn b = false := by rfl) : PT X (.Compare a [.NotIn] [b] pos) (tT G B (mT (mB2 (opB ninE) ma mb))) := dt_cmp (op_notIn_sign.or (op_notInD (hu65 hr))) ninE_ok hm ha hb
/-- any other expression that gives a bool -/
theorem dt_val {e : Expr} {m : EM} (h : PE X e (tE G B m)) (he : ∀ whole, isTrue e X.env whole = (do let v ← whole; standAt e.pos; holding [v] (truthy v)) := by intro _; rfl) : PT X e (tT G B (mT m)) :=
  PT.imp (pt_val h he) fun σ H Q q => mT_imp q

/-! ### a < b < c -/
def mCh (f g : EV → EV → Loc → Option Bool) (ma mb mc : EM) : EM := fun L => (ma L).bind fun p => (mb p.2).bind fun q => (f p.1 q.1 q.2).bind fun c => if c = true then (mc q.2).bind fun r => (g q.1 r.1 r.2).map fun d => (.fro (.bl d), r.2) else some (.fro (.bl false), q.2)
theorem mCh_imp {c : Expr} {mc : EM} {f g : EV → EV → Loc → Option Bool} {r r' : R2} {Q : VK} (hf : CmpOk G B f r) (hg : CmpOk G B g r') (h : tE G B (mCh f g ma mb mc) σ H Q) : tChain r r' (tE G B ma) (tE G B mb) (tE G B mc) σ H Q := by
  obtain ⟨Φ, L, ev, L', S, e, k⟩ := h
  unfold mCh at e
  cases ea : ma L with
  | none => rw [ea] at e; cases e
  | some p =>
    rw [ea] at e
    have e1 : ((mb p.2).bind fun q => (f p.1 q.1 q.2).bind fun c => if c = true then (mc q.2).bind fun r => (g q.1 r.1 r.2).map fun d => (EV.fro (.bl d), r.2) else some (EV.fro (.bl false), q.2)) = some (ev, L') := e
    cases eb : mb p.2 with
    | none => rw [eb] at e1; cases e1
    | some q =>
      rw [eb] at e1
      have e2 : ((f p.1 q.1 q.2).bind fun c => if c = true then (mc q.2).bind fun r => (g q.1 r.1 r.2).map fun d => (EV.fro (.bl d), r.2) else some (EV.fro (.bl false), q.2)) = some (ev, L') := e1
      cases ef : f p.1 q.1 q.2 with
      | none => rw [ef] at e2; cases e2
      | some cc =>
        rw [ef] at e2
        have e3 : (if cc = true then (mc q.2).bind fun r => (g q.1 r.1 r.2).map fun d => (EV.fro (.bl d), r.2) else some (EV.fro (.bl false), q.2)) = some (ev, L') := e2
        refine ⟨Φ, L, p.1, p.2, S, ea, fun v Φ1 H1 S1 s1 r1 _ => ⟨Φ1, p.2, q.1, q.2, S1, eb, fun u Φ2 H2 S2 s2 r2 _ => ?_⟩⟩
        refine hf σ H2 Φ2 q.2 p.1 q.1 v u cc S2 (r1.step s2) r2 ef _ ⟨cc, rfl, ?_⟩
        cases cc with
        | true =>
          rw [if_pos rfl] at e3 ⊢
          cases ec : mc q.2 with
          | none => rw [ec] at e3; cases e3
          | some t =>
            rw [ec] at e3
            have e4 : ((g q.1 t.1 t.2).map fun d => (EV.fro (.bl d), t.2)) = some (ev, L') := e3
            cases eg : g q.1 t.1 t.2 with
            | none => rw [eg] at e4; cases e4
            | some d =>
              rw [eg] at e4
              cases e4
              exact ⟨Φ2, q.2, t.1, t.2, S2, ec, fun w Φ3 H3 S3 s3 r3 _ => hg σ H3 Φ3 t.2 q.1 t.1 u w d S3 (r2.step s3) r3 eg _ (k _ Φ3 H3 S3 (s1.trans (s2.trans s3)) (by show Rep G Φ3 _ _; simp only [Rep]) trivial)⟩
        | false =>
          rw [if_neg Bool.false_ne_true] at e3 ⊢
          cases e3
          exact k _ Φ2 H2 S2 (s1.trans s2) (by show Rep G Φ2 _ _; simp only [Rep]) trivial
theorem de_chain {c : Expr} {mc : EM} {op op' : CmpOp} {f g : EV → EV → Loc → Option Bool} {r r' : R2} (ho : OpR X (compareOp op) r) (ho' : OpR X (compareOp op') r') (hf : CmpOk G B f r) (hg : CmpOk G B g r') (ha : PE X a (tE G B ma)) (hb : PE X b (tE G B mb)) (hc : PE X c (tE G B mc)) (hm : lastMarks [op, op'] [b, c] = false := by with_unfolding_all rfl) :
    PE X (.Compare a [op, op'] [b, c] pos) (tE G B (mCh f g ma mb mc)) := PE.imp (pe_chain ho ho' ha hb hc hm) fun σ H Q h => mCh_imp (c := c) hf hg h
theorem dt_chain {c : Expr} {mc : EM} {op op' : CmpOp} {f g : EV → EV → Loc → Option Bool} {r r' : R2} (ho : OpR X (compareOp op) r) (ho' : OpR X (compareOp op') r') (hf : CmpOk G B f r) (hg : CmpOk G B g r') (ha : PE X a (tE G B ma)) (hb : PE X b (tE G B mb)) (hc : PE X c (tE G B mc)) (hm : lastMarks [op, op'] [b, c] = false := by with_unfolding_all rfl) :
    PT X (.Compare a [op, op'] [b, c] pos) (tT G B (mT (mCh f g ma mb mc))) := PT.imp (pt_chain ho ho' ha hb hc hm) fun σ H Q h => mCh_imp (c := c) hf hg (mT_imp h)

/-! ### and, or, not, if else -/
variable {rest : List Expr} {uA uB : TM}
def mAnd (A C : TM) : TM := fun L => (A L).bind fun p => if p.1 = true then C p.2 else some (false, p.2)
def mOr (A C : TM) : TM := fun L => (A L).bind fun p => if p.1 = true then some (true, p.2) else C p.2
def mNot (A : TM) : TM := fun L => (A L).map fun p => (!p.1, p.2)
theorem tT_mono {m : TM} {Q Q' : Bool → Hp → Prop} (h : ∀ v H, Q v H → Q' v H) (q : tT G B m σ H Q) : tT G B m σ H Q' := by
  obtain ⟨Φ, L, ev, L', S, e, k⟩ := q
  exact ⟨Φ, L, ev, L', S, e, fun Φ' H' a b => h _ _ (k Φ' H' a b)⟩
theorem bind_inv {α β : Type} {o : Option α} {f : α → Option β} {r : β} (h : o.bind f = some r) : ∃ p, o = some p ∧ f p = some r := by
  cases o with
  | none => cases h
  | some p => exact ⟨p, rfl, h⟩
theorem map_inv {α β : Type} {o : Option α} {f : α → β} {r : β} (h : o.map f = some r) : ∃ p, o = some p ∧ f p = r := by
  cases o with
  | none => cases h
  | some p => exact ⟨p, rfl, by cases h; rfl⟩
theorem dw_and1 (ha : PT X a (tT G B uA)) : PW X (.BoolOp .And [a] pos) (tT G B uA) := pw_and1 ha
theorem dw_or1 (ha : PT X a (tT G B uA)) : PW X (.BoolOp .Or [a] pos) (tT G B uA) := pw_or1 ha
theorem dw_and (ha : PT X a (tT G B uA)) (hb : PW X (.BoolOp .And (b :: rest) pos) (tT G B uB)) : PW X (.BoolOp .And (a :: b :: rest) pos) (tT G B (mAnd uA uB)) :=
  PW.imp (pw_and ha hb) fun σ H Q h => by
    obtain ⟨Φ, L, c, L', S, e, k⟩ := h
    obtain ⟨p, ea, e⟩ := bind_inv e
    refine ⟨Φ, L, p.1, p.2, S, ea, fun Φ1 H1 S1 s1 => ?_⟩
    cases hp : p.1 with
    | true => rw [hp, if_pos rfl] at e; rw [if_pos rfl]; exact ⟨Φ1, p.2, c, L', S1, e, fun Φ2 H2 S2 s2 => k Φ2 H2 S2 (s1.trans s2)⟩
    | false => rw [hp, if_neg Bool.false_ne_true] at e; rw [if_neg Bool.false_ne_true]; cases e; exact k Φ1 H1 S1 s1
theorem dw_or (ha : PT X a (tT G B uA)) (hb : PW X (.BoolOp .Or (b :: rest) pos) (tT G B uB)) : PW X (.BoolOp .Or (a :: b :: rest) pos) (tT G B (mOr uA uB)) :=
  PW.imp (pw_or ha hb) fun σ H Q h => by
    obtain ⟨Φ, L, c, L', S, e, k⟩ := h
    obtain ⟨p, ea, e⟩ := bind_inv e
    refine ⟨Φ, L, p.1, p.2, S, ea, fun Φ1 H1 S1 s1 => ?_⟩
    cases hp : p.1 with
    | true => rw [hp, if_pos rfl] at e; rw [if_pos rfl]; cases e; exact k Φ1 H1 S1 s1
    | false => rw [hp, if_neg Bool.false_ne_true] at e; rw [if_neg Bool.false_ne_true]; exact ⟨Φ1, p.2, c, L', S1, e, fun Φ2 H2 S2 s2 => k Φ2 H2 S2 (s1.trans s2)⟩
theorem dt_not (ha : PT X a (tT G B uA)) : PT X (.UnaryOp .Not a pos) (tT G B (mNot uA)) :=
  PT.imp (pt_not ha) fun σ H Q h => by
    obtain ⟨Φ, L, c, L', S, e, k⟩ := h
    obtain ⟨p, ea, e⟩ := map_inv e
    cases e
    exact ⟨Φ, L, p.1, p.2, S, ea, fun Φ1 H1 S1 s1 => k Φ1 H1 S1 s1⟩
def mAndV (ma mb : EM) : EM := fun L => (ma L).bind fun p => (asBl p.1).bind fun c => if c = true then mb p.2 else some (.fro (.bl false), p.2)
def mOrV (ma mb : EM) : EM := fun L => (ma L).bind fun p => (asBl p.1).bind fun c => if c = true then some (.fro (.bl true), p.2) else mb p.2
def mNotV (ma : EM) : EM := fun L => (ma L).bind fun p => (asBl p.1).map fun c => (.fro (.bl (!c)), p.2)
theorem de_one {op} (h : PE X a (tE G B ma)) : PE X (.BoolOp op [a] pos) (tE G B ma) := pe_one h
theorem de_and (ha : PE X a (tE G B ma)) (hb : PE X (.BoolOp .And (b :: rest) pos) (tE G B mb)) : PE X (.BoolOp .And (a :: b :: rest) pos) (tE G B (mAndV ma mb)) :=
  PE.imp (pe_and ha hb) fun σ H Q h => by
    obtain ⟨Φ, L, ev, L', S, e, k⟩ := h
    obtain ⟨p, ea, e⟩ := bind_inv e
    obtain ⟨c, ec, e⟩ := bind_inv e
    refine ⟨Φ, L, p.1, p.2, S, ea, fun v Φ1 H1 S1 s1 r1 _ => ⟨c, asBl_ok r1 ec, ?_⟩⟩
    cases c with
    | true => rw [if_pos rfl] at e ⊢; exact ⟨Φ1, p.2, ev, L', S1, e, Fin.of_step k s1⟩
    | false => rw [if_neg Bool.false_ne_true] at e ⊢; cases e; exact k _ Φ1 H1 S1 s1 (by show Rep G Φ1 _ _; simp only [Rep]) trivial
theorem de_or (ha : PE X a (tE G B ma)) (hb : PE X (.BoolOp .Or (b :: rest) pos) (tE G B mb)) : PE X (.BoolOp .Or (a :: b :: rest) pos) (tE G B (mOrV ma mb)) :=
  PE.imp (pe_or ha hb) fun σ H Q h => by
    obtain ⟨Φ, L, ev, L', S, e, k⟩ := h
    obtain ⟨p, ea, e⟩ := bind_inv e
    obtain ⟨c, ec, e⟩ := bind_inv e
    refine ⟨Φ, L, p.1, p.2, S, ea, fun v Φ1 H1 S1 s1 r1 _ => ⟨c, asBl_ok r1 ec, ?_⟩⟩
    cases c with
    | true => rw [if_pos rfl] at e ⊢; cases e; exact k _ Φ1 H1 S1 s1 (by show Rep G Φ1 _ _; simp only [Rep]) trivial
    | false => rw [if_neg Bool.false_ne_true] at e ⊢; exact ⟨Φ1, p.2, ev, L', S1, e, Fin.of_step k s1⟩
theorem de_not (ha : PE X a (tE G B ma)) : PE X (.UnaryOp .Not a pos) (tE G B (mNotV ma)) :=
  PE.imp (pe_not ha) fun σ H Q h => by
    obtain ⟨Φ, L, ev, L', S, e, k⟩ := h
    obtain ⟨p, ea, e⟩ := bind_inv e
    obtain ⟨c, ec, e⟩ := map_inv e
    cases e
    exact ⟨Φ, L, p.1, p.2, S, ea, fun v Φ1 H1 S1 s1 r1 _ => ⟨c, asBl_ok r1 ec, k _ Φ1 H1 S1 s1 (by show Rep G Φ1 _ _; simp only [Rep]) trivial⟩⟩
def mIf (t : TM) (ma mb : EM) : EM := fun L => (t L).bind fun p => if p.1 = true then ma p.2 else mb p.2
theorem de_if {c : Expr} (hc : PT X c (tT G B uA)) (ha : PE X a (tE G B ma)) (hb : PE X b (tE G B mb)) : PE X (.IfExp c a b pos) (tE G B (mIf uA ma mb)) :=
  PE.imp (pe_ifExp hc ha hb) fun σ H Q h => by
    obtain ⟨Φ, L, ev, L', S, e, k⟩ := h
    obtain ⟨p, ea, e⟩ := bind_inv e
    refine ⟨Φ, L, p.1, p.2, S, ea, fun Φ1 H1 S1 s1 => ?_⟩
    cases hp : p.1 with
    | true => rw [hp, if_pos rfl] at e; rw [if_pos rfl]; exact ⟨Φ1, p.2, ev, L', S1, e, Fin.of_step k s1⟩
    | false => rw [hp, if_neg Bool.false_ne_true] at e; rw [if_neg Bool.false_ne_true]; exact ⟨Φ1, p.2, ev, L', S1, e, Fin.of_step k s1⟩
/-- x is None -/
def isN : EV → Option Bool
  | .fro .non => some true
  | .fro (.int _) => some false
  | .fro (.str _) => some false
  | .fro (.bl _) => some false
  | .fro (.tup _) => some false
  | .fro (.lst _) => some false
  | _ => none
theorem isN_ok {ev : EV} {v : V} {c : Bool} (r : RepE G B Φ L σ H ev v) (e : isN ev = some c) : decide (v = .non) = c := by
  unfold isN at e
  split at e <;> cases e
  all_goals
    have r' := r
    simp only [RepE, Rep] at r'
    first
      | (subst r'; rfl)
      | (obtain ⟨x, y, r', _⟩ := r'; subst r'; rfl)
theorem dt_isN {j p2} (ha : PE X a (tE G B ma)) : PT X (.Compare a [.Is] [.Constant .none j p2] pos) (tT G B fun L => (ma L).bind fun p => (isN p.1).map fun c => (c, p.2)) :=
  PT.imp (pt_cmp (pc_isN ha) rfl) fun σ H Q h => by
    obtain ⟨Φ, L, c, L', S, e, k⟩ := h
    obtain ⟨p, ea, e⟩ := bind_inv e
    obtain ⟨c', ec, e⟩ := map_inv e
    cases e
    exact ⟨Φ, L, p.1, p.2, S, ea, fun v Φ1 H1 S1 s1 r1 _ => ⟨_, rfl, by rw [isN_ok r1 ec]; exact k Φ1 H1 S1 s1⟩⟩
theorem dt_notN {j p2} (ha : PE X a (tE G B ma)) : PT X (.Compare a [.IsNot] [.Constant .none j p2] pos) (tT G B fun L => (ma L).bind fun p => (isN p.1).map fun c => (!c, p.2)) :=
  PT.imp (pt_cmp (pc_notN ha) rfl) fun σ H Q h => by
    obtain ⟨Φ, L, c, L', S, e, k⟩ := h
    obtain ⟨p, ea, e⟩ := bind_inv e
    obtain ⟨c', ec, e⟩ := map_inv e
    cases e
    exact ⟨Φ, L, p.1, p.2, S, ea, fun v Φ1 H1 S1 s1 r1 _ => ⟨_, rfl, by rw [isN_ok r1 ec]; exact k Φ1 H1 S1 s1⟩⟩

/-! ### items -/
theorem atI_reps {ds : List D} {vs : List V} {i : Int} {d : D} (r : Reps G Φ ds vs) (e : atI ds i = some d) : ∃ v, atI vs i = some v ∧ Rep G Φ d v := by
  unfold atI at e ⊢
  rw [r.length] at e
  cases h : ixN vs.length i with
  | none => rw [h] at e; cases e
  | some j => rw [h] at e; exact r.get e
def opIx (a b : EV) (L : Loc) : Option EV := (asInt b).bind fun i => match contL a L with
  | some l => (atI l i).map .fro
  | none => match asTup a with
    | some l => (atI l i).map .fro
    | none => match asStr a with
      | some x => if x.length ≤ LIM then (atI x i).map fun c => .fro (.str [c]) else none
      | none => none
theorem de_ix (ha : PE X a (tE G B ma)) (hb : PE X b (tE G B mb)) (hs : PlainIx b := by exact fun _ _ => rfl) : PE X (.Subscript a b pos) (tE G B (mB2 (pu2 opIx) ma mb)) := by
  refine PE.imp (pe_ix ix_seq ha hb hs) fun σ H Q h => ?_
  obtain ⟨Φ0, L0, e0, L0', S0, h0, k0⟩ := e2_of h
  refine ⟨Φ0, L0, e0, L0', S0, h0, fun v1 Φ1 H1 S1 s1 r1 n1 => ?_⟩
  obtain ⟨Φ2, L2', e2, L2'', S2, h2, k2⟩ := k0 v1 Φ1 H1 S1 s1 r1 n1
  refine ⟨Φ2, L2', e2, L2'', S2, h2, fun v2 Φ3 H3 S3 s3 r3 n3 => ?_⟩
  obtain ⟨Φ, L, x, y, ev, L', S, rx, ry, e, k⟩ := k2 v2 Φ3 H3 S3 s3 r3 n3
  obtain ⟨e, rfl⟩ := pu_inv e
  obtain ⟨i, hi, e⟩ := bind_inv e
  have ey := asInt_ok ry hi
  cases hl : contL x L' with
  | some l =>
    rw [hl] at e
    obtain ⟨d, hd, rfl⟩ := map_inv e
    obtain ⟨p, vs, rfl, hp, hr⟩ := contL_ok S rx hl
    obtain ⟨w, hw, rw'⟩ := atI_reps hr hd
    exact .inl ⟨p, vs, i, w, rfl, ey, SqL.of hp, hw, k.fro S rw'⟩
  | none =>
    rw [hl] at e
    cases ht : asTup x with
    | some l =>
      simp only [ht] at e
      obtain ⟨d, hd, rfl⟩ := map_inv e
      obtain ⟨p, vs, rfl, hp, hr⟩ := asTup_ok S rx ht
      obtain ⟨w, hw, rw'⟩ := atI_reps hr hd
      exact .inr (.inl ⟨p, vs, i, w, rfl, ey, hp.sq, hw, k.fro S rw'⟩)
    | none =>
      simp only [ht] at e
      cases hx : asStr x with
      | some z =>
        simp only [hx] at e
        split at e
        · rename_i hlen
          obtain ⟨c, hc, rfl⟩ := map_inv e
          refine .inr (.inr ⟨⟨z.toArray⟩, i, c, asStr_ok rx hx, ey, by rw [len_str']; exact hlen, by simpa using hc, k.fro S (by simp only [Rep])⟩)
        · cases e
      | none => simp only [hx] at e; cases e

/-! ### slices -/
abbrev OM := Loc → Option (Option Int × Loc)
def tOp' (G : Gx) (B : Base) (m : OM) : TO := fun σ H Q => ∃ Φ L o L', Sim G B Φ L σ H ∧ m L = some (o, L') ∧ ∀ Φ' H', Sim G B Φ' L' σ H' → Step Φ L σ H Φ' L' H' → Q o H'
def mNo : OM := fun L => some (none, L)
def mSo (ma : EM) : OM := fun L => (ma L).bind fun p => (asInt p.1).map fun i => (some i, p.2)
theorem do_none : PO X none (tOp' G B mNo) := ⟨fun pins s σ H Q I h => po_none.run pins s σ H Q I (by
  obtain ⟨Φ, L, o, L', S, e, k⟩ := h
  cases e
  exact k Φ H S Step.refl)⟩
theorem do_some {e : Expr} (he : PE X e (tE G B ma)) : PO X (some e) (tOp' G B (mSo ma)) := ⟨fun pins s σ H Q I h => (po_some he).run pins s σ H Q I (by
  obtain ⟨Φ, L, o, L', S, e, k⟩ := h
  obtain ⟨p, ea, e⟩ := bind_inv e
  obtain ⟨i, ei, e⟩ := map_inv e
  cases e
  exact ⟨Φ, L, p.1, p.2, S, ea, fun v Φ1 H1 S1 s1 r1 _ => ⟨i, asInt_ok r1 ei, k Φ1 H1 S1 s1⟩⟩)⟩
def cutG {α : Type} (xs : List α) (lo hi : Option Int) : List α := (xs.drop (HT.sIx xs.length 0 lo)).take (HT.sIx xs.length xs.length hi - HT.sIx xs.length 0 lo)
def opSl (a : EV) (lo hi : Option Int) (L : Loc) : Option EV := match contL a L with
  | some l => some (.tmp (cutG l lo hi))
  | none => match asTup a with
    | some l => some (.fro (.tup (cutG l lo hi)))
    | none => match asStr a with
      | some x => if x.length ≤ LIM then some (.fro (.str (cutG x lo hi))) else none
      | none => none
def mSl (ma : EM) (ml mh : OM) : EM := fun L => (ma L).bind fun p => (ml p.2).bind fun q => (mh q.2).bind fun r => (opSl p.1 q.1 r.1 r.2).map fun ev => (ev, r.2)
theorem cut_reps {ds : List D} {vs : List V} {lo hi : Option Int} (r : Reps G Φ ds vs) : Reps G Φ (cutG ds lo hi) (cutV vs lo hi) := by
  unfold cutG cutV
  rw [r.length]
  exact (r.drop _).take _
theorem de_slice {lo hi : Option Expr} {ml mh : OM} {p2 : Pos} (ha : PE X a (tE G B ma)) (hl : PO X lo (tOp' G B ml)) (hu : PO X hi (tOp' G B mh)) : PE X (.Subscript a (.Slice lo hi none p2) pos) (tE G B (mSl ma ml mh)) := by
  refine PE.imp (pe_slice (sl_list.or (sl_tupF.or sl_str)) ha hl hu) fun σ H Q h => ?_
  obtain ⟨Φ, L, ev, L', S, e, k⟩ := h
  obtain ⟨p, ea, e⟩ := bind_inv e
  obtain ⟨q, eq, e⟩ := bind_inv e
  obtain ⟨r, er, e⟩ := bind_inv e
  obtain ⟨ev', ev1, e⟩ := map_inv e
  cases e
  refine ⟨Φ, L, p.1, p.2, S, ea, fun v Φ1 H1 S1 s1 r1 _ => ⟨Φ1, p.2, q.1, q.2, S1, eq, fun Φ2 H2 S2 s2 => ⟨Φ2, q.2, r.1, r.2, S2, er, fun Φ3 H3 S3 s3 => ?_⟩⟩⟩
  have r3 := (r1.step s2).step s3
  have st := s1.trans (s2.trans s3)
  unfold opSl at ev1
  cases hl : contL p.1 r.2 with
  | some l =>
    rw [hl] at ev1
    cases ev1
    obtain ⟨c, vs, rfl, hp, hr⟩ := contL_ok S3 r3 hl
    refine .inl ⟨c, vs, rfl, SqL.of hp, fun t ht => ?_⟩
    obtain ⟨S', st', r', n'⟩ := S3.newTmp ht (cut_reps (lo := q.1) (hi := r.1) hr)
    exact k _ _ _ S' (st.trans st') r' (n'.back st.dom)
  | none =>
    rw [hl] at ev1
    cases ht : asTup p.1 with
    | some l =>
      simp only [ht] at ev1
      cases ev1
      obtain ⟨c, vs, rfl, hp, hr⟩ := asTup_ok S3 r3 ht
      refine .inr (.inl ⟨c, vs, rfl, hp.sq, fun hw => ?_, fun _ t ob hn hob => ?_⟩)
      · have ec : cutG l q.1 r.1 = l := by
          unfold cutG
          rw [← hr.length] at hw
          rw [hw.1, hw.2]
          simp
        refine k _ Φ3 H3 S3 st ?_ trivial
        show Rep G Φ3 (.tup (cutG l q.1 r.1)) _
        rw [ec]
        exact asTup_rep r3 ht
      · obtain ⟨Φ', S', st', hp'⟩ := S3.newTup (vs := cutV vs q.1 r.1) hn hob
        exact k _ Φ' _ S' (st.trans st') (by show Rep G Φ' _ _; simp only [Rep]; exact ⟨t, _, rfl, hp', Reps.mono st'.le _ _ (cut_reps hr)⟩) trivial
    | none =>
      simp only [ht] at ev1
      cases hx : asStr p.1 with
      | some z =>
        simp only [hx] at ev1
        split at ev1
        · rename_i hlen
          cases ev1
          refine .inr (.inr ⟨⟨z.toArray⟩, asStr_ok r3 hx, by rw [len_str']; exact hlen, ?_⟩)
          refine k _ Φ3 H3 S3 st ?_ trivial
          show Rep G Φ3 (.str (cutG z q.1 r.1)) _
          simp only [Rep, cutS, cutG, len_str']
        · cases ev1
      | none => simp only [hx] at ev1; cases ev1

/-! ### displays -/
def frosOf : List EV → Option (List D)
  | [] => some []
  | .fro d :: r => (frosOf r).map (d :: ·)
  | _ => none
theorem fros_ok : ∀ {evs : List EV} {vs : List V} {ds : List D}, RepEs G B Φ L σ H evs vs → frosOf evs = some ds → Reps G Φ ds vs
  | [], _, _, .nil, e => by cases e; exact Reps.nil
  | .fro d :: r, _, ds, .cons h t, e => by
    unfold frosOf at e
    obtain ⟨dr, e1, rfl⟩ := map_inv e
    exact Reps.cons h (fros_ok t e1)
  | .tmp _ :: _, _, _, _, e => by cases e
  | .tmpd _ _ :: _, _, _, _, e => by cases e
  | .tmpk _ :: _, _, _, _, e => by cases e
  | .loc _ :: _, _, _, _, e => by cases e
theorem fros_len : ∀ {evs : List EV} {ds : List D}, frosOf evs = some ds → ds.length = evs.length
  | [], _, e => by cases e; rfl
  | .fro d :: r, ds, e => by
    unfold frosOf at e
    obtain ⟨dr, e1, rfl⟩ := map_inv e
    rw [List.length_cons, List.length_cons, fros_len e1]
  | .tmp _ :: _, _, e => by cases e
  | .tmpd _ _ :: _, _, e => by cases e
  | .tmpk _ :: _, _, e => by cases e
  | .loc _ :: _, _, e => by cases e
def mTup (m : AM) : EM := fun L => (m L).bind fun p => (frosOf p.1).bind fun ds => if ds.length ≤ 1000 then some (.fro (.tup ds), p.2) else none
def mLst (m : AM) : EM := fun L => (m L).bind fun p => (frosOf p.1).bind fun ds => if ds.length ≤ 1000 then some (.tmp ds, p.2) else none
theorem le1000 {n : Nat} (h : n ≤ 1000) : n ≤ sizeLine := Nat.le_of_lt (small1000 h)
theorem de_tup {es : List Expr} {x1} {m : AM} (h : PA X es (tA G B m)) : PE X (.Tuple es x1 pos) (tE G B (mTup m)) :=
  PE.imp (pe_tupF h) fun σ H Q q => by
    obtain ⟨Φ, L, ev, L', S, e, k⟩ := q
    obtain ⟨p, ea, e⟩ := bind_inv e
    obtain ⟨ds, ed, e⟩ := bind_inv e
    split at e
    · rename_i hl
      cases e
      refine ⟨Φ, L, p.1, p.2, S, ea, fun vs Φ1 H1 S1 s1 r1 => ?_⟩
      have hr := fros_ok r1 ed
      refine ⟨by rw [length_vs hr]; exact le1000 hl, fun t ob ht hob => ?_⟩
      obtain ⟨Φ', S', st', hp'⟩ := S1.newTup (vs := vs) ht hob
      exact k _ Φ' _ S' (s1.trans st') (by show Rep G Φ' _ _; simp only [Rep]; exact ⟨t, _, rfl, hp', Reps.mono st'.le _ _ hr⟩) trivial
    · cases e
theorem de_lst {es : List Expr} {m : AM} (h : PA X es (tA G B m)) : PE X (.List es pos) (tE G B (mLst m)) :=
  PE.imp (pe_lst h) fun σ H Q q => by
    obtain ⟨Φ, L, ev, L', S, e, k⟩ := q
    obtain ⟨p, ea, e⟩ := bind_inv e
    obtain ⟨ds, ed, e⟩ := bind_inv e
    split at e
    · rename_i hl
      cases e
      refine ⟨Φ, L, p.1, p.2, S, ea, fun vs Φ1 H1 S1 s1 r1 => ?_⟩
      have hr := fros_ok r1 ed
      refine ⟨by rw [length_vs hr]; exact le1000 hl, fun t ht => ?_⟩
      obtain ⟨S', st', r', n'⟩ := S1.newTmp ht hr
      exact k _ _ _ S' (s1.trans st') r' (n'.back s1.dom)
    · cases e

/-! ### built-ins -/
def opLen : List EV → Loc → Option EV
  | [a], L => match contL a L with
    | some l => some (.fro (.int l.length))
    | none => match asTup a with
      | some l => some (.fro (.int l.length))
      | none => match asStr a with
        | some x => if x.length ≤ LIM then some (.fro (.int x.length)) else none
        | none => none
  | _, _ => none
theorem one_inv {a : EV} {vs : List V} (r : RepEs G B Φ L σ H [a] vs) : ∃ v, vs = [v] ∧ RepE G B Φ L σ H a v := by
  cases r with
  | cons h t => cases t; exact ⟨_, rfl, h⟩
theorem two_inv {a b : EV} {vs : List V} (r : RepEs G B Φ L σ H [a, b] vs) : ∃ v u, vs = [v, u] ∧ RepE G B Φ L σ H a v ∧ RepE G B Φ L σ H b u := by
  cases r with
  | cons h t => obtain ⟨u, rfl, hu⟩ := one_inv t; exact ⟨_, u, rfl, h, hu⟩
variable {e : Expr} {es : List Expr} {m : AM} {x : Str} {p : Pos}
theorem de_len (hg : Gl X "len") (hm : X.mg "len" = none) (ha : PA X (e :: es) (tA G B m)) (he : starEach (e :: es) X.env = (false, eval e X.env) :: starEach es X.env := by rfl) (hpl : (backTo pos (starEach es X.env)).any (·.1) = false := by rfl) : PE X (.Call (.Name "len" p) (e :: es) [] pos) (tE G B (mBN (puN opLen) m)) :=
  PE.imp (pe_callB call_len hg hm boot_len ha (he := he) (hpl := hpl)) fun σ H Q h => by
    obtain ⟨Φ0, L0, e0, L0', S0, h0, k0⟩ := eN_of h
    refine ⟨Φ0, L0, e0, L0', S0, h0, fun vs Φ1 H1 S1 s1 r1 => ?_⟩
    obtain ⟨Φ, L, evs, ev, L', S, rx, e, k⟩ := k0 vs Φ1 H1 S1 s1 r1
    obtain ⟨e, rfl⟩ := pu_inv e
    unfold opLen at e
    split at e
    · rename_i a _
      obtain ⟨v, rfl, rv⟩ := one_inv rx
      cases hl : contL a L' with
      | some l =>
        rw [hl] at e
        cases e
        obtain ⟨c, us, rfl, hp, hr⟩ := contL_ok S rv hl
        exact ⟨_, us.length, rfl, .inl ⟨us, SqL.of hp, rfl⟩, k.fro S (by simp only [Rep, hr.length])⟩
      | none =>
        rw [hl] at e
        cases ht : asTup a with
        | some l =>
          simp only [ht] at e
          cases e
          obtain ⟨c, us, rfl, hp, hr⟩ := asTup_ok S rv ht
          exact ⟨_, us.length, rfl, .inr ⟨us, hp.sq, rfl⟩, k.fro S (by simp only [Rep, hr.length])⟩
        | none =>
          simp only [ht] at e
          cases hx : asStr a with
          | some z =>
            simp only [hx] at e
            split at e
            · rename_i hlen
              cases e
              exact ⟨.str ⟨z.toArray⟩, z.length, by rw [asStr_ok rv hx], (show (⟨z.toArray⟩ : PySem.Str).length ≤ sizeLine ∧ z.length = (⟨z.toArray⟩ : PySem.Str).length from ⟨by rw [len_str']; exact hlen, by rw [len_str']⟩), k.fro S (by simp only [Rep])⟩
            · cases e
          | none => simp only [hx] at e; cases e
    · cases e
def opTuple : List EV → Loc → Option EV
  | [a], L => match contL a L with
    | some l => some (.fro (.tup l))
    | none => match asTup a with
      | some l => some (.fro (.tup l))
      | none => none
  | _, _ => none
theorem de_tuple (hg : Gl X "tuple") (hm : X.mg "tuple" = none) (ha : PA X (e :: es) (tA G B m)) (hv : bootBuiltins "tuple" = some (.type "tuple") := by decide +kernel) (he : starEach (e :: es) X.env = (false, eval e X.env) :: starEach es X.env := by rfl) (hpl : (backTo pos (starEach es X.env)).any (·.1) = false := by rfl) : PE X (.Call (.Name "tuple" p) (e :: es) [] pos) (tE G B (mBN (puN opTuple) m)) :=
  PE.imp (pe_callTy call_tupF hg hm hv ha (he := he) (hpl := hpl)) fun σ H Q h => by
    obtain ⟨Φ0, L0, e0, L0', S0, h0, k0⟩ := eN_of h
    refine ⟨Φ0, L0, e0, L0', S0, h0, fun vs Φ1 H1 S1 s1 r1 => ?_⟩
    obtain ⟨Φ, L, evs, ev, L', S, rx, e, k⟩ := k0 vs Φ1 H1 S1 s1 r1
    obtain ⟨e, rfl⟩ := pu_inv e
    unfold opTuple at e
    split at e
    · rename_i a _
      obtain ⟨v, rfl, rv⟩ := one_inv rx
      cases hl : contL a L' with
      | some l =>
        rw [hl] at e
        cases e
        obtain ⟨c, us, rfl, hp, hr⟩ := contL_ok S rv hl
        refine ⟨c, us, rfl, .inl ⟨SqL.of hp, fun t ob ht hob => ?_⟩⟩
        obtain ⟨Φ', S', st', hp'⟩ := S.newTup (vs := us) ht hob
        exact k _ Φ' _ S' st' (by show Rep G Φ' _ _; simp only [Rep]; exact ⟨t, _, rfl, hp', Reps.mono st'.le _ _ hr⟩) trivial
      | none =>
        rw [hl] at e
        cases ht : asTup a with
        | some l =>
          simp only [ht] at e
          cases e
          obtain ⟨c, us, rfl, hp, hr⟩ := asTup_ok S rv ht
          exact ⟨c, us, rfl, .inr ⟨hp.sq, k.fro S (asTup_rep rv ht)⟩⟩
        | none => simp only [ht] at e; cases e
    · cases e
def opList : List EV → Loc → Option EV
  | [a], L => match contL a L with
    | some l => some (.tmp l)
    | none => match asTup a with
      | some l => some (.tmp l)
      | none => none
  | _, _ => none
theorem de_list (hg : Gl X "list") (hm : X.mg "list" = none) (ha : PA X (e :: es) (tA G B m)) (hv : bootBuiltins "list" = some (.type "list") := by decide +kernel) (he : starEach (e :: es) X.env = (false, eval e X.env) :: starEach es X.env := by rfl) (hpl : (backTo pos (starEach es X.env)).any (·.1) = false := by rfl) : PE X (.Call (.Name "list" p) (e :: es) [] pos) (tE G B (mBN (puN opList) m)) :=
  PE.imp (pe_callTy call_list_of hg hm hv ha (he := he) (hpl := hpl)) fun σ H Q h => by
    obtain ⟨Φ0, L0, e0, L0', S0, h0, k0⟩ := eN_of h
    refine ⟨Φ0, L0, e0, L0', S0, h0, fun vs Φ1 H1 S1 s1 r1 => ?_⟩
    obtain ⟨Φ, L, evs, ev, L', S, rx, e, k⟩ := k0 vs Φ1 H1 S1 s1 r1
    obtain ⟨e, rfl⟩ := pu_inv e
    unfold opList at e
    split at e
    · rename_i a _
      obtain ⟨v, rfl, rv⟩ := one_inv rx
      cases hl : contL a L' with
      | some l =>
        rw [hl] at e
        cases e
        obtain ⟨c, us, rfl, hp, hr⟩ := contL_ok S rv hl
        refine ⟨c, us, rfl, .inl (SqL.of hp), fun t ht => ?_⟩
        obtain ⟨S', st', r', n'⟩ := S.newTmp ht hr
        exact k _ _ _ S' st' r' n'
      | none =>
        rw [hl] at e
        cases ht : asTup a with
        | some l =>
          simp only [ht] at e
          cases e
          obtain ⟨c, us, rfl, hp, hr⟩ := asTup_ok S rv ht
          refine ⟨c, us, rfl, .inr (hp.sq), fun t ht => ?_⟩
          obtain ⟨S', st', r', n'⟩ := S.newTmp ht hr
          exact k _ _ _ S' st' r' n'
        | none => simp only [ht] at e; cases e
    · cases e
/-- a list of truth values -/
def blsOf : List D → Option (List Bool)
  | [] => some []
  | .bl b :: r => (blsOf r).map (b :: ·)
  | _ => none
theorem bls_ok : ∀ {ds : List D} {vs : List V} {bs : List Bool}, Reps G Φ ds vs → blsOf ds = some bs → vs = bs.map V.bl
  | [], vs, bs, h, e => by simp only [Reps] at h; subst h; cases e; rfl
  | .bl b :: r, vs, bs, h, e => by
    unfold blsOf at e
    obtain ⟨br, e1, rfl⟩ := map_inv e
    simp only [Reps] at h
    obtain ⟨v, vr, rfl, h1, h2⟩ := h
    simp only [Rep] at h1
    subst h1
    rw [bls_ok h2 e1]
    rfl
  | .non :: _, _, _, _, e => by cases e
  | .int _ :: _, _, _, _, e => by cases e
  | .str _ :: _, _, _, _, e => by cases e
  | .tup _ :: _, _, _, _, e => by cases e
  | .row _ :: _, _, _, _, e => by cases e
  | .lst _ :: _, _, _, _, e => by cases e
  | .mach _ _ :: _, _, _, _, e => by cases e
  | .obj _ _ :: _, _, _, _, e => by cases e
  | .dct _ _ :: _, _, _, _, e => by cases e
def opAllAny (f : List Bool → Bool) : List EV → Loc → Option EV
  | [a], L => (contL a L).bind fun l => (blsOf l).map fun bs => .fro (.bl (f bs))
  | _, _ => none
theorem opAllAny_imp {f : List Bool → Bool} {Q : VK} (h : tE G B (mBN (puN (opAllAny f)) m) σ H Q) : tA G B m σ H fun vs H1 => ∃ (a : Addr) (bs : List Bool), vs = [V.ref a] ∧ SqL X.K H1 a (bs.map V.bl) ∧ Q (.bl (f bs)) H1 := by
  obtain ⟨Φ0, L0, e0, L0', S0, h0, k0⟩ := eN_of h
  refine ⟨Φ0, L0, e0, L0', S0, h0, fun vs Φ1 H1 S1 s1 r1 => ?_⟩
  obtain ⟨Φ, L, evs, ev, L', S, rx, e, k⟩ := k0 vs Φ1 H1 S1 s1 r1
  obtain ⟨e, rfl⟩ := pu_inv e
  unfold opAllAny at e
  split at e
  · rename_i a _
    obtain ⟨v, rfl, rv⟩ := one_inv rx
    obtain ⟨l, hl, e⟩ := bind_inv e
    obtain ⟨bs, hb, rfl⟩ := map_inv e
    obtain ⟨c, us, rfl, hp, hr⟩ := contL_ok S rv hl
    exact ⟨c, bs, rfl, by rw [← bls_ok hr hb]; exact SqL.of hp, k.fro S (by simp only [Rep])⟩
  · cases e
theorem de_all (hc : X.calm = true) (hg : Gl X "all") (hm : X.mg "all" = none) (ha : PA X (e :: es) (tA G B m)) (hv : bootBuiltins "all" = some (.builtin "all") := by decide +kernel) (he : starEach (e :: es) X.env = (false, eval e X.env) :: starEach es X.env := by rfl) (hpl : (backTo pos (starEach es X.env)).any (·.1) = false := by rfl) : PE X (.Call (.Name "all" p) (e :: es) [] pos) (tE G B (mBN (puN (opAllAny fun bs => bs.all id)) m)) :=
  PE.imp (pe_callB (cr_all hc) hg hm hv ha (he := he) (hpl := hpl)) fun σ H Q h => opAllAny_imp h
theorem de_any (hc : X.calm = true) (hg : Gl X "any") (hm : X.mg "any" = none) (ha : PA X (e :: es) (tA G B m)) (hv : bootBuiltins "any" = some (.builtin "any") := by decide +kernel) (he : starEach (e :: es) X.env = (false, eval e X.env) :: starEach es X.env := by rfl) (hpl : (backTo pos (starEach es X.env)).any (·.1) = false := by rfl) : PE X (.Call (.Name "any" p) (e :: es) [] pos) (tE G B (mBN (puN (opAllAny fun bs => bs.any id)) m)) :=
  PE.imp (pe_callB (cr_any hc) hg hm hv ha (he := he) (hpl := hpl)) fun σ H Q h => opAllAny_imp h
def opInt : List EV → Loc → Option EV
  | [a], _ => (asInt a).map fun i => .fro (.int i)
  | _, _ => none
theorem de_intf (hg : Gl X "int") (hm : X.mg "int" = none) (ha : PA X (e :: es) (tA G B m)) (hv : bootBuiltins "int" = some (.type "int") := by decide +kernel) (he : starEach (e :: es) X.env = (false, eval e X.env) :: starEach es X.env := by rfl) (hpl : (backTo pos (starEach es X.env)).any (·.1) = false := by rfl) : PE X (.Call (.Name "int" p) (e :: es) [] pos) (tE G B (mBN (puN opInt) m)) :=
  PE.imp (pe_callTy call_int1 hg hm hv ha (he := he) (hpl := hpl)) fun σ H Q h => by
    obtain ⟨Φ0, L0, e0, L0', S0, h0, k0⟩ := eN_of h
    refine ⟨Φ0, L0, e0, L0', S0, h0, fun vs Φ1 H1 S1 s1 r1 => ?_⟩
    obtain ⟨Φ, L, evs, ev, L', S, rx, e, k⟩ := k0 vs Φ1 H1 S1 s1 r1
    obtain ⟨e, rfl⟩ := pu_inv e
    unfold opInt at e
    split at e
    · rename_i a _
      obtain ⟨v, rfl, rv⟩ := one_inv rx
      obtain ⟨i, hi, rfl⟩ := map_inv e
      exact .inl ⟨i, by rw [asInt_ok rv hi], k.fro S (by simp only [Rep])⟩
    · cases e
def opMin : List EV → Loc → Option EV
  | [a, b], _ => (asInt a).bind fun i => (asInt b).map fun j => .fro (.int (if j < i then j else i))
  | _, _ => none
theorem de_min (hc : X.calm = true) (hg : Gl X "min") (hm : X.mg "min" = none) (ha : PA X (e :: es) (tA G B m)) (hv : bootBuiltins "min" = some (.builtin "min") := by decide +kernel) (he : starEach (e :: es) X.env = (false, eval e X.env) :: starEach es X.env := by rfl) (hpl : (backTo pos (starEach es X.env)).any (·.1) = false := by rfl) : PE X (.Call (.Name "min" p) (e :: es) [] pos) (tE G B (mBN (puN opMin) m)) :=
  PE.imp (pe_callB (call_min2 hc) hg hm hv ha (he := he) (hpl := hpl)) fun σ H Q h => by
    obtain ⟨Φ0, L0, e0, L0', S0, h0, k0⟩ := eN_of h
    refine ⟨Φ0, L0, e0, L0', S0, h0, fun vs Φ1 H1 S1 s1 r1 => ?_⟩
    obtain ⟨Φ, L, evs, ev, L', S, rx, e, k⟩ := k0 vs Φ1 H1 S1 s1 r1
    obtain ⟨e, rfl⟩ := pu_inv e
    unfold opMin at e
    split at e
    · rename_i a b _
      obtain ⟨v, u, rfl, rv, ru⟩ := two_inv rx
      obtain ⟨i, hi, e⟩ := bind_inv e
      obtain ⟨j, hj, rfl⟩ := map_inv e
      exact ⟨i, j, by rw [asInt_ok rv hi, asInt_ok ru hj], k.fro S (by simp only [Rep])⟩
    · cases e
/-- texts in a list -/
def strsOf : List D → Option (List (List Nat))
  | [] => some []
  | .str x :: r => (strsOf r).map (x :: ·)
  | _ => none
theorem strs_ok : ∀ {ds : List D} {vs : List V} {xs : List (List Nat)}, Reps G Φ ds vs → strsOf ds = some xs → vs = (xs.map fun x => (⟨x.toArray⟩ : PySem.Str)).map V.str
  | [], vs, bs, h, e => by simp only [Reps] at h; subst h; cases e; rfl
  | .str b :: r, vs, bs, h, e => by
    unfold strsOf at e
    obtain ⟨br, e1, rfl⟩ := map_inv e
    simp only [Reps] at h
    obtain ⟨v, vr, rfl, h1, h2⟩ := h
    simp only [Rep] at h1
    subst h1
    rw [strs_ok h2 e1]
    rfl
  | .non :: _, _, _, _, e => by cases e
  | .int _ :: _, _, _, _, e => by cases e
  | .bl _ :: _, _, _, _, e => by cases e
  | .tup _ :: _, _, _, _, e => by cases e
  | .row _ :: _, _, _, _, e => by cases e
  | .lst _ :: _, _, _, _, e => by cases e
  | .mach _ _ :: _, _, _, _, e => by cases e
  | .obj _ _ :: _, _, _, _, e => by cases e
  | .dct _ _ :: _, _, _, _, e => by cases e
/-- "".join(a list of texts) -/
def opJoin (a b : EV) (L : Loc) : Option EV := match asStr a with
  | some [] => (contL b L).bind fun l => (strsOf l).bind fun xs => if (xs.map List.length).sum ≤ LIM then some (.fro (.str xs.flatten)) else none
  | _ => none
theorem joinL_nil : ∀ xs : List (List Nat), TL.joinL [] xs = xs.flatten
  | [] => rfl
  | [p] => by simp [TL.joinL]
  | p :: q :: r => by
    show p ++ ([] ++ TL.joinL [] (q :: r)) = _
    rw [joinL_nil (q :: r)]
    simp
theorem join_nil (xs : List (List Nat)) : Txt.join (⟨([] : List Nat).toArray⟩ : PySem.Str) (xs.map fun x => ⟨x.toArray⟩) = ⟨xs.flatten.toArray⟩ := by
  refine TL.ext_tl ?_
  rw [TL.join_eq, TL.tl_join]
  have h1 : (xs.map fun x => (⟨x.toArray⟩ : PySem.Str)).map TL.tl = xs := by
    rw [List.map_map]
    have : (TL.tl ∘ fun x => (⟨x.toArray⟩ : PySem.Str)) = fun x : List Nat => x := by funext x; simp [TL.tl]
    rw [this, List.map_id']
  have h2 : TL.tl (⟨([] : List Nat).toArray⟩ : PySem.Str) = [] := by simp [TL.tl]
  rw [h1, h2, joinL_nil]
theorem sum_len (xs : List (List Nat)) : ((xs.map fun x => (⟨x.toArray⟩ : PySem.Str)).map (·.length)).sum = (xs.map List.length).sum := by
  congr 1
  rw [List.map_map]
  refine List.map_congr_left fun x _ => ?_
  simp [PySem.Str.length]
theorem de_join {o : Expr} {apos : Pos} {mo me : EM} (ho : PE X o (tE G B mo)) (he : PE X e (tE G B me)) (hs : starEach [e] X.env = [(false, eval e X.env)] := by rfl) (hbase : attributeBase o "join" X.env (eval o X.env) = eval o X.env := by rfl) (hline : (apos.endLine == pos.line) = true := by rfl) :
    PE X (.Call (.Attribute o "join" apos) [e] [] pos) (tE G B (mB2 (pu2 opJoin) mo me)) := by
  refine PE.imp (pe_join ho he hs hbase hline) fun σ H Q h => ?_
  obtain ⟨Φ, L, ev, L', S, w1, k⟩ := h
  obtain ⟨p, ea, w2⟩ := bind_inv w1
  obtain ⟨q, eq, w3⟩ := bind_inv w2
  obtain ⟨e, rfl⟩ : opJoin p.1 q.1 q.2 = some ev ∧ L' = q.2 := pu_inv w3
  clear w1 w2 w3
  unfold opJoin at e
  split at e
  · rename_i hx
    obtain ⟨l, hl, e⟩ := bind_inv e
    obtain ⟨xs, hxs, e⟩ := bind_inv e
    split at e
    · rename_i hz
      cases e
      refine ⟨Φ, L, p.1, p.2, S, ea, fun v Φ1 H1 S1 s1 r1 _ => ?_⟩
      have ev := asStr_ok r1 hx
      subst ev
      refine ⟨⟨_, rfl⟩, Φ1, p.2, q.1, q.2, S1, eq, fun u Φ2 H2 S2 s2 r2 _ => ?_⟩
      obtain ⟨c, us, rfl, hp, hr⟩ := contL_ok S2 r2 hl
      refine ⟨_, c, _, rfl, rfl, .inl (by rw [← strs_ok hr hxs]; exact SqL.of hp), ?_, ?_⟩
      · rw [sum_len]
        have : (⟨([] : List Nat).toArray⟩ : PySem.Str).length = 0 := rfl
        rw [this, Nat.mul_zero]
        exact hz
      · rw [join_nil]
        exact k _ Φ2 H2 S2 (s1.trans s2) (by show Rep G Φ2 _ _; simp only [Rep]) trivial
    · cases e
  · cases e
end
end SS

/-! the data layer: calls of defs, methods, statements -/
namespace SS
open PySem PySem.Spec PyProof.Rows L2

section
variable {G : Gx} {B : Base} {Φ Φ' : Fz} {L L' : Loc} {σ : L2.St} {H H' : Hp} {X : Cx} {a b : Expr} {pos : Pos} {ma mb : EM}

/-! ### promises -/
structure After (G : Gx) (Φ : Fz) (H : Hp) (Φ' : Fz) (H' : Hp) : Prop where
  le : Fz.Le Φ Φ'
  fz : FzOk G Φ' H'
  stray : ∀ a o, H a = some o → Φ a = none → H' a = some o ∧ Φ' a = none
  dom : ∀ a, H' a = none → H a = none
theorem After.refl (h : FzOk G Φ H) : After G Φ H Φ H := ⟨Fz.Le.refl _, h, fun _ _ e n => ⟨e, n⟩, fun _ h => h⟩
theorem After.trans {Φ1 Φ2 : Fz} {H1 H2 : Hp} (a : After G Φ H Φ1 H1) (b : After G Φ1 H1 Φ2 H2) : After G Φ H Φ2 H2 :=
  ⟨a.le.trans b.le, b.fz, fun c o e n => by obtain ⟨x, y⟩ := a.stray c o e n; exact b.stray c o x y, fun c h => a.dom c (b.dom c h)⟩
theorem Sim.after (S : Sim G B Φ L σ H) (a : After G Φ H Φ' H') : Sim G B Φ' L σ H' ∧ Step Φ L σ H Φ' L H' := by
  refine ⟨⟨S.len, a.fz, fun i lv e => ?_, S.sep, S.ext.trans a.le, fun b o e1 e2 e3 => ?_, fun b e => S.dom b (a.dom b e), S.pinned⟩, ⟨a.le, fun b o e1 e2 e3 => ?_, a.dom, fun _ h => h⟩⟩
  · refine (S.slot i lv e).mono a.le fun b hb ho => ?_
    obtain ⟨c, u, q1, q2, q3⟩ := (S.slot i lv e).own_at hb
    rw [ho] at q1; cases q1
    obtain ⟨x, y⟩ := a.stray _ _ q2 q3
    exact ⟨by rw [x, q2], y⟩
  · obtain ⟨k1, k2, k3⟩ := S.keep b o e1 e2 e3
    obtain ⟨x, y⟩ := a.stray _ _ k1 k2
    exact ⟨x, y, k3⟩
  · obtain ⟨x, y⟩ := a.stray _ _ e1 e2
    exact ⟨x, y, e3⟩
/-- a def of data -/
def spF (G : Gx) (F : List D → Option D) : Sp := fun vs H Q _ => ∃ Φ ds r, FzOk G Φ H ∧ Reps G Φ ds vs ∧ F ds = some r ∧ ∀ v Φ' H', After G Φ H Φ' H' → Rep G Φ' r v → Q v H'
/-- a def whose first argument is a list that it may change -/
def spP (G : Gx) (F : List D → List D → Option (D × List D)) : Sp := fun vs H Q _ => ∃ Φ a pv l vs' ds r l', vs = .ref a :: vs' ∧ FzOk G Φ H ∧ H a = some (.lst pv) ∧ Reps G Φ l pv ∧ Φ a = none ∧ Reps G Φ ds vs' ∧ F l ds = some (r, l') ∧
  ∀ v Φ' H' pv', Fz.Le Φ Φ' → FzOk G Φ' H' → (∀ b o, b ≠ a → H b = some o → Φ b = none → H' b = some o ∧ Φ' b = none) → (∀ b, H' b = none → H b = none) → H' a = some (.lst pv') → Reps G Φ' l' pv' → Φ' a = none → Rep G Φ' r v → Q v H'
def callF (F : List D → Option D) (evs : List EV) : EM := fun L => (frosOf evs).bind fun ds => (F ds).map fun r => (.fro r, L)
theorem callF_imp {F : List D → Option D} {m : AM} {Q : VK} {E : XK} (h : tE G B (mBN (callF F) m) σ H Q) : tA G B m σ H fun vs H1 => spF G F vs H1 Q E := by
  obtain ⟨Φ0, L0, e0, L0', S0, h0, k0⟩ := eN_of h
  refine ⟨Φ0, L0, e0, L0', S0, h0, fun vs Φ1 H1 S1 s1 r1 => ?_⟩
  obtain ⟨Φ, L, evs, ev, L', S, rx, e, k⟩ := k0 vs Φ1 H1 S1 s1 r1
  obtain ⟨ds, ed, e⟩ := bind_inv e
  obtain ⟨r, er, e⟩ := map_inv e
  cases e
  refine ⟨Φ, ds, r, S.fz, fros_ok rx ed, er, fun v Φ' H' a hr => ?_⟩
  obtain ⟨S', st⟩ := S.after a
  exact k v Φ' H' S' st hr trivial
variable {e : Expr} {es : List Expr} {m : AM} {x : Str} {p apos : Pos} {k : Nat} {f C : Addr} {fd : FuncData} {ps : List Str}
theorem de_call {F : List D → Option D} (hf : FnOk X.prog X.w X.K X.mg X.base CX0 k f fd ps (spF G F)) (hr : Room k X.A) (hg : Gl X x) (hm : X.mg x = some (.ref f)) (hk : PySem.W.keepIn X.K (.ref f) = true) (hb : Binds X.K fd ps [])
    (ha : PA X (e :: es) (tA G B m)) (hdb : (x == ("__debug__" : Str)) = false := by decide) (he : starEach (e :: es) X.env = (false, eval e X.env) :: starEach es X.env := by rfl) (hpl : (backTo pos (starEach es X.env)).any (·.1) = false := by rfl) :
    PE X (.Call (.Name x p) (e :: es) [] pos) (tE G B (mBN (callF F) m)) :=
  PE.imp (pe_call (E := E0) hf hr hg hm hk hb .nil pass0 ha hdb he hpl) fun σ H Q h => by
    have h1 := callF_imp (E := E0) h
    obtain ⟨Φ0, L0, e0, L0', S0, h0, k0⟩ := h1
    exact ⟨Φ0, L0, e0, L0', S0, h0, fun vs Φ1 H1 S1 s1 r1 => by show spF G F (vs ++ []) H1 Q E0; rw [List.append_nil]; exact k0 vs Φ1 H1 S1 s1 r1⟩
/-- the first argument is a list of this def's own (or its caller's) -/
def callP (F : List D → List D → Option (D × List D)) (evs : List EV) : EM := fun L => match evs with
  | .loc i :: r => (frosOf r).bind fun ds => match L[i]? with
    | some (.own l) => (F l ds).map fun q => (.fro q.1, L.set i (.own q.2))
    | some (.pin l) => (F l ds).map fun q => (.fro q.1, L.set i (.pin q.2))
    | _ => none
  | _ => none
theorem callP_imp {F : List D → List D → Option (D × List D)} {m : AM} {Q : VK} {E : XK} (h : tE G B (mBN (callP F) m) σ H Q) : tA G B m σ H fun vs H1 => spP G F vs H1 Q E := by
  obtain ⟨Φ0, L0, e0, L0', S0, h0, k0⟩ := eN_of h
  refine ⟨Φ0, L0, e0, L0', S0, h0, fun vs Φ1 H1 S1 s1 r1 => ?_⟩
  obtain ⟨Φ, L, evs, ev, L', S, rx, e, k⟩ := k0 vs Φ1 H1 S1 s1 r1
  unfold callP at e
  split at e
  · rename_i i r
    obtain ⟨ds, ed, e⟩ := bind_inv e
    cases rx with
    | cons hv rv =>
      rename_i v vs'
      have hv' : σ[i]? = some (some v) := hv
      have hds := fros_ok rv ed
      cases el : L[i]? with
      | none => simp only [el] at e; cases e
      | some lv =>
        have sl := S.slot i lv el
        rw [hv'] at sl
        have go : ∀ (l : List D) (lv' : List D → LV) (a : Addr) (pv : List V), lv.isOwn = true → v = .ref a → H1 a = some (.lst pv) → Reps G Φ l pv → Φ a = none → (∀ (l' : List D) (Φ' : Fz) (H' : Hp) (pv' : List V), H' a = some (.lst pv') → Reps G Φ' l' pv' → Φ' a = none → SlotOk G B Φ' H' (lv' l') (some (.ref a))) →
            (∀ l0, lv = .pin l0 → ∀ l', ∃ l'', lv' l' = .pin l'') → ((F l ds).map fun q => (EV.fro q.1, L.set i (lv' q.2))) = some (ev, L') → spP G F (v :: vs') H1 Q E := fun l lv' a pv hi hva hp hr hn hs hpin e => by
          obtain ⟨q, eq, e⟩ := map_inv e
          cases e
          subst hva
          refine ⟨Φ, a, pv, l, vs', ds, q.1, q.2, rfl, S.fz, hp, hr, hn, hds, eq, fun w Φ' H' pv' le fz st dm h1 h2 h3 hw => ?_⟩
          -- the slot's list changes, the rest grows
          have own' : ∀ {j : Nat} {b : Addr}, OwnI (L.set i (lv' q.2)) σ j b → OwnI L σ j b := fun {j b} h => by
            rcases isOwn_set h with ⟨rfl, _, z⟩ | ⟨_, z⟩
            · exact ⟨lv, el, hi, z⟩
            · exact z
          have oi : OwnI L σ i a := ⟨lv, el, hi, hv'⟩
          have hil : i < L.length := (List.getElem?_eq_some_iff.mp el).1
          have S' : Sim G B Φ' (L.set i (lv' q.2)) σ H' := by
            refine ⟨by rw [List.length_set]; exact S.len, fz, fun j y ey => ?_, fun j k b h h' => S.sep j k b (own' h) (own' h'), S.ext.trans le, fun b u e1 e2 e3 => ?_, fun b eb => S.dom b (dm b eb), fun b eb => ?_⟩
            · by_cases hj : j = i
              · subst hj
                rw [List.getElem?_set_self hil] at ey
                cases ey
                rw [hv']; exact hs q.2 Φ' H' pv' h1 h2 h3
              · rw [List.getElem?_set_ne (Ne.symm hj)] at ey
                refine (S.slot j y ey).mono le fun b hb ho => ?_
                have nb : b ≠ a := fun z => hj (S.sep j i a ⟨y, ey, hb, by rw [← z]; exact joinEq.mp ho⟩ oi)
                obtain ⟨c, u, q1, q2, q3⟩ := (S.slot j y ey).own_at hb
                rw [ho] at q1; cases q1
                obtain ⟨z1, z2⟩ := st b u nb q2 q3
                exact ⟨by rw [z1, q2], z2⟩
            · obtain ⟨k1, k2, k3⟩ := S.keep b u e1 e2 e3
              have nb : b ≠ a := fun z => k3 ⟨i, by rw [z]; exact oi⟩
              obtain ⟨z1, z2⟩ := st b u nb k1 k2
              exact ⟨z1, z2, fun ⟨j, h⟩ => k3 ⟨j, own' h⟩⟩
            · obtain ⟨j, l2, q1, q2'⟩ := S.pinned b eb
              by_cases hj : j = i
              · subst hj
                rw [el] at q1; cases q1
                obtain ⟨l3, e3⟩ := hpin _ rfl q.2
                exact ⟨j, l3, by rw [e3]; exact List.getElem?_set_self hil, q2'⟩
              · exact ⟨j, l2, by rw [List.getElem?_set_ne (Ne.symm hj)]; exact q1, q2'⟩
          refine k w Φ' H' S' ⟨le, fun b u e1 e2 e3 => ?_, dm, fun b ⟨j, h⟩ => ⟨j, own' h⟩⟩ hw trivial
          have nb : b ≠ a := fun z => e3 ⟨i, by rw [z]; exact oi⟩
          obtain ⟨z1, z2⟩ := st b u nb e1 e2
          exact ⟨z1, z2, fun ⟨j, h⟩ => e3 ⟨j, own' h⟩⟩
        cases lv with
        | own l =>
          simp only [el] at e
          obtain ⟨a, pv, e1, hp, hr, hn⟩ := sl
          cases e1
          exact go l .own a pv rfl rfl hp hr hn (fun l' Φ' H' pv' h1 h2 h3 => ⟨a, pv', rfl, h1, h2, h3⟩) (fun _ z => by cases z) e
        | pin l =>
          simp only [el] at e
          obtain ⟨a, pv, e1, hb, hp, hr, hn⟩ := sl
          cases e1
          exact go l .pin a pv rfl rfl hp hr hn (fun l' Φ' H' pv' h1 h2 h3 => ⟨a, pv', rfl, hb, h1, h2, h3⟩) (fun _ _ l' => ⟨l', rfl⟩) e
        | none => simp only [el] at e; cases e
        | fro d => simp only [el] at e; cases e
        | ownd ks ws => simp only [el] at e; cases e
        | ownk kvs => simp only [el] at e; cases e
  · cases e
theorem de_callP {F : List D → List D → Option (D × List D)} (hf : FnOk X.prog X.w X.K X.mg X.base CX0 k f fd ps (spP G F)) (hr : Room k X.A) (hg : Gl X x) (hm : X.mg x = some (.ref f)) (hk : PySem.W.keepIn X.K (.ref f) = true) (hb : Binds X.K fd ps [])
    (ha : PA X (e :: es) (tA G B m)) (hdb : (x == ("__debug__" : Str)) = false := by decide) (he : starEach (e :: es) X.env = (false, eval e X.env) :: starEach es X.env := by rfl) (hpl : (backTo pos (starEach es X.env)).any (·.1) = false := by rfl) :
    PE X (.Call (.Name x p) (e :: es) [] pos) (tE G B (mBN (callP F) m)) :=
  PE.imp (pe_call (E := E0) hf hr hg hm hk hb .nil pass0 ha hdb he hpl) fun σ H Q h => by
    obtain ⟨Φ0, L0, e0, L0', S0, h0, k0⟩ := callP_imp (E := E0) h
    exact ⟨Φ0, L0, e0, L0', S0, h0, fun vs Φ1 H1 S1 s1 r1 => by show spP G F (vs ++ []) H1 Q E0; rw [List.append_nil]; exact k0 vs Φ1 H1 S1 s1 r1⟩

/-! ### fields, methods -/
/-- the place of a field's name -/
def fIx (f : Str) : List Str → Option Nat
  | [] => none
  | g :: r => if f = g then some 0 else (fIx f r).map (· + 1)
theorem lookup_zip {f : Str} : ∀ {ns : List Str} {vs : List V} {j : Nat} {v : V}, fIx f ns = some j → vs[j]? = some v → vs.length = ns.length → (ns.zip vs).lookup f = some v
  | [], _, _, _, h, _, _ => by cases h
  | g :: r, [], _, _, _, e, _ => by simp at e
  | g :: r, u :: us, j, v, h, e, hl => by
    unfold fIx at h
    show List.lookup f ((g, u) :: r.zip us) = _
    rw [List.lookup_cons]
    by_cases hf : f = g
    · rw [if_pos hf] at h
      cases h
      simp at e
      subst e
      have : (f == g) = true := by simpa using hf
      rw [this]
    · rw [if_neg hf] at h
      obtain ⟨j', h', rfl⟩ := map_inv h
      have : (f == g) = false := by simpa using hf
      rw [this]
      simp at hl
      exact lookup_zip h' (by simpa using e) hl
theorem lookup_none {f : Str} : ∀ {ns : List Str} {vs : List V}, fIx f ns = none → (ns.zip vs).lookup f = none
  | [], _, _ => by simp
  | g :: r, [], _ => by simp
  | g :: r, u :: us, h => by
    unfold fIx at h
    show List.lookup f ((g, u) :: r.zip us) = _
    rw [List.lookup_cons]
    by_cases hf : f = g
    · rw [if_pos hf] at h; cases h
    · rw [if_neg hf] at h
      have : (f == g) = false := by simpa using hf
      rw [this]
      refine lookup_none ?_
      cases hx : fIx f r with
      | none => rfl
      | some j => rw [hx] at h; cases h
def opFld (c j : Nat) : EV → Loc → Option EV
  | .fro (.obj c' l), _ => if c' = c then (l[j]?).map .fro else none
  | _, _ => none
theorem de_fld {c j : Nat} {f : Str} {mo : EM} (hc : Cls X.K (G.cls c)) (hn : NoAttr X.K (G.cls c) f) (hj : fIx f (G.flds c) = some j) (he : PE X e (tE G B mo)) (hb : attributeBase e f X.env (eval e X.env) = eval e X.env := by rfl) :
    PE X (.Attribute e f pos) (tE G B (mB1 (pu1 (opFld c j)) mo)) :=
  PE.imp (pe_fld he hb) fun σ H Q h => by
    obtain ⟨Φ0, L0, e0, L0', S0, h0, k0⟩ := e1_of h
    refine ⟨Φ0, L0, e0, L0', S0, h0, fun v Φ1 H1 S1 s1 r1 n1 => ?_⟩
    obtain ⟨Φ, L, ex, ev, L', S, rx, e1, k⟩ := k0 v Φ1 H1 S1 s1 r1 n1
    obtain ⟨e2, rfl⟩ := pu_inv e1
    unfold opFld at e2
    split at e2
    · rename_i c' l
      split at e2
      · rename_i hcc
        subst hcc
        obtain ⟨d, hd, rfl⟩ := map_inv e2
        have rx' : Rep G Φ (.obj c' l) v := rx
        simp only [Rep] at rx'
        obtain ⟨o, dx, vs, rfl, hp, hl, hr⟩ := rx'
        obtain ⟨u, hu, hru⟩ := hr.get hd
        exact ⟨o, _, dx, _, u, rfl, S.fz _ _ hp, hc, hn, lookup_zip hj hu hl, k.fro S hru⟩
      · cases e2
    · cases e2
/-- a Machine's own fields -/
def opSounds : EV → Loc → Option EV
  | .fro (.mach s _), _ => some (.fro s)
  | _, _ => none
def opHist : EV → Loc → Option EV
  | .fro (.mach _ h), _ => some (.fro h)
  | _, _ => none
theorem machL1 {v1 v2 v3 : V} : ([("sounds", v1), ("history", v2), ("known", v3)] : List (Str × V)).lookup ("sounds" : Str) = some v1 := by rw [List.lookup_cons]; rfl
theorem ne_sh : (("history" : Str) == ("sounds" : Str)) = false := by decide +kernel
theorem ne_ks : (("known" : Str) == ("sounds" : Str)) = false := by decide +kernel
theorem ne_kh : (("known" : Str) == ("history" : Str)) = false := by decide +kernel
theorem machL2 {v1 v2 v3 : V} : ([("sounds", v1), ("history", v2), ("known", v3)] : List (Str × V)).lookup ("history" : Str) = some v2 := by rw [List.lookup_cons, ne_sh, List.lookup_cons]; rfl
theorem machL3 {v1 v2 v3 : V} : ([("sounds", v1), ("history", v2), ("known", v3)] : List (Str × V)).lookup ("known" : Str) = some v3 := by rw [List.lookup_cons, ne_ks, List.lookup_cons, ne_kh, List.lookup_cons]; rfl
theorem machLn {v1 v2 v3 : V} {f : Str} (h1 : (f == ("sounds" : Str)) = false) (h2 : (f == ("history" : Str)) = false) (h3 : (f == ("known" : Str)) = false) : ([("sounds", v1), ("history", v2), ("known", v3)] : List (Str × V)).lookup f = none := by
  rw [List.lookup_cons, h1, List.lookup_cons, h2, List.lookup_cons, h3]; rfl
theorem de_sounds {mo : EM} (hc : Cls X.K G.cM) (hn : NoAttr X.K G.cM "sounds") (he : PE X e (tE G B mo)) (hb : attributeBase e "sounds" X.env (eval e X.env) = eval e X.env := by rfl) : PE X (.Attribute e "sounds" pos) (tE G B (mB1 (pu1 opSounds) mo)) :=
  PE.imp (pe_fld he hb) fun σ H Q h => by
    obtain ⟨Φ0, L0, e0, L0', S0, h0, k0⟩ := e1_of h
    refine ⟨Φ0, L0, e0, L0', S0, h0, fun v Φ1 H1 S1 s1 r1 n1 => ?_⟩
    obtain ⟨Φ, L, ex, ev, L', S, rx, e1, k⟩ := k0 v Φ1 H1 S1 s1 r1 n1
    obtain ⟨e2, rfl⟩ := pu_inv e1
    unfold opSounds at e2
    split at e2
    · cases e2
      have rx' := rx
      simp only [RepE, Rep] at rx'
      obtain ⟨o, dx, d, vs, vh, rfl, hp, hq, hr1, hr2⟩ := rx'
      exact ⟨o, _, dx, _, vs, rfl, S.fz _ _ hp, hc, hn, machL1, k.fro S hr1⟩
    · cases e2
theorem de_hist {mo : EM} (hc : Cls X.K G.cM) (hn : NoAttr X.K G.cM "history") (he : PE X e (tE G B mo)) (hb : attributeBase e "history" X.env (eval e X.env) = eval e X.env := by rfl) : PE X (.Attribute e "history" pos) (tE G B (mB1 (pu1 opHist) mo)) :=
  PE.imp (pe_fld he hb) fun σ H Q h => by
    obtain ⟨Φ0, L0, e0, L0', S0, h0, k0⟩ := e1_of h
    refine ⟨Φ0, L0, e0, L0', S0, h0, fun v Φ1 H1 S1 s1 r1 n1 => ?_⟩
    obtain ⟨Φ, L, ex, ev, L', S, rx, e1, k⟩ := k0 v Φ1 H1 S1 s1 r1 n1
    obtain ⟨e2, rfl⟩ := pu_inv e1
    unfold opHist at e2
    split at e2
    · cases e2
      have rx' := rx
      simp only [RepE, Rep] at rx'
      obtain ⟨o, dx, d, vs, vh, rfl, hp, hq, hr1, hr2⟩ := rx'
      exact ⟨o, _, dx, _, vh, rfl, S.fz _ _ hp, hc, hn, machL2, k.fro S hr2⟩
    · cases e2
/-- o.m(..), the receiver a datum of class C without such a field -/
def mMeth (ok : D → Bool) (F : List D → Option D) (mo : EM) (mr : AM) : EM := fun L => (mo L).bind fun p => match p.1 with
  | .fro d => if ok d = true then (mr p.2).bind fun q => (frosOf q.1).bind fun ds => (F (d :: ds)).map fun r => (.fro r, q.2) else none
  | _ => none
theorem mMeth_imp {ok : D → Bool} {F : List D → Option D} {mo : EM} {mr : AM} {mn : Str} {Q : VK} (hok : ∀ Φ H d v, FzOk G Φ H → ok d = true → Rep G Φ d v → ∃ a dx fs, v = .ref a ∧ H a = some (.ins C dx fs) ∧ fs.lookup mn = none)
    (h : tE G B (mMeth ok F mo mr) σ H Q) : tMeth C mn (spF G F) [] E0 (tE G B mo) (tA G B mr) σ H Q := by
  obtain ⟨Φ, L, ev, L', S, w1, k⟩ := h
  obtain ⟨p, ea, w2⟩ := bind_inv w1
  split at w2
  · rename_i d hd
    split at w2
    · rename_i hdo
      obtain ⟨q, eq, w3⟩ := bind_inv w2
      obtain ⟨ds, ed, w4⟩ := bind_inv w3
      obtain ⟨r, er, w5⟩ := map_inv w4
      cases w5
      refine ⟨Φ, L, p.1, p.2, S, ea, fun v Φ1 H1 S1 s1 r1 _ => ?_⟩
      rw [hd] at r1
      have r1' : Rep G Φ1 d v := r1
      obtain ⟨o, dx, fs, ev, hp, hl⟩ := hok Φ1 H1 d v S1.fz hdo r1'
      refine ⟨o, dx, fs, ev, hp, hl, Φ1, p.2, q.1, q.2, S1, eq, fun vs Φ2 H2 S2 s2 r2 => ?_⟩
      show spF G F (v :: (vs ++ [])) H2 Q E0
      rw [List.append_nil]
      refine ⟨Φ2, d :: ds, r, S2.fz, Reps.cons (Rep.mono s2.le _ _ r1') (fros_ok r2 ed), er, fun u Φ' H' a hr => ?_⟩
      obtain ⟨S', st⟩ := S2.after a
      exact k u Φ' H' S' (s1.trans (s2.trans st)) hr trivial
    · cases w2
  · cases w2
variable {o : Expr} {mn : Str} {ok : D → Bool} {F : List D → Option D} {mo : EM}
theorem de_meth {pl : Sem Bool} (he : PE X o (tE G B mo)) (c : Cls X.K C) (hm : Meth X.K C mn f) (hF : FnOk X.prog X.w X.K X.mg X.base CX0 k f fd ps (spF G F)) (hr : Room k X.A) (hb : Binds X.K fd ps []) (ha : PA X (e :: es) (tA G B m))
    (hok : ∀ Φ H d v, FzOk G Φ H → ok d = true → Rep G Φ d v → ∃ a dx fs, v = .ref a ∧ H a = some (.ins C dx fs) ∧ fs.lookup mn = none)
    (hst : starEach (e :: es) X.env = (false, eval e X.env) :: starEach es X.env := by rfl) (hpl : (backTo pos (starEach es X.env)).any (·.1) = false := by rfl)
    (ht : eval (.Call (.Attribute o mn apos) (e :: es) [] pos) X.env = (do
      let ov ← eval o X.env
      standAt apos.atName
      let (f, first) ← holding [ov] (getMethod ov mn pl)
      callWith pos f first (backTo pos (starEach (e :: es) X.env)) (backToKw pos (keywordEach [] X.env))) := by rfl) :
    PE X (.Call (.Attribute o mn apos) (e :: es) [] pos) (tE G B (mMeth ok F mo m)) := PE.imp (pe_meth (E := E0) he c hm hF hr hb .nil pass0 ha hst hpl ht) fun σ H Q h => mMeth_imp hok h
theorem tA_nil {Q : List V → Hp → Prop} {Φ : Fz} {L : Loc} (h : Q [] H) : tNil σ H Q := h
theorem de_meth0 {pl : Sem Bool} (he : PE X o (tE G B mo)) (c : Cls X.K C) (hm : Meth X.K C mn f) (hF : FnOk X.prog X.w X.K X.mg X.base CX0 k f fd ps (spF G F)) (hr : Room k X.A) (hb : Binds X.K fd ps [])
    (hok : ∀ Φ H d v, FzOk G Φ H → ok d = true → Rep G Φ d v → ∃ a dx fs, v = .ref a ∧ H a = some (.ins C dx fs) ∧ fs.lookup mn = none)
    (ht : eval (.Call (.Attribute o mn apos) [] [] pos) X.env = (do
      let ov ← eval o X.env
      standAt apos.atName
      let (f, first) ← holding [ov] (getMethod ov mn pl)
      callWith pos f first (backTo pos (starEach [] X.env)) (backToKw pos (keywordEach [] X.env))) := by rfl) :
    PE X (.Call (.Attribute o mn apos) [] [] pos) (tE G B (mMeth ok F mo mNil)) := PE.imp (pe_meth0 (E := E0) he c hm hF hr hb .nil pass0 ht) fun σ H Q h => by
  obtain ⟨Φ, L, ev, L', S, e, k0⟩ := mMeth_imp (C := C) hok h
  refine ⟨Φ, L, ev, L', S, e, fun v Φ1 H1 S1 s1 r1 n1 => ?_⟩
  obtain ⟨a, dx, fs, e1, e2, e3, Φ2, L2', evs, L3, S2, h2, k2⟩ := k0 v Φ1 H1 S1 s1 r1 n1
  cases h2
  exact ⟨a, dx, fs, e1, e2, e3, k2 [] Φ2 H1 S2 Step.refl .nil⟩
/-- a datum of class c, as a receiver -/
def isObj' (c : Nat) : D → Bool
  | .obj c' _ => decide (c' = c)
  | _ => false
theorem obj_ok {c : Nat} {mn : Str} (hn : fIx mn (G.flds c) = none) : ∀ Φ H d v, FzOk G Φ H → isObj' c d = true → Rep G Φ d v → ∃ a dx fs, v = .ref a ∧ H a = some (.ins (G.cls c) dx fs) ∧ fs.lookup mn = none := by
  intro Φ H d v fz h r
  cases d with
  | obj c' l =>
    have : c' = c := of_decide_eq_true h
    subst this
    simp only [Rep] at r
    obtain ⟨a, dx, vs, rfl, hp, hl, _⟩ := r
    exact ⟨a, dx, _, rfl, fz _ _ hp, lookup_none hn⟩
  | _ => cases h
def isMach : D → Bool
  | .mach _ _ => true
  | _ => false
theorem mach_ok {mn : Str} (h1 : (mn == ("sounds" : Str)) = false) (h2 : (mn == ("history" : Str)) = false) (h3 : (mn == ("known" : Str)) = false) : ∀ Φ H d v, FzOk G Φ H → isMach d = true → Rep G Φ d v → ∃ a dx fs, v = .ref a ∧ H a = some (.ins G.cM dx fs) ∧ fs.lookup mn = none := by
  intro Φ H d v fz h r
  cases d with
  | mach s m =>
    simp only [Rep] at r
    obtain ⟨a, dx, d, vs, vh, rfl, hp, _⟩ := r
    exact ⟨a, dx, _, rfl, fz _ _ hp, machLn h1 h2 h3⟩
  | _ => cases h
end
end SS

/-! the data layer: what a loop walks -/
namespace SS
open PySem PySem.Spec PyProof.Rows L2

abbrev IM := Loc → Option (List D × Loc)
/-- the iterator yields these data -/
structure WalkD (G : Gx) (B : Base) (J : It) (Φ0 : Fz) (ds : List D) : Prop where
  go : ∀ (i : Nat) (H : Hp) (Φ : Fz), Fz.Le Φ0 Φ → FzOk G Φ H → i < ds.length → J.go i H
  yld : ∀ (i : Nat) (H H' : Hp) (Φ : Fz) (L : Loc) (σ : L2.St) (x : V), Fz.Le Φ0 Φ → Sim G B Φ L σ H → J.yld i H x H' → ∀ d, ds[i]? = some d → ∃ Φ', Sim G B Φ' L σ H' ∧ Step Φ L σ H Φ' L H' ∧ Rep G Φ' d x
  stop : ∀ (i : Nat) (H : Hp) (Φ : Fz), Fz.Le Φ0 Φ → FzOk G Φ H → i = ds.length → J.stop i H
def tI (G : Gx) (B : Base) (m : IM) : TI := fun σ H R => ∃ Φ L ds L', Sim G B Φ L σ H ∧ m L = some (ds, L') ∧ ∀ J Φ' H', Sim G B Φ' L' σ H' → Step Φ L σ H Φ' L' H' → WalkD G B J Φ' ds → R J H'
theorem PI.imp {X : Cx} {tg e : Expr} {t t' : TI} (h : PI X tg e t) (i : ∀ σ H R, t' σ H R → t σ H R) : PI X tg e t' := ⟨fun pins s σ H Q I q => h.run pins s σ H Q I (i σ H Q q)⟩
theorem PI.or {X : Cx} {tg e : Expr} {t t' : TI} (h : PI X tg e t) (h' : PI X tg e t') : PI X tg e (fun σ H R => t σ H R ∨ t' σ H R) := ⟨fun pins s σ H Q I q => q.elim (h.run pins s σ H Q I) (h'.run pins s σ H Q I)⟩

section
variable {G : Gx} {B : Base} {Φ Φ' : Fz} {L L' : Loc} {σ : L2.St} {H H' : Hp} {X : Cx} {a b e : Expr} {pos : Pos} {ma mb : EM} {tg : Expr}
def rows (x : List Nat) : List D := x.map fun c => .str [c]
def mSeq1 (ma : EM) : IM := fun L => (ma L).bind fun p => match p.1 with
  | .fro (.lst l) => some (l, p.2)
  | .fro (.tup l) => some (l, p.2)
  | .fro (.str x) => some (rows x, p.2)
  | _ => none
theorem walk_list {a : Addr} {vs : List V} {l : List D} {Φ0 : Fz} {K : PySem.W.Frag} (hp : Φ0 a = some (.ho (.lst vs))) (hr : Reps G Φ0 l vs)
    (inj : ∀ (H : Hp) (Φ : Fz), Fz.Le Φ0 Φ → FzOk G Φ H → ∀ xs, SqL K H a xs → True) : True := trivial
/-- a list's item as the walk reads it -/
theorem walkL {a : Addr} {vs : List V} {l : List D} {K : PySem.W.Frag} (hp : Φ a = some (.ho (.lst vs))) (hr : Reps G Φ l vs) : WalkD G B (Itl K a) Φ l where
  go := fun i H Φ' le fz hi => by
    have hv : i < vs.length := by rw [← hr.length]; exact hi
    exact ⟨vs, vs[i], SqL.of (fz _ _ (le _ _ hp)), List.getElem?_eq_getElem hv⟩
  yld := fun i H H' Φ' L σ x le S y d hd => by
    obtain ⟨rfl, y⟩ := y
    obtain ⟨v, hv, hrv⟩ := hr.get hd
    have := y vs (SqL.of (S.fz _ _ (le _ _ hp)))
    rw [hv] at this
    cases this
    exact ⟨Φ', S, Step.refl, Rep.mono le _ _ hrv⟩
  stop := fun i H Φ' le fz hi => ⟨vs, SqL.of (fz _ _ (le _ _ hp)), by rw [← hr.length]; exact Nat.le_of_eq hi.symm⟩
theorem walkT {a : Addr} {vs : List V} {l : List D} {K : PySem.W.Frag} (hp : Φ a = some (.pt vs)) (hr : Reps G Φ l vs) : WalkD G B (Itt K a) Φ l where
  go := fun i H Φ' le fz hi => by
    have hv : i < vs.length := by rw [← hr.length]; exact hi
    exact ⟨vs, vs[i], (fz a (.pt vs) (le _ _ hp) : TupAt _ a vs).sq, List.getElem?_eq_getElem hv⟩
  yld := fun i H H' Φ' L σ x le S y d hd => by
    obtain ⟨rfl, y⟩ := y
    obtain ⟨v, hv, hrv⟩ := hr.get hd
    have := y vs ((S.fz a (.pt vs) (le _ _ hp) : TupAt _ a vs).sq)
    rw [hv] at this
    cases this
    exact ⟨Φ', S, Step.refl, Rep.mono le _ _ hrv⟩
  stop := fun i H Φ' le fz hi => ⟨vs, (fz a (.pt vs) (le _ _ hp) : TupAt _ a vs).sq, by rw [← hr.length]; exact Nat.le_of_eq hi.symm⟩
theorem walkS {x : List Nat} : WalkD G B (Its ⟨x.toArray⟩) Φ (rows x) where
  go := fun i H Φ' le fz hi => by simpa [rows, Its] using hi
  yld := fun i H H' Φ' L σ v le S y d hd => by
    obtain ⟨rfl, c, hc, rfl⟩ := y
    have hx : x[i]? = some c := by simpa using hc
    have : d = .str [c] := by
      unfold rows at hd
      rw [List.getElem?_map, hx] at hd
      exact (Option.some.inj hd).symm
    subst this
    exact ⟨Φ', S, Step.refl, by simp only [Rep]⟩
  stop := fun i H Φ' le fz hi => by have : i = x.length := by simpa [rows] using hi
                                    simp [Its, this]
theorem di_seq (ha : PE X a (tE G B ma)) : PI X tg a (tI G B (mSeq1 ma)) :=
  PI.imp (PI.or (pi_list ha) (PI.or (pi_tup ha) (pi_str ha))) fun σ H R h => by
    obtain ⟨Φ, L, ds, L', S, e, k⟩ := h
    obtain ⟨p, ea, e⟩ := bind_inv e
    split at e
    · rename_i l hl
      cases e
      refine .inl ⟨Φ, L, p.1, p.2, S, ea, fun v Φ1 H1 S1 s1 r1 _ => ?_⟩
      rw [hl] at r1
      have r1' : Rep G Φ1 (.lst ds) v := r1
      simp only [Rep] at r1'
      obtain ⟨c, vs, rfl, hp, hr⟩ := r1'
      exact ⟨c, rfl, ⟨vs, SqL.of (S1.fz _ _ hp)⟩, k _ Φ1 H1 S1 s1 (walkL hp hr)⟩
    · rename_i l hl
      cases e
      refine .inr (.inl ⟨Φ, L, p.1, p.2, S, ea, fun v Φ1 H1 S1 s1 r1 _ => ?_⟩)
      rw [hl] at r1
      have r1' : Rep G Φ1 (.tup ds) v := r1
      simp only [Rep] at r1'
      obtain ⟨c, vs, rfl, hp, hr⟩ := r1'
      exact ⟨c, rfl, ⟨vs, (S1.fz c (.pt vs) hp : TupAt H1 c vs).sq⟩, k _ Φ1 H1 S1 s1 (walkT hp hr)⟩
    · rename_i x hl
      cases e
      refine .inr (.inr ⟨Φ, L, p.1, p.2, S, ea, fun v Φ1 H1 S1 s1 r1 _ => ?_⟩)
      rw [hl] at r1
      have r1' : Rep G Φ1 (.str x) v := r1
      simp only [Rep] at r1'
      exact ⟨_, r1', k _ Φ1 H1 S1 s1 walkS⟩
    · cases e

/-! ### range -/
def rangeD (lo : Int) (n : Nat) : List D := (List.range n).map fun i => .int (lo + (i : Nat))
theorem walkR {lo : Int} {n : Nat} : WalkD G B (Itr lo n) Φ (rangeD lo n) where
  go := fun i H Φ' le fz hi => by simpa [rangeD, Itr] using hi
  yld := fun i H H' Φ' L σ v le S y d hd => by
    obtain ⟨rfl, rfl⟩ := y
    unfold rangeD at hd
    rw [List.getElem?_map] at hd
    obtain ⟨j, hj, rfl⟩ := map_inv hd
    have : j = i := by
      have := List.getElem?_eq_some_iff.mp hj
      obtain ⟨h1, h2⟩ := this
      rw [List.getElem_range] at h2
      exact h2.symm
    subst this
    exact ⟨Φ', S, Step.refl, by simp only [Rep]⟩
  stop := fun i H Φ' le fz hi => by have : i = n := by simpa [rangeD] using hi
                                    simp [Itr, this]
def inRng (j : Int) : Prop := j.natAbs ≤ 16777216
instance (j : Int) : Decidable (inRng j) := Nat.decLe _ _
theorem inRng_nat {n : Nat} (h : n ≤ 16777216) : inRng n := by unfold inRng; omega
theorem inRng.ok {j : Int} (h : inRng j) : -(2 ^ 62) ≤ j ∧ j < 2 ^ 62 := by unfold inRng at h; omega
def mRng1 (m : AM) : IM := fun L => (m L).bind fun p => match p.1 with
  | [x] => (asInt x).bind fun j => if inRng j then some (rangeD 0 j.toNat, p.2) else none
  | _ => none
theorem di_range1 {x : Expr} {m : AM} {p : Pos} (hg : Gl X "range") (hm : X.mg "range" = none) (ha : PA X [x] (tA G B m)) (hs : starEach [x] X.env = [(false, eval x X.env)] := by rfl) : PI X tg (.Call (.Name "range" p) [x] [] pos) (tI G B (mRng1 m)) :=
  PI.imp (pi_range1 hg hm ha hs) fun σ H R h => by
    obtain ⟨Φ, L, ds, L', S, e, k⟩ := h
    obtain ⟨p, ea, e⟩ := bind_inv e
    split at e
    · rename_i x hx
      obtain ⟨j, hj, e⟩ := bind_inv e
      split at e
      · rename_i hb
        cases e
        refine ⟨Φ, L, p.1, p.2, S, ea, fun vs Φ1 H1 S1 s1 r1 => ?_⟩
        rw [hx] at r1
        obtain ⟨v, rfl, rv⟩ := one_inv r1
        exact ⟨j, by rw [asInt_ok rv hj], hb.ok.1, hb.ok.2, k _ Φ1 H1 S1 s1 walkR⟩
      · cases e
    · cases e
def mRng2 (m : AM) : IM := fun L => (m L).bind fun p => match p.1 with
  | [x, y] => (asInt x).bind fun i => (asInt y).bind fun j => if inRng i ∧ inRng j then some (rangeD i (j - i).toNat, p.2) else none
  | _ => none
theorem di_range2 {x y : Expr} {m : AM} {p : Pos} (hg : Gl X "range") (hm : X.mg "range" = none) (ha : PA X [x, y] (tA G B m)) (hs : starEach [x, y] X.env = [(false, eval x X.env), (false, eval y X.env)] := by rfl) (hs2 : starEach [y] X.env = [(false, eval y X.env)] := by rfl) :
    PI X tg (.Call (.Name "range" p) [x, y] [] pos) (tI G B (mRng2 m)) :=
  PI.imp (pi_range2 hg hm ha hs hs2) fun σ H R h => by
    obtain ⟨Φ, L, ds, L', S, e, k⟩ := h
    obtain ⟨p, ea, e⟩ := bind_inv e
    split at e
    · rename_i x y hx
      obtain ⟨i, hi, e⟩ := bind_inv e
      obtain ⟨j, hj, e⟩ := bind_inv e
      split at e
      · rename_i hb
        cases e
        refine ⟨Φ, L, p.1, p.2, S, ea, fun vs Φ1 H1 S1 s1 r1 => ?_⟩
        rw [hx] at r1
        obtain ⟨v, u, rfl, rv, ru⟩ := two_inv r1
        exact ⟨i, j, by rw [asInt_ok rv hi, asInt_ok ru hj], ⟨hb.1.ok.1, hb.1.ok.2, hb.2.ok.1, hb.2.ok.2⟩, k _ Φ1 H1 S1 s1 walkR⟩
      · cases e
    · cases e

/-! ### pairs: zip, enumerate -/
/-- a walk that lays a new pair at each turn -/
theorem walkP {J : It} {ds : List D} (hgo : ∀ (i : Nat) (H : Hp) (Φ' : Fz), Fz.Le Φ Φ' → FzOk G Φ' H → i < ds.length → J.go i H)
    (hst : ∀ (i : Nat) (H : Hp) (Φ' : Fz), Fz.Le Φ Φ' → FzOk G Φ' H → i = ds.length → J.stop i H)
    (hy : ∀ (i : Nat) (H H' : Hp) (Φ' : Fz) (x : V), Fz.Le Φ Φ' → FzOk G Φ' H → J.yld i H x H' → ∀ d, ds[i]? = some d → ∃ T u w du dw, x = .ref T ∧ H T = none ∧ H' = upd H T (.tup [u, w]) ∧ d = .row [du, dw] ∧ Rep G Φ' du u ∧ Rep G Φ' dw w) : WalkD G B J Φ ds where
  go := hgo
  stop := hst
  yld := fun i H H' Φ' L σ x le S y d hd => by
    obtain ⟨T, u, w, du, dw, rfl, hT, rfl, rfl, h1, h2⟩ := hy i H H' Φ' x le S.fz y d hd
    obtain ⟨Φ2, S2, st, hp⟩ := S.newFro (o := .tup [u, w]) hT
    exact ⟨Φ2, S2, st, by simp only [Rep]; exact ⟨T, [u, w], rfl, hp, Reps.cons (Rep.mono st.le _ _ h1) (Reps.cons (Rep.mono st.le _ _ h2) Reps.nil)⟩⟩
def zipD (xs ys : List D) : List D := (xs.zip ys).map fun p => .row [p.1, p.2]
theorem zipD_len (xs ys : List D) : (zipD xs ys).length = min xs.length ys.length := by simp [zipD]
theorem zipD_get {xs ys : List D} {i : Nat} {d : D} (h : (zipD xs ys)[i]? = some d) : ∃ x y, xs[i]? = some x ∧ ys[i]? = some y ∧ d = .row [x, y] := by
  unfold zipD at h
  rw [List.getElem?_map] at h
  obtain ⟨⟨x, y⟩, hz, rfl⟩ := map_inv h
  have := List.getElem?_zip_eq_some.mp hz
  exact ⟨x, y, this.1, this.2, rfl⟩
def mZip (m : AM) : IM := fun L => (m L).bind fun p => match p.1 with
  | [.fro (.tup x), .fro (.tup y)] => some (zipD x y, p.2)
  | _ => none
theorem di_zip {x y : Expr} {m : AM} {p tpos : Pos} {elts : List Expr} {kk : Nat} (hg : Gl X "zip") (hm : X.mg "zip" = none) (ha : PA X [x, y] (tA G B m)) (hs : starEach [x, y] X.env = (false, eval x X.env) :: starEach [y] X.env := by rfl) (hpl : (backTo pos (starEach [y] X.env)).any (·.1) = false := by rfl) :
    PI X (.Tuple elts kk tpos) (.Call (.Name "zip" p) [x, y] [] pos) (tI G B (mZip m)) :=
  PI.imp (RZ.pi_zipA hg hm ha hs hpl) fun σ H R h => by
    obtain ⟨Φ, L, ds, L', S, e, k⟩ := h
    obtain ⟨p, ea, e⟩ := bind_inv e
    split at e
    · rename_i x y hx
      cases e
      refine ⟨Φ, L, p.1, p.2, S, ea, fun vs Φ1 H1 S1 s1 r1 => ?_⟩
      rw [hx] at r1
      obtain ⟨v, u, rfl, rv, ru⟩ := two_inv r1
      have rv' : Rep G Φ1 (.tup x) v := rv
      have ru' : Rep G Φ1 (.tup y) u := ru
      simp only [Rep] at rv' ru'
      obtain ⟨c, vs, rfl, hp, hr⟩ := rv'
      obtain ⟨c2, us, rfl, hp2, hr2⟩ := ru'
      refine ⟨c, c2, vs, us, rfl, .inr ⟨(S1.fz c (.pt _) hp : TupAt H1 c _).sq, (S1.fz c2 (.pt _) hp2 : TupAt H1 c2 _).sq, k _ Φ1 H1 S1 s1 (walkP (fun i H Φ' le fz hi => ?_) (fun i H Φ' le fz hi => ?_) fun i H H' Φ' w le fz yl d hd => ?_)⟩⟩
      · rw [zipD_len] at hi
        have h1 : i < vs.length := by rw [← hr.length]; omega
        have h2 : i < us.length := by rw [← hr2.length]; omega
        exact ⟨vs, us, vs[i], us[i], (fz c (.pt _) (le _ _ hp) : TupAt _ c _).sq, (fz c2 (.pt _) (le _ _ hp2) : TupAt _ c2 _).sq, List.getElem?_eq_getElem h1, List.getElem?_eq_getElem h2⟩
      · rw [zipD_len] at hi
        refine ⟨vs, us, (fz c (.pt _) (le _ _ hp) : TupAt _ c _).sq, (fz c2 (.pt _) (le _ _ hp2) : TupAt _ c2 _).sq, ?_⟩
        have h1 := hr.length
        have h2 := hr2.length
        omega
      · obtain ⟨dx, dy, ex, ey, rfl⟩ := zipD_get hd
        obtain ⟨T, w1, w2, rfl, hT, rfl, y1, y2⟩ := yl
        obtain ⟨v1, hv1, rv1⟩ := hr.get ex
        obtain ⟨v2, hv2, rv2⟩ := hr2.get ey
        have e1 := y1 vs ((fz c (.pt _) (le _ _ hp) : TupAt _ c _).sq)
        have e2 := y2 us ((fz c2 (.pt _) (le _ _ hp2) : TupAt _ c2 _).sq)
        rw [hv1] at e1
        rw [hv2] at e2
        have q1 := Option.some.inj e1
        have q2 := Option.some.inj e2
        subst q1 q2
        exact ⟨T, _, _, dx, dy, rfl, hT, rfl, rfl, Rep.mono le _ _ rv1, Rep.mono le _ _ rv2⟩
    · cases e
end

/-! enumerate over a tuple, a text: the iterator in the layer -/
def ItE (n : Nat) (at_ : Hp → Nat → V → Prop) (ok : Hp → Prop) : It :=
  ⟨fun i H => i < n ∧ ok H, fun i H x H' => ∃ T y, x = .ref T ∧ H T = none ∧ H' = upd H T (.tup [.int (i : Nat), y]) ∧ at_ H i y, fun i H => i = n ∧ ok H⟩
/-- an iterator of new pairs by what the library draws -/
theorem turn_draws {P : Program} {w : World} {K : PySem.W.Frag} {elts : List Expr} {kk : Nat} {tpos : Pos} {n : Nat} {at_ : Hp → Nat → V → Prop} {ok : Hp → Prop} {e it : Addr} (hei : e ≠ it) {Sti : Nat → Heap → Prop}
    (live : ∀ i h, Sti i h → ∃ o, h.get? it = some o ∧ ∀ v, o.data ≠ .cell v) (kp : ∀ i h h', Sti i h → (∀ o, h.get? it = some o → h'.get? it = some o) → Sti i h')
    (dr : ∀ (X : Cx) (pins : List (Addr × Obj)) (s : Shared) (σ : L2.St) (H : Hp), X.prog = P → X.w = w → X.K = K → X.A.handled = none → Inv X pins σ H s → H it = none → ok H → ∃ (fp : List Addr) (Pv : Nat → Value → Prop) (St : Nat → Heap → Prop), Draws P w X.A.in1 it fp n Pv St ∧ it ∈ fp ∧ (∀ b ∈ fp, b ≠ it → ∃ u, H b = some u) ∧
      (∀ i h, Sti i h → (∀ b o, b ≠ it → s.heap.get? b = some o → h.get? b = some o) → St i h) ∧ (∀ i h, St i h → Sti i h) ∧ ∀ i v, Pv i v → ∃ y, RelV y v ∧ at_ H i y) :
    Turn P w K (.Tuple elts kk tpos) (ItE n at_ ok) [e, it] e (fun i h => (∃ old, IsEnum h e it ((i : Nat) : Int) old) ∧ Sti i h) where
  mem := by simp
  obj := fun i h st b hb => by
    obtain ⟨⟨old, he⟩, hs⟩ := st
    have e' : b = e ∨ b = it := by simpa using hb
    rcases e' with z | z
    · rw [z]; exact ⟨_, he, fun v q => nomatch q⟩
    · rw [z]; exact live i h hs
  keep := fun i h h' st k => let ⟨⟨old, he⟩, hi⟩ := st; ⟨⟨old, k e (by simp) _ he⟩, kp i h h' hi fun o q => k it (by simp) o q⟩
  item := by
    intro X hP hw hK hc i pins s σ H E I hf st hg
    obtain ⟨hi, hok⟩ := hg
    have hh := I.ok.hd hc
    obtain ⟨fp, Pv, St, D, mem, out, up, down, pv⟩ := dr X pins s σ H hP hw hK hh I (hf it (by simp)).1 hok
    subst hP hw hK
    obtain ⟨hen, hs⟩ := st
    have hef : e ∉ fp := fun z => by
      obtain ⟨u, hu⟩ := out e z hei
      rw [(hf e (by simp)).1] at hu; cases hu
    have G' := GoesN.ofWalksT (elts := elts) (k := kk) (pos := tpos) (WalksT.enumFrom 0 D e hei hef mem)
    have hst : (∃ old, IsEnum s.heap e it (0 + (i : Int)) old) ∧ St i s.heap := ⟨by rw [Int.zero_add]; exact hen, up i _ hs fun b o _ q => q⟩
    refine thn (G'.goes i s (fun v s2 => ∃ x H', Inv X pins σ H' s2 ∧ RelV x v ∧ (ItE n at_ ok).yld i H x H' ∧ ((∃ old, IsEnum s2.heap e it ((i + 1 : Nat) : Int) old) ∧ Sti (i + 1) s2.heap) ∧ ∀ b ∈ [e, it], H' b = none) E hi hst ?_) fun r s1 q => ?_
    · rintro v h' tk ⟨T, vals, rfl, hnew, ⟨t, x, hx, rfl⟩, hT⟩ st' hk _
      obtain ⟨y, ry, hy⟩ := pv i x hx
      have new : ObjOk X.prog X.w (upd H T (.tup [.int (i : Nat), y])) h' T (.tup [.int (i : Nat), y]) :=
        ⟨by show 2 ≤ sizeLine; decide, [.int (0 + (i : Int)) t, x], .cons ⟨t, by rw [Int.zero_add]⟩ (.cons ry .nil), hT⟩
      have I1 : Inv X pins σ (upd H T (.tup [.int (i : Nat), y])) { s with heap := h', toks := tk } := I.turnedNew (ch := [e, it]) (fun b ob hb q => hk b ob hb q) hf hnew new
      refine ⟨.ref T, _, I1, rfl, ⟨T, y, rfl, I.hok.fresh hnew, rfl, hy⟩, ⟨?_, down _ _ st'.2⟩, fun b hb => ?_⟩
      · obtain ⟨old, z⟩ := st'.1
        refine ⟨old, ?_⟩
        have e1 : ((i + 1 : Nat) : Int) = 0 + ((i + 1 : Nat) : Int) := by omega
        rw [e1]; exact z
      · have hb' : b ≠ T := by
          have e' : b = e ∨ b = it := by simpa using hb
          intro z
          rcases e' with q | q
          · obtain ⟨old, z2⟩ := hen
            have := Heap.lt_size z2
            rw [← q, z] at this
            exact absurd (Nat.lt_of_lt_of_le this hnew) (Nat.lt_irrefl _)
          · obtain ⟨o, z2, _⟩ := live i _ hs
            have := Heap.lt_size z2
            rw [← q, z] at this
            exact absurd (Nat.lt_of_lt_of_le this hnew) (Nat.lt_irrefl _)
        rw [upd_ne hb']
        exact (hf b hb).1
    · exact q
  done := by
    intro X hP hw hK hc i pins s σ H E I hf st hg
    obtain ⟨hi, hok⟩ := hg
    have hh := I.ok.hd hc
    obtain ⟨fp, Pv, St, D, mem, out, up, down, pv⟩ := dr X pins s σ H hP hw hK hh I (hf it (by simp)).1 hok
    subst hP hw hK
    obtain ⟨hen, hs⟩ := st
    have hef : e ∉ fp := fun z => by
      obtain ⟨u, hu⟩ := out e z hei
      rw [(hf e (by simp)).1] at hu; cases hu
    have G' := GoesN.ofWalksT (elts := elts) (k := kk) (pos := tpos) (WalksT.enumFrom 0 D e hei hef mem)
    subst hi
    have hst : (∃ old, IsEnum s.heap e it (0 + (i : Int)) old) ∧ St i s.heap := ⟨by rw [Int.zero_add]; exact hen, up i _ hs fun b o _ q => q⟩
    exact G'.stops s (fun s1 => Inv X pins σ H s1) E hst fun h' tk hk _ => I.turnedL (ch := [e, it]) (fun b o hb q => hk b o hb q) hf
  self := fun A i s Q E st h => let ⟨⟨_, he⟩, _⟩ := st; wpAny_pyIter_enum he h

section
variable {G : Gx} {B : Base} {Φ Φ' : Fz} {L L' : Loc} {σ : L2.St} {H H' : Hp} {X : Cx} {a b e : Expr} {pos : Pos} {ma mb : EM} {tg : Expr}
theorem enumNew1 {v : Value} {o : Obj} {Hh : Heap → Prop} (Bg : Begins v o Hh) :
    Meets (Builtin.«enumerate.__new__» ⟨[.type "enumerate", v], []⟩) (fun _ R s => Hh s.heap ∧
      R (.ok (.ret (.ref (s.heap.push o).objs.size))) { s with heap := (s.heap.push o).push { cls := .type "enumerate", data := .fields #[.none, .bool false, .ref s.heap.objs.size, rawInt 0, .none, .none] } }) :=
  .of_wp fun prog w A R s h => by
    obtain ⟨hp, g, d, tk, os⟩ := s
    obtain ⟨h1, h⟩ := h
    have hsub := sub_enumerate
    have q1 : ∀ {A' : Around} {E : Value → Shared → Prop} {Q : Value → Shared → Prop}, Q (.ref hp.objs.size) ⟨hp.push o, g, d, tk, os⟩ → wpAny (model prog w) A' (pyIter v) Q E ⟨hp, g, d, tk, os⟩ := fun q => Bg.iter prog w _ _ ⟨hp, g, d, tk, os⟩ _ h1 q
    wp_walk using q1
    refine wpAny_stack_any fun st => wpAny_pure ?_
    split
    · rename_i c _ _ _ _ _
      cases (c == Value.type "enumerate")
      · wp_walk using q1
        exact ⟨_, rfl, h⟩
      · wp_walk using q1
        exact ⟨_, rfl, h⟩
    · wp_walk using q1
      exact ⟨_, rfl, h⟩
theorem enum1 {prog : Program} {w : World} {A : Around} {E : Value → Shared → Prop} {s : Shared} {v : Value} {o : Obj} {Hh : Heap → Prop} {Q : Value → Shared → Prop} (Bg : Begins v o Hh) (h1 : Hh s.heap)
    (h : ∀ h', IsEnum h' (s.heap.objs.size + 1) s.heap.objs.size 0 .none → h'.get? s.heap.objs.size = some o → (∀ b u, s.heap.get? b = some u → h'.get? b = some u) → Q (.ref (s.heap.objs.size + 1)) { s with heap := h' }) :
    wpAny (model prog w) A (call (.type "enumerate") [v]) Q E s := by
  refine callType_new F.called_enumerate (by decide) (F.typeCall_enumerate_1 _) (F.newCall_enumerate_1 _) (fun obj => F.args_object_init_2 obj _) F.entry_enumerate_new (enumNew1 Bg) ⟨h1, ?_⟩
  have hz : (s.heap.push o).objs.size = s.heap.objs.size + 1 := Heap.size_push ..
  show _ ∧ _
  rw [hz]
  have he : IsEnum ((s.heap.push o).push { cls := .type "enumerate", data := .fields #[.none, .bool false, .ref s.heap.objs.size, rawInt 0, .none, .none] }) (s.heap.objs.size + 1) s.heap.objs.size 0 .none := by
    have := Heap.get?_push_size (s.heap.push o) (o := { cls := .type "enumerate", data := .fields #[.none, .bool false, .ref s.heap.objs.size, rawInt 0, .none, .none] }) rfl
    rw [hz] at this
    exact this
  exact ⟨⟨_, he, rfl⟩, h _ he (Heap.get?_push_of_some _ (Heap.get?_push_size _ Bg.free)) fun b u x => Heap.get?_push_of_some _ (Heap.get?_push_of_some _ x)⟩
/-- enumerate(v) begins -/
theorem enum_pie {pins : List (Addr × Obj)} {s : Shared} {R : It → Hp → Prop} {E : Value → Shared → Prop} {v : Value} {o : Obj} {Hh : Heap → Prop} {elts : List Expr} {kk : Nat} {tpos : Pos} {J : It} {Sti : Nat → Heap → Prop} (I : Inv X pins σ H s) (Bg : Begins v o Hh) (h1 : Hh s.heap)
    (T : ∀ e it : Addr, e ≠ it → it = s.heap.objs.size → Turn X.prog X.w X.K (.Tuple elts kk tpos) J [e, it] e (fun i h => (∃ old, IsEnum h e it ((i : Nat) : Int) old) ∧ Sti i h)) (s0 : ∀ h' : Heap, h'.get? s.heap.objs.size = some o → Sti 0 h') (q : R J H) :
    wpAny (model X.prog X.w) X.A (call (.type "enumerate") [v]) (fun u s1 => wpAny (model X.prog X.w) X.A (pyIter u) (PIE X pins σ (.Tuple elts kk tpos) R) X.xe s1) E s := by
  refine enum1 Bg h1 fun h' he hit hk => wpAny_pyIter_enum he ?_
  have I2 : Inv X pins σ H { s with heap := h' } := I.kept (t' := s.toks) hk
  refine ⟨s.heap.objs.size + 1, [s.heap.objs.size + 1, s.heap.objs.size], _, J, H, rfl, I2, T _ _ (Nat.succ_ne_self _) rfl, ⟨⟨.none, he⟩, s0 h' hit⟩, fun b hb => ?_, q⟩
  have hle : s.heap.objs.size ≤ b := by
    have e' : b = s.heap.objs.size + 1 ∨ b = s.heap.objs.size := by simpa using hb
    rcases e' with z | z
    · rw [z]; exact Nat.le_add_right _ _
    · rw [z]; exact Nat.le_refl _
  exact I.fpOk hle (I.hok.fresh hle)
def iEnumA (K : PySem.W.Frag) (ta : TA) : TI := fun σ H R => ta σ H fun vs H1 => (∃ a xs, vs = [.ref a] ∧ SqT K H1 a xs ∧ R (ItE xs.length (fun _ i y => xs[i]? = some y) fun H => SqT K H a xs ∧ ∃ u, H a = some u) H1 ∧ ∃ u, H1 a = some u) ∨
  (∃ a xs, vs = [.ref a] ∧ SqL K H1 a xs ∧ R (Ite K a) H1) ∨ ∃ x : Str, vs = [.str x] ∧ R (ItE x.cps.size (fun _ i y => ∃ c, x.cps[i]? = some c ∧ y = .str ⟨#[c]⟩) fun _ => True) H1
theorem pi_enumA {ta : TA} {p tpos : Pos} {elts : List Expr} {kk : Nat} (hg : Gl X "enumerate") (hm : X.mg "enumerate" = none) (ha : PA X [e] ta) (hs : starEach [e] X.env = [(false, eval e X.env)] := by rfl) :
    PI X (.Tuple elts kk tpos) (.Call (.Name "enumerate" p) [e] [] pos) (iEnumA X.K ta) := by
  refine ⟨fun pins s σ H R I h => ?_⟩
  refine Call_ (ld_blt I hg hm boot_enumerate (PyProof.Rows.callWith_type1 (thn (ha.run pos pins s σ H _ I h) fun us s1 ⟨vs, H1, I1, r1, q1⟩ => ?_) hs rfl))
  rcases q1 with ⟨a, xs, rfl, hq, q, hu⟩ | ⟨a, xs, rfl, hq, q⟩ | ⟨x, rfl, q⟩
  · obtain ⟨u, rfl, ru⟩ := vals1 r1
    cases ru
    obtain ⟨its, rv, ht, hz⟩ := I1.tuple hq
    have hlen : its.toArray.size = xs.length := by rw [List.size_toArray]; exact rv.length.symm
    refine enum_pie (Sti := fun i h => h.IsTupleIter s1.heap.objs.size a i) I1 (begins_tuple a its.toArray) ht (fun e' it hne hit => ?_) (fun h' z => ⟨_, z, rfl, rfl⟩) q
    subst hit
    have hlt : a < s1.heap.objs.size := ht.lt
    refine turn_draws hne (fun i h z => ?_) (fun i h h' z k => z.at fun o q => k o q) fun X' pins' s' σ' H' hP hw hK hh I' hit hok => ?_
    · obtain ⟨o, ho, hc, hd⟩ := z
      exact ⟨o, ho, fun v q => by rw [hd] at q; cases q⟩
    · obtain ⟨hq', hu'⟩ := hok
      obtain ⟨its', rv', ht', _⟩ := I'.tuple (by rw [hK]; exact hq')
      have hlen' : its'.toArray.size = xs.length := by rw [List.size_toArray]; exact rv'.length.symm
      have Dr := Draws.tuple (prog := X.prog) (w := X.w) (A := X'.A.in1) hh s1.heap.objs.size a (Nat.ne_of_lt hlt) its'.toArray
      rw [hlen'] at Dr
      have hT' : s'.heap.IsTuple a its'.toArray := ht'
      refine ⟨_, _, _, Dr, by simp, fun b hb hne' => ?_, fun i h z k => ⟨z, ?_⟩, fun i h z => z.1, fun i v hv => ?_⟩
      · have e' : b = s1.heap.objs.size ∨ b = a := by simpa using hb
        rcases e' with z | z
        · exact absurd z hne'
        · rw [z]; exact hu'
      · exact hT'.at fun o q => k a o (Nat.ne_of_lt hlt) q
      · have hv' : its'[i]? = some v := by simpa using hv
        have hi : i < xs.length := by
          have := (List.getElem?_eq_some_iff.mp hv').1
          have := rv'.length
          omega
        obtain ⟨u, hu, ru⟩ := rv'.get (List.getElem?_eq_getElem hi)
        rw [hv'] at hu
        cases hu
        exact ⟨xs[i], ru, List.getElem?_eq_getElem hi⟩
  · exact (thn (Q := fun u s2 => wpAny (model X.prog X.w) X.A (pyIter u) (PIE X pins σ (.Tuple elts kk tpos) R) X.xe s2) (by
      obtain ⟨u, rfl, ru⟩ := vals1 r1
      cases ru
      obtain ⟨its, rv, p', hz⟩ := I1.list hq
      refine call_enumerate_list p'.isList fun h' he hit hsz hk => wpAny_pyIter_enum he ?_
      have I2 : Inv X pins σ H1 { s1 with heap := h' } := I1.kept (t' := s1.toks) hk
      refine ⟨s1.heap.objs.size + 1, [s1.heap.objs.size + 1, s1.heap.objs.size], _, _, H1, rfl, I2, turn_enum a (s1.heap.objs.size + 1) s1.heap.objs.size, ⟨⟨.none, he⟩, hit, Nat.succ_ne_self _⟩, fun b hb => ?_, q⟩
      have hle : s1.heap.objs.size ≤ b := by
        have e' : b = s1.heap.objs.size + 1 ∨ b = s1.heap.objs.size := by simpa using hb
        rcases e' with z | z
        · rw [z]; exact Nat.le_add_right _ _
        · rw [z]; exact Nat.le_refl _
      exact I1.fpOk hle (I1.hok.fresh hle)) fun _ _ z => z)
  · obtain ⟨u, rfl, ru⟩ := vals1 r1
    obtain ⟨t, rfl⟩ := ru
    refine enum_pie (Sti := fun i h => h.IsStrIter s1.heap.objs.size (strIterType x) x t i) I1 (begins_text x t) trivial (fun e' it hne hit => ?_) (fun h' z => ⟨_, z, rfl, rfl⟩) q
    subst hit
    refine turn_draws hne (fun i h z => ?_) (fun i h h' z k => let ⟨o, ho, hc, hd⟩ := z; ⟨o, k o ho, hc, hd⟩) fun X' pins' s' σ' H' hP hw hK hh I' hit hok => ?_
    · obtain ⟨o, ho, hc, hd⟩ := z
      exact ⟨o, ho, fun v q => by rw [hd] at q; cases q⟩
    · refine ⟨_, _, _, Draws.text (prog := X.prog) (w := X.w) (A := X'.A.in1) hh s1.heap.objs.size x t, by simp, fun b hb hne' => ?_, fun i h z k => z, fun i h z => z, fun i v hv => ?_⟩
      · exact absurd (by simpa using hb) hne'
      · obtain ⟨c, u, hc, rfl⟩ := hv
        exact ⟨.str ⟨#[c]⟩, ⟨u, rfl⟩, c, hc, rfl⟩
/-- (0, x0), (1, x1), .. -/
def enumD (xs : List D) : List D := (xs.zipIdx).map fun p => .row [.int (p.2 : Nat), p.1]
theorem enumD_len (xs : List D) : (enumD xs).length = xs.length := by simp [enumD]
theorem enumD_get {xs : List D} {i : Nat} {d : D} (h : (enumD xs)[i]? = some d) : ∃ x, xs[i]? = some x ∧ d = .row [.int (i : Nat), x] := by
  unfold enumD at h
  rw [List.getElem?_map, List.getElem?_zipIdx] at h
  obtain ⟨p, hp, rfl⟩ := map_inv h
  obtain ⟨x, hx, rfl⟩ := map_inv hp
  exact ⟨x, hx, by simp⟩
def mEnum (m : AM) : IM := fun L => (m L).bind fun p => match p.1 with
  | [.fro (.tup l)] => some (enumD l, p.2)
  | [.fro (.lst l)] => some (enumD l, p.2)
  | [.fro (.str x)] => some (enumD (rows x), p.2)
  | _ => none
theorem di_enum {m : AM} {p tpos : Pos} {elts : List Expr} {kk : Nat} (hg : Gl X "enumerate") (hm : X.mg "enumerate" = none) (ha : PA X [e] (tA G B m)) (hs : starEach [e] X.env = [(false, eval e X.env)] := by rfl) :
    PI X (.Tuple elts kk tpos) (.Call (.Name "enumerate" p) [e] [] pos) (tI G B (mEnum m)) :=
  PI.imp (pi_enumA hg hm ha hs) fun σ H R h => by
    obtain ⟨Φ, L, ds, L', S, e, k⟩ := h
    obtain ⟨p, ea, e⟩ := bind_inv e
    refine ⟨Φ, L, p.1, p.2, S, ea, fun vs Φ1 H1 S1 s1 r1 => ?_⟩
    split at e
    · rename_i l hx
      cases e
      rw [hx] at r1
      obtain ⟨v, rfl, rv⟩ := one_inv r1
      have rv' : Rep G Φ1 (.tup l) v := rv
      simp only [Rep] at rv'
      obtain ⟨c, us, rfl, hp, hr⟩ := rv'
      refine .inl ⟨c, us, rfl, (S1.fz c (.pt _) hp : TupAt H1 c _).sq, k _ Φ1 H1 S1 s1 (walkP (fun i H Φ' le fz hi => ?_) (fun i H Φ' le fz hi => ?_) fun i H H' Φ' w le fz yl d hd => ?_), (let ⟨_, e, _⟩ := (S1.fz c (.pt us) hp : TupAt H1 c us); ⟨_, e⟩)⟩
      · rw [enumD_len, hr.length] at hi
        exact ⟨hi, (fz c (.pt _) (le _ _ hp) : TupAt _ c _).sq, (let ⟨_, e, _⟩ := (fz c (.pt us) (le _ _ hp) : TupAt _ c us); ⟨_, e⟩)⟩
      · rw [enumD_len, hr.length] at hi
        exact ⟨hi, (fz c (.pt _) (le _ _ hp) : TupAt _ c _).sq, (let ⟨_, e, _⟩ := (fz c (.pt us) (le _ _ hp) : TupAt _ c us); ⟨_, e⟩)⟩
      · obtain ⟨dx, ex, rfl⟩ := enumD_get hd
        obtain ⟨T, y, rfl, hT, rfl, hy⟩ := yl
        obtain ⟨v1, hv1, rv1⟩ := hr.get ex
        rw [hy] at hv1
        cases hv1
        exact ⟨T, _, _, _, dx, rfl, hT, rfl, rfl, by simp only [Rep], Rep.mono le _ _ rv1⟩
    · rename_i l hx
      cases e
      rw [hx] at r1
      obtain ⟨v, rfl, rv⟩ := one_inv r1
      have rv' : Rep G Φ1 (.lst l) v := rv
      simp only [Rep] at rv'
      obtain ⟨c, us, rfl, hp, hr⟩ := rv'
      refine .inr (.inl ⟨c, us, rfl, SqL.of (S1.fz _ _ hp), k _ Φ1 H1 S1 s1 (walkP (fun i H Φ' le fz hi => ?_) (fun i H Φ' le fz hi => ?_) fun i H H' Φ' w le fz yl d hd => ?_)⟩)
      · rw [enumD_len, hr.length] at hi
        exact ⟨us, us[i], SqL.of (fz _ _ (le _ _ hp)), List.getElem?_eq_getElem hi⟩
      · rw [enumD_len, hr.length] at hi
        exact ⟨us, SqL.of (fz _ _ (le _ _ hp)), Nat.le_of_eq hi.symm⟩
      · obtain ⟨dx, ex, rfl⟩ := enumD_get hd
        obtain ⟨T, y, rfl, hT, rfl, hy⟩ := yl
        obtain ⟨v1, hv1, rv1⟩ := hr.get ex
        have e1 := hy us (SqL.of (fz _ _ (le _ _ hp)))
        rw [hv1] at e1
        cases e1
        exact ⟨T, _, _, _, dx, rfl, hT, rfl, rfl, by simp only [Rep], Rep.mono le _ _ rv1⟩
    · rename_i x hx
      cases e
      rw [hx] at r1
      obtain ⟨v, rfl, rv⟩ := one_inv r1
      have rv' : Rep G Φ1 (.str x) v := rv
      simp only [Rep] at rv'
      subst rv'
      refine .inr (.inr ⟨_, rfl, k _ Φ1 H1 S1 s1 (walkP (fun i H Φ' le fz hi => ?_) (fun i H Φ' le fz hi => ?_) fun i H H' Φ' w le fz yl d hd => ?_)⟩)
      · rw [enumD_len] at hi
        exact ⟨by simpa [rows] using hi, trivial⟩
      · rw [enumD_len] at hi
        exact ⟨by simpa [rows] using hi, trivial⟩
      · obtain ⟨dx, ex, rfl⟩ := enumD_get hd
        obtain ⟨T, y, rfl, hT, rfl, c, hc, rfl⟩ := yl
        have hc' : x[i]? = some c := by simpa using hc
        unfold rows at ex
        rw [List.getElem?_map, hc'] at ex
        cases ex
        exact ⟨T, _, _, _, _, rfl, hT, rfl, rfl, by simp only [Rep], by simp only [Rep]⟩
    · cases e
end
end SS

/-! the data layer: targets, statements, loops, comprehensions -/
namespace SS
open PySem PySem.Spec PyProof.Rows L2

section
variable {G : Gx} {B : Base} {Φ Φ' : Fz} {L L' : Loc} {σ : L2.St} {H H' : Hp} {X : Cx} {a b e : Expr} {pos : Pos} {ma mb : EM} {tg : Expr}

/-! ### a slot is given a value -/
def LV.isPin : LV → Bool
  | .pin _ => true
  | _ => false
def put (i : Nat) (ev : EV) (L : Loc) : Option Loc := match L[i]? with
  | none => none
  | some lv0 => if lv0.isPin = true then none else match ev with
    | .fro d => some (L.set i (.fro d))
    | .tmp l => some (L.set i (.own l))
    | .tmpd ks ws => some (L.set i (.ownd ks ws))
    | .tmpk kvs => some (L.set i (.ownk kvs))
    | .loc j => match L[j]? with
      | some (.fro d) => some (L.set i (.fro d))
      | some (.own l) => some ((L.set j .none).set i (.own l))
      | some (.ownd ks ws) => some ((L.set j .none).set i (.ownd ks ws))
      | some (.ownk kvs) => some ((L.set j .none).set i (.ownk kvs))
      | _ => none
theorem get_set_self {α : Type} {l : List α} {i : Nat} {x y : α} (h : l[i]? = some y) : (l.set i x)[i]? = some x := List.getElem?_set_self (List.getElem?_eq_some_iff.mp h).1
/-- slot i gets lv with value v -/
theorem Sim.store (S : Sim G B Φ L σ H) {i : Nat} {lv0 lv : LV} {v : V} (e0 : L[i]? = some lv0) (np : lv0.isPin = false) (new : SlotOk G B Φ H lv (some v))
    (fresh : lv.isOwn = true → ∀ a, v = .ref a → (∀ j, j ≠ i → ¬ OwnI L σ j a) ∧ B.H a = none) (nb : lv.isPin = false) : Sim G B Φ (L.set i lv) (σ.set i (some v)) H := by
  have hil : i < L.length := (List.getElem?_eq_some_iff.mp e0).1
  have his : i < σ.length := by rw [← S.len]; exact hil
  have own' : ∀ {j : Nat} {b : Addr}, OwnI (L.set i lv) (σ.set i (some v)) j b → (j = i ∧ lv.isOwn = true ∧ v = .ref b) ∨ (j ≠ i ∧ OwnI L σ j b) := fun {j b} h => by
    obtain ⟨x, e1, e2, e3⟩ := h
    by_cases hj : j = i
    · subst hj
      rw [List.getElem?_set_self hil] at e1
      rw [List.getElem?_set_self his] at e3
      cases e1
      exact .inl ⟨rfl, e2, by injection e3 with e3; injection e3⟩
    · rw [List.getElem?_set_ne (Ne.symm hj)] at e1 e3
      exact .inr ⟨hj, x, e1, e2, e3⟩
  refine ⟨by rw [List.length_set, List.length_set]; exact S.len, S.fz, fun j x e => ?_, fun j k c h h' => ?_, S.ext, fun c o e1 e2 e3 => ?_, S.dom, fun c e => ?_⟩
  · by_cases hj : j = i
    · subst hj
      rw [List.getElem?_set_self hil] at e
      rw [List.getElem?_set_self his]
      cases e
      exact new
    · rw [List.getElem?_set_ne (Ne.symm hj)] at e ⊢
      exact S.slot j x e
  · rcases own' h with ⟨rfl, q1, q2⟩ | ⟨q1, q2⟩
    · rcases own' h' with ⟨rfl, _, _⟩ | ⟨r1, r2⟩
      · rfl
      · exact absurd r2 ((fresh q1 c q2).1 k r1)
    · rcases own' h' with ⟨rfl, r1, r2⟩ | ⟨r1, r2⟩
      · exact absurd q2 ((fresh r1 c r2).1 j q1)
      · exact S.sep j k c q2 r2
  · obtain ⟨k1, k2, k3⟩ := S.keep c o e1 e2 e3
    refine ⟨k1, k2, fun ⟨j, h⟩ => ?_⟩
    rcases own' h with ⟨rfl, q1, q2⟩ | ⟨q1, q2⟩
    · have := (fresh q1 c q2).2
      rw [e1] at this; cases this
    · exact k3 ⟨j, q2⟩
  · obtain ⟨j, l, q1, q2⟩ := S.pinned c e
    have hj : j ≠ i := fun z => by
      subst z
      rw [e0] at q1
      cases q1
      cases np
    exact ⟨j, l, by rw [List.getElem?_set_ne (Ne.symm hj)]; exact q1, by rw [List.getElem?_set_ne (Ne.symm hj)]; exact q2.1, q2.2⟩
/-- a slot is forgotten -/
theorem Sim.forget (S : Sim G B Φ L σ H) {i : Nat} {lv0 : LV} (e0 : L[i]? = some lv0) (np : lv0.isPin = false) : Sim G B Φ (L.set i .none) σ H := by
  have hil : i < L.length := (List.getElem?_eq_some_iff.mp e0).1
  have own' : ∀ {j : Nat} {b : Addr}, OwnI (L.set i .none) σ j b → OwnI L σ j b := fun {j b} h => by
    obtain ⟨x, e1, e2, e3⟩ := h
    by_cases hj : j = i
    · subst hj
      rw [List.getElem?_set_self hil] at e1
      cases e1
      cases e2
    · rw [List.getElem?_set_ne (Ne.symm hj)] at e1
      exact ⟨x, e1, e2, e3⟩
  refine ⟨by rw [List.length_set]; exact S.len, S.fz, fun j x e => ?_, fun j k c h h' => S.sep j k c (own' h) (own' h'), S.ext, fun c o e1 e2 e3 => ?_, S.dom, fun c e => ?_⟩
  · by_cases hj : j = i
    · subst hj
      rw [List.getElem?_set_self hil] at e
      cases e
      trivial
    · rw [List.getElem?_set_ne (Ne.symm hj)] at e
      exact S.slot j x e
  · obtain ⟨k1, k2, k3⟩ := S.keep c o e1 e2 e3
    exact ⟨k1, k2, fun ⟨j, h⟩ => k3 ⟨j, own' h⟩⟩
  · obtain ⟨j, l, q1, q2⟩ := S.pinned c e
    have hj : j ≠ i := fun z => by
      subst z
      rw [e0] at q1
      cases q1
      cases np
    exact ⟨j, l, by rw [List.getElem?_set_ne (Ne.symm hj)]; exact q1, q2⟩
theorem put_ok (S : Sim G B Φ L σ H) {i : Nat} {ev : EV} {v : V} (r : RepE G B Φ L σ H ev v) (e : put i ev L = some L') : Sim G B Φ L' (σ.set i (some v)) H := by
  unfold put at e
  split at e
  · cases e
  · rename_i lv0 e0
    split at e
    · cases e
    · rename_i hp
      have np : lv0.isPin = false := by simpa using hp
      cases ev with
      | fro d => cases e; exact S.store e0 np ⟨v, rfl, r⟩ (fun z => by cases z) rfl
      | tmp l =>
        cases e
        obtain ⟨c, vs, rfl, p, q, n, o, bn⟩ := r
        exact S.store e0 np ⟨c, vs, rfl, p, q, n⟩ (fun _ c' z => by cases z; exact ⟨fun j _ h => o ⟨j, h⟩, bn⟩) rfl
      | tmpd ks ws =>
        cases e
        obtain ⟨c, rs, rfl, p, q, n, o, bn⟩ := r
        exact S.store e0 np ⟨c, rs, rfl, p, q, n⟩ (fun _ c' z => by cases z; exact ⟨fun j _ h => o ⟨j, h⟩, bn⟩) rfl
      | tmpk kvs =>
        cases e
        obtain ⟨c, kv, rfl, p, q, n, o, bn⟩ := r
        exact S.store e0 np ⟨c, kv, rfl, p, q, n⟩ (fun _ c' z => by cases z; exact ⟨fun j _ h => o ⟨j, h⟩, bn⟩) rfl
      | loc j =>
        have hv : σ[j]? = some (some v) := r
        have mv : ∀ (lv : LV) (c : Addr), L[j]? = some lv → lv.isOwn = true → lv.isPin = false → v = .ref c → Sim G B Φ ((L.set j .none).set i lv) (σ.set i (some v)) H := fun lv c ej ho hnp hvc => by
          have sl := S.slot j lv ej
          rw [hv] at sl
          have S1 := S.forget ej hnp
          have e0' : ∃ lv1, (L.set j .none)[i]? = some lv1 ∧ lv1.isPin = false := by
            by_cases hij : i = j
            · subst hij
              exact ⟨.none, get_set_self ej, rfl⟩
            · exact ⟨lv0, by rw [List.getElem?_set_ne (Ne.symm hij)]; exact e0, np⟩
          obtain ⟨lv1, e1, np1⟩ := e0'
          refine S1.store e1 np1 sl (fun _ c' z => ⟨fun k hk h => ?_, ?_⟩) hnp
          · subst hvc
            cases z
            obtain ⟨x, q1, q2, q3⟩ := h
            have hkj : k ≠ j := fun z => by subst z; rw [get_set_self ej] at q1; cases q1; cases q2
            rw [List.getElem?_set_ne (Ne.symm hkj)] at q1
            exact hkj (S.sep k j c ⟨x, q1, q2, q3⟩ ⟨lv, ej, ho, hv⟩)
          · subst hvc
            cases z
            cases hb : B.H c with
            | none => rfl
            | some o =>
              exfalso
              obtain ⟨u, w, q1, q2, q3⟩ := sl.own_at ho
              cases q1
              cases hbΦ : B.Φ c with
              | some fo => rw [S.ext c fo hbΦ] at q3; cases q3
              | none =>
                by_cases hpa : B.pa = some c
                · obtain ⟨k, l, q4, q5⟩ := S.pinned c hpa
                  have : k = j := S.sep k j c ⟨_, q4, rfl, q5.1⟩ ⟨lv, ej, ho, hv⟩
                  subst this
                  rw [ej] at q4
                  cases q4
                  cases hnp
                · exact (S.keep c o hb hbΦ hpa).2.2 ⟨j, lv, ej, ho, hv⟩
        have e' : (match L[j]? with
          | some (.fro d) => some (L.set i (.fro d))
          | some (.own l) => some ((L.set j .none).set i (.own l))
          | some (.ownd ks ws) => some ((L.set j .none).set i (.ownd ks ws))
          | some (.ownk kvs) => some ((L.set j .none).set i (.ownk kvs))
          | _ => none) = some L' := e
        cases ej : L[j]? with
        | none => rw [ej] at e'; cases e'
        | some lv =>
          have sl := S.slot j lv ej
          rw [hv] at sl
          rw [ej] at e'
          cases lv with
          | none => cases e'
          | fro d =>
            cases e'
            obtain ⟨u, eu, ru⟩ := sl
            cases eu
            exact S.store e0 np ⟨v, rfl, ru⟩ (fun z => by cases z) rfl
          | own l => cases e'; obtain ⟨c, _, z, _⟩ := sl; cases z; exact mv _ c ej rfl rfl rfl
          | pin l => cases e'
          | ownd ks ws => cases e'; obtain ⟨c, _, z, _⟩ := sl; cases z; exact mv _ c ej rfl rfl rfl
          | ownk kvs => cases e'; obtain ⟨c, _, z, _⟩ := sl; cases z; exact mv _ c ej rfl rfl rfl
theorem put_len {i : Nat} {ev : EV} (e : put i ev L = some L') : L'.length = L.length := by
  unfold put at e
  split at e
  · cases e
  · split at e
    · cases e
    · split at e
      · cases e; simp
      · cases e; simp
      · cases e; simp
      · cases e; simp
      · split at e
        · cases e; simp
        · cases e; simp
        · cases e; simp
        · cases e; simp
        · cases e

/-! ### targets: a frozen value is stored -/
abbrev GM := D → Loc → Option Loc
def tG (G : Gx) (B : Base) (vs : List Nat) (g : GM) : TG := fun v σ H Q => ∃ Φ L d L', Sim G B Φ L σ H ∧ Rep G Φ d v ∧ g d L = some L' ∧
  ∀ σ', Sim G B Φ L' σ' H → σ'.length = σ.length → (∀ j, j ∉ vs → σ'[j]? = σ[j]?) → (∀ j c, OwnI L' σ' j c → OwnI L σ j c) → Q σ' H
theorem PG.imp {X : Cx} {tg : Expr} {t t' : TG} (h : PG X tg t) (i : ∀ v σ H Q, t' v σ H Q → t v σ H Q) : PG X tg t' := ⟨fun pins s σ H v u Q I r q => h.run pins s σ H v u Q I r (i v σ H Q q)⟩
def gN (i : Nat) : GM := fun d L => put i (.fro d) L
theorem dg_name {i : Nat} {x : Str} (hN : X.N.Nodup) (hi : X.N[i]? = some x) (hx : L2.Loc X.env.scope x) (hf : X.fn x = true ∨ X.env.scope.names.lookup x = some .local := by first | exact .inl rfl | exact .inr rfl | assumption) : PG X (.Name x pos) (tG G B [i] (gN i)) :=
  PG.imp (pg_name hN hi hx hf) fun v σ H Q h => by
    obtain ⟨Φ, L, d, L', S, r, e, k⟩ := h
    refine k _ (put_ok S (ev := .fro d) r e) (by rw [List.length_set]) (fun j hj => ?_) fun j c ⟨lv, e1, e2, e3⟩ => ?_
    · have : i ≠ j := fun z => hj (by rw [z]; exact List.mem_singleton.mpr rfl)
      rw [List.getElem?_set_ne this]
    · have eL : L' = L.set i (.fro d) := by
        unfold gN put at e
        split at e
        · cases e
        · split at e
          · cases e
          · cases e; rfl
      subst eL
      by_cases hj : j = i
      · subst hj
        have : j < L.length := by have := (List.getElem?_eq_some_iff.mp e1).1; simpa using this
        rw [List.getElem?_set_self this] at e1
        cases e1
        cases e2
      · rw [List.getElem?_set_ne (Ne.symm hj)] at e1 e3
        exact ⟨lv, e1, e2, e3⟩
abbrev GMs := List D → Loc → Option Loc
def tGs (G : Gx) (B : Base) (vs : List Nat) (g : GMs) : TGs := fun us σ H Q => ∃ Φ L ds L', Sim G B Φ L σ H ∧ Reps G Φ ds us ∧ g ds L = some L' ∧
  ∀ σ', Sim G B Φ L' σ' H → σ'.length = σ.length → (∀ j, j ∉ vs → σ'[j]? = σ[j]?) → (∀ j c, OwnI L' σ' j c → OwnI L σ j c) → Q σ' H
theorem PGs.imp {X : Cx} {ts : List Expr} {t t' : TGs} (h : PGs X ts t) (i : ∀ v σ H Q, t' v σ H Q → t v σ H Q) : PGs X ts t' := ⟨fun pins s σ H v u Q I r q => h.run pins s σ H v u Q I r (i v σ H Q q)⟩
def gNil' : GMs := fun ds L => match ds with
  | [] => some L
  | _ => none
def gCons' (g : GM) (gr : GMs) : GMs := fun ds L => match ds with
  | d :: r => (g d L).bind fun L1 => gr r L1
  | [] => none
theorem dgs_nil : PGs X [] (tGs G B [] gNil') := PGs.imp pgs_nil fun us σ H Q h => by
  obtain ⟨Φ, L, ds, L', S, r, e, k⟩ := h
  unfold gNil' at e
  split at e
  · cases e
    simp only [Reps] at r
    exact ⟨r, k σ S rfl (fun _ _ => rfl) fun _ _ h => h⟩
  · cases e
theorem dgs_cons {es : List Expr} {vs ws : List Nat} {g : GM} {gr : GMs} (h1 : PG X e (tG G B vs g)) (h2 : PGs X es (tGs G B ws gr)) (hs : (assignEach (e :: es) X.env).map (·.2) = assign e X.env :: (assignEach es X.env).map (·.2) := by rfl) :
    PGs X (e :: es) (tGs G B (vs ++ ws) (gCons' g gr)) := PGs.imp (pgs_cons h1 h2 hs) fun us σ H Q h => by
  obtain ⟨Φ, L, ds, L', S, r, e, k⟩ := h
  unfold gCons' at e
  split at e
  · rename_i d rr
    obtain ⟨L1, e1, e2⟩ := bind_inv e
    simp only [Reps] at r
    obtain ⟨v, vr, rfl, r1, r2⟩ := r
    refine ⟨v, vr, rfl, Φ, L, d, L1, S, r1, e1, fun σ1 S1 l1 k1 o1 => ⟨Φ, L1, rr, L', S1, r2, e2, fun σ2 S2 l2 k2 o2 => k σ2 S2 (l2.trans l1) (fun j hj => ?_) fun j c h => o1 j c (o2 j c h)⟩⟩
    rw [List.mem_append, not_or] at hj
    rw [k2 j hj.2, k1 j hj.1]
  · cases e
def gTup' (n : Nat) (g : GMs) : GM := fun d L => match d with
  | .tup ds => if ds.length = n then g ds L else none
  | .row ds => if ds.length = n then g ds L else none
  | _ => none
theorem dg_tup {es : List Expr} {kk : Nat} {vs : List Nat} {g : GMs} {n : Nat} (hc : X.calm = true) (h : PGs X es (tGs G B vs g)) (hn : (assignEach es X.env).length = n := by rfl) (hst : (assignEach es X.env).findIdx? (·.1) = none := by rfl) :
    PG X (.Tuple es kk pos) (tG G B vs (gTup' n g)) := PG.imp (pg_tup hc h hn hst) fun v σ H Q h => by
  obtain ⟨Φ, L, d, L', S, r, e, k⟩ := h
  unfold gTup' at e
  split at e
  · rename_i ds
    split at e
    · rename_i hl
      simp only [Rep] at r
      obtain ⟨c, us, rfl, hp, hr⟩ := r
      exact ⟨c, us, rfl, (S.fz c (.pt us) hp : TupAt H c us).sq, by rw [length_vs hr]; exact hl, Φ, L, ds, L', S, hr, e, k⟩
    · cases e
  · rename_i ds
    split at e
    · rename_i hl
      simp only [Rep] at r
      obtain ⟨c, us, rfl, hp, hr⟩ := r
      exact ⟨c, us, rfl, SqT.of (S.fz _ _ hp), by rw [length_vs hr]; exact hl, Φ, L, ds, L', S, hr, e, k⟩
    · cases e
  · cases e

/-! ### blocks and small statements -/
variable {st : Stmt} {sts : List Stmt} {m1 m2 : SM} {u1 u2 : TM}
def mNx : SM := fun L => some (.nx, L)
def mSeq (m1 m2 : SM) : SM := fun L => (m1 L).bind fun p => match p.1 with
  | .nx => m2 p.2
  | o => some (o, p.2)
theorem dss_nil : PSs X [] (tS G B mNx) := PSs.imp pss_nil fun D σ H h => by
  obtain ⟨Φ, L, o, L', S, e, k⟩ := h
  cases e
  exact k σ Φ H (Fz.Le.refl _) S
theorem dss_one (h : PS X st (tS G B m1)) : PSs X [st] (tS G B m1) := pss_one h
theorem dss_cons (h1 : PS X st (tS G B m1)) (h2 : PSs X sts (tS G B m2)) : PSs X (st :: sts) (tS G B (mSeq m1 m2)) := PSs.imp (pss_cons h1 h2) fun D σ H h => by
  obtain ⟨Φ, L, o, L', S, e, k⟩ := h
  obtain ⟨p, e1, e2⟩ := bind_inv e
  obtain ⟨o1, L1⟩ := p
  refine ⟨Φ, L, o1, L1, S, e1, ?_⟩
  cases o1 with
  | nx => exact fun σ' Φ' H' le S' => ⟨Φ', L1, o, L', S', e2, k.le le⟩
  | rt ev => cases e2; exact k
  | bk => cases e2; exact k
  | ct => cases e2; exact k
def mRet (ma : EM) : SM := fun L => (ma L).map fun p => (.rt p.1, p.2)
theorem ds_ret (h : PE X e (tE G B ma)) : PS X (.Return (some e) pos) (tS G B (mRet ma)) := PS.imp (ps_ret h) fun D σ H q => by
  obtain ⟨Φ, L, o, L', S, e, k⟩ := q
  obtain ⟨p, e1, e2⟩ := map_inv e
  cases e2
  exact ⟨Φ, L, p.1, p.2, S, e1, fun v Φ' H' S' st r _ => k v σ Φ' H' st.le S' r⟩
def mIfS (t : TM) (m1 m2 : SM) : SM := fun L => (t L).bind fun p => if p.1 = true then m1 p.2 else m2 p.2
theorem ds_if {c : Expr} {as bs : List Stmt} (hc : PT X c (tT G B u1)) (ha : PSs X as (tS G B m1)) (hb : PSs X bs (tS G B m2)) : PS X (.If c as bs pos) (tS G B (mIfS u1 m1 m2)) := PS.imp (ps_if hc ha hb) fun D σ H q => by
  obtain ⟨Φ, L, o, L', S, e, k⟩ := q
  obtain ⟨p, e1, e2⟩ := bind_inv e
  refine ⟨Φ, L, p.1, p.2, S, e1, fun Φ' H' S' st => ?_⟩
  cases hp : p.1 with
  | true => rw [hp, if_pos rfl] at e2; rw [if_pos rfl]; exact ⟨Φ', p.2, o, L', S', e2, k.le st.le⟩
  | false => rw [hp, if_neg Bool.false_ne_true] at e2; rw [if_neg Bool.false_ne_true]; exact ⟨Φ', p.2, o, L', S', e2, k.le st.le⟩
def mSet (i : Nat) (ma : EM) : SM := fun L => (ma L).bind fun p => (put i p.1 p.2).map fun L' => (.nx, L')
theorem mSet_imp {i : Nat} {D : Ends} (q : tS G B (mSet i ma) D σ H) : tAsg (tE G B ma) (gName i) D σ H := by
  obtain ⟨Φ, L, o, L', S, e, k⟩ := q
  obtain ⟨p, e1, e2⟩ := bind_inv e
  obtain ⟨L1, e3, e4⟩ := map_inv e2
  cases e4
  exact ⟨Φ, L, p.1, p.2, S, e1, fun v Φ' H' S' st r _ => k _ Φ' H' st.le (put_ok S' r e3)⟩
theorem ds_set {i : Nat} {x : Str} {pos' : Pos} (hN : X.N.Nodup) (hi : X.N[i]? = some x) (hx : L2.Loc X.env.scope x) (he : PE X e (tE G B ma)) (hs : swapsWith e (some (.Name x pos')) pos.line X.env = pure false := by rfl) (hf : X.fn x = true ∨ X.env.scope.names.lookup x = some .local := by first | exact .inl rfl | exact .inr rfl | assumption) :
    PS X (.Assign [.Name x pos'] e pos) (tS G B (mSet i ma)) := PS.imp (ps_set hN hi hx he hs hf) fun D σ H q => mSet_imp q
def mAsg (g : GM) (ma : EM) : SM := fun L => (ma L).bind fun p => match p.1 with
  | .fro d => (g d p.2).map fun L' => (.nx, L')
  | _ => none
theorem ds_asg {vs : List Nat} {g : GM} (he : PE X e (tE G B ma)) (hg : PG X tg (tG G B vs g)) (hs : swapsWithSole [tg] e pos.line X.env = pure false := by rfl) (hw : swappedStores [tg] e X.env = pure none := by rfl)
    (h1 : (assignEach [tg] X.env).map (·.2) = [assign tg X.env] := by rfl) : PS X (.Assign [tg] e pos) (tS G B (mAsg g ma)) := PS.imp (ps_asg he hg hs hw h1) fun D σ H q => by
  obtain ⟨Φ, L, o, L', S, e, k⟩ := q
  obtain ⟨p, e1, e2⟩ := bind_inv e
  obtain ⟨ev, L1⟩ := p
  cases ev with
  | fro d =>
    obtain ⟨L2', e3, e4⟩ := map_inv (show (g d L1).map _ = some (o, L') from e2)
    cases e4
    exact ⟨Φ, L, .fro d, L1, S, e1, fun v Φ' H' S' st r _ => ⟨Φ', L1, d, L', S', r, e3, fun σ' S2 _ _ _ => k σ' Φ' H' st.le S2⟩⟩
  | _ => cases e2
def mPar (i j : Nat) (ma mb : EM) : SM := fun L => (ma L).bind fun p => (mb p.2).bind fun q => (put i p.1 q.2).bind fun L1 => (put j q.1 L1).map fun L2 => (.nx, L2)
theorem put_rep {i : Nat} {ev ev2 : EV} {v w : V} (S : Sim G B Φ L σ H) (e : put i ev L = some L') (r : RepE G B Φ L σ H ev v) (r2 : RepE G B Φ L σ H ev2 w) (hn : ∀ c, NewE H' ev2 w → v = .ref c → H' c ≠ none) (n2 : NewE H' ev2 w) (hl : ∀ j, ev2 = .loc j → j ≠ i ∧ ∀ k, ev = .loc k → True) :
    RepE G B Φ L' (σ.set i (some v)) H ev2 w := by
  have own' : ∀ c, (∃ c', w = .ref c' ∧ H' c' = none ∧ c' = c) → ¬ OwnAt L σ c → ¬ OwnAt L' (σ.set i (some v)) c := by
    rintro c ⟨c', rfl, h0, rfl⟩ no ⟨k, lv, e1, e2, e3⟩
    have hlen := put_len e
    by_cases hk : k = i
    · subst hk
      have : k < σ.length := by rw [← S.len, ← hlen]; exact (List.getElem?_eq_some_iff.mp e1).1
      rw [List.getElem?_set_self this] at e3
      injection e3 with e3
      injection e3 with e3
      exact hn c' n2 e3 h0
    · rw [List.getElem?_set_ne (Ne.symm hk)] at e3
      -- slot k of L' is slot k of L, or forgotten
      have : ∃ lv', L[k]? = some lv' ∧ lv'.isOwn = true := by
        unfold put at e
        split at e
        · cases e
        · split at e
          · cases e
          · split at e
            · cases e; rw [List.getElem?_set_ne (Ne.symm hk)] at e1; exact ⟨lv, e1, e2⟩
            · cases e; rw [List.getElem?_set_ne (Ne.symm hk)] at e1; exact ⟨lv, e1, e2⟩
            · cases e; rw [List.getElem?_set_ne (Ne.symm hk)] at e1; exact ⟨lv, e1, e2⟩
            · cases e; rw [List.getElem?_set_ne (Ne.symm hk)] at e1; exact ⟨lv, e1, e2⟩
            · rename_i j'
              have mv : ∀ lv2 lv3, L[j']? = some lv2 → ((L.set j' .none).set i lv3)[k]? = some lv → ∃ lv', L[k]? = some lv' ∧ lv'.isOwn = true := fun lv2 lv3 q1 q2 => by
                rw [List.getElem?_set_ne (Ne.symm hk)] at q2
                by_cases hkj : k = j'
                · subst hkj
                  rw [get_set_self q1] at q2
                  cases q2
                  cases e2
                · rw [List.getElem?_set_ne (Ne.symm hkj)] at q2
                  exact ⟨lv, q2, e2⟩
              split at e
              · cases e; rw [List.getElem?_set_ne (Ne.symm hk)] at e1; exact ⟨lv, e1, e2⟩
              · rename_i q; cases e; exact mv _ _ q e1
              · rename_i q; cases e; exact mv _ _ q e1
              · rename_i q; cases e; exact mv _ _ q e1
              · cases e
      obtain ⟨lv', q1, q2⟩ := this
      exact no ⟨k, lv', q1, q2, e3⟩
  cases ev2 with
  | fro d => exact r2
  | tmp l =>
    obtain ⟨c, vs, hw, p, q, n, o, bn⟩ := r2
    obtain ⟨c2, hc2, h0⟩ := n2
    refine ⟨c, vs, hw, p, q, n, own' c ⟨c2, hc2, h0, ?_⟩ o, bn⟩
    rw [hw] at hc2; injection hc2 with hc2; exact hc2.symm
  | tmpd ks ws =>
    obtain ⟨c, vs, hw, p, q, n, o, bn⟩ := r2
    obtain ⟨c2, hc2, h0⟩ := n2
    refine ⟨c, vs, hw, p, q, n, own' c ⟨c2, hc2, h0, ?_⟩ o, bn⟩
    rw [hw] at hc2; injection hc2 with hc2; exact hc2.symm
  | tmpk kvs =>
    obtain ⟨c, vs, hw, p, q, n, o, bn⟩ := r2
    obtain ⟨c2, hc2, h0⟩ := n2
    refine ⟨c, vs, hw, p, q, n, own' c ⟨c2, hc2, h0, ?_⟩ o, bn⟩
    rw [hw] at hc2; injection hc2 with hc2; exact hc2.symm
  | loc j =>
    have hj := (hl j rfl).1
    show (σ.set i (some v))[j]? = some (some w)
    rw [List.getElem?_set_ne (Ne.symm hj)]
    exact r2
theorem Rep.there (fz : FzOk G Φ H) : ∀ {d : D} {c : Addr}, Rep G Φ d (.ref c) → H c ≠ none := by
  intro d c r
  have go : ∀ fo, Φ c = some fo → H c ≠ none := fun fo h z => by
    obtain ⟨o, q⟩ := (fz c fo h).there
    rw [z] at q; cases q
  cases d <;> simp only [Rep] at r
  · cases r
  · cases r
  · cases r
  · cases r
  · obtain ⟨a, vs, e, p, _⟩ := r; cases e; exact go _ p
  · obtain ⟨a, vs, e, p, _⟩ := r; cases e; exact go _ p
  · obtain ⟨a, vs, e, p, _⟩ := r; cases e; exact go _ p
  · obtain ⟨a, dx, d, vs, vh, e, p, _⟩ := r; cases e; exact go _ p
  · obtain ⟨a, dx, vs, e, p, _⟩ := r; cases e; exact go _ p
  · obtain ⟨a, rows, e, p, _⟩ := r; cases e; exact go _ p
theorem RepE.there (S : Sim G B Φ L σ H) {ev : EV} {c : Addr} (r : RepE G B Φ L σ H ev (.ref c)) (hl : ∀ j, ev = .loc j → ∃ lv, L[j]? = some lv ∧ lv ≠ .none) : H c ≠ none := by
  cases ev with
  | fro d => exact Rep.there S.fz r
  | tmp l => obtain ⟨a, vs, e, p, _⟩ := r; cases e; rw [p]; intro z; cases z
  | tmpd ks ws => obtain ⟨a, vs, e, p, _⟩ := r; cases e; rw [p]; intro z; cases z
  | tmpk kvs => obtain ⟨a, vs, e, p, _⟩ := r; cases e; rw [p]; intro z; cases z
  | loc j =>
    obtain ⟨lv, e1, e2⟩ := hl j rfl
    have hv : σ[j]? = some (some (.ref c)) := r
    have sl := S.slot j lv e1
    rw [hv] at sl
    cases lv with
    | none => exact absurd rfl e2
    | fro d => obtain ⟨u, eu, ru⟩ := sl; cases eu; exact Rep.there S.fz ru
    | own l => obtain ⟨a, vs, e, p, _⟩ := sl; cases e; rw [p]; intro z; cases z
    | pin l => obtain ⟨a, vs, e, _, p, _⟩ := sl; cases e; rw [p]; intro z; cases z
    | ownd ks ws => obtain ⟨a, vs, e, p, _⟩ := sl; cases e; rw [p]; intro z; cases z
    | ownk kvs => obtain ⟨a, vs, e, p, _⟩ := sl; cases e; rw [p]; intro z; cases z
def isLoc : EV → Bool
  | .loc _ => true
  | _ => false
def locIs (i : Nat) : EV → Bool
  | .loc k => decide (k = i)
  | _ => false
/-- a, b = x, y: x no list of this def's own by name, y not what a holds -/
def mPar' (i j : Nat) (ma mb : EM) : SM := fun L => (ma L).bind fun p => if isLoc p.1 = true then none else (mb p.2).bind fun q => if locIs i q.1 = true then none else (put i p.1 q.2).bind fun L1 => (put j q.1 L1).map fun L2 => (.nx, L2)
theorem ds_par {i j : Nat} {x y : Str} {px py pt : Pos} {kt k2 pt2} (hc : X.calm = true) (hN : X.N.Nodup) (hi : X.N[i]? = some x) (hj : X.N[j]? = some y) (hij : i ≠ j)
    (hx : X.env.scope.names.lookup x = some .local) (hy : X.env.scope.names.lookup y = some .local) (ha : PE X a (tE G B ma)) (hb : PE X b (tE G B mb)) (hw : swappedStores [.Tuple [.Name x px, .Name y py] kt pt] (.Tuple [a, b] k2 pt2) X.env = pure (some [x, y]))
    (hs : swapsWithSole [.Tuple [.Name x px, .Name y py] kt pt] (.Tuple [a, b] k2 pt2) pos.line X.env = pure false := by rfl) (h1 : starEach [a, b] X.env = (false, eval a X.env) :: starEach [b] X.env := by rfl) (h2 : starEach [b] X.env = (false, eval b X.env) :: starEach [] X.env := by rfl) :
    PS X (.Assign [.Tuple [.Name x px, .Name y py] kt pt] (.Tuple [a, b] k2 pt2) pos) (tS G B (mPar' i j ma mb)) := PS.imp (ps_par hc hN hi hj hij hx hy (pa_cons ha (pa_cons hb pa_nil h2) h1) hw hs) fun D σ H q => by
  obtain ⟨Φ, L, o, L', S, e, k⟩ := q
  obtain ⟨p, e1, e2⟩ := bind_inv e
  split at e2
  · cases e2
  · rename_i hnl
    obtain ⟨q, e3, e4⟩ := bind_inv e2
    split at e4
    · cases e4
    · rename_i hnj
      obtain ⟨L1, e5, e6⟩ := bind_inv e4
      obtain ⟨L2', e7, e8⟩ := map_inv e6
      cases e8
      refine ⟨Φ, L, p.1, p.2, S, e1, fun v Φ1 H1 S1 s1 r1 n1 => ⟨Φ1, p.2, q.1, q.2, S1, e3, fun w Φ2 H2 S2 s2 r2 n2 => ⟨v, w, rfl, ?_⟩⟩⟩
      have S3 := put_ok S2 (r1.step s2) e5
      have r3 := put_rep (H' := H1) S2 e5 (r1.step s2) r2 (fun c _ hv => by
        subst hv
        exact RepE.there S1 r1 fun j hj => by rw [hj] at hnl; exact absurd rfl hnl) n2 (fun j hj => ⟨fun z => by
          rw [hj] at hnj
          exact hnj (show decide _ = true from decide_eq_true z), fun _ _ => trivial⟩)
      exact k _ Φ2 H2 (s1.trans s2).le (put_ok S3 r3 e7)

/-! ### lists that change -/
theorem owned {i : Nat} {l : List D} (S : Sim G B Φ L σ H) (e : L[i]? = some (.own l)) : ∃ c vs, σ[i]? = some (some (.ref c)) ∧ H c = some (.lst vs) ∧ Reps G Φ l vs ∧ Φ c = none := by
  obtain ⟨c, vs, q1, q2, q3, q4⟩ := S.slot i _ e
  exact ⟨c, vs, joinEq.mp q1, q2, q3, q4⟩
theorem Sim.chgL (S : Sim G B Φ L σ H) {i : Nat} {l l' : List D} {c : Addr} {vs' : List V} (e : L[i]? = some (.own l)) (hc : σ[i]? = some (some (.ref c))) (hr : Reps G Φ l' vs') (n : Φ c = none) :
    Sim G B Φ (L.set i (.own l')) σ (upd H c (.lst vs')) ∧ Step Φ L σ H Φ (L.set i (.own l')) (upd H c (.lst vs')) :=
  S.chg e rfl hc (Fz.Le.refl _) (fun _ _ => rfl) (fun b hb => upd_ne hb) (by rw [upd_same]; intro z; cases z) (fun fo h => by rw [n] at h; cases h) ⟨c, vs', rfl, upd_same, hr, n⟩ fun l0 z => by cases z
def ownOf (i : Nat) (L : Loc) : Option (List D) := match L[i]? with
  | some (.own l) => some l
  | _ => none
theorem ownOf_eq {i : Nat} {l : List D} (h : ownOf i L = some l) : L[i]? = some (.own l) := by
  unfold ownOf at h
  split at h
  · cases h; assumption
  · cases h
def mApp (i : Nat) (ma : EM) : SM := fun L => (ownOf i L).bind fun _ => (ma L).bind fun p => (ownOf i p.2).bind fun l => match p.1 with
  | .fro d => if l.length < LIM then some (.nx, p.2.set i (.own (l ++ [d]))) else none
  | _ => none
theorem ds_append {i : Nat} {c : Expr} (h : PE X c (tBM X.K "list" rAppend (tVar i) (tCons (tE G B ma) tNil))) (hs : swapsWith c none pos.line X.env = pure false := by rfl) : PS X (.Expr c pos) (tS G B (mApp i ma)) := PS.imp (ps_expr h hs) fun D σ H q => by
  obtain ⟨Φ, L, o, L', S, e, k⟩ := q
  obtain ⟨l0, w0, e⟩ := bind_inv e
  obtain ⟨p, e1, e2⟩ := bind_inv e
  obtain ⟨l, w1, e3⟩ := bind_inv e2
  obtain ⟨ev, L1⟩ := p
  obtain ⟨c0, vs0, hσ, hH0, _, _⟩ := owned S (ownOf_eq w0)
  cases ev with
  | fro d =>
    have e4 : (if l.length < LIM then some (Out.nx, L1.set i (.own (l ++ [d]))) else none) = some (o, L') := e3
    split at e4
    · rename_i hl
      cases e4
      refine ⟨.ref c0, hσ, .inl ⟨rfl, vs0, SqL.of hH0⟩, Φ, L, .fro d, L1, S, e1, fun v Φ1 H1 S1 s1 r1 _ => ?_⟩
      obtain ⟨c1, vs1, hσ1, hH1, hr1, hn1⟩ := owned S1 (ownOf_eq w1)
      rw [hσ] at hσ1
      cases hσ1
      refine ⟨c0, vs1, v, rfl, rfl, hH1, by rw [length_vs hr1]; exact hl, ?_⟩
      have r1' : Rep G Φ1 d v := r1
      exact k σ Φ1 _ s1.le (S1.chgL (ownOf_eq w1) hσ (hr1.snoc r1') hn1).1
    · cases e4
  | _ => cases e3
def mExt (i : Nat) (ma : EM) : SM := fun L => (ownOf i L).bind fun _ => (ma L).bind fun p => (ownOf i p.2).bind fun l => if locIs i p.1 = true then none else (contL p.1 p.2).bind fun xs => if l.length + xs.length ≤ LIM then some (.nx, p.2.set i (.own (l ++ xs))) else none
theorem ds_extend {i : Nat} {c : Expr} (h : PE X c (tBM X.K "list" rExtend (tVar i) (tCons (tE G B ma) tNil))) (hs : swapsWith c none pos.line X.env = pure false := by rfl) : PS X (.Expr c pos) (tS G B (mExt i ma)) := PS.imp (ps_expr h hs) fun D σ H q => by
  obtain ⟨Φ, L, o, L', S, e, k⟩ := q
  obtain ⟨l0, w0, e⟩ := bind_inv e
  obtain ⟨p, e1, e2⟩ := bind_inv e
  obtain ⟨l, w1, e3⟩ := bind_inv e2
  obtain ⟨ev, L1⟩ := p
  obtain ⟨c0, vs0, hσ, hH0, _, _⟩ := owned S (ownOf_eq w0)
  split at e3
  · cases e3
  · obtain ⟨xs, hx, e4⟩ := bind_inv e3
    split at e4
    · rename_i hl
      cases e4
      refine ⟨.ref c0, hσ, .inl ⟨rfl, vs0, SqL.of hH0⟩, Φ, L, ev, L1, S, e1, fun v Φ1 H1 S1 s1 r1 _ => ?_⟩
      obtain ⟨c1, vs1, hσ1, hH1, hr1, hn1⟩ := owned S1 (ownOf_eq w1)
      rw [hσ] at hσ1
      cases hσ1
      obtain ⟨c2, us, rfl, hp, hr⟩ := contL_ok S1 r1 hx
      refine ⟨c0, c2, vs1, us, rfl, rfl, hH1, hp, by rw [length_vs hr1, length_vs hr]; exact hl, ?_⟩
      exact k σ Φ1 _ s1.le (S1.chgL (ownOf_eq w1) hσ (hr1.append hr) hn1).1
    · cases e4
/-- x.pop() -/
def mPop (i : Nat) : EM := fun L => (ownOf i L).bind fun l => (l[l.length - 1]?).map fun d => (.fro d, L.set i (.own l.dropLast))
theorem Reps.dropLast {ds : List D} {vs : List V} (h : Reps G Φ ds vs) : Reps G Φ ds.dropLast vs.dropLast := by
  rw [List.dropLast_eq_take, List.dropLast_eq_take, h.length]
  exact h.take _
theorem de_pop {i : Nat} {c : Expr} (h : PE X c (tBM0 X.K "list" rPop (tVar i))) : PE X c (tE G B (mPop i)) := PE.imp h fun σ H Q q => by
  obtain ⟨Φ, L, ev, L', S, e, k⟩ := q
  obtain ⟨l, w0, e⟩ := bind_inv e
  obtain ⟨d, hd, e1⟩ := map_inv e
  cases e1
  obtain ⟨c0, vs, hσ, hH, hr, hn⟩ := owned S (ownOf_eq w0)
  obtain ⟨v, hv, rv⟩ := hr.get hd
  rw [hr.length] at hv
  refine ⟨.ref c0, hσ, .inl ⟨rfl, vs, SqL.of hH⟩, c0, vs, v, rfl, rfl, hH, hv, ?_⟩
  obtain ⟨S', st⟩ := S.chgL (ownOf_eq w0) hσ hr.dropLast hn
  exact k v Φ _ S' st rv trivial
/-- x[k] = e, x a list of this def's own or its caller's -/
def lstOf (i : Nat) (L : Loc) : Option (List D) := match L[i]? with
  | some (.own l) => some l
  | some (.pin l) => some l
  | _ => none
def setL (i : Nat) (l : List D) (L : Loc) : Loc := match L[i]? with
  | some (.pin _) => L.set i (.pin l)
  | _ => L.set i (.own l)
theorem listed {i : Nat} {l : List D} (S : Sim G B Φ L σ H) (e : lstOf i L = some l) : ∃ c vs, σ[i]? = some (some (.ref c)) ∧ H c = some (.lst vs) ∧ Reps G Φ l vs ∧ Φ c = none ∧
    ∀ l' vs', Reps G Φ l' vs' → Sim G B Φ (setL i l' L) σ (upd H c (.lst vs')) := by
  unfold lstOf at e
  split at e
  · rename_i h
    cases e
    obtain ⟨c, vs, q1, q2, q3, q4⟩ := owned S h
    refine ⟨c, vs, q1, q2, q3, q4, fun l' vs' hr => ?_⟩
    unfold setL
    rw [h]
    exact (S.chgL h q1 hr q4).1
  · rename_i h
    cases e
    obtain ⟨c, vs, q1, q5, q2, q3, q4⟩ := S.slot i _ h
    refine ⟨c, vs, joinEq.mp q1, q2, q3, q4, fun l' vs' hr => ?_⟩
    unfold setL
    rw [h]
    exact (S.chg (lv := .pin l') h rfl (joinEq.mp q1) (Fz.Le.refl _) (fun _ _ => rfl) (fun b hb => upd_ne hb) (by rw [upd_same]; intro z; cases z) (fun fo h => by rw [q4] at h; cases h) ⟨c, vs', rfl, q5, upd_same, hr, q4⟩ fun l0 _ => ⟨l', rfl⟩).1
  · cases e
def mSetIx (i : Nat) (mi ma : EM) : SM := fun L => (ma L).bind fun p => (lstOf i p.2).bind fun _ => (mi p.2).bind fun q => (lstOf i q.2).bind fun l => match p.1 with
  | .fro d => (asInt q.1).bind fun z => (ixN l.length z).map fun j => (.nx, setL i (l.set j d) q.2)
  | _ => none
theorem ds_setIx {i : Nat} {o x : Expr} {p2 : Pos} {mi : EM} (ho : PE X o (tVar i)) (hx : PE X x (tE G B mi)) (he : PE X e (tE G B ma)) (hs : swapsWithSole [.Subscript o x p2] e pos.line X.env = pure false := by rfl) (hw : swappedStores [.Subscript o x p2] e X.env = pure none := by rfl)
    (h1 : (assignEach [.Subscript o x p2] X.env).map (·.2) = [assign (.Subscript o x p2) X.env] := by rfl) (h2 : ∀ v, assign (.Subscript o x p2) X.env v = (do
      let ov ← holding [v] (eval o X.env)
      let iv ← holding [v, ov] (eval x X.env)
      standAt p2
      holding [v, ov, iv] (setItem ov iv v)
      release [v, ov, iv] []) := by intro _; rfl) : PS X (.Assign [.Subscript o x p2] e pos) (tS G B (mSetIx i mi ma)) := PS.imp (ps_asg he (pg_sub ho hx set_list h2) hs hw h1) fun D σ H q => by
  obtain ⟨Φ, L, o, L', S, e, k⟩ := q
  obtain ⟨p, e1, e⟩ := bind_inv e
  obtain ⟨l0, w0, e⟩ := bind_inv e
  obtain ⟨q, e2, e⟩ := bind_inv e
  obtain ⟨l, w1, e⟩ := bind_inv e
  obtain ⟨ev, L1⟩ := p
  cases ev with
  | fro d =>
    obtain ⟨z, hz, e⟩ := bind_inv (show (asInt q.1).bind _ = some (o, L') from e)
    obtain ⟨j, hj, e⟩ := map_inv e
    cases e
    refine ⟨Φ, L, .fro d, L1, S, e1, fun v Φ1 H1 S1 s1 r1 _ => ?_⟩
    obtain ⟨c, vs0, hσ, _, _, _, _⟩ := listed S1 w0
    refine ⟨.ref c, hσ, Φ1, L1, q.1, q.2, S1, e2, fun u Φ2 H2 S2 s2 r2 _ => ?_⟩
    obtain ⟨c2, vs, q1, q2, q3, q4, go⟩ := listed S2 w1
    rw [hσ] at q1
    cases q1
    refine ⟨c, vs, z, j, rfl, asInt_ok r2 hz, q2, by rw [← q3.length]; exact hj, ?_⟩
    exact k σ Φ2 _ (s1.trans s2).le (go _ _ (q3.set j (Rep.mono s2.le _ _ r1)))
  | _ => cases e
def mAug (i : Nat) (ma : EM) : SM := fun L => match L[i]? with
  | some (.fro (.int a)) => (ma L).bind fun p => (asInt p.1).bind fun b => (put i (.fro (.int (a + b))) p.2).map fun L' => (.nx, L')
  | _ => none
theorem ds_aug {i : Nat} {x : Str} {pos' : Pos} (hN : X.N.Nodup) (hi : X.N[i]? = some x) (hx : L2.Loc X.env.scope x) (he : PE X e (tE G B ma)) (hf : X.fn x = true ∨ X.env.scope.names.lookup x = some .local := by first | exact .inl rfl | exact .inr rfl | assumption) :
    PS X (.AugAssign (.Name x pos') .Add e pos) (tS G B (mAug i ma)) := PS.imp (ps_aug hN hi hx he ip_add hf) fun D σ H q => by
  obtain ⟨Φ, L, o, L', S, e, k⟩ := q
  unfold mAug at e
  split at e
  · rename_i a hL
    obtain ⟨p, e1, e⟩ := bind_inv e
    obtain ⟨b, hb, e⟩ := bind_inv e
    obtain ⟨L2', hp, e⟩ := map_inv e
    cases e
    obtain ⟨v, hv, rv⟩ := S.slot i _ hL
    simp only [Rep] at rv
    subst rv
    refine ⟨.int a, joinEq.mp hv, Φ, L, p.1, p.2, S, e1, fun w Φ1 H1 S1 s1 r1 _ => ⟨a, b, rfl, asInt_ok r1 hb, ?_⟩⟩
    exact k _ Φ1 H1 s1.le (put_ok S1 (ev := .fro (.int (a + b))) (v := .int (a + b)) (by show Rep G Φ1 _ _; simp only [Rep]) hp)
  · cases e
end
end SS

/-! the data layer: for, while, comprehensions -/
namespace SS
open PySem PySem.Spec PyProof.Rows L2

section
variable {G : Gx} {B : Base} {Φ Φ' : Fz} {L L' : Loc} {σ : L2.St} {H H' : Hp} {X : Cx} {a b e : Expr} {pos : Pos} {ma mb : EM} {tg : Expr}

/-! ### for -/
def forR (g : GM) (mb : SM) : List D → SM
  | [], L => some (.nx, L)
  | d :: r, L => (g d L).bind fun L1 => (mb L1).bind fun p => match p.1 with
    | .nx => forR g mb r p.2
    | .ct => forR g mb r p.2
    | .bk => some (.nx, p.2)
    | .rt ev => some (.rt ev, p.2)
def mFor (mi : IM) (g : GM) (mb : SM) : SM := fun L => (mi L).bind fun p => forR g mb p.1 p.2
theorem drop_cons {α : Type} {l : List α} {i : Nat} (h : i < l.length) : l.drop i = l[i] :: l.drop (i + 1) := List.drop_eq_getElem_cons h
theorem mFor_imp {mi : IM} {vs : List Nat} {g : GM} {m : SM} {D : Ends} (q : tS G B (mFor mi g m) D σ H) : tFor (tI G B mi) (tG G B vs g) (tS G B m) D σ H := by
  obtain ⟨Φ, L, o, L', S, e, k⟩ := q
  obtain ⟨p, e1, e2⟩ := bind_inv e
  obtain ⟨ds, L1⟩ := p
  refine ⟨Φ, L, ds, L1, S, e1, fun J Φ1 H1 S1 s1 W => ?_⟩
  refine ⟨fun i n σ H => n = ds.length - i ∧ i ≤ ds.length ∧ ∃ Φ L, Fz.Le Φ1 Φ ∧ Sim G B Φ L σ H ∧ forR g m (ds.drop i) L = some (o, L'), ⟨_, rfl, Nat.zero_le _, Φ1, L1, Fz.Le.refl _, S1, e2⟩, ?_⟩
  rintro i n σ2 H2 ⟨rfl, hi, Φ2, L2', le, S2, e3⟩
  by_cases hlt : i < ds.length
  · refine .inr ⟨W.go i H2 Φ2 le S2.fz hlt, fun σ' H' => ∃ Φ L, Fz.Le Φ1 Φ ∧ Sim G B Φ L σ' H' ∧ forR g m (ds.drop (i + 1)) L = some (o, L'), fun σ' H' ⟨Φ3, L3, le3, S3, e4⟩ => ⟨ds.length - (i + 1), by omega, rfl, hlt, Φ3, L3, le3, S3, e4⟩, fun x H3 y => ?_⟩
    obtain ⟨Φ3, S3, st3, r3⟩ := W.yld i H2 H3 Φ2 L2' σ2 x le S2 y ds[i] (List.getElem?_eq_getElem hlt)
    rw [drop_cons hlt] at e3
    obtain ⟨L4, e4, e5⟩ := bind_inv e3
    obtain ⟨q, e6, e7⟩ := bind_inv e5
    refine ⟨Φ3, L2', ds[i], L4, S3, r3, e4, fun σ4 S4 _ _ _ => ?_⟩
    obtain ⟨o1, L5⟩ := q
    refine ⟨Φ3, L4, o1, L5, S4, e6, ?_⟩
    have le3 := le.trans st3.le
    cases o1 with
    | nx => exact fun σ5 Φ5 H5 le5 S5 => ⟨Φ5, L5, le3.trans le5, S5, e7⟩
    | ct => exact fun σ5 Φ5 H5 le5 S5 => ⟨Φ5, L5, le3.trans le5, S5, e7⟩
    | bk => cases e7; exact k.le (s1.le.trans le3)
    | rt ev => cases e7; exact k.le (s1.le.trans le3)
  · have hi' : i = ds.length := by omega
    refine .inl ⟨W.stop i H2 Φ2 le S2.fz hi', ?_⟩
    rw [hi', List.drop_length] at e3
    cases e3
    exact k σ2 Φ2 H2 (s1.le.trans le) S2

theorem ds_for {iter : Expr} {body : List Stmt} {mi : IM} {vs : List Nat} {g : GM} {m : SM} (hc : X.calm = true) (hi : PI X tg iter (tI G B mi)) (hg : PG X tg (tG G B vs g)) (hb : PSs X body (tS G B m)) (hp : PassesOwn (model X.prog X.w) X.A X.env X.xe := by exact PassesOwn.never)
    (hs : ∀ x, foldedSetIterable iter X.env x = pure x := by intro _; rfl) : PS X (.For tg iter body [] pos) (tS G B (mFor mi g m)) := PS.imp (ps_for hp hc hi hg hb hs) fun D σ H q => mFor_imp q

/-! ### while -/
def mWhile (c : TM) (mb : SM) : Nat → SM
  | 0, _ => none
  | n + 1, L => (c L).bind fun p => if p.1 = true then (mb p.2).bind fun q => match q.1 with
      | .nx => mWhile c mb n q.2
      | .ct => mWhile c mb n q.2
      | .bk => some (.nx, q.2)
      | .rt ev => some (.rt ev, q.2)
    else some (.nx, p.2)
theorem ds_while {n : Nat} {c : Expr} {body : List Stmt} {mc : TM} {m : SM} (hc : PT X c (tT G B mc)) (hb : PSs X body (tS G B m)) (hp : PassesOwn (model X.prog X.w) X.A X.env X.xe := by exact PassesOwn.never) : PS X (.While c body [] pos) (tS G B (mWhile mc m n)) := PS.imp (ps_while hp hc hb) fun D σ H q => by
  obtain ⟨Φ0, L, o, L', S, e, k⟩ := q
  refine ⟨fun n σ H => ∃ Φ L, Fz.Le Φ0 Φ ∧ Sim G B Φ L σ H ∧ mWhile mc m n L = some (o, L'), ⟨n, Φ0, L, Fz.Le.refl _, S, e⟩, ?_⟩
  rintro n2 σ2 H2 ⟨Φ2, L2', le2, S2, e2⟩
  cases n2 with
  | zero => cases e2
  | succ n3 =>
    obtain ⟨p, e3, e4⟩ := bind_inv e2
    refine ⟨Φ2, L2', p.1, p.2, S2, e3, fun Φ3 H3 S3 s3 => ?_⟩
    cases hp : p.1 with
    | true =>
      rw [hp, if_pos rfl] at e4
      rw [if_pos rfl]
      obtain ⟨q, e5, e6⟩ := bind_inv e4
      obtain ⟨o1, L4⟩ := q
      refine ⟨fun σ' H' => ∃ Φ L, Fz.Le Φ0 Φ ∧ Sim G B Φ L σ' H' ∧ mWhile mc m n3 L = some (o, L'), fun σ' H' h => ⟨n3, Nat.lt_succ_self _, h⟩, Φ3, p.2, o1, L4, S3, e5, ?_⟩
      have le3 := le2.trans s3.le
      cases o1 with
      | nx => exact fun σ5 Φ5 H5 le5 S5 => ⟨Φ5, L4, le3.trans le5, S5, e6⟩
      | ct => exact fun σ5 Φ5 H5 le5 S5 => ⟨Φ5, L4, le3.trans le5, S5, e6⟩
      | bk => cases e6; exact k.le le3
      | rt ev => cases e6; exact k.le le3
    | false =>
      rw [hp, if_neg Bool.false_ne_true] at e4
      rw [if_neg Bool.false_ne_true]
      cases e4
      exact k σ2 Φ3 H3 (le2.trans s3.le) S3

/-! ### comprehensions -/
def wipeL (vs : List Nat) (L : Loc) : Loc := vs.foldr (fun i l => l.set i .none) L
/-- the slots vs of L, the others of L' -/
def restL (vs : List Nat) (L L' : Loc) : Loc := vs.foldr (fun i l => l.set i (L.getD i .none)) L'
def noPin (vs : List Nat) (L : Loc) : Bool := vs.all fun i => match L[i]? with
  | some lv => !lv.isPin
  | none => false
theorem wipe_eq (σ : L2.St) : ∀ vs : List Nat, wipe σ vs = vs.foldr (fun i l => l.set i none) σ
  | [] => rfl
  | v :: vs => by unfold wipe; rw [wipe_eq σ vs]; rfl
theorem wipeL_len (vs : List Nat) (L : Loc) : (wipeL vs L).length = L.length := by
  unfold wipeL
  induction vs with
  | nil => rfl
  | cons v vs ih => rw [List.foldr_cons, List.length_set]; exact ih
theorem wipeL_get (vs : List Nat) (L : Loc) (j : Nat) : (wipeL vs L)[j]? = if j ∈ vs then (L[j]?).map (fun _ => .none) else L[j]? := by
  unfold wipeL
  induction vs with
  | nil => simp
  | cons v vs ih =>
    rw [List.foldr_cons]
    by_cases hj : j = v
    · subst hj
      rw [if_pos (List.mem_cons_self ..), List.getElem?_set, if_pos rfl]
      have hl : (List.foldr (fun i l => l.set i LV.none) L vs).length = L.length := wipeL_len vs L
      by_cases h : j < L.length
      · rw [if_pos (by rw [hl]; exact h), List.getElem?_eq_getElem h]; rfl
      · rw [if_neg (by rw [hl]; exact h), List.getElem?_eq_none (by omega)]; rfl
    · rw [List.getElem?_set_ne (Ne.symm hj), ih]
      by_cases hm : j ∈ vs
      · rw [if_pos hm, if_pos (List.mem_cons_of_mem _ hm)]
      · rw [if_neg hm, if_neg (by simp [hj, hm])]
theorem wipe_get (vs : List Nat) (σ : L2.St) (j : Nat) : (wipe σ vs)[j]? = if j ∈ vs then (σ[j]?).map (fun _ => Option.none) else σ[j]? := by
  rw [wipe_eq]
  induction vs with
  | nil => simp
  | cons v vs ih =>
    rw [List.foldr_cons]
    by_cases hj : j = v
    · subst hj
      rw [if_pos (List.mem_cons_self ..), List.getElem?_set, if_pos rfl]
      have hl : (List.foldr (fun i l => l.set i Option.none) σ vs).length = σ.length := by rw [← wipe_eq]; exact wipe_length σ vs
      by_cases h : j < σ.length
      · rw [if_pos (by rw [hl]; exact h), List.getElem?_eq_getElem h]; rfl
      · rw [if_neg (by rw [hl]; exact h), List.getElem?_eq_none (by omega)]; rfl
    · rw [List.getElem?_set_ne (Ne.symm hj), ih]
      by_cases hm : j ∈ vs
      · rw [if_pos hm, if_pos (List.mem_cons_of_mem _ hm)]
      · rw [if_neg hm, if_neg (by simp [hj, hm])]
theorem restL_len (vs : List Nat) (L L' : Loc) : (restL vs L L').length = L'.length := by
  unfold restL
  induction vs with
  | nil => rfl
  | cons v vs ih => rw [List.foldr_cons, List.length_set]; exact ih
theorem restL_get (vs : List Nat) (L L' : Loc) (hl : L'.length = L.length) (j : Nat) : (restL vs L L')[j]? = if j ∈ vs then L[j]? else L'[j]? := by
  unfold restL
  induction vs with
  | nil => simp
  | cons v vs ih =>
    rw [List.foldr_cons]
    by_cases hj : j = v
    · subst hj
      rw [if_pos (List.mem_cons_self ..), List.getElem?_set, if_pos rfl]
      have hl2 : (List.foldr (fun i l => l.set i (L.getD i LV.none)) L' vs).length = L'.length := restL_len vs L L'
      by_cases h : j < L'.length
      · rw [if_pos (by rw [hl2]; exact h), List.getD_eq_getElem?_getD, List.getElem?_eq_getElem (by omega)]; rfl
      · rw [if_neg (by rw [hl2]; exact h), List.getElem?_eq_none (by omega)]
    · rw [List.getElem?_set_ne (Ne.symm hj), ih]
      by_cases hm : j ∈ vs
      · rw [if_pos hm, if_pos (List.mem_cons_of_mem _ hm)]
      · rw [if_neg hm, if_neg (by simp [hj, hm])]
/-- into a comprehension's block -/
theorem Sim.wiped (S : Sim G B Φ L σ H) {vs : List Nat} (hn : noPin vs L = true) : Sim G B Φ (wipeL vs L) (wipe σ vs) H ∧ ∀ j c, OwnI (wipeL vs L) (wipe σ vs) j c → j ∉ vs ∧ OwnI L σ j c := by
  have own' : ∀ j c, OwnI (wipeL vs L) (wipe σ vs) j c → j ∉ vs ∧ OwnI L σ j c := fun j c ⟨lv, e1, e2, e3⟩ => by
    rw [wipeL_get] at e1
    rw [wipe_get] at e3
    by_cases hj : j ∈ vs
    · rw [if_pos hj] at e1
      cases hL : L[j]? with
      | none => rw [hL] at e1; cases e1
      | some x => rw [hL] at e1; cases e1; cases e2
    · rw [if_neg hj] at e1 e3
      exact ⟨hj, lv, e1, e2, e3⟩
  refine ⟨⟨by rw [wipeL_len, wipe_length]; exact S.len, S.fz, fun j lv e => ?_, fun j k c h h' => S.sep j k c (own' j c h).2 (own' k c h').2, S.ext, fun c o e1 e2 e3 => ?_, S.dom, fun c e => ?_⟩, own'⟩
  · rw [wipeL_get] at e
    rw [wipe_get]
    by_cases hj : j ∈ vs
    · rw [if_pos hj] at e
      cases hL : L[j]? with
      | none => rw [hL] at e; cases e
      | some x => rw [hL] at e; cases e; trivial
    · rw [if_neg hj] at e ⊢
      exact S.slot j lv e
  · obtain ⟨k1, k2, k3⟩ := S.keep c o e1 e2 e3
    exact ⟨k1, k2, fun ⟨j, h⟩ => k3 ⟨j, (own' j c h).2⟩⟩
  · obtain ⟨j, l, q1, q2⟩ := S.pinned c e
    have hj : j ∉ vs := fun z => by
      have := List.all_eq_true.mp hn j z
      rw [q1] at this
      cases this
    exact ⟨j, l, by rw [wipeL_get, if_neg hj]; exact q1, by rw [wipe_get, if_neg hj]; exact q2.1, q2.2⟩
/-- out of it: the block's own names forgotten, the def's there again -/
theorem Sim.unwiped {vs : List Nat} {σ2 : L2.St} {Φ0 : Fz} {L0 L2' : Loc} {H0 : Hp} (S0 : Sim G B Φ0 L0 σ H0) (hn : noPin vs L0 = true) (S2 : Sim G B Φ' L2' σ2 H') (hw : wipe σ2 vs = wipe σ vs) (hlen : σ2.length = σ.length)
    (le : Fz.Le Φ0 Φ') (stray : ∀ c o, H0 c = some o → Φ0 c = none → ¬ OwnAt (wipeL vs L0) (wipe σ vs) c → H' c = some o ∧ Φ' c = none ∧ ¬ ∃ j, j ∉ vs ∧ OwnI L2' σ2 j c) :
    Sim G B Φ' (restL vs L0 L2') σ H' ∧ ∀ j c, OwnI (restL vs L0 L2') σ j c → (j ∈ vs ∧ OwnI L0 σ j c) ∨ (j ∉ vs ∧ OwnI L2' σ2 j c) := by
  have hl : L2'.length = L0.length := by rw [S2.len, S0.len, hlen]
  have same : ∀ j, j ∉ vs → σ2[j]? = σ[j]? := fun j hj => by
    have := congrArg (fun l => l[j]?) hw
    simp only [wipe_get, if_neg hj] at this
    exact this
  have own' : ∀ j c, OwnI (restL vs L0 L2') σ j c → (j ∈ vs ∧ OwnI L0 σ j c) ∨ (j ∉ vs ∧ OwnI L2' σ2 j c) := fun j c ⟨lv, e1, e2, e3⟩ => by
    rw [restL_get vs L0 L2' hl] at e1
    by_cases hj : j ∈ vs
    · rw [if_pos hj] at e1; exact .inl ⟨hj, lv, e1, e2, e3⟩
    · rw [if_neg hj] at e1; exact .inr ⟨hj, lv, e1, e2, by rw [same j hj]; exact e3⟩
  -- what a slot of the block's names owns is stray within
  have str : ∀ j c, j ∈ vs → OwnI L0 σ j c → ∀ o, H0 c = some o → Φ0 c = none → H' c = some o ∧ Φ' c = none ∧ ¬ ∃ k, k ∉ vs ∧ OwnI L2' σ2 k c := fun j c hj h o e1 e2 => stray c o e1 e2 fun ⟨k, hk⟩ => by
    obtain ⟨q1, q2⟩ := (S0.wiped hn).2 k c hk
    exact q1 (by rw [S0.sep k j c q2 h]; exact hj)
  refine ⟨⟨by rw [restL_len, hl]; exact S0.len, S2.fz, fun j lv e => ?_, fun j k c h h' => ?_, S2.ext, fun c o e1 e2 e3 => ?_, S2.dom, fun c e => ?_⟩, own'⟩
  · rw [restL_get vs L0 L2' hl] at e
    by_cases hj : j ∈ vs
    · rw [if_pos hj] at e
      refine (S0.slot j lv e).mono le fun c hc ho => ?_
      obtain ⟨c', u, q1, q2, q3⟩ := (S0.slot j lv e).own_at hc
      rw [ho] at q1
      cases q1
      obtain ⟨z1, z2, _⟩ := str j _ hj ⟨lv, e, hc, joinEq.mp ho⟩ u q2 q3
      exact ⟨by rw [z1, q2], z2⟩
    · rw [if_neg hj] at e
      rw [← same j hj]
      exact S2.slot j lv e
  · rcases own' j c h with ⟨q1, q2⟩ | ⟨q1, q2⟩
    · rcases own' k c h' with ⟨r1, r2⟩ | ⟨r1, r2⟩
      · exact S0.sep j k c q2 r2
      · exfalso
        obtain ⟨lv, e1, e2, e3⟩ := id q2
        obtain ⟨c', u, z1, z2, z3⟩ := (S0.slot j lv e1).own_at e2
        rw [e3] at z1
        cases z1
        exact (str j c q1 q2 u z2 z3).2.2 ⟨k, r1, r2⟩
    · rcases own' k c h' with ⟨r1, r2⟩ | ⟨r1, r2⟩
      · exfalso
        obtain ⟨lv, e1, e2, e3⟩ := id r2
        obtain ⟨c', u, z1, z2, z3⟩ := (S0.slot k lv e1).own_at e2
        rw [e3] at z1
        cases z1
        exact (str k c r1 r2 u z2 z3).2.2 ⟨j, q1, q2⟩
      · exact S2.sep j k c q2 r2
  · obtain ⟨k1, k2, k3⟩ := S2.keep c o e1 e2 e3
    refine ⟨k1, k2, fun ⟨j, h⟩ => ?_⟩
    rcases own' j c h with ⟨q1, q2⟩ | ⟨q1, q2⟩
    · exact (S0.keep c o e1 e2 e3).2.2 ⟨j, q2⟩
    · exact k3 ⟨j, q2⟩
  · obtain ⟨j, l, q1, q2⟩ := S2.pinned c e
    obtain ⟨j0, l0, r1, r2⟩ := S0.pinned c e
    by_cases hj : j ∈ vs
    · -- the pinned slot is none of the block's names
      exfalso
      have hj0 : j0 ∉ vs := fun z => by
        have := List.all_eq_true.mp hn j0 z
        rw [r1] at this
        cases this
      exact hj0 (by rw [r2.2, ← q2.2]; exact hj)
    · exact ⟨j, l, by rw [restL_get vs L0 L2' hl, if_neg hj]; exact q1, by rw [← same j hj]; exact q2.1, q2.2⟩

/-- a stray list changes -/
theorem Sim.strayUpd (S : Sim G B Φ L σ H) {c : Addr} {o o' : HO} (h : H c = some o) (n : Φ c = none) (no : ¬ OwnAt L σ c) (hb : B.H c = none) : Sim G B Φ L σ (upd H c o') := by
  refine ⟨S.len, fun a fo e => ?_, fun i lv e => ?_, S.sep, S.ext, fun a u e1 e2 e3 => ?_, fun a e => ?_, S.pinned⟩
  · have : a ≠ c := fun z => by subst z; rw [n] at e; cases e
    exact (S.fz a fo e).mono (Fz.Le.refl _) (upd_ne this)
  · refine (S.slot i lv e).mono (Fz.Le.refl _) fun a ha ho => ?_
    obtain ⟨c', u, q1, q2, q3⟩ := (S.slot i lv e).own_at ha
    rw [ho] at q1
    cases q1
    have : a ≠ c := fun z => by subst z; exact no ⟨i, lv, e, ha, joinEq.mp ho⟩
    exact ⟨upd_ne this, q3⟩
  · obtain ⟨k1, k2, k3⟩ := S.keep a u e1 e2 e3
    have : a ≠ c := fun z => by subst z; rw [hb] at e1; cases e1
    exact ⟨(upd_ne this).trans k1, k2, k3⟩
  · by_cases ha : a = c
    · subst ha; rw [upd_same] at e; cases e
    · rw [upd_ne ha] at e; exact S.dom a e
theorem wipe_again {vs ws : List Nat} {σ2 : L2.St} (hl : σ2.length = (wipe σ vs).length) (hk : ∀ j, j ∉ ws → σ2[j]? = (wipe σ vs)[j]?) (hsub : ∀ j ∈ ws, j ∈ vs) : wipe σ2 vs = wipe σ vs := by
  rw [wipe_length] at hl
  refine List.ext_getElem? fun j => ?_
  rw [wipe_get, wipe_get]
  by_cases hj : j ∈ vs
  · rw [if_pos hj, if_pos hj]
    by_cases h : j < σ.length
    · rw [List.getElem?_eq_getElem h, List.getElem?_eq_getElem (by omega)]; rfl
    · rw [List.getElem?_eq_none (by omega), List.getElem?_eq_none (by omega)]
  · rw [if_neg hj, if_neg hj, hk j fun z => hj (hsub j z), wipe_get, if_neg hj]
/-- one goes on; the list at D' may change -/
structure StepD (D' : Addr) (Φ : Fz) (L : Loc) (σ : L2.St) (H : Hp) (Φ' : Fz) (L' : Loc) (H' : Hp) : Prop where
  le : Fz.Le Φ Φ'
  stray : ∀ a o, a ≠ D' → H a = some o → Φ a = none → ¬ OwnAt L σ a → H' a = some o ∧ Φ' a = none ∧ ¬ OwnAt L' σ a
  dom : ∀ a, a ≠ D' → H' a = none → H a = none
  own : ∀ a, OwnAt L' σ a → OwnAt L σ a
theorem Step.toD {D' : Addr} (s : Step Φ L σ H Φ' L' H') : StepD D' Φ L σ H Φ' L' H' := ⟨s.le, fun a o _ h h' h'' => s.stray a o h h' h'', fun a _ h => s.dom a h, s.own⟩
theorem StepD.trans {D' : Addr} {Φ1 Φ2 : Fz} {L1 L3 : Loc} {H1 H2 : Hp} (a : StepD D' Φ L σ H Φ1 L1 H1) (b : StepD D' Φ1 L1 σ H1 Φ2 L3 H2) : StepD D' Φ L σ H Φ2 L3 H2 :=
  ⟨a.le.trans b.le, fun c o hc h h' h'' => by obtain ⟨x, y, z⟩ := a.stray c o hc h h' h''; exact b.stray c o hc x y z, fun c hc h => a.dom c hc (b.dom c hc h), fun c h => a.own c (b.own c h)⟩
/-- the new list at D' holds acc -/
structure AccAt (G : Gx) (B : Base) (D' : Addr) (acc : List D) (Φ : Fz) (L : Loc) (σ : L2.St) (H : Hp) : Prop where
  sim : Sim G B Φ L σ H
  rep : ∃ vs, H D' = some (.lst vs) ∧ Reps G Φ acc vs
  nf : Φ D' = none
  no : ¬ OwnAt L σ D'
  nb : B.H D' = none
theorem AccAt.step {D' : Addr} {acc : List D} (c : AccAt G B D' acc Φ L σ H) (S : Sim G B Φ' L' σ H') (st : Step Φ L σ H Φ' L' H') : AccAt G B D' acc Φ' L' σ H' := by
  obtain ⟨us, hus, hr⟩ := c.rep
  obtain ⟨x, y, z⟩ := st.stray D' _ hus c.nf c.no
  exact ⟨S, ⟨us, x, Reps.mono st.le _ _ hr⟩, y, z, c.nb⟩
/-- a turn of the block: out of the wiped state -/
theorem AccAt.back {D' : Addr} {acc acc' : List D} {vs ws : List Nat} {Φ2 : Fz} {L2' L4 : Loc} {H2 : Hp} {σ2 : L2.St} (c : AccAt G B D' acc Φ L σ H) (hn : noPin vs L = true)
    (hl : σ2.length = (wipe σ vs).length) (hk : ∀ j, j ∉ ws → σ2[j]? = (wipe σ vs)[j]?) (hsub : ∀ j ∈ ws, j ∈ vs) (ho : ∀ j a, OwnI L4 σ2 j a → OwnI (wipeL vs L) (wipe σ vs) j a) (c2 : AccAt G B D' acc' Φ2 L2' σ2 H2) (st : StepD D' Φ L4 σ2 H Φ2 L2' H2) :
    AccAt G B D' acc' Φ2 (restL vs L L2') σ H2 ∧ StepD D' Φ L σ H Φ2 (restL vs L L2') H2 := by
  have hw := wipe_again hl hk hsub
  have no4 : ∀ a, ¬ OwnAt (wipeL vs L) (wipe σ vs) a → ¬ OwnAt L4 σ2 a := fun a h ⟨j, q⟩ => h ⟨j, ho j a q⟩
  obtain ⟨us, hus, hr⟩ := c.rep
  have stray : ∀ a o, a ≠ D' → H a = some o → Φ a = none → ¬ OwnAt (wipeL vs L) (wipe σ vs) a → H2 a = some o ∧ Φ2 a = none ∧ ¬ ∃ j, j ∉ vs ∧ OwnI L2' σ2 j a := fun a o hd e1 e2 e3 => by
    obtain ⟨x, y, z⟩ := st.stray a o hd e1 e2 (no4 a e3)
    exact ⟨x, y, fun ⟨j, _, q⟩ => z ⟨j, q⟩⟩
  -- the state ahead with D' as it is behind: the same but for D'
  obtain ⟨us2, hus2, hr2⟩ := c2.rep
  have S0 : Sim G B Φ L σ (upd H D' (.lst us2)) := c.sim.strayUpd hus c.nf c.no c.nb
  obtain ⟨S3, own3⟩ := S0.unwiped hn c2.sim hw (by rw [hl, wipe_length]) st.le fun a o e1 e2 e3 => by
    by_cases hd : a = D'
    · subst hd
      rw [upd_same] at e1
      cases e1
      exact ⟨hus2, c2.nf, fun ⟨j, _, q⟩ => c2.no ⟨j, q⟩⟩
    · rw [upd_ne hd] at e1
      exact stray a o hd e1 e2 e3
  have own : ∀ j a, OwnI (restL vs L L2') σ j a → OwnAt L σ a := fun j a h => by
    rcases own3 j a h with ⟨_, q⟩ | ⟨_, q⟩
    · exact ⟨j, q⟩
    · obtain ⟨k, q2⟩ := st.own a ⟨j, q⟩
      exact ⟨k, ((c.sim.wiped hn).2 k a (ho k a q2)).2⟩
  have noW : ∀ a, ¬ OwnAt L σ a → ¬ OwnAt (wipeL vs L) (wipe σ vs) a := fun a h ⟨j, q⟩ => h ⟨j, ((c.sim.wiped hn).2 j a q).2⟩
  refine ⟨⟨S3, ⟨us2, hus2, hr2⟩, c2.nf, fun ⟨j, h⟩ => c.no (own j D' h), c.nb⟩, st.le, fun a o hd e1 e2 e3 => ?_, st.dom, fun a ⟨j, h⟩ => own j a h⟩
  obtain ⟨x, y, _⟩ := stray a o hd e1 e2 (noW a e3)
  exact ⟨x, y, fun ⟨j, h⟩ => e3 (own j a h)⟩
theorem AccAt.push {D' : Addr} {acc : List D} {y : D} {v : V} (c : AccAt G B D' acc Φ L σ H) (hy : Rep G Φ y v) : ∃ vs, H D' = some (.lst vs) ∧ vs.length = acc.length ∧ AccAt G B D' (acc ++ [y]) Φ L σ (upd H D' (.lst (vs ++ [v]))) ∧ StepD D' Φ L σ H Φ L (upd H D' (.lst (vs ++ [v]))) := by
  obtain ⟨us, hus, hr⟩ := c.rep
  refine ⟨us, hus, length_vs hr, ⟨c.sim.strayUpd hus c.nf c.no c.nb, ⟨_, upd_same, hr.snoc hy⟩, c.nf, c.no, c.nb⟩, Fz.Le.refl _, fun a o hd e1 e2 e3 => ⟨by rw [upd_ne hd]; exact e1, e2, e3⟩, fun a hd h => by rw [upd_ne hd] at h; exact h, fun _ h => h⟩
/-- a block's body that adds to the list -/
abbrev BM := List D → Loc → Option (List D × Loc)
abbrev TB := Addr → L2.St → Hp → (Hp → Prop) → Prop
def BodyOk (G : Gx) (B : Base) (mb : BM) (t : TB) : Prop := ∀ (D' : Addr) (σ : L2.St) (Φ : Fz) (L : Loc) (H : Hp) (acc acc' : List D) (L' : Loc) (Nx : Hp → Prop), AccAt G B D' acc Φ L σ H → mb acc L = some (acc', L') →
  (∀ Φ' H', AccAt G B D' acc' Φ' L' σ H' → StepD D' Φ L σ H Φ' L' H' → Nx H') → t D' σ H Nx
def lcG (vs : List Nat) (g : GM) (tt : TM) (mb : BM) : List D → BM
  | [], acc, L => some (acc, L)
  | d :: r, acc, L => if noPin vs L = true then (g d (wipeL vs L)).bind fun L1 => (tt L1).bind fun p => if p.1 = true then (mb acc p.2).bind fun q => lcG vs g tt mb r q.1 (restL vs L q.2) else lcG vs g tt mb r acc (restL vs L p.2) else none
def tLoop (J : It) (g : TG) (tt : TT) (vs : List Nat) (body : TB) (σ : L2.St) (D' : Addr) (H0 : Hp) (Fin : Hp → Prop) : Prop := ∃ W : Nat → Nat → Hp → Prop, (∃ m, W 0 m H0) ∧ ∀ i m H, W i m H →
  (J.stop i H ∧ Fin H) ∨ (J.go i H ∧ ∃ Nx : Hp → Prop, (∀ H', Nx H' → ∃ m', m' < m ∧ W (i + 1) m' H') ∧ ∀ x H', J.yld i H x H' → g x (wipe σ vs) H' fun σ2 H2 => wipe σ2 vs = wipe σ vs ∧ tt σ2 H2 fun b H3 =>
    if b = true then body D' σ2 H3 Nx else Nx H3)
theorem loop_ok {vs ws : List Nat} {g : GM} {tt : TM} {mb : BM} {body : TB} (hb : BodyOk G B mb body) (hsub : ∀ j ∈ ws, j ∈ vs) {J : It} {ds acc acc' : List D} {D' : Addr} {Fin : Hp → Prop} (W : WalkD G B J Φ ds) (c : AccAt G B D' acc Φ L σ H) (e : lcG vs g tt mb ds acc L = some (acc', L'))
    (k : ∀ Φ' H', AccAt G B D' acc' Φ' L' σ H' → StepD D' Φ L σ H Φ' L' H' → Fin H') : tLoop J (tG G B ws g) (tT G B tt) vs body σ D' H Fin := by
  refine ⟨fun i n H2 => n = ds.length - i ∧ i ≤ ds.length ∧ ∃ Φ2 L2' acc2, AccAt G B D' acc2 Φ2 L2' σ H2 ∧ StepD D' Φ L σ H Φ2 L2' H2 ∧ lcG vs g tt mb (ds.drop i) acc2 L2' = some (acc', L'), ⟨_, rfl, Nat.zero_le _, Φ, L, acc, c, Step.refl.toD, e⟩, ?_⟩
  rintro i n H2 ⟨rfl, hi, Φ2, L2', acc2, c2, st2, e2⟩
  by_cases hlt : i < ds.length
  · refine .inr ⟨W.go i H2 Φ2 st2.le c2.sim.fz hlt, fun H' => ∃ Φ3 L3 acc3, AccAt G B D' acc3 Φ3 L3 σ H' ∧ StepD D' Φ L σ H Φ3 L3 H' ∧ lcG vs g tt mb (ds.drop (i + 1)) acc3 L3 = some (acc', L'), fun H' h => ⟨ds.length - (i + 1), by omega, rfl, hlt, h⟩, fun x H3 y => ?_⟩
    obtain ⟨Φ3, S3, s3, r3⟩ := W.yld i H2 H3 Φ2 L2' σ x st2.le c2.sim y ds[i] (List.getElem?_eq_getElem hlt)
    have c3 := c2.step S3 s3
    have st3 := st2.trans s3.toD
    rw [drop_cons hlt] at e2
    unfold lcG at e2
    split at e2
    · rename_i hn
      obtain ⟨L4, e6, e7⟩ := bind_inv e2
      obtain ⟨t, e8, e9⟩ := bind_inv e7
      refine ⟨Φ3, wipeL vs L2', ds[i], L4, (S3.wiped hn).1, r3, e6, fun σ4 S4 hl hk ho => ⟨wipe_again hl hk hsub, Φ3, L4, t.1, t.2, S4, e8, fun Φ5 H5 S5 s5 => ?_⟩⟩
      have noW : ¬ OwnAt L4 σ4 D' := fun ⟨j, q⟩ => c3.no ⟨j, ((c3.sim.wiped hn).2 j D' (ho j D' q)).2⟩
      have c4 : AccAt G B D' acc2 Φ3 L4 σ4 H3 := ⟨S4, c3.rep, c3.nf, noW, c3.nb⟩
      have c5 := c4.step S5 s5
      cases ht : t.1 with
      | true =>
        rw [ht, if_pos rfl] at e9
        refine iteT ?_
        obtain ⟨u, e10, e11⟩ := bind_inv e9
        refine hb D' σ4 Φ5 t.2 H5 acc2 u.1 u.2 _ c5 e10 fun Φ6 H6 c6 s6 => ?_
        obtain ⟨c7, s7⟩ := c3.back hn hl hk hsub ho c6 (s5.toD.trans s6)
        exact ⟨Φ6, _, _, c7, st3.trans s7, e11⟩
      | false =>
        rw [ht, if_neg Bool.false_ne_true] at e9
        refine iteF ?_
        obtain ⟨c7, s7⟩ := c3.back hn hl hk hsub ho c5 s5.toD
        exact ⟨Φ5, _, _, c7, st3.trans s7, e9⟩
    · cases e2
  · have hi' : i = ds.length := by omega
    refine .inl ⟨W.stop i H2 Φ2 st2.le c2.sim.fz hi', ?_⟩
    rw [hi', List.drop_length] at e2
    cases e2
    exact k Φ2 H2 c2 st2
/-- the element -/
def mElt (me : EM) : BM := fun acc L => (me L).bind fun q => match q.1 with
  | .fro y => if acc.length < LIM then some (acc ++ [y], q.2) else none
  | _ => none
theorem elt_ok {me : EM} : BodyOk G B (mElt me) fun D' σ H Nx => tE G B me σ H fun y H4 => ∃ acc, H4 D' = some (.lst acc) ∧ acc.length < sizeLine ∧ Nx (upd H4 D' (.lst (acc ++ [y]))) := by
  intro D' σ Φ L H acc acc' L' Nx c e k
  obtain ⟨q, e1, e2⟩ := bind_inv e
  obtain ⟨ev, L1'⟩ := q
  cases ev with
  | fro y =>
    have e3 : (if acc.length < LIM then some (acc ++ [y], L1') else none) = some (acc', L') := e2
    split at e3
    · rename_i hz
      cases e3
      refine ⟨Φ, L, .fro y, L', c.sim, e1, fun w Φ6 H6 S6 s6 r6 _ => ?_⟩
      obtain ⟨us, h1, h2, c7, s7⟩ := (c.step S6 s6).push (show Rep G Φ6 y w from r6)
      exact ⟨us, h1, by rw [h2]; exact hz, k Φ6 _ c7 (s6.toD.trans s7)⟩
    · cases e3
  | _ => cases e2
/-- a further for -/
def mInn (vs : List Nat) (mi : IM) (g : GM) (tt : TM) (mb : BM) : BM := fun acc L => (mi L).bind fun p => lcG vs g tt mb p.1 acc p.2
theorem inn_ok {vs ws : List Nat} {mi : IM} {g : GM} {tt : TM} {mb : BM} {body : TB} (hb : BodyOk G B mb body) (hsub : ∀ j ∈ ws, j ∈ vs) :
    BodyOk G B (mInn vs mi g tt mb) fun D' σ H Nx => tI G B mi σ H fun J H4 => tLoop J (tG G B ws g) (tT G B tt) vs body σ D' H4 Nx := by
  intro D' σ Φ L H acc acc' L' Nx c e k
  obtain ⟨p, e1, e2⟩ := bind_inv e
  exact ⟨Φ, L, p.1, p.2, c.sim, e1, fun J Φ1 H1 S1 s1 W => loop_ok hb hsub W (c.step S1 s1) e2 fun Φ2 H2 c2 s2 => k Φ2 H2 c2 (s1.toD.trans s2)⟩
def mLcG (vs : List Nat) (mi : IM) (g : GM) (tt : TM) (mb : BM) : EM := fun L => (mi L).bind fun p => (lcG vs g tt mb p.1 [] p.2).map fun q => (.tmp q.1, q.2)
theorem mLcG_imp {vs ws : List Nat} {mi : IM} {g : GM} {tt : TM} {mb : BM} {body : TB} {Q : VK} (hb : BodyOk G B mb body) (hsub : ∀ j ∈ ws, j ∈ vs) (q : tE G B (mLcG vs mi g tt mb) σ H Q) :
    tI G B mi σ H fun J H1 => ∀ D', H1 D' = none → tLoop J (tG G B ws g) (tT G B tt) vs body σ D' (upd H1 D' (.lst [])) fun H => Q (.ref D') H := by
  obtain ⟨Φ, L, ev, L', S, e, k⟩ := q
  obtain ⟨p, e1, e2⟩ := bind_inv e
  obtain ⟨r, e3, e4⟩ := map_inv e2
  cases e4
  refine ⟨Φ, L, p.1, p.2, S, e1, fun J Φ1 H1 S1 s1 W D' hD => ?_⟩
  obtain ⟨n1, n2, n3⟩ := S1.hnone hD
  obtain ⟨S2, s2⟩ := S1.laid (o := .lst []) hD
  refine loop_ok hb hsub W ⟨S2, ⟨[], upd_same, Reps.nil⟩, n1, n2, n3⟩ e3 fun Φ3 H3 c3 s3 => ?_
  obtain ⟨us, hus, hr⟩ := c3.rep
  have st : Step Φ1 p.2 σ H1 Φ3 r.2 H3 := by
    refine ⟨s3.le, fun a o e1 e2 e3 => ?_, fun a h => ?_, s3.own⟩
    · have hd : a ≠ D' := fun z => by subst z; rw [hD] at e1; cases e1
      exact s3.stray a o hd (by rw [upd_ne hd]; exact e1) e2 e3
    · by_cases hd : a = D'
      · subst hd; exact hD
      · have := s3.dom a hd h
        rw [upd_ne hd] at this
        exact this
  exact k _ Φ3 H3 c3.sim (s1.trans st) ⟨D', us, rfl, hus, hr, c3.nf, c3.no, c3.nb⟩ ⟨D', rfl, s1.dom D' hD⟩

/-! ### the rules -/
theorem dts_nil : PTs X [] (tT G B fun L => some (true, L)) := ⟨fun pins s σ H Q I h => pts_nil.run pins s σ H Q I (by
  obtain ⟨Φ, L, c, L', S, e, k⟩ := h
  cases e
  exact k Φ H S Step.refl)⟩
theorem dts_one {c : Expr} {m : TM} (h : PT X c (tT G B m)) : PTs X [c] (tT G B m) := pts_one h
variable {elt iter tg1 iter1 : Expr} {ifs ifs1 : List Expr} {scope : Scope} {own : List (Str × Nat)} {vs ws vs1 ws1 : List Nat} {mi mi1 : IM} {g g1 : GM} {tt tt1 : TM} {me : EM}
theorem de_lc (hc : X.calm = true) (hN : X.N.Nodup) (hi : PI X tg iter (tI G B mi)) (ok : BlkOk X.N X.env.scope scope own)
    (hg : ∀ (s : Shared) (H : Hp) (C : Addr) (cl : List (Str × Addr)) (fp : List Addr), PG (X.blk s H scope (compEnvC scope cl C X.env) fp) tg (tG G B ws g)) (ht : ∀ (s : Shared) (H : Hp) (C : Addr) (cl : List (Str × Addr)) (fp : List Addr), PTs (X.blk s H scope (compEnvC scope cl C X.env) fp) ifs (tT G B tt))
    (he : ∀ (s : Shared) (H : Hp) (C : Addr) (cl : List (Str × Addr)) (fp : List Addr), PE (X.blk s H scope (compEnvC scope cl C X.env) fp) elt (tE G B me)) (hsub : ∀ j ∈ ws, j ∈ own.map (·.2)) (hs : ∀ x, foldedSetIterable iter X.env x = pure x := by intro _; rfl) :
    PE X (.ListComp elt [⟨tg, iter, ifs, 0⟩] scope pos) (tE G B (mLcG (own.map (·.2)) mi g tt (mElt me))) := PE.imp (pe_lc hc hN hi ok hg ht he hs) fun σ H Q q => mLcG_imp elt_ok hsub q
theorem ds_setLc {i : Nat} {y : Str} {py spos : Pos} (hc : X.calm = true) (hN : X.N.Nodup) (hy : X.N[i]? = some y) (hyl : X.env.scope.names.lookup y = some .local)
    (hsw : swapsWith (.ListComp elt [⟨tg, iter, ifs, 0⟩] scope pos) (some (.Name y py)) spos.line X.env = pure true) (hi : PI X tg iter (tI G B mi)) (ok : BlkOk X.N X.env.scope scope own)
    (hg : ∀ (s : Shared) (H : Hp) (C : Addr) (cl : List (Str × Addr)) (fp : List Addr), PG (X.blk s H scope (compEnvC scope cl C X.env) fp) tg (tG G B ws g)) (ht : ∀ (s : Shared) (H : Hp) (C : Addr) (cl : List (Str × Addr)) (fp : List Addr), PTs (X.blk s H scope (compEnvC scope cl C X.env) fp) ifs (tT G B tt))
    (he : ∀ (s : Shared) (H : Hp) (C : Addr) (cl : List (Str × Addr)) (fp : List Addr), PE (X.blk s H scope (compEnvC scope cl C X.env) fp) elt (tE G B me)) (hsub : ∀ j ∈ ws, j ∈ own.map (·.2)) (hs : ∀ x, foldedSetIterable iter X.env x = pure x := by intro _; rfl) :
    PS X (.Assign [.Name y py] (.ListComp elt [⟨tg, iter, ifs, 0⟩] scope pos) spos) (tS G B (mSet i (mLcG (own.map (·.2)) mi g tt (mElt me)))) :=
  PS.imp (ps_setLc hc hN hy hyl hsw hi ok hg ht he hs) fun D σ H q => mLcG_imp elt_ok hsub (mSet_imp q)
theorem de_lc2 (hc : X.calm = true) (hN : X.N.Nodup) (hi : PI X tg iter (tI G B mi)) (ok : BlkOk X.N X.env.scope scope own) (hv : ∀ i ∈ vs1, i ∈ own.map (·.2))
    (hg : ∀ (s : Shared) (H : Hp) (C : Addr) (cl : List (Str × Addr)) (fp : List Addr), PG (X.blk s H scope (compEnvC scope cl C X.env) fp) tg (tG G B ws g)) (ht : ∀ (s : Shared) (H : Hp) (C : Addr) (cl : List (Str × Addr)) (fp : List Addr), PTs (X.blk s H scope (compEnvC scope cl C X.env) fp) ifs (tT G B tt))
    (hi1 : ∀ (s : Shared) (H : Hp) (C : Addr) (cl : List (Str × Addr)) (fp : List Addr), PI (X.blk s H scope (compEnvC scope cl C X.env) fp) tg1 iter1 (tI G B mi1))
    (hg1 : ∀ (s : Shared) (H : Hp) (C : Addr) (cl : List (Str × Addr)) (fp : List Addr), PG (X.blk s H scope (compEnvC scope cl C X.env) fp) tg1 (tG G B ws1 g1)) (ht1 : ∀ (s : Shared) (H : Hp) (C : Addr) (cl : List (Str × Addr)) (fp : List Addr), PTs (X.blk s H scope (compEnvC scope cl C X.env) fp) ifs1 (tT G B tt1))
    (he : ∀ (s : Shared) (H : Hp) (C : Addr) (cl : List (Str × Addr)) (fp : List Addr), PE (X.blk s H scope (compEnvC scope cl C X.env) fp) elt (tE G B me)) (hsub : ∀ j ∈ ws, j ∈ own.map (·.2)) (hsub1 : ∀ j ∈ ws1, j ∈ vs1) (hs : ∀ x, foldedSetIterable iter X.env x = pure x := by intro _; rfl) (hs1 : ∀ env x, foldedSetIterable iter1 env x = pure x := by intro _ _; rfl) :
    PE X (.ListComp elt [⟨tg, iter, ifs, 0⟩, ⟨tg1, iter1, ifs1, 0⟩] scope pos) (tE G B (mLcG (own.map (·.2)) mi g tt (mInn vs1 mi1 g1 tt1 (mElt me)))) := PE.imp (pe_lc2 hc hN hi ok hv hg ht hi1 hg1 ht1 he hs hs1) fun σ H Q q => mLcG_imp (inn_ok elt_ok hsub1) hsub q
theorem ds_setLc2 {i : Nat} {y : Str} {py spos : Pos} (hc : X.calm = true) (hN : X.N.Nodup) (hy : X.N[i]? = some y) (hyl : X.env.scope.names.lookup y = some .local)
    (hsw : swapsWith (.ListComp elt [⟨tg, iter, ifs, 0⟩, ⟨tg1, iter1, ifs1, 0⟩] scope pos) (some (.Name y py)) spos.line X.env = pure true) (hi : PI X tg iter (tI G B mi)) (ok : BlkOk X.N X.env.scope scope own) (hv : ∀ i ∈ vs1, i ∈ own.map (·.2))
    (hg : ∀ (s : Shared) (H : Hp) (C : Addr) (cl : List (Str × Addr)) (fp : List Addr), PG (X.blk s H scope (compEnvC scope cl C X.env) fp) tg (tG G B ws g)) (ht : ∀ (s : Shared) (H : Hp) (C : Addr) (cl : List (Str × Addr)) (fp : List Addr), PTs (X.blk s H scope (compEnvC scope cl C X.env) fp) ifs (tT G B tt))
    (hi1 : ∀ (s : Shared) (H : Hp) (C : Addr) (cl : List (Str × Addr)) (fp : List Addr), PI (X.blk s H scope (compEnvC scope cl C X.env) fp) tg1 iter1 (tI G B mi1))
    (hg1 : ∀ (s : Shared) (H : Hp) (C : Addr) (cl : List (Str × Addr)) (fp : List Addr), PG (X.blk s H scope (compEnvC scope cl C X.env) fp) tg1 (tG G B ws1 g1)) (ht1 : ∀ (s : Shared) (H : Hp) (C : Addr) (cl : List (Str × Addr)) (fp : List Addr), PTs (X.blk s H scope (compEnvC scope cl C X.env) fp) ifs1 (tT G B tt1))
    (he : ∀ (s : Shared) (H : Hp) (C : Addr) (cl : List (Str × Addr)) (fp : List Addr), PE (X.blk s H scope (compEnvC scope cl C X.env) fp) elt (tE G B me)) (hsub : ∀ j ∈ ws, j ∈ own.map (·.2)) (hsub1 : ∀ j ∈ ws1, j ∈ vs1) (hs : ∀ x, foldedSetIterable iter X.env x = pure x := by intro _; rfl) (hs1 : ∀ env x, foldedSetIterable iter1 env x = pure x := by intro _ _; rfl) :
    PS X (.Assign [.Name y py] (.ListComp elt [⟨tg, iter, ifs, 0⟩, ⟨tg1, iter1, ifs1, 0⟩] scope pos) spos) (tS G B (mSet i (mLcG (own.map (·.2)) mi g tt (mInn vs1 mi1 g1 tt1 (mElt me))))) :=
  PS.imp (ps_setLc2 hc hN hy hyl hsw hi ok hv hg ht hi1 hg1 ht1 he hs hs1) fun D σ H q => mLcG_imp (inn_ok elt_ok hsub1) hsub (mSet_imp q)
end
end SS

/-! the data layer: a Machine's memo, dicts of texts, sorted -/
namespace SS
open PySem PySem.Spec PyProof.Rows L2

/-! ### data as keys -/
mutual
def kb : D → Bool
  | .non => true
  | .bl _ => true
  | .int _ => true
  | .str _ => true
  | .tup l => kbs l
  | .row _ => false
  | .lst _ => false
  | .mach _ _ => false
  | .obj _ _ => false
  | .dct _ _ => false
def kbs : List D → Bool
  | [] => true
  | d :: r => kb d && kbs r
end
section
variable {G : Gx} {B : Base} {Φ Φ' : Fz} {L L' : Loc} {σ : L2.St} {H H' : Hp} {X : Cx} {P : Program} {w : World} {h : Heap}
mutual
theorem nested_of (ok : HOk P w H h) (fz : FzOk G Φ H) : ∀ (d : D) (v : V) (u : Value), kb d = true → Rep G Φ d v → RelV v u → NestedIs h (nk d) u
  | .non, v, u, _, r, q => by
    simp only [Rep] at r; subst r
    obtain rfl : u = .none := q
    exact .none
  | .bl b, v, u, _, r, q => by
    simp only [Rep] at r; subst r
    obtain rfl : u = .bool b := q
    exact .bool rfl
  | .int i, v, u, _, r, q => by
    simp only [Rep] at r; subst r
    obtain ⟨t, rfl⟩ := (show ∃ t, u = Value.int i t from q)
    exact .int i t
  | .str x, v, u, _, r, q => by
    simp only [Rep] at r; subst r
    obtain ⟨t, rfl⟩ := (show ∃ t, u = Value.str ⟨x.toArray⟩ t from q)
    exact .text _ t
  | .tup l, v, u, k, r, q => by
    simp only [Rep] at r
    obtain ⟨a, vs, rfl, p, rs⟩ := r
    obtain rfl : u = .ref a := q
    obtain ⟨_, its, rv, o, h1, h2, n, h3⟩ := (show ObjOk P w H h a (.tup vs) from let ⟨_, e, _⟩ := (fz a (.pt vs) p : TupAt H a vs); (ok a _ e).2)
    exact .tup h1 h2 h3 (by
      show NestedAll h (nks l) its.toArray.toList
      rw [List.toList_toArray]
      exact nested_all ok fz l vs its k rs rv)
  | .row _, _, _, k, _, _ => by cases k
  | .lst _, _, _, k, _, _ => by cases k
  | .mach _ _, _, _, k, _, _ => by cases k
  | .obj _ _, _, _, k, _, _ => by cases k
  | .dct _ _, _, _, k, _, _ => by cases k
theorem nested_all (ok : HOk P w H h) (fz : FzOk G Φ H) : ∀ (ds : List D) (vs : List V) (us : List Value), kbs ds = true → Reps G Φ ds vs → Vals vs us → NestedAll h (nks ds) us
  | [], vs, us, _, r, q => by
    simp only [Reps] at r; subst r
    cases q
    exact .nil
  | d :: ds, vs, us, k, r, q => by
    simp only [Reps] at r
    obtain ⟨v, vr, rfl, r1, r2⟩ := r
    cases q with
    | cons q1 q2 =>
      have k' : (kb d && kbs ds) = true := k
      rw [Bool.and_eq_true] at k'
      exact .cons (nested_of ok fz d v _ k'.1 r1 q1) (nested_all ok fz ds vr _ k'.2 r2 q2)
end
/-- a key: a tuple, flat enough -/
def keyOk (d : D) : Prop := ∃ l, d = .tup l ∧ kb d = true ∧ (nk d).depth ≤ 8
def KRows (G : Gx) (Φ : Fz) (rows : List DRow) : Prop := ∀ r ∈ rows, ∃ kd, Rep G Φ kd (.ref r.2.1) ∧ nk kd = r.1 ∧ keyOk kd
theorem key_is (ok : HOk P w H h) (fz : FzOk G Φ H) {d : D} {a : Addr} (k : keyOk d) (r : Rep G Φ d (.ref a)) : (nestedKind P w).is h (nk d) a := by
  obtain ⟨l, _, k1, k2⟩ := k
  exact ⟨nested_of ok fz d _ _ k1 r rfl, k2⟩
def zipU (rows : List DRow) (us : List Value) : List (NestedKey × Addr × Value) := (rows.zip us).map fun z => (z.1.1, z.1.2.1, z.2)
theorem zipU_cons {r : DRow} {rows : List DRow} {u : Value} {us : List Value} : zipU (r :: rows) (u :: us) = (r.1, r.2.1, u) :: zipU rows us := rfl
theorem zipU_mem : ∀ {rows : List DRow} {us : List Value} {x : NestedKey × Addr × Value}, x ∈ zipU rows us → ∃ r ∈ rows, x.1 = r.1 ∧ x.2.1 = r.2.1
  | [], us, x, hx => by simp [zipU] at hx
  | r :: rows, [], x, hx => by simp [zipU] at hx
  | r :: rows, u :: us, x, hx => by
    rw [zipU_cons] at hx
    rcases List.mem_cons.mp hx with e | e
    · subst e; exact ⟨r, by simp, rfl, rfl⟩
    · obtain ⟨q, hq, e1, e2⟩ := zipU_mem e
      exact ⟨q, by simp [hq], e1, e2⟩
theorem zipU_keys : ∀ {rows : List DRow} {us : List Value}, Vals (rows.map (·.2.2)) us → (zipU rows us).map (·.1) = rows.map (·.1)
  | [], us, h => by cases h; rfl
  | r :: rows, us, h => by
    cases h with
    | cons h1 h2 => rw [zipU_cons, List.map_cons, List.map_cons, zipU_keys h2]
theorem zipU_entries {k : HeapKind P w NestedKey} : ∀ {rows : List DRow} {us : List Value}, (zipU rows us).map (entryOfKey k) = (rows.zip us).map fun (z : DRow × Value) => (⟨k.hash z.1.1, .ref z.1.2.1, z.2⟩ : DictEntry) := by
  intro rows us
  unfold zipU
  rw [List.map_map]
  rfl
theorem dict_of (ok : HOk G.P G.w H h) (fz : FzOk G Φ H) {a : Addr} {rows : List DRow} (e : H a = some (dHO G a rows)) (hk : KRows G Φ rows) :
    rows.length ≤ sizeLine ∧ (a == sysModules) = false ∧ (rows.map (·.1)).Nodup ∧ ∃ us, Vals (rows.map (·.2.2)) us ∧ h.DictOfH (nestedKind G.P G.w) a (zipU rows us) := by
  obtain ⟨⟨z, y, nd, us, rv, o, es, ep, h1, h2, h3, h4⟩, _, _⟩ := (show ObjOk G.P G.w H h a (.ext (DOk G.P G.w a rows)) from ok a _ e)
  refine ⟨z, y, nd, us, rv, o, es, ep, h1, h2, h3, h4.trans zipU_entries.symm, fun x hx => ?_, by rw [zipU_keys rv]; exact nd⟩
  obtain ⟨r, hr, e1, e2⟩ := zipU_mem hx
  obtain ⟨kd, rk, ek, ok'⟩ := hk r hr
  rw [e1, e2, ← ek]
  exact key_is ok fz ok' rk
theorem DOk.of {a : Addr} {rows : List DRow} {us : List Value} (hz : rows.length ≤ sizeLine) (hd : (a == sysModules) = false) (rv : Vals (rows.map (·.2.2)) us) (d : h.DictOfH (nestedKind P w) a (zipU rows us)) :
    ObjOk P w H h a (.ext (DOk P w a rows)) := by
  obtain ⟨o, es, ep, h1, h2, h3, h4, h5, h6⟩ := d
  refine ⟨⟨hz, hd, by rw [← zipU_keys rv]; exact h6, us, rv, o, es, ep, h1, h2, h3, h4.trans zipU_entries⟩, ⟨o, h1⟩, fun g1 g2 q k => ?_⟩
  obtain ⟨z, y, nd, us', rv', o', es', ep', q1, q2, q3, q4⟩ := q
  exact ⟨z, y, nd, us', rv', o', es', ep', k _ q1, q2, q3, q4⟩
theorem at_none : ∀ {rows : List DRow} {us : List Value} {k : NestedKey}, Vals (rows.map (·.2.2)) us → (∀ r ∈ rows, r.1 ≠ k) → atKey (zipU rows us) k = none
  | [], us, k, h, _ => by cases h; rfl
  | r :: rows, us, k, h, hn => by
    cases h with
    | cons h1 h2 =>
      have := at_none h2 fun q hq => hn q (by simp [hq])
      unfold atKey at this ⊢
      rw [zipU_cons, List.find?_cons_of_neg (by simpa using hn r (by simp))]
      exact this
theorem at_some : ∀ {rows : List DRow} {us : List Value} {k : NestedKey}, Vals (rows.map (·.2.2)) us → (∃ r ∈ rows, r.1 = k) → ∃ r ∈ rows, r.1 = k ∧ ∃ u, RelV r.2.2 u ∧ atKey (zipU rows us) k = some (r.2.1, u)
  | [], us, k, h, ⟨r, hr, _⟩ => by simp at hr
  | r :: rows, us, k, h, he => by
    cases h with
    | @cons _ u _ us' h1 h2 =>
      by_cases e : r.1 = k
      · exact ⟨r, by simp, e, u, h1, by unfold atKey; rw [zipU_cons, List.find?_cons_of_pos (by simpa using e)]; rfl⟩
      · obtain ⟨q, hq, eq⟩ := he
        have hq' : q ∈ rows := by
          rcases List.mem_cons.mp hq with z | z
          · subst z; exact absurd eq e
          · exact z
        obtain ⟨p, hp, e1, u', ru, ha⟩ := at_some h2 ⟨q, hq', eq⟩
        refine ⟨p, by simp [hp], e1, u', ru, ?_⟩
        unfold atKey at ha ⊢
        rw [zipU_cons, List.find?_cons_of_neg (by simpa using e)]
        exact ha

theorem vals_app : ∀ {vs : List V} {us : List Value} {v : V} {u : Value}, Vals vs us → RelV v u → Vals (vs ++ [v]) (us ++ [u])
  | [], _, _, _, .nil, h => .cons h .nil
  | _ :: _, _ :: _, _, _, .cons h t, q => .cons h (vals_app t q)
def putRows (rows : List DRow) (k : NestedKey) (b : Addr) (v : V) : List DRow := if rows.any (fun r => decide (r.1 = k)) then rows.map (fun r => if r.1 = k then (r.1, r.2.1, v) else r) else rows ++ [(k, b, v)]
theorem putAt_zip {k : NestedKey} {v : V} {u : Value} (ru : RelV v u) : ∀ {rows : List DRow} {us : List Value}, Vals (rows.map (·.2.2)) us →
    ∃ us', Vals ((rows.map fun r => if r.1 = k then (r.1, r.2.1, v) else r).map (·.2.2)) us' ∧ (zipU rows us).map (putAt k u) = zipU (rows.map fun r => if r.1 = k then (r.1, r.2.1, v) else r) us'
  | [], us, h => by cases h; exact ⟨[], .nil, rfl⟩
  | r :: rows, us, h => by
    cases h with
    | @cons _ w _ us1 h1 h2 =>
      obtain ⟨us', r1, r2⟩ := putAt_zip ru h2
      by_cases e : r.1 = k
      · refine ⟨u :: us', by rw [List.map_cons, List.map_cons, if_pos e]; exact .cons ru r1, ?_⟩
        rw [zipU_cons, List.map_cons, r2, List.map_cons, if_pos e, zipU_cons]
        unfold putAt
        rw [if_pos e]
      · refine ⟨w :: us', by rw [List.map_cons, List.map_cons, if_neg e]; exact .cons h1 r1, ?_⟩
        rw [zipU_cons, List.map_cons, r2, List.map_cons, if_neg e, zipU_cons]
        unfold putAt
        rw [if_neg e]
/-! ### readings over such a dict -/
def KAt (G : Gx) (H : Hp) (a : Addr) (rows : List DRow) (kd : D) (y : V) : Prop := ∃ Φ b, FzOk G Φ H ∧ H a = some (dHO G a rows) ∧ KRows G Φ rows ∧ keyOk kd ∧ y = .ref b ∧ Rep G Φ kd (.ref b)
def tKNotIn (G : Gx) (ty td : TE) : TE := fun σ H Q => ty σ H fun y H1 => td σ H1 fun x H2 => ∃ a rows kd, x = .ref a ∧ KAt G H2 a rows kd y ∧ ((∀ r ∈ rows, r.1 ≠ nk kd) → Q (.bl true) H2) ∧ ((∃ r ∈ rows, r.1 = nk kd) → Q (.bl false) H2)
def tKGet (G : Gx) (td ty : TE) : TE := fun σ H Q => td σ H fun x H1 => ty σ H1 fun y H2 => ∃ a rows kd, x = .ref a ∧ KAt G H2 a rows kd y ∧ (∃ r ∈ rows, r.1 = nk kd) ∧ ∀ r ∈ rows, r.1 = nk kd → Q r.2.2 H2
def sKPut (G : Gx) (td ty tv : TE) : TS := fun D σ H => tv σ H fun v H1 => td σ H1 fun x H2 => ty σ H2 fun y H3 => ∃ a rows kd, x = .ref a ∧ KAt G H3 a rows kd y ∧ ((∀ r ∈ rows, r.1 ≠ nk kd) → rows.length < sizeLine) ∧
  ∀ b, y = .ref b → D.nx σ (upd H3 a (dHO G a (putRows rows (nk kd) b v)))
variable {o i e value : Expr} {pos pos' : Pos} {td ty tv : TE}
theorem nroom {A : Around} (hu : A.units + 9 < cLine) : (nestedKind P w).room A.in1 := by show A.units + 1 + 8 < cLine; omega
theorem pc_knotin (hP : G.P = X.prog) (hw : G.w = X.w) (hu : X.A.units + 9 < cLine) (hi : PE X i ty) (ho : PE X o td) : PC X .NotIn i o (tKNotIn G ty td) := by
  refine ⟨fun pins s σ H Q I h => ?_⟩
  refine thn (hi.run pins s σ H _ I h) fun iv s1 ⟨y, H1, I1, ry, q1⟩ => thn (ho.run pins s1 σ H1 _ I1 q1) fun u s2 ⟨x, H2, I2, rx, a, rows, kd, ex, ⟨Φ, b, fz, e, hk, ko, ey, rk⟩, q2, q3⟩ => ?_
  subst ex ey
  obtain rfl : u = Value.ref a := rx
  obtain rfl : iv = Value.ref b := ry
  have hok := I2.hok
  rw [← hP, ← hw] at hok
  obtain ⟨z, y, nd, us, rv, dd⟩ := dict_of hok fz e hk
  rw [← hP, ← hw]
  refine wpAny_notIn_heap (nroom hu) (key_is hok fz ko rk) y dd ?_
  by_cases hn : ∃ r ∈ rows, r.1 = nk kd
  · obtain ⟨r, hr, er, u', ru, ha⟩ := at_some rv hn
    rw [ha]
    exact ⟨.bl false, H2, I2.tok _, rfl, q3 hn⟩
  · have hn' : ∀ r ∈ rows, r.1 ≠ nk kd := fun r hr er => hn ⟨r, hr, er⟩
    rw [at_none rv hn']
    exact ⟨.bl true, H2, I2.tok _, rfl, q2 hn'⟩
theorem pe_kget (hP : G.P = X.prog) (hw : G.w = X.w) (hu : X.A.units + 9 < cLine) (ho : PE X o td) (hi : PE X i ty) (hs : NoSl i) : PE X (.Subscript o i pos) (tKGet G td ty) := by
  refine ⟨fun pins s σ H Q I h => ?_⟩
  refine subD_of PySem.F.slot_dict_getitem.lookup hs (thn (ho.run pins s σ H _ I h) fun u s1 ⟨x, H1, I1, rx, q1⟩ => thn (hi.run pins s1 σ H1 _ I1 q1) fun iv s2 ⟨y, H2, I2, ry, a, rows, kd, ex, ⟨Φ, b, fz, e, hk, ko, ey, rk⟩, hn, q2⟩ => ?_)
  subst ex ey
  obtain rfl : u = Value.ref a := rx
  obtain rfl : iv = Value.ref b := ry
  have hok := I2.hok
  rw [← hP, ← hw] at hok
  obtain ⟨z, y, nd, us, rv, dd⟩ := dict_of hok fz e hk
  refine ⟨dd.typeIs, ?_⟩
  obtain ⟨r, hr, er, u', ru, ha⟩ := at_some rv hn
  rw [← hP, ← hw]
  exact wpAny_getItem_heap (nroom hu) (key_is hok fz ko rk) dd ha ⟨r.2.2, H2, I2.tok _, ru, q2 r hr er⟩
theorem ps_kput (hP : G.P = X.prog) (hw : G.w = X.w) (hu : X.A.units + 9 < cLine) (ho : PE X o td) (hi : PE X i ty) (hv : PE X value tv) (hs : swapsWith value (some (.Subscript o i pos')) pos.line X.env = pure false) :
    PS X (.Assign [.Subscript o i pos'] value pos) (sKPut G td ty tv) := by
  refine ⟨fun pins s σ H D I h => ?_⟩
  refine wpAny_Assign_Subscript (thn (hv.run pins s σ H _ I h) fun r s1 ⟨v, H1, I1, rv0, q1⟩ => thn (ho.run pins s1 σ H1 _ I1 q1) fun u s2 ⟨x, H2, I2, rx, q2⟩ => thn (hi.run pins s2 σ H2 _ I2 q2) fun iv s3 ⟨y, H3, I3, ry, a, rows, kd, ex, ⟨Φ, b, fz, e, hk, ko, ey, rk⟩, hl, q3⟩ => ?_) hs
  subst ex ey
  obtain rfl : u = Value.ref a := rx
  obtain rfl : iv = Value.ref b := ry
  have hok := I3.hok
  rw [← hP, ← hw] at hok
  obtain ⟨z, y, nd, us, rv, dd⟩ := dict_of hok fz e hk
  have hz : (zipU rows us).length ≤ sizeLine := by
    have := congrArg List.length (zipU_keys rv)
    rw [List.length_map, List.length_map] at this
    rw [this]; exact z
  rw [← hP, ← hw]
  refine wpAny_setItem_heap (hsz := hz) (nroom hu) (key_is hok fz ko rk) dd fun h' dd' hs => ?_
  have he : ∃ q, h'.get? a = some q := let ⟨q, _, _, hq, _⟩ := dd'; ⟨q, hq⟩
  refine ⟨σ, _, ?_, q3 b rfl⟩
  refine d_write I3 (by rw [e]; exact True.intro) hs he ?_
  rw [← hP, ← hw]
  by_cases hy : ∃ r ∈ rows, r.1 = nk kd
  · obtain ⟨p, hp, ep, u', ru', ha⟩ := at_some rv hy
    rw [storedH_old ha] at dd'
    obtain ⟨us', rv', ez⟩ := putAt_zip (k := nk kd) rv0 rv
    rw [ez] at dd'
    have ep : putRows rows (nk kd) b v = rows.map (fun r => if r.1 = nk kd then (r.1, r.2.1, v) else r) := by
      unfold putRows
      rw [if_pos]
      obtain ⟨r, hr, er⟩ := hy
      rw [List.any_eq_true]
      exact ⟨r, hr, decide_eq_true er⟩
    rw [ep]
    exact DOk.of (by rw [List.length_map]; exact z) y rv' dd'
  · have hn : ∀ r ∈ rows, r.1 ≠ nk kd := fun r hr er => hy ⟨r, hr, er⟩
    rw [storedH_new (at_none rv hn)] at dd'
    have rv' : Vals ((rows ++ [(nk kd, b, v)]).map (·.2.2)) (us ++ [r]) := by
      rw [List.map_append]
      exact vals_app rv rv0
    have ez : zipU rows us ++ [(nk kd, b, r)] = zipU (rows ++ [(nk kd, b, v)]) (us ++ [r]) := by
      unfold zipU
      have hlen : rows.length = us.length := by
        have := rv.length
        rwa [List.length_map] at this
      rw [List.zip_append hlen, List.map_append]
      rfl
    rw [ez] at dd'
    have ep : putRows rows (nk kd) b v = rows ++ [(nk kd, b, v)] := by
      unfold putRows
      rw [if_neg]
      rw [List.any_eq_true]
      rintro ⟨r, hr, er⟩
      exact hn r hr (of_decide_eq_true er)
    rw [ep]
    exact DOk.of (by rw [List.length_append]; exact hl hn) y rv' dd'
end
end SS

/-! the data layer: the memo's statements -/
namespace SS
open PySem PySem.Spec PyProof.Rows L2

structure MemoOk (M : D → D → D → D → Prop) : Prop where
  key : ∀ {s h kd vd}, M s h kd vd → keyOk kd
  one : ∀ {s h kd vd kd' vd'}, M s h kd vd → M s h kd' vd' → nk kd = nk kd' → vd = vd'
  fin : ∀ s h (l : List NestedKey), l.Nodup → (∀ k ∈ l, ∃ kd vd, nk kd = k ∧ M s h kd vd) → l.length ≤ LIM

section
variable {G : Gx} {B : Base} {Φ Φ' : Fz} {L L' : Loc} {σ : L2.St} {H H' : Hp} {X : Cx}
theorem Sim.forgetAll (S : Sim G B Φ L σ H) (hn : ∀ l, .pin l ∉ L) {n : Nat} (hl : n = L.length) : Sim G B Φ (List.replicate n .none) σ H := by
  have no : ∀ j a, ¬ OwnI (List.replicate n LV.none) σ j a := fun j a ⟨lv, e1, e2, e3⟩ => by
    rw [List.getElem?_replicate] at e1
    split at e1
    · cases e1; cases e2
    · cases e1
  refine ⟨by rw [List.length_replicate, hl]; exact S.len, S.fz, fun i lv e => ?_, fun i j a h _ => absurd h (no i a), S.ext, fun a o e1 e2 e3 => ?_, S.dom, fun a e => ?_⟩
  · rw [List.getElem?_replicate] at e
    split at e
    · cases e; trivial
    · cases e
  · obtain ⟨k1, k2, _⟩ := S.keep a o e1 e2 e3
    exact ⟨k1, k2, fun ⟨j, h⟩ => no j a h⟩
  · obtain ⟨i, l, e1, _⟩ := S.pinned a e
    exact absurd (List.mem_of_getElem? e1) (hn l)
theorem Sim.memoPut (S : Sim G B Φ L σ H) {d : Addr} {s h : D} {o : HO} (hd : Φ d = some (.memo s h)) (hn : FoOk G Φ (upd H d o) d (.memo s h)) : Sim G B Φ L σ (upd H d o) := by
  refine ⟨S.len, fun a fo e => ?_, fun i lv e => ?_, S.sep, S.ext, fun a u e1 e2 e3 => ?_, fun a e => ?_, S.pinned⟩
  · by_cases ha : a = d
    · subst ha; rw [hd] at e; cases e; exact hn
    · exact (S.fz a fo e).mono (Fz.Le.refl _) (upd_ne ha)
  · refine (S.slot i lv e).mono (Fz.Le.refl _) fun a ha ho => ?_
    obtain ⟨c', u, q1, q2, q3⟩ := (S.slot i lv e).own_at ha
    rw [ho] at q1
    cases q1
    have : a ≠ d := fun z => by subst z; rw [hd] at q3; cases q3
    exact ⟨upd_ne this, q3⟩
  · obtain ⟨k1, k2, k3⟩ := S.keep a u e1 e2 e3
    have : a ≠ d := fun z => by subst z; rw [hd] at k2; cases k2
    exact ⟨(upd_ne this).trans k1, k2, k3⟩
  · by_cases ha : a = d
    · subst ha; rw [upd_same] at e; cases e
    · rw [upd_ne ha] at e; exact S.dom a e

/-- the block of the if: what comes ahead of the last store -/
def tBd (G : Gx) (B : Base) (mb : SM) (u : TS) : TS := fun D σ H => ∃ Φ L L1, Sim G B Φ L σ H ∧ mb L = some (.nx, L1) ∧ ∀ σ' Φ' H', Fz.Le Φ Φ' → Sim G B Φ' L1 σ' H' → u D σ' H'
theorem bd_one {st : Stmt} {u : TS} (h : PS X st u) : PSs X [st] (tBd G B mNx u) := PSs.imp (pss_one h) fun D σ H ⟨Φ, L, L1, S, e, k⟩ => by
  cases e
  exact k σ Φ H (Fz.Le.refl _) S
theorem bd_cons {st : Stmt} {rest : List Stmt} {m1 m2 : SM} {u : TS} (h : PS X st (tS G B m1)) (hr : PSs X rest (tBd G B m2 u)) : PSs X (st :: rest) (tBd G B (mSeq m1 m2) u) :=
  PSs.imp (pss_cons h hr) fun D σ H ⟨Φ, L, L1, S, e, k⟩ => by
    obtain ⟨p, e1, e2⟩ := bind_inv e
    obtain ⟨o1, L2'⟩ := p
    refine ⟨Φ, L, o1, L2', S, e1, ?_⟩
    cases o1 with
    | nx => exact fun σ' Φ' H' le S' => ⟨Φ', L2', L1, S', e2, fun σ2 Φ2 H2 le2 S2 => k σ2 Φ2 H2 (le.trans le2) S2⟩
    | rt ev => cases e2
    | bk => cases e2
    | ct => cases e2
open Classical in
/-- if key not in self.known: (block; self.known[key] = value); return self.known[key] -/
noncomputable def mMemo (M : D → D → D → D → Prop) (i : Nat) (mb : SM) (mv : EM) : SM := fun (L : List LV) => match (L[0]? : Option LV), (L[i]? : Option LV) with
  | some (LV.fro (D.mach s h)), some (LV.fro kd) => (mb L).bind fun p => match p.1 with
    | .nx => (mF mv p.2).bind fun q => match q.1 with
      | .fro vd => if M s h kd vd ∧ q.2[0]? = some (.fro (.mach s h)) ∧ q.2[i]? = some (.fro kd) ∧ q.2.length = L.length ∧ (∀ l, .pin l ∉ L) ∧ (∀ l, .pin l ∉ q.2)
          then some (.rt (.fro vd), List.replicate L.length .none) else none
      | _ => none
    | _ => none
  | _, _ => none
theorem krows_of (hM : MemoOk G.memo) {s h : D} {rows : List DRow} (hr : ∀ r ∈ rows, ∃ kd vd, Rep G Φ kd (.ref r.2.1) ∧ nk kd = r.1 ∧ Rep G Φ vd r.2.2 ∧ G.memo s h kd vd) : KRows G Φ rows := fun r hx => by
  obtain ⟨kd, vd, r1, r2, r3, r4⟩ := hr r hx
  exact ⟨kd, r1, r2, hM.key r4⟩
theorem mach_at (S : Sim G B Φ L σ H) {s h : D} (e : L[0]? = some (.fro (.mach s h))) : ∃ a dx d vs vh rows, σ[0]? = some (some (.ref a)) ∧ H a = some (.ins G.cM dx [("sounds", vs), ("history", vh), ("known", .ref d)]) ∧ Φ d = some (.memo s h) ∧
    H d = some (dHO G d rows) ∧ (rows.map (·.1)).Nodup ∧ ∀ r ∈ rows, ∃ kd vd, Rep G Φ kd (.ref r.2.1) ∧ nk kd = r.1 ∧ Rep G Φ vd r.2.2 ∧ G.memo s h kd vd := by
  obtain ⟨v, ev, r⟩ := S.slot 0 _ e
  simp only [Rep] at r
  obtain ⟨a, dx, d, vs, vh, rfl, p, q, r1, r2⟩ := r
  obtain ⟨rows, h1, nd, h2⟩ := S.fz d _ q
  exact ⟨a, dx, d, vs, vh, rows, joinEq.mp ev, S.fz a _ p, q, h1, nd, h2⟩
theorem memo_read (S : Sim G B Φ L σ H) (hM : MemoOk G.memo) (hc : Cls X.K G.cM) (hn : NoAttr X.K G.cM "known") {i : Nat} {s h kd vd : D} (e0 : L[0]? = some (.fro (.mach s h))) (ei : L[i]? = some (.fro kd)) (hm : G.memo s h kd vd)
    {Q : VK} {a dx d : Addr} {vs vh : V} {rows : List DRow} (h1 : σ[0]? = some (some (.ref a))) (h2 : H a = some (.ins G.cM dx [("sounds", vs), ("history", vh), ("known", .ref d)])) (h4 : H d = some (dHO G d rows))
    (h5 : ∀ r ∈ rows, ∃ kd vd, Rep G Φ kd (.ref r.2.1) ∧ nk kd = r.1 ∧ Rep G Φ vd r.2.2 ∧ G.memo s h kd vd) (hthere : ∃ r ∈ rows, r.1 = nk kd)
    (k : ∀ v, Rep G Φ vd v → Q v H) : tKGet G (tFld X.K (tVar 0) "known") (tVar i) σ H Q := by
  obtain ⟨v, ev, r⟩ := S.slot i _ ei
  obtain ⟨l, el, kb1, kb2⟩ := hM.key hm
  subst el
  have r' := r
  simp only [Rep] at r'
  obtain ⟨b, us, rfl, hb, _⟩ := r'
  refine ⟨_, h1, a, _, dx, _, _, rfl, h2, hc, hn, machL3, _, joinEq.mp ev, d, rows, _, rfl, ⟨Φ, b, S.fz, h4, krows_of hM h5, hM.key hm, rfl, r⟩, hthere, fun x hx hxk => ?_⟩
  obtain ⟨kd', vd', r1, r2, r3, r4⟩ := h5 x hx
  have : vd' = vd := hM.one r4 hm (r2.trans hxk)
  subst this
  exact k _ r3
theorem putRows_key (rows : List DRow) (k : NestedKey) (b : Addr) (v : V) : ∃ r ∈ putRows rows k b v, r.1 = k := by
  unfold putRows
  split
  · rename_i h
    obtain ⟨r, hr, er⟩ := List.any_eq_true.mp h
    have er' := of_decide_eq_true er
    exact ⟨_, List.mem_map.mpr ⟨r, hr, rfl⟩, by rw [if_pos er']; exact er'⟩
  · exact ⟨_, List.mem_append_right _ (List.mem_singleton.mpr rfl), rfl⟩
theorem putRows_nodup {rows : List DRow} (h : (rows.map (·.1)).Nodup) (k : NestedKey) (b : Addr) (v : V) : ((putRows rows k b v).map (·.1)).Nodup := by
  unfold putRows
  split
  · have : (rows.map fun r => if r.1 = k then (r.1, r.2.1, v) else r).map (·.1) = rows.map (·.1) := by
      rw [List.map_map]
      refine List.map_congr_left fun r _ => ?_
      show (if r.1 = k then (r.1, r.2.1, v) else r).1 = r.1
      split <;> rfl
    rw [this]; exact h
  · rename_i hn
    rw [List.map_append, List.nodup_append]
    refine ⟨h, List.nodup_cons.mpr ⟨by simp, List.nodup_nil⟩, fun x hx y hy e => hn ?_⟩
    have hy' : y = k := by simpa using hy
    obtain ⟨r, hr, er⟩ := List.mem_map.mp hx
    exact List.any_eq_true.mpr ⟨r, hr, decide_eq_true (by rw [er, e, hy'])⟩
theorem putRows_mem {rows : List DRow} {k : NestedKey} {b : Addr} {v : V} {r : DRow} (h : r ∈ putRows rows k b v) : r ∈ rows ∨ r = (k, b, v) ∨ ∃ r' ∈ rows, r'.1 = k ∧ r = (r'.1, r'.2.1, v) := by
  unfold putRows at h
  split at h
  · obtain ⟨r', hr, er⟩ := List.mem_map.mp h
    by_cases e : r'.1 = k
    · rw [if_pos e] at er
      exact .inr (.inr ⟨r', hr, e, er.symm⟩)
    · rw [if_neg e] at er
      exact .inl (er ▸ hr)
  · rcases List.mem_append.mp h with z | z
    · exact .inl z
    · exact .inr (.inl (List.mem_singleton.mp z))
variable {key self key2 self2 key3 self3 value : Expr} {p1 p2 p3 p4 p5 p6 p7 p8 p9 : Pos} {body : List Stmt} {mb : SM} {mv : EM} {i : Nat}
theorem dss_memo (hM : MemoOk G.memo) (hP : G.P = X.prog) (hw : G.w = X.w) (hu : X.A.units + 9 < cLine) (hc : Cls X.K G.cM) (hn : NoAttr X.K G.cM "known")
    (hk1 : PE X key (tVar i)) (hs1 : PE X self (tVar 0)) (hk3 : PE X key3 (tVar i)) (hs3 : PE X self3 (tVar 0)) (hsl : NoSl key3)
    (hb1 : attributeBase self "known" X.env (eval self X.env) = eval self X.env) (hb3 : attributeBase self3 "known" X.env (eval self3 X.env) = eval self3 X.env)
    (hbody : PSs X body (tBd G B mb (sKPut G (tFld X.K (tVar 0) "known") (tVar i) (tE G B (mF mv))))) (hbm : behindInMarks .NotIn (.Attribute self "known" p1) = false := by first | exact nobehind _ (by decide) (by decide) | rfl) :
    PSs X [.If (.Compare key [.NotIn] [.Attribute self "known" p1] p2) body [] p3, .Return (some (.Subscript (.Attribute self3 "known" p4) key3 p5)) p6] (tS G B (mMemo G.memo i mb mv)) := by
  have hT := pt_cmp (pos := p2) (pc_knotin hP hw hu hk1 (pe_fld (pos := p1) hs1 hb1)) hbm
  have hR := ps_ret (pos := p6) (pe_kget (pos := p5) hP hw hu (pe_fld (pos := p4) hs3 hb3) hk3 hsl)
  refine PSs.imp (pss_cons (ps_if (pos := p3) hT hbody pss_nil) (pss_one hR)) fun D σ H q => ?_
  obtain ⟨Φ, L, o, L', S, e, kk⟩ := q
  unfold mMemo at e
  split at e
  case h_2 => cases e
  rename_i s h kd e0 ei
  obtain ⟨p, e1, e2⟩ := bind_inv e
  split at e2
  case h_2 => cases e2
  rename_i hp1
  obtain ⟨q, e3, e4⟩ := bind_inv e2
  split at e4
  case h_2 => cases e4
  rename_i vd hq1
  split at e4
  case isFalse => cases e4
  rename_i hg
  obtain ⟨g1, g2, g3, g4, g5, g6⟩ := hg
  cases e4
  obtain ⟨o1, L1⟩ := p
  obtain ⟨ev2, L2'⟩ := q
  simp only at hp1 hq1 e3 g2 g3 g4 g6
  subst hp1 hq1
  obtain ⟨a, dx, d, vs, vh, rows, h1, h2, h3, h4, nd, h5⟩ := mach_at S e0
  obtain ⟨v, ev, r⟩ := S.slot i _ ei
  obtain ⟨l, el, kb1, kb2⟩ := hM.key g1
  subst el
  have r' := r
  simp only [Rep] at r'
  obtain ⟨b, us, rfl, hb, _⟩ := r'
  show tIfS _ _ _ _ σ H
  refine ⟨_, joinEq.mp ev, _, h1, a, _, dx, _, _, rfl, h2, hc, hn, machL3, d, rows, _, rfl, ⟨Φ, b, S.fz, h4, krows_of hM h5, hM.key g1, rfl, r⟩, fun hno => ⟨true, rfl, ?_⟩, fun hyes => ⟨false, rfl, ?_⟩⟩
  · refine iteT ?_
    refine ⟨Φ, L, L1, S, e1, fun σ3 Φ3 H3 le3 S3 => ?_⟩
    refine ⟨Φ3, L1, .fro vd, L2', S3, e3, fun w Φ4 H4 S4 s4 r4 _ => ?_⟩
    obtain ⟨a4, dx4, d4, vs4, vh4, rows4, i1, i2, i3, i4, nd4, i5⟩ := mach_at S4 g2
    obtain ⟨v4, ev4, rk4⟩ := S4.slot i _ g3
    have rk4' := rk4
    simp only [Rep] at rk4'
    obtain ⟨b4, us4, rfl, hb4, _⟩ := rk4'
    have r4' : Rep G Φ4 vd w := r4
    refine ⟨_, i1, a4, _, dx4, _, _, rfl, i2, hc, hn, machL3, ?_⟩
    refine ⟨_, joinEq.mp ev4, d4, rows4, _, rfl, ⟨Φ4, b4, S4.fz, i4, krows_of hM i5, hM.key g1, rfl, rk4⟩, fun hno => ?_, fun b5 eb5 => ?_⟩
    · have hlen : (rows4.map (·.1) ++ [nk (.tup l)]).length ≤ LIM := by
        refine hM.fin s h _ ?_ fun k hk => ?_
        · rw [List.nodup_append]
          refine ⟨?_, List.nodup_cons.mpr ⟨by simp, List.nodup_nil⟩, fun x hx y hy => ?_⟩
          · exact nd4
          · rw [List.mem_singleton] at hy
            subst hy
            obtain ⟨r, hr, er⟩ := List.mem_map.mp hx
            rw [← er]; exact hno r hr
        · rcases List.mem_append.mp hk with z | z
          · obtain ⟨r, hr, er⟩ := List.mem_map.mp z
            obtain ⟨kd, vd', _, q2, _, q4⟩ := i5 r hr
            exact ⟨kd, vd', q2.trans er, q4⟩
          · rw [List.mem_singleton] at z
            exact ⟨_, vd, z.symm, g1⟩
      rw [List.length_append, List.length_map] at hlen
      exact hlen
    · cases eb5
      have hrows : ∀ r ∈ putRows rows4 (nk (.tup l)) b4 w, ∃ kd vd, Rep G Φ4 kd (.ref r.2.1) ∧ nk kd = r.1 ∧ Rep G Φ4 vd r.2.2 ∧ G.memo s h kd vd := fun r hr => by
        rcases putRows_mem hr with z | z | ⟨r0, z1, z2, z3⟩
        · exact i5 r z
        · subst z
          exact ⟨.tup l, vd, rk4, rfl, r4', g1⟩
        · obtain ⟨kd', vd', q1, q2, q3, q4⟩ := i5 r0 z1
          have : vd' = vd := hM.one q4 g1 (q2.trans z2)
          subst this z3
          exact ⟨kd', vd', q1, q2, r4', q4⟩
      have hfo : FoOk G Φ4 (upd H4 d4 (dHO G d4 (putRows rows4 (nk (.tup l)) b4 w))) d4 (.memo s h) := ⟨_, upd_same, putRows_nodup nd4 _ _ _, hrows⟩
      have S5 := S4.memoPut (o := dHO G d4 (putRows rows4 (nk (.tup l)) b4 w)) i3 hfo
      have na : a4 ≠ d4 := fun z => by
        subst z
        rw [i2] at i4
        cases i4
      exact memo_read S5 hM hc hn g2 g3 g1 i1 (by rw [upd_ne na]; exact i2) upd_same hrows (putRows_key _ _ _ _) fun v' rv' => kk v' σ3 Φ4 _ (le3.trans s4.le) (S5.forgetAll g6 g4.symm) rv'
  · refine iteF ?_
    exact memo_read S hM hc hn e0 ei g1 h1 h2 h4 h5 hyes fun v' rv' => kk v' σ Φ _ (Fz.Le.refl _) (S.forgetAll g5 rfl) rv'
end
end SS

/-! the data layer: dicts with text keys, minus, short sorted -/
namespace SS
open PySem PySem.Spec PyProof.Rows L2

section
variable {X : Cx}
theorem pairs_of' {pins : List (Addr × Obj)} {σ : L2.St} {H : Hp} {s : Shared} (I : Inv X pins σ H s) : ∀ {ps : List Addr} {kvs : List (Key × V)}, Paired (fun p kv => SqT X.K H p [kV kv.1, kv.2]) ps kvs →
    ∃ (prs : List (Key × Value)) (us : List (Value × Value)), KV kvs prs ∧ prs.length = ps.length ∧ us.length = ps.length ∧
      ∀ (j : Nat) (u : Value × Value), us[j]? = some u → ∃ (b : Addr) (q : Key × Value), ps[j]? = some b ∧ prs[j]? = some q ∧ q.2 = u.2 ∧ IsTup s.heap b #[u.1, u.2] ∧ keyIs q.1 u.1 = true
  | _, _, .nil => ⟨[], [], .nil, rfl, rfl, fun j q e => by simp at e⟩
  | _, _, .cons (a := p) (b := kv) h t => by
    obtain ⟨prs, us, r, hl, hl2, hp⟩ := pairs_of' I t
    obtain ⟨its, rv, ht, _⟩ := I.tuple h
    obtain ⟨u, y, ei, ru, ry⟩ := vals2 rv
    subst ei
    refine ⟨(kv.1, y) :: prs, (u, y) :: us, .cons ⟨rfl, ry⟩ r, by rw [List.length_cons, List.length_cons, hl], by rw [List.length_cons, List.length_cons, hl2], fun j q e => ?_⟩
    cases j with
    | zero =>
      have e' : (u, y) = q := Option.some.inj e
      subst e'
      exact ⟨p, (kv.1, y), rfl, rfl, rfl, ht, kV_is (P := X.prog) (w := X.w) ru⟩
    | succ j =>
      obtain ⟨b, q', e1, e2, e3⟩ := hp j q (by simpa using e)
      exact ⟨b, q', by simpa using e1, by simpa using e2, e3⟩
theorem call_dictT (hcalm : X.calm = true) : CallR X (.type "dict") (fun xs H Q => ∃ (a : Addr) (ps : List Addr) (kvs : List (Key × V)), xs = [.ref a] ∧ TupAt H a (ps.map V.ref) ∧ Paired (fun p kv => SqT X.K H p [kV kv.1, kv.2]) ps kvs ∧
    ∀ p, H p = none → Q (.ref p) (upd H p (.dK (mergeK [] kvs)))) := by
  intro pins s σ H xs us Q I r q
  obtain ⟨a, ps, kvs, ex, ⟨ob, hq, hob⟩, hp, q⟩ := q
  subst ex
  obtain ⟨u, eu, rx⟩ := vals1 r
  subst eu
  cases rx
  obtain ⟨ho, hz, its, rv, o, ho', hc, n, hd⟩ := (show ObjOk X.prog X.w H s.heap a (.frz ob (.tup (ps.map V.ref))) from I.hok a _ hq)
  rw [ho] at ho'
  cases ho'
  have ei := refs_at rv
  subst ei
  rw [List.length_map] at hz
  obtain ⟨prs, vs, rel, hl, hl2, hpr⟩ := pairs_of' I hp
  refine PySem.call_dict_pairs (knd := mixKind X.prog X.w) (kvs := prs) (PairArg.tuple a (ps.map Value.ref).toArray (fun j => (ps[j]?).getD 0) vs) (I.ok.hd hcalm) ⟨⟨ob, n, ho, hc, hob, hd⟩, by simp [hl2], fun j k v e => ?_⟩ ⟨by rw [hl, hl2], fun i k v e => ?_⟩ (by rw [hl2]; exact hz) fun h' tk hd' k => ?_
  · obtain ⟨b, q', e1, e2, e3, e4, e5⟩ := hpr j (k, v) e
    refine ⟨by simp [e1], .inl ?_⟩
    show s.heap.IsTuple ((ps[j]?).getD 0) _
    rw [e1]
    exact e4
  · obtain ⟨b, q', e1, e2, e3, e4, e5⟩ := hpr i (k, v) e
    have e3' : q'.2 = v := e3
    exact ⟨q'.1, by rw [e2, ← e3'], e5⟩
  · have hm : (s.heap.objs.size == sysModules) = false := beq_eq_false_iff_ne.mpr (Nat.ne_of_gt I.big)
    have hlen : (mergeK [] kvs).length ≤ sizeLine := by
      refine Nat.le_trans (length_mergeK kvs []) ?_
      rw [List.length_nil, Nat.zero_add, rel.length, hl]
      exact hz
    exact ⟨.ref s.heap.objs.size, upd H s.heap.objs.size (.dK (mergeK [] kvs)), I.laid (t' := tk) (fun b o e => k b o (by simp) e) (Nat.le_refl _) (show ObjOk X.prog X.w _ _ _ (.dK (mergeK [] kvs)) from ⟨hlen, hm, merged [] prs, KV.merge rel .nil, hd'⟩), rfl, q _ (I.hok.fresh (Nat.le_refl _))⟩
end

/-! ### text keys -/
def putS (kvs : List (List Nat × D)) (k : List Nat) (v : D) : List (List Nat × D) := if (kvs.any fun p => decide (p.1 = k)) = true then kvs.map (fun p => if p.1 = k then (p.1, v) else p) else kvs ++ [(k, v)]
def mergeS (kvs more : List (List Nat × D)) : List (List Nat × D) := more.foldl (fun acc p => putS acc p.1 p.2) kvs
def getS (kvs : List (List Nat × D)) (k : List Nat) : Option D := (kvs.find? fun p => decide (p.1 = k)).map (·.2)
section
variable {G : Gx} {B : Base} {Φ Φ' : Fz} {L L' : Loc} {σ : L2.St} {H H' : Hp} {X : Cx} {a b e : Expr} {pos : Pos} {ma mb : EM}
abbrev kS (x : List Nat) : Key := Sum.inr ⟨x.toArray⟩
theorem kS_inj {x y : List Nat} : kS x = kS y ↔ x = y := by
  constructor
  · intro h
    have h1 : (⟨x.toArray⟩ : PySem.Str) = ⟨y.toArray⟩ := Sum.inr.inj h
    have h2 : x.toArray = y.toArray := by injection h1
    simpa using h2
  · rintro rfl; rfl
theorem RepK.nil : RepK G Φ [] [] := ⟨rfl, Reps.nil⟩
theorem RepK.cons {p : List Nat × D} {kvs : List (List Nat × D)} {v : V} {kv : List (Key × V)} (h : Rep G Φ p.2 v) (t : RepK G Φ kvs kv) : RepK G Φ (p :: kvs) ((kS p.1, v) :: kv) := ⟨by rw [List.map_cons, List.map_cons, t.1], by rw [List.map_cons, List.map_cons]; exact Reps.cons h t.2⟩
theorem RepK.uncons {p : List Nat × D} {kvs : List (List Nat × D)} {kv : List (Key × V)} (h : RepK G Φ (p :: kvs) kv) : ∃ v kr, kv = (kS p.1, v) :: kr ∧ Rep G Φ p.2 v ∧ RepK G Φ kvs kr := by
  obtain ⟨h1, h2⟩ := h
  cases kv with
  | nil => cases h1
  | cons q kr =>
    obtain ⟨qk, qv⟩ := q
    rw [List.map_cons, List.map_cons] at h1 h2
    injection h1 with h1 h1'
    obtain ⟨r1, r2⟩ := h2.cons_inv
    have h1 : qk = kS p.1 := h1
    subst h1
    exact ⟨qv, kr, rfl, r1, h1', r2⟩
theorem RepK.emp {kv : List (Key × V)} (h : RepK G Φ [] kv) : kv = [] := by
  have := h.1
  cases kv with
  | nil => rfl
  | cons _ _ => cases this
theorem RepK.any (k : List Nat) : ∀ {kvs : List (List Nat × D)} {kv : List (Key × V)}, RepK G Φ kvs kv → (kv.any fun q => decide (q.1 = kS k)) = kvs.any fun p => decide (p.1 = k)
  | [], kv, h => by rw [h.emp]; rfl
  | p :: kvs, kv, h => by
    obtain ⟨v, kr, rfl, _, t⟩ := h.uncons
    rw [List.any_cons, List.any_cons, RepK.any k t]
    congr 1
    exact decide_eq_decide.mpr kS_inj
theorem RepK.app : ∀ {kvs kvs2 : List (List Nat × D)} {kv kv2 : List (Key × V)}, RepK G Φ kvs kv → RepK G Φ kvs2 kv2 → RepK G Φ (kvs ++ kvs2) (kv ++ kv2)
  | [], _, kv, _, h, h2 => by rw [h.emp]; exact h2
  | p :: kvs, _, kv, _, h, h2 => by
    obtain ⟨v, kr, rfl, r, t⟩ := h.uncons
    exact RepK.cons r (RepK.app t h2)
theorem RepK.mapPut {k : List Nat} {d : D} {v : V} (hd : Rep G Φ d v) : ∀ {kvs : List (List Nat × D)} {kv : List (Key × V)}, RepK G Φ kvs kv →
    RepK G Φ (kvs.map fun p => if p.1 = k then (p.1, d) else p) (kv.map fun q => if q.1 = kS k then (q.1, v) else q)
  | [], kv, h => by rw [h.emp]; exact RepK.nil
  | p :: kvs, kv, h => by
    obtain ⟨w, kr, rfl, r, t⟩ := h.uncons
    rw [List.map_cons, List.map_cons]
    by_cases e : p.1 = k
    · rw [if_pos e, if_pos (kS_inj.mpr e)]
      exact RepK.cons (p := (p.1, d)) hd (RepK.mapPut hd t)
    · rw [if_neg e, if_neg (fun z => e (kS_inj.mp z))]
      exact RepK.cons r (RepK.mapPut hd t)
theorem RepK.put {k : List Nat} {d : D} {v : V} (hd : Rep G Φ d v) {kvs : List (List Nat × D)} {kv : List (Key × V)} (h : RepK G Φ kvs kv) : RepK G Φ (putS kvs k d) (putK kv (kS k) v) := by
  unfold putS putK
  rw [h.any k]
  split
  · exact h.mapPut hd
  · exact h.app (RepK.cons (p := (k, d)) hd RepK.nil)
theorem RepK.merge : ∀ {more : List (List Nat × D)} {mv : List (Key × V)} {kvs : List (List Nat × D)} {kv : List (Key × V)}, RepK G Φ more mv → RepK G Φ kvs kv → RepK G Φ (mergeS kvs more) (mergeK kv mv)
  | [], mv, kvs, kv, h, q => by rw [h.emp]; exact q
  | p :: more, mv, kvs, kv, h, q => by
    obtain ⟨v, kr, rfl, r, t⟩ := h.uncons
    show RepK G Φ (mergeS (putS kvs p.1 p.2) more) (mergeK (putK kv (kS p.1) v) kr)
    exact RepK.merge t (q.put r)
theorem RepK.get (k : List Nat) : ∀ {kvs : List (List Nat × D)} {kv : List (Key × V)}, RepK G Φ kvs kv → And (∀ d, getS kvs k = some d → ∃ v, valV kv (kS k) = some v ∧ Rep G Φ d v) (getS kvs k = none → valV kv (kS k) = none)
  | [], kv, h => by rw [h.emp]; exact ⟨fun d e => (by cases e), fun _ => rfl⟩
  | p :: kvs, kv, h => by
    obtain ⟨w, kr, rfl, r, t⟩ := h.uncons
    by_cases e : p.1 = k
    · have e1 : getS (p :: kvs) k = some p.2 := by unfold getS; rw [List.find?_cons_of_pos (by simpa using e)]; rfl
      have e2 : valV ((kS p.1, w) :: kr) (kS k) = some w := by rw [valV_pos (kS_inj.mpr e)]
      rw [e1, e2]
      exact ⟨fun d q => (by cases q; exact ⟨w, rfl, r⟩), fun q => (by cases q)⟩
    · have e1 : getS (p :: kvs) k = getS kvs k := by unfold getS; rw [List.find?_cons_of_neg (by simpa using e)]
      have e2 : valV ((kS p.1, w) :: kr) (kS k) = valV kr (kS k) := by rw [valV_neg (fun z => e (kS_inj.mp z))]
      rw [e1, e2]
      exact RepK.get k t
theorem RepK.mono {kvs : List (List Nat × D)} {kv : List (Key × V)} (le : Fz.Le Φ Φ') (h : RepK G Φ kvs kv) : RepK G Φ' kvs kv := ⟨h.1, Reps.mono le _ _ h.2⟩
def contK : EV → Loc → Option (List (List Nat × D))
  | .tmpk kvs, _ => some kvs
  | .loc i, L => match (L[i]? : Option LV) with
    | some (.ownk kvs) => some kvs
    | _ => none
  | _, _ => none
theorem contK_ok (S : Sim G B Φ L σ H) {ev : EV} {v : V} {kvs : List (List Nat × D)} (r : RepE G B Φ L σ H ev v) (e : contK ev L = some kvs) : ∃ a kv, v = .ref a ∧ H a = some (.dK kv) ∧ RepK G Φ kvs kv := by
  cases ev with
  | fro d => cases e
  | tmp l => cases e
  | tmpd ks ws => cases e
  | tmpk kvs' =>
    cases e
    obtain ⟨a, kv, ev, p, q, _⟩ := r
    exact ⟨a, kv, ev, p, q⟩
  | loc i =>
    have hv : σ[i]? = some (some v) := r
    unfold contK at e
    cases el : L[i]? with
    | none => simp only [el] at e; cases e
    | some lv =>
      have sl := S.slot i lv el
      rw [hv] at sl
      cases lv with
      | ownk kvs' =>
        simp only [el] at e
        cases e
        obtain ⟨a, kv, eu, p, q, n⟩ := sl
        cases eu
        exact ⟨a, kv, rfl, p, q⟩
      | _ => simp only [el] at e; cases e
/-- dict(pairs) -/
def pairS : D → Option (List Nat × D)
  | .tup [.str k, d] => some (k, d)
  | _ => none
def pairsS : List D → Option (List (List Nat × D))
  | [] => some []
  | d :: r => (pairS d).bind fun p => (pairsS r).map (p :: ·)
theorem pairs_ok (S : Sim G B Φ L σ H) {K : PySem.W.Frag} : ∀ {ds : List D} {vs : List V} {ps : List (List Nat × D)}, Reps G Φ ds vs → pairsS ds = some ps → ∃ (as : List Addr) (kv : List (Key × V)), vs = as.map V.ref ∧ Paired (fun p kv => SqT K H p [kV kv.1, kv.2]) as kv ∧ RepK G Φ ps kv
  | [], vs, ps, h, e => by
    simp only [Reps] at h
    cases e
    exact ⟨[], [], h, .nil, RepK.nil⟩
  | d :: r, vs, ps, h, e => by
    unfold pairsS at e
    obtain ⟨p, e1, e2⟩ := bind_inv e
    obtain ⟨pr, e3, rfl⟩ := map_inv e2
    simp only [Reps] at h
    obtain ⟨v, vr, rfl, h1, h2⟩ := h
    obtain ⟨as, kv, rfl, q1, q2⟩ := pairs_ok S h2 e3
    unfold pairS at e1
    split at e1
    · rename_i k d'
      cases e1
      simp only [Rep] at h1
      obtain ⟨c, us, rfl, hp, hr⟩ := h1
      simp only [Reps] at hr
      obtain ⟨w, wr, rfl, w1, w2, wr2, rfl, w3, rfl⟩ := hr
      simp only [Rep] at w1
      subst w1
      exact ⟨c :: as, (kS k, w2) :: kv, rfl, .cons (S.fz c (.pt _) hp : TupAt H c _).sq q1, RepK.cons (p := (k, d')) w3 q2⟩
    · cases e1
def opDict : List EV → Loc → Option EV
  | [a], _ => (asTup a).bind fun l => (pairsS l).map fun ps => .tmpk (mergeS [] ps)
  | _, _ => none
variable {es : List Expr} {m : AM} {p : Pos}
theorem de_dict (hc : X.calm = true) (hg : Gl X "dict") (hm : X.mg "dict" = none) (ha : PA X (e :: es) (tA G B m)) (hv : bootBuiltins "dict" = some (.type "dict") := by decide +kernel) (he : starEach (e :: es) X.env = (false, eval e X.env) :: starEach es X.env := by rfl) (hpl : (backTo pos (starEach es X.env)).any (·.1) = false := by rfl) : PE X (.Call (.Name "dict" p) (e :: es) [] pos) (tE G B (mBN (puN opDict) m)) :=
  PE.imp (pe_callTy (call_dictT hc) hg hm hv ha (he := he) (hpl := hpl)) fun σ H Q h => by
    obtain ⟨Φ0, L0, e0, L0', S0, h0, k0⟩ := eN_of h
    refine ⟨Φ0, L0, e0, L0', S0, h0, fun vs Φ1 H1 S1 s1 r1 => ?_⟩
    obtain ⟨Φ, L, evs, ev, L', S, rx, e, k⟩ := k0 vs Φ1 H1 S1 s1 r1
    obtain ⟨e, rfl⟩ := pu_inv e
    unfold opDict at e
    split at e
    · rename_i a _
      obtain ⟨v, rfl, rv⟩ := one_inv rx
      obtain ⟨l, hl, e⟩ := bind_inv e
      obtain ⟨ps, hps, rfl⟩ := map_inv e
      obtain ⟨c, us, rfl, hp, hr⟩ := asTup_ok S rv hl
      obtain ⟨as, kv, rfl, q1, q2⟩ := pairs_ok (K := X.K) S hr hps
      refine ⟨c, as, kv, rfl, hp, q1, fun t ht => ?_⟩
      obtain ⟨n1, n2, n3⟩ := S.hnone ht
      obtain ⟨S1, s1⟩ := S.laid (o := .dK (mergeK [] kv)) ht
      exact k _ Φ _ S1 s1 ⟨t, _, rfl, upd_same, RepK.merge q2 RepK.nil, n1, n2, n3⟩ ⟨t, rfl, ht⟩
    · cases e
/-- d[k] -/
def opKGet (a b : EV) (L : Loc) : Option EV := (contK a L).bind fun kvs => (asStr b).bind fun x => (getS kvs x).map .fro
theorem de_kget (hu : X.A.units + 1 < cLine) (ha : PE X a (tE G B ma)) (hb : PE X b (tE G B mb)) (hs : NoSl b := by exact fun _ _ => rfl) : PE X (.Subscript a b pos) (tE G B (mB2 (pu2 opKGet) ma mb)) :=
  PE.imp (pe_dget hu ha hb hs) fun σ H Q h => by
    obtain ⟨Φ0, L0, e0, L0', S0, h0, k0⟩ := e2_of h
    refine ⟨Φ0, L0, e0, L0', S0, h0, fun v1 Φ1 H1 S1 s1 r1 n1 => ?_⟩
    obtain ⟨Φ2, L2', e2, L2'', S2, h2, k2⟩ := k0 v1 Φ1 H1 S1 s1 r1 n1
    refine ⟨Φ2, L2', e2, L2'', S2, h2, fun v2 Φ3 H3 S3 s3 r3 n3 => ?_⟩
    obtain ⟨Φ, L, x, y, ev, L', S, rx, ry, e, k⟩ := k2 v2 Φ3 H3 S3 s3 r3 n3
    obtain ⟨e, rfl⟩ := pu_inv e
    obtain ⟨kvs, hk, e⟩ := bind_inv e
    obtain ⟨z, hz, e⟩ := bind_inv e
    obtain ⟨d, hd, rfl⟩ := map_inv e
    obtain ⟨c, kv, rfl, hp, hr⟩ := contK_ok S rx hk
    obtain ⟨v, hv, rv⟩ := (hr.get z).1 d hd
    refine ⟨c, v, rfl, ?_, k.fro S rv⟩
    rw [asStr_ok ry hz, ← hv]
    exact DGet.k (k := kS z) hp
/-- d.get(k, x) -/
def mGet2 (md mk mx : EM) : EM := fun L => (md L).bind fun p => (mk p.2).bind fun q => (mx q.2).bind fun r => (contK p.1 p.2).bind fun _ => (contK p.1 r.2).bind fun kvs => (asStr q.1).bind fun x => match r.1 with
  | .fro dx => some (.fro ((getS kvs x).getD dx), r.2)
  | _ => none
theorem de_get2 {o f : Expr} {md mk mx : EM} {apos cpos : Pos} (hu : X.A.units + 1 < cLine) (ho : PE X o (tE G B md)) (he : PE X e (tE G B mk)) (hf : PE X f (tE G B mx)) (m : M2 X o "get" apos e f cpos) : PE X (.Call (.Attribute o "get" apos) [e, f] [] cpos) (tE G B (mGet2 md mk mx)) :=
  PE.imp (pe_dget2 hu ho he hf m) fun σ H Q h => by
    obtain ⟨Φ, L, ev, L', S, e, k⟩ := h
    obtain ⟨p, e1, e⟩ := bind_inv e
    obtain ⟨q, e2, e⟩ := bind_inv e
    obtain ⟨r, e3, e⟩ := bind_inv e
    obtain ⟨kvs0, e4, e⟩ := bind_inv e
    obtain ⟨kvs, e5, e⟩ := bind_inv e
    obtain ⟨x, e6, e⟩ := bind_inv e
    split at e
    · rename_i dx hx
      cases e
      refine ⟨Φ, L, p.1, p.2, S, e1, fun v1 Φ1 H1 S1 s1 r1 _ => ?_⟩
      obtain ⟨c, kv0, rfl, hp0, _⟩ := contK_ok S1 r1 e4
      refine ⟨c, rfl, .inl ⟨kv0, .inl hp0⟩, Φ1, p.2, q.1, q.2, S1, e2, fun v2 Φ2 H2 S2 s2 r2 _ => ⟨Φ2, q.2, r.1, r.2, S2, e3, fun v3 Φ3 H3 S3 s3 r3 _ => ?_⟩⟩
      obtain ⟨c', kv, ec, hp, hr⟩ := contK_ok S3 ((r1.step s2).step s3) e5
      cases ec
      rw [asStr_ok (r2.step s3) e6]
      rw [hx] at r3
      refine ⟨valV kv (kS x), DGet.k (k := kS x) hp, ?_⟩
      have st := s1.trans (s2.trans s3)
      cases hg : getS kvs x with
      | some d =>
        obtain ⟨v, hv, rv⟩ := (hr.get x).1 d hg
        rw [hv]
        rw [hg] at k
        exact k v Φ3 H3 S3 st rv trivial
      | none =>
        rw [(hr.get x).2 hg]
        rw [hg] at k
        exact k v3 Φ3 H3 S3 st r3 trivial
    · cases e
/-- k in d, k not in d -/
def kinE (a b : EV) (L : Loc) : Option Bool := (asStr a).bind fun x => (contK b L).map fun kvs => (getS kvs x).isSome
def kninE (a b : EV) (L : Loc) : Option Bool := (kinE a b L).map (!·)
theorem kin_get (S : Sim G B Φ L σ H) {x y : EV} {v u : V} {c : Bool} (rx : RepE G B Φ L σ H x v) (ry : RepE G B Φ L σ H y u) (e : kinE x y L = some c) : ∃ (a : Addr) (o : Option V), u = .ref a ∧ DGet H a v o ∧ o.isSome = c := by
  obtain ⟨z, hz, e⟩ := bind_inv e
  obtain ⟨kvs, hk, rfl⟩ := map_inv e
  obtain ⟨a, kv, rfl, hp, hr⟩ := contK_ok S ry hk
  refine ⟨a, valV kv (kS z), rfl, by rw [asStr_ok rx hz]; exact DGet.k (k := kS z) hp, ?_⟩
  cases hg : getS kvs z with
  | some d =>
    obtain ⟨v, hv, _⟩ := (hr.get z).1 d hg
    rw [hv]; rfl
  | none => rw [(hr.get z).2 hg]; rfl
theorem dt_kin (hu : X.A.units + 1 < cLine) (ha : PE X a (tE G B ma)) (hb : PE X b (tE G B mb)) (hm : behindInMarks .In b = false := by first | exact nobehind _ (by decide) (by decide) | rfl) : PT X (.Compare a [.In] [b] pos) (tT G B (mT (mB2 (opB kinE) ma mb))) :=
  PT.imp (pt_cmp (pc_din hu ha hb) hm) fun σ H Q h => by
    have h1 := mT_imp h
    obtain ⟨Φ0, L0, e0, L0', S0, h0, k0⟩ := e2_of h1
    refine ⟨Φ0, L0, e0, L0', S0, h0, fun v1 Φ1 H1 S1 s1 r1 n1 => ?_⟩
    obtain ⟨Φ2, L2', e2, L2'', S2, h2, k2⟩ := k0 v1 Φ1 H1 S1 s1 r1 n1
    refine ⟨Φ2, L2', e2, L2'', S2, h2, fun v2 Φ3 H3 S3 s3 r3 n3 => ?_⟩
    obtain ⟨Φ, L, x, y, ev, L', S, rx, ry, e, k⟩ := k2 v2 Φ3 H3 S3 s3 r3 n3
    obtain ⟨c, hc, rfl, rfl⟩ := opB_inv e
    obtain ⟨a, o, rfl, g, ho⟩ := kin_get S rx ry hc
    exact ⟨a, o, rfl, g, by rw [ho]; exact k.fro S (by simp only [Rep])⟩
theorem dt_knin (hu : X.A.units + 1 < cLine) (ha : PE X a (tE G B ma)) (hb : PE X b (tE G B mb)) (hm : behindInMarks .NotIn b = false := by first | exact nobehind _ (by decide) (by decide) | rfl) : PT X (.Compare a [.NotIn] [b] pos) (tT G B (mT (mB2 (opB kninE) ma mb))) :=
  PT.imp (pt_cmp (pc_dnotin hu ha hb) hm) fun σ H Q h => by
    have h1 := mT_imp h
    obtain ⟨Φ0, L0, e0, L0', S0, h0, k0⟩ := e2_of h1
    refine ⟨Φ0, L0, e0, L0', S0, h0, fun v1 Φ1 H1 S1 s1 r1 n1 => ?_⟩
    obtain ⟨Φ2, L2', e2, L2'', S2, h2, k2⟩ := k0 v1 Φ1 H1 S1 s1 r1 n1
    refine ⟨Φ2, L2', e2, L2'', S2, h2, fun v2 Φ3 H3 S3 s3 r3 n3 => ?_⟩
    obtain ⟨Φ, L, x, y, ev, L', S, rx, ry, e, k⟩ := k2 v2 Φ3 H3 S3 s3 r3 n3
    obtain ⟨c, hc, rfl, rfl⟩ := opB_inv e
    obtain ⟨c', hc', rfl⟩ := map_inv hc
    obtain ⟨a, o, rfl, g, ho⟩ := kin_get S rx ry hc'
    exact ⟨a, o, rfl, g, by rw [ho]; exact k.fro S (by simp only [Rep])⟩
/-- -e -/
def opNeg (a : EV) (_ : Loc) : Option EV := (asInt a).map fun i => .fro (.int (-i))
theorem de_neg (ha : PE X a (tE G B ma)) : PE X (.UnaryOp .USub a pos) (tE G B (mB1 (pu1 opNeg) ma)) :=
  PE.imp (pe_un un_neg ha) fun σ H Q h => by
    obtain ⟨Φ0, L0, e0, L0', S0, h0, k0⟩ := e1_of h
    refine ⟨Φ0, L0, e0, L0', S0, h0, fun v Φ1 H1 S1 s1 r1 n1 => ?_⟩
    obtain ⟨Φ, L, ex, ev, L', S, rx, e1, k⟩ := k0 v Φ1 H1 S1 s1 r1 n1
    obtain ⟨e2, rfl⟩ := pu_inv e1
    obtain ⟨i, hi, rfl⟩ := map_inv e2
    exact ⟨i, asInt_ok rx hi, k.fro S (by simp only [Rep])⟩
end
end SS

/-! the data layer: sorted -/
namespace SS
open PySem PySem.Spec PyProof.Rows L2

section
variable {X : Cx}
theorem call_sorted1 : CallR X (.builtin "sorted") (fun xs H Q => ∃ (a : Addr) (ys : List V), xs = [.ref a] ∧ SqL X.K H a ys ∧ ys.length ≤ 1 ∧ ∀ l, H l = none → Q (.ref l) (upd H l (.lst ys))) := by
  intro pins s σ H xs us Q I r h
  obtain ⟨a, ys, rfl, hq, h1, q⟩ := h
  obtain ⟨u, rfl, rx⟩ := vals1 r
  cases rx
  obtain ⟨its, r', pl, hz⟩ := I.list hq
  have hlen := r'.length
  refine SrtO.sorted_ord (ltv := fun _ _ => false) ⟨fun _ _ h => (by cases h), fun _ _ _ _ _ => rfl⟩ pl.isList (by omega) (fun h2 => absurd h2 (by omega)) fun out hs hb => ?_
  have he : out = its := by
    have hp := hb.perm
    match its, out, hp with
    | [], [], _ => rfl
    | [x], [y], hp => rw [List.singleton_perm_singleton.mp hp]
    | [], _ :: _, hp => exact absurd hp.length_eq (by simp)
    | [x], [], hp => exact absurd hp.length_eq (by simp)
    | [x], _ :: _ :: _, hp => exact absurd hp.length_eq (by simp)
    | _ :: _ :: _, _, _ => simp at hlen; omega
  subst he
  obtain ⟨n, hn⟩ := sortedAll_at s.heap out out.toArray
  exact ⟨.ref (s.heap.objs.size + 1), _, I.laid (t' := s.toks) (fun b o e => sortedAll_old e) (Nat.le_succ _) (show ObjOk X.prog X.w _ _ _ (.lst ys) from ⟨hz, out, n, r', hn⟩), rfl, q _ (I.hok.fresh (Nat.le_succ _))⟩
/-- data that can be sorted -/
structure SortOk (l : List D) : Prop where
  lay : ∀ d ∈ l, cok d = true
  al : PySem.W.AllAlike (l.map py)
  so : PySem.W.Sortable (l.map py)
noncomputable def leD (a b : D) : Bool := !PySem.W.dataLt (py b) (py a)
theorem each_rel : ∀ {ds : List D} {vs : List V} {its : List Value}, Vals vs its → ds.length = vs.length → PySem.W.EachIs (fun (u : Value) (p : D × V) => RelV p.2 u) its (ds.zip vs)
  | [], [], _, r, _ => by cases r; exact .nil
  | d :: ds, v :: vs, _, r, h => by
    cases r with
    | cons h1 h2 => exact .cons h1 (each_rel h2 (by simpa using h))
  | [], _ :: _, _, _, h => by simp at h
  | _ :: _, [], _, _, h => by simp at h
theorem each_reads {pins : List (Addr × Obj)} {σ : L2.St} {H : Hp} {s : Shared} (I : Inv X pins σ H s) : ∀ {ds : List D} {vs : List V} {its : List Value}, Vals vs its → DpAll X.K H vs (pys ds) → PySem.W.EachIs (fun (u : Value) (p : D × V) => ∃ as, Reads s.heap u (py p.1) as) its (ds.zip vs)
  | [], _, _, r, h => by
    simp only [pys] at h
    cases h
    cases r
    exact .nil
  | d :: ds, vs, _, r, h => by
    simp only [pys] at h
    cases h with
    | cons h1 h2 =>
      cases r with
      | cons r1 r2 => exact .cons (Dp.reads I _ _ _ h1 r1) (each_reads I r2 h2)
theorem each_vals : ∀ {its : List Value} {ps : List (D × V)}, PySem.W.EachIs (fun (u : Value) (p : D × V) => RelV p.2 u) its ps → Vals (ps.map (·.2)) its
  | _, _, .nil => .nil
  | _, _, .cons h t => .cons h (each_vals t)
theorem dpAll_len {K : PySem.W.Frag} {H : Hp} : ∀ {ds : List D} {vs : List V}, DpAll K H vs (pys ds) → ds.length = vs.length
  | [], _, h => by
    simp only [pys] at h
    cases h
    rfl
  | d :: ds, vs, h => by
    simp only [pys] at h
    cases h with
    | cons h1 h2 => rw [List.length_cons, List.length_cons, dpAll_len h2]
noncomputable def sortZ (ds : List D) (vs : List V) : List (D × V) := (ds.zip vs).mergeSort fun p q => leD p.1 q.1
theorem call_sortedN (hu : X.A.units + 64 < cLine) : CallR X (.builtin "sorted") (fun xs H Q => ∃ (a : Addr) (vs : List V) (ds : List D), xs = [.ref a] ∧ SqL X.K H a vs ∧ SortOk ds ∧ DpAll X.K H vs (pys ds) ∧
    ∀ l, H l = none → Q (.ref l) (upd H l (.lst ((sortZ ds vs).map (·.2))))) := by
  intro pins s σ H xs us Q I r h
  obtain ⟨a, vs, ds, rfl, hq, so, hd, q⟩ := h
  obtain ⟨u, rfl, rx⟩ := vals1 r
  cases rx
  obtain ⟨its, r', pl, hz⟩ := I.list hq
  have hlen := r'.length
  have hl := dpAll_len hd
  have hm : (ds.zip vs).map (fun p => py p.1) = ds.map py := by
    have e : (ds.zip vs).map (fun p => py p.1) = ((ds.zip vs).map Prod.fst).map py := by rw [List.map_map]; rfl
    rw [e, List.map_fst_zip (by omega)]
  refine PySem.W.sorted_data (β := D × V) (R := fun u p => RelV p.2 u) (enc := fun p => py p.1) (bs := ds.zip vs) pl.isList (each_rel r' hl) (each_reads I r' hd) (by rw [hm]; exact so.al) (by rw [hm]; exact so.so) (by rw [List.length_zip]; omega) (fun b hb => ?_) fun out ho eo => ?_
  · have hb1 : b.1 ∈ ds := (List.of_mem_zip (a := b.1) (b := b.2) hb).1
    have h1 := so.lay _ hb1
    unfold cok at h1
    have h2 := of_decide_eq_true (Bool.and_eq_true_iff.mp h1).2
    rw [dpt_py]
    omega
  · have eo' : PySem.W.EachIs (fun u p => RelV p.2 u) out (sortZ ds vs) := eo
    have hv := each_vals eo'
    obtain ⟨n, hn⟩ := sortedAll_at s.heap its out.toArray
    have hol : out.length ≤ sizeLine := by rw [ho, List.length_zip]; omega
    refine ⟨.ref (s.heap.objs.size + 1), _, I.laid (t' := s.toks) (fun b o e => sortedAll_old e) (Nat.le_succ _) (show ObjOk X.prog X.w _ _ _ (.lst ((sortZ ds vs).map (·.2))) from ⟨?_, out, n, hv, hn⟩), rfl, q _ (I.hok.fresh (Nat.le_succ _))⟩
    rw [hv.length]
    exact hol
theorem CallR.or2 {f : Value} {r1 r2 : List V → Hp → VK → Prop} (h1 : CallR X f r1) (h2 : CallR X f r2) : CallR X f fun xs H Q => r1 xs H Q ∨ r2 xs H Q := by
  intro pins s σ H xs us Q I r h
  rcases h with h | h
  · exact h1 pins s σ H xs us Q I r h
  · exact h2 pins s σ H xs us Q I r h
end
section
variable {G : Gx} {B : Base} {Φ Φ' : Fz} {L L' : Loc} {σ : L2.St} {H H' : Hp} {X : Cx} {a b e : Expr} {pos : Pos} {ma mb : EM} {es : List Expr} {m : AM} {p : Pos}
theorem Reps.of_pairs : ∀ {ps : List (D × V)}, (∀ p ∈ ps, Rep G Φ p.1 p.2) → Reps G Φ (ps.map (·.1)) (ps.map (·.2))
  | [], _ => Reps.nil
  | p :: ps, h => Reps.cons (h p (by simp)) (Reps.of_pairs fun q hq => h q (by simp [hq]))
theorem Reps.zip_mem : ∀ {ds : List D} {vs : List V}, Reps G Φ ds vs → ∀ p ∈ ds.zip vs, Rep G Φ p.1 p.2
  | [], _, _, p, hp => by simp at hp
  | d :: ds, vs, h, p, hp => by
    simp only [Reps] at h
    obtain ⟨v, vr, rfl, h1, h2⟩ := h
    rw [List.zip_cons_cons, List.mem_cons] at hp
    rcases hp with rfl | hp
    · exact h1
    · exact Reps.zip_mem h2 p hp
theorem sortZ_fst {ds : List D} {vs : List V} (hl : ds.length = vs.length) : (sortZ ds vs).map (·.1) = ds.mergeSort leD := by
  unfold sortZ
  rw [List.map_mergeSort (s := leD) (fun _ _ _ _ => rfl)]
  congr 1
  exact List.map_fst_zip (by omega)
theorem sortZ_reps {ds : List D} {vs : List V} (h : Reps G Φ ds vs) : Reps G Φ (ds.mergeSort leD) ((sortZ ds vs).map (·.2)) := by
  rw [← sortZ_fst h.length]
  exact Reps.of_pairs fun p hp => h.zip_mem p ((List.mergeSort_perm _ _).mem_iff.mp hp)
theorem cok_all {l : List D} (h : ∀ d ∈ l, cok d = true) : plOks l = true := by
  induction l with
  | nil => rfl
  | cons d l ih =>
    have h1 := h d (by simp)
    unfold cok at h1
    simp only [plOks, (Bool.and_eq_true_iff.mp h1).1, ih fun x hx => h x (by simp [hx]), Bool.and_self]
open Classical in
noncomputable def opSorted : List EV → Loc → Option EV
  | [a], L => (contL a L).bind fun l => if l.length ≤ 1 then some (.tmp l) else if SortOk l then some (.tmp (l.mergeSort leD)) else none
  | _, _ => none
theorem de_sorted {k : Nat} (hr : Room k X.A) (hg : Gl X "sorted") (hm : X.mg "sorted" = none) (ha : PA X (e :: es) (tA G B m)) (hv : bootBuiltins "sorted" = some (.builtin "sorted") := by decide +kernel) (he : starEach (e :: es) X.env = (false, eval e X.env) :: starEach es X.env := by rfl) (hpl : (backTo pos (starEach es X.env)).any (·.1) = false := by rfl) : PE X (.Call (.Name "sorted" p) (e :: es) [] pos) (tE G B (mBN (puN opSorted) m)) :=
  PE.imp (pe_callB (CallR.or2 call_sorted1 (call_sortedN hr.units)) hg hm hv ha (he := he) (hpl := hpl)) fun σ H Q h => by
    obtain ⟨Φ0, L0, e0, L0', S0, h0, k0⟩ := eN_of h
    refine ⟨Φ0, L0, e0, L0', S0, h0, fun vs Φ1 H1 S1 s1 r1 => ?_⟩
    obtain ⟨Φ, L, evs, ev, L', S, rx, e, k⟩ := k0 vs Φ1 H1 S1 s1 r1
    obtain ⟨e, rfl⟩ := pu_inv e
    unfold opSorted at e
    split at e
    · rename_i a _
      obtain ⟨v, rfl, rv⟩ := one_inv rx
      obtain ⟨l, hl, e⟩ := bind_inv e
      obtain ⟨c, us, rfl, hp, hr⟩ := contL_ok S rv hl
      split at e
      · rename_i h1
        cases e
        refine .inl ⟨c, us, rfl, SqL.of hp, by rw [length_vs hr]; exact h1, fun t ht => ?_⟩
        obtain ⟨S', st', r', n'⟩ := S.newTmp ht hr
        exact k _ _ _ S' st' r' n'
      · split at e
        · rename_i h2
          cases e
          refine .inr ⟨c, us, l, rfl, SqL.of hp, h2, Reps.dp S.fz l us (cok_all h2.lay) hr, fun t ht => ?_⟩
          obtain ⟨S', st', r', n'⟩ := S.newTmp ht (sortZ_reps hr)
          exact k _ _ _ S' st' r' n'
        · cases e
    · cases e
end
end SS

/-! the data layer: defs -/
namespace SS
open PySem PySem.Spec PyProof.Rows L2

section
variable {G : Gx} {B : Base} {Φ Φ' : Fz} {L L' : Loc} {σ : L2.St} {H H' : Hp} {X : Cx}
theorem frz_ok (S : Sim G B Φ L σ H) {ev : EV} {v : V} {d : D} {L2' : Loc} (r : RepE G B Φ L σ H ev v) (e : frz1 ev L = some (d, L2')) : ∃ Φ', Sim G B Φ' L2' σ H ∧ Fz.Le Φ Φ' ∧ Rep G Φ' d v := by
  have tmpc : ∀ {a : Addr} {o : HO}, H a = some o → Φ a = none → ¬ OwnAt L σ a → B.H a = none → (∀ Φ' : Fz, Fz.Le Φ Φ' → Φ' a = some (.ho o) → Rep G Φ' d (.ref a)) → L2' = L → ∃ Φ', Sim G B Φ' L2' σ H ∧ Fz.Le Φ Φ' ∧ Rep G Φ' d (.ref a) := fun {a o} p n no b hr el => by
    subst el
    obtain ⟨Φ2, S2, le, eΦ, eo⟩ := S.freeze p n no b
    exact ⟨Φ2, S2, le, hr Φ2 le eΦ⟩
  cases ev with
  | fro d' => cases e; exact ⟨Φ, S, Fz.Le.refl _, r⟩
  | tmp l =>
    cases e
    obtain ⟨a, vs, rfl, p, q, n, o, b⟩ := r
    exact tmpc p n o b (fun Φ' le ea => by simp only [Rep]; exact ⟨a, vs, rfl, ea, Reps.mono le _ _ q⟩) rfl
  | tmpd ks ws =>
    cases e
    obtain ⟨a, rows, rfl, p, ⟨q1, q2, q3⟩, n, o, b⟩ := r
    exact tmpc p n o b (fun Φ' le ea => by simp only [Rep]; exact ⟨a, rows, rfl, ea, q1, Reps.mono le _ _ q2, Reps.mono le _ _ q3⟩) rfl
  | tmpk kvs => cases e
  | loc i =>
    have hv : σ[i]? = some (some v) := r
    unfold frz1 at e
    cases el : L[i]? with
    | none => simp only [el] at e; cases e
    | some lv =>
      have sl := S.slot i lv el
      rw [hv] at sl
      cases lv with
      | none => simp only [el] at e; cases e
      | fro d' =>
        simp only [el] at e
        cases e
        obtain ⟨u, eu, r⟩ := sl
        cases eu
        exact ⟨Φ, S, Fz.Le.refl _, r⟩
      | own l =>
        simp only [el] at e
        cases e
        obtain ⟨a, vs, eu, p, q, n⟩ := sl
        cases eu
        obtain ⟨Φ2, S2, st, hr⟩ := S.frzSlot (d := .lst l) el rfl hv p (fun l z => by cases z) n fun Φ' le ea => by simp only [Rep]; exact ⟨a, vs, rfl, ea, Reps.mono le _ _ q⟩
        exact ⟨Φ2, S2, st.le, hr⟩
      | pin l => simp only [el] at e; cases e
      | ownd ks ws =>
        simp only [el] at e
        cases e
        obtain ⟨a, rows, eu, p, ⟨q1, q2, q3⟩, n⟩ := sl
        cases eu
        obtain ⟨Φ2, S2, st, hr⟩ := S.frzSlot (d := .dct ks ws) el rfl hv p (fun l z => by cases z) n fun Φ' le ea => by simp only [Rep]; exact ⟨a, rows, rfl, ea, q1, Reps.mono le _ _ q2, Reps.mono le _ _ q3⟩
        exact ⟨Φ2, S2, st.le, hr⟩
      | ownk kvs => simp only [el] at e; cases e
/-- what a def hands back -/
def outD : Out × Loc → Option (D × Loc)
  | (.nx, L) => some (.non, L)
  | (.rt ev, L) => frz1 ev L
  | _ => none
def startL (n : Nat) (ds : List D) : Loc := ds.map LV.fro ++ List.replicate (n - ds.length) LV.none
/-- a def of n names, p of them parameters -/
def runF (n p : Nat) (m : SM) (ds : List D) : Option D := if ds.length = p then ((m (startL n ds)).bind outD).map (·.1) else none
def startP (n : Nat) (l : List D) (ds : List D) : Loc := .pin l :: (ds.map LV.fro ++ List.replicate (n - 1 - ds.length) LV.none)
def runP (n p : Nat) (m : SM) (l ds : List D) : Option (D × List D) := if ds.length + 1 = p then ((m (startP n l ds)).bind outD).bind fun q => match (q.2[0]? : Option LV) with
  | some (.pin l') => some (q.1, l')
  | _ => none else none
theorem start_get {N : List Str} {vs : List V} {i : Nat} {v : V} (h : vs[i]? = some v) : (L2.start N vs)[i]? = some (some v) := by
  unfold L2.start
  have hi := (List.getElem?_eq_some_iff.mp h).1
  rw [List.getElem?_append_left (by simpa using hi), List.getElem?_map, h]
  rfl
theorem start_length {N : List Str} {vs : List V} (h : vs.length ≤ N.length) : (L2.start N vs).length = N.length := by
  unfold L2.start
  rw [List.length_append, List.length_map, List.length_replicate]
  omega
theorem sim_start {N : List Str} {ds : List D} {vs : List V} (fz : FzOk G Φ H) (r : Reps G Φ ds vs) (hl : ds.length ≤ N.length) : Sim G ⟨H, Φ, none, 0⟩ Φ (startL N.length ds) (L2.start N vs) H := by
  have hlen := r.length
  have get : ∀ i lv, (startL N.length ds)[i]? = some lv → (∃ d, ds[i]? = some d ∧ lv = LV.fro d) ∨ lv = LV.none := fun i lv e => by
    unfold startL at e
    by_cases hi : i < ds.length
    · rw [List.getElem?_append_left (by simpa using hi), List.getElem?_map] at e
      obtain ⟨d, hd, rfl⟩ := map_inv e
      exact .inl ⟨d, hd, rfl⟩
    · rw [List.getElem?_append_right (by simpa using hi), List.getElem?_replicate] at e
      split at e
      · cases e; exact .inr rfl
      · cases e
  have no : ∀ i a, ¬ OwnI (startL N.length ds) (L2.start N vs) i a := fun i a ⟨lv, e1, e2, e3⟩ => by
    rcases get i lv e1 with ⟨d, _, rfl⟩ | rfl <;> cases e2
  refine ⟨?_, fz, fun i lv e => ?_, fun i j a h _ => absurd h (no i a), Fz.Le.refl _, fun a o e1 e2 e3 => ⟨e1, e2, fun ⟨j, h⟩ => no j a h⟩, fun a e => e, fun a e => by cases e⟩
  · rw [start_length (by omega)]
    unfold startL
    rw [List.length_append, List.length_map, List.length_replicate]
    omega
  · rcases get i lv e with ⟨d, hd, rfl⟩ | rfl
    · obtain ⟨v, hv, rv⟩ := r.get hd
      exact ⟨v, by rw [start_get hv]; rfl, rv⟩
    · trivial
theorem sim_startP {N : List Str} {ds : List D} {vs : List V} {a : Addr} {l : List D} {pv : List V} (fz : FzOk G Φ H) (h : H a = some (.lst pv)) (hr : Reps G Φ l pv) (n : Φ a = none) (r : Reps G Φ ds vs) (hl : ds.length + 1 ≤ N.length) :
    Sim G ⟨H, Φ, some a, 0⟩ Φ (startP N.length l ds) (L2.start N (.ref a :: vs)) H := by
  have hlen := r.length
  have get : ∀ i lv, (startP N.length l ds)[i]? = some lv → (i = 0 ∧ lv = LV.pin l) ∨ (∃ d j, i = j + 1 ∧ ds[j]? = some d ∧ lv = LV.fro d) ∨ lv = LV.none := fun i lv e => by
    unfold startP at e
    cases i with
    | zero => simp at e; exact .inl ⟨rfl, e.symm⟩
    | succ j =>
      rw [List.getElem?_cons_succ] at e
      by_cases hi : j < ds.length
      · rw [List.getElem?_append_left (by simpa using hi), List.getElem?_map] at e
        obtain ⟨d, hd, rfl⟩ := map_inv e
        exact .inr (.inl ⟨d, j, rfl, hd, rfl⟩)
      · rw [List.getElem?_append_right (by simpa using hi), List.getElem?_replicate] at e
        split at e
        · cases e; exact .inr (.inr rfl)
        · cases e
  have s0 : (L2.start N (.ref a :: vs))[0]? = some (some (.ref a)) := start_get rfl
  have own : ∀ i b, OwnI (startP N.length l ds) (L2.start N (.ref a :: vs)) i b → i = 0 ∧ b = a := fun i b ⟨lv, e1, e2, e3⟩ => by
    rcases get i lv e1 with ⟨rfl, rfl⟩ | ⟨d, j, rfl, _, rfl⟩ | rfl
    · rw [s0] at e3
      cases e3
      exact ⟨rfl, rfl⟩
    · cases e2
    · cases e2
  refine ⟨?_, fz, fun i lv e => ?_, fun i j b h1 h2 => (own i b h1).1.trans (own j b h2).1.symm, Fz.Le.refl _, fun b o e1 e2 e3 => ⟨e1, e2, fun ⟨j, h⟩ => e3 (by rw [(own j b h).2])⟩, fun b e => e, fun b e => ⟨0, l, rfl, by cases e; exact s0, rfl⟩⟩
  · rw [start_length (by rw [List.length_cons]; omega)]
    unfold startP
    rw [List.length_cons, List.length_append, List.length_map, List.length_replicate]
    omega
  · rcases get i lv e with ⟨rfl, rfl⟩ | ⟨d, j, rfl, hd, rfl⟩ | rfl
    · exact ⟨a, pv, by rw [s0]; rfl, rfl, h, hr, n⟩
    · obtain ⟨v, hv, rv⟩ := r.get hd
      exact ⟨v, by rw [start_get (i := j + 1) (by simpa using hv)]; rfl, rv⟩
    · trivial
theorem Sim.toAfter {H0 : Hp} {Φ0 : Fz} {i : Nat} (S : Sim G ⟨H0, Φ0, none, i⟩ Φ L σ H) : After G Φ0 H0 Φ H :=
  ⟨S.ext, S.fz, fun a o e n => by obtain ⟨x, y, _⟩ := S.keep a o e n (by simp); exact ⟨x, y⟩, S.dom⟩
variable {P : Program} {w : World} {K : PySem.W.Frag} {mg : Str → Option Value} {base : Heap} {x qual : Str} {params : Arguments} {body : List Stmt} {scope : Scope} {f : Addr} {fd : FuncData} {N ps : List Str} {k : Nat} {m : SM}
/-- A DEF OF DATA -/
theorem fn_spF (F : FunD K x qual params body scope [] [] f fd) (S : FnScope N ps scope)
    (hb : ∀ (cdv : Value) (A : Around) (outer : List Env) (s : Shared) (H : Hp) (E : XK) (B : Base), Room k (A.deeper (envOfC qual scope s.heap.objs.size f cdv)) → PSs (cxOf CX0 P w K mg base N qual scope f cdv A outer s H E).nox body (tS G B m)) :
    FnOk P w K mg base CX0 (k + 1) f fd ps (spF G (runF N.length ps.length m)) := by
  have hpl : ps.length ≤ N.length := by have := congrArg List.length S.pre; rw [List.length_take] at this; omega
  have inv : ∀ {ds : List D} {r : D}, runF N.length ps.length m ds = some r → ds.length = ps.length ∧ ∃ o L2' L3, m (startL N.length ds) = some (o, L2') ∧ outD (o, L2') = some (r, L3) := fun {ds r} e => by
    unfold runF at e
    split at e
    · rename_i hl
      obtain ⟨q, e1, rfl⟩ := map_inv e
      obtain ⟨p, e2, e3⟩ := bind_inv e1
      exact ⟨hl, p.1, p.2, q.2, e2, e3⟩
    · cases e
  refine F.ok S (fun vs H Q E ⟨Φ, ds, r, fz, hr, e, _⟩ => by rw [← hr.length]; exact (inv e).1) fun cdv A outer s H vs Q E hroom ⟨Φ, ds, r, fz, hr, e, k⟩ => ?_
  obtain ⟨hl, o, L2', L3, e1, e2⟩ := inv e
  refine ⟨tS G ⟨H, Φ, none, 0⟩ m, PSs.nox (hb cdv A outer s H E _ hroom), Φ, _, o, L2', sim_start fz hr (by omega), e1, ?_⟩
  cases o with
  | nx => cases e2; exact fun σ' Φ' H' le S' => k .non Φ' H' S'.toAfter (by simp only [Rep])
  | rt ev =>
    intro v σ' Φ' H' le S' rv
    obtain ⟨Φ2, S2, le2, r2⟩ := frz_ok S' rv (show frz1 ev L2' = some (r, L3) from e2)
    exact k v Φ2 H' S2.toAfter r2
  | bk => cases e2
  | ct => cases e2
/-- a def of data whose first parameter is a list that it changes -/
theorem fn_spP (F : FunD K x qual params body scope [] [] f fd) (S : FnScope N ps scope)
    (hb : ∀ (cdv : Value) (A : Around) (outer : List Env) (s : Shared) (H : Hp) (E : XK) (B : Base), Room k (A.deeper (envOfC qual scope s.heap.objs.size f cdv)) → PSs (cxOf CX0 P w K mg base N qual scope f cdv A outer s H E).nox body (tS G B m)) :
    FnOk P w K mg base CX0 (k + 1) f fd ps (spP G (runP N.length ps.length m)) := by
  have hpl : ps.length ≤ N.length := by have := congrArg List.length S.pre; rw [List.length_take] at this; omega
  have inv : ∀ {l l' ds : List D} {r : D}, runP N.length ps.length m l ds = some (r, l') → ds.length + 1 = ps.length ∧ ∃ o L2' L3, m (startP N.length l ds) = some (o, L2') ∧ outD (o, L2') = some (r, L3) ∧ L3[0]? = some (.pin l') := fun {l l' ds r} e => by
    unfold runP at e
    split at e
    · rename_i hl
      obtain ⟨q, e1, e4⟩ := bind_inv e
      obtain ⟨p, e2, e3⟩ := bind_inv e1
      split at e4
      · rename_i l0 h0
        cases e4
        exact ⟨hl, p.1, p.2, q.2, e2, e3, h0⟩
      · cases e4
    · cases e
  refine F.ok S (fun vs H Q E ⟨Φ, a, pv, l, vs', ds, r, l', hvs, fz, hp, hl, hn, hr, e, _⟩ => by rw [hvs, List.length_cons, ← hr.length]; exact (inv e).1) fun cdv A outer s H vs Q E hroom ⟨Φ, a, pv, l, vs', ds, r, l', hvs, fz, hp, hlr, hn, hr, e, k⟩ => ?_
  subst hvs
  obtain ⟨hl, o, L2', L3, e1, e2, e3⟩ := inv e
  refine ⟨tS G ⟨H, Φ, some a, 0⟩ m, PSs.nox (hb cdv A outer s H E _ hroom), Φ, _, o, L2', sim_startP fz hp hlr hn hr (by omega), e1, ?_⟩
  have fin : ∀ (v : V) (Φ' : Fz) (H' : Hp) (σ' : L2.St), Sim G ⟨H, Φ, some a, 0⟩ Φ' L3 σ' H' → Rep G Φ' r v → Q v H' := fun v Φ' H' σ' S' rv => by
    obtain ⟨i, l0, q1, q2, q3⟩ := S'.pinned a rfl
    have q3 : i = 0 := q3
    subst q3
    rw [e3] at q1
    cases q1
    have sl := S'.slot 0 _ e3
    rw [q2] at sl
    obtain ⟨a', pv', z1, z2, z3, z4, z5⟩ := sl
    cases z1
    exact k v Φ' H' pv' S'.ext S'.fz (fun b o hb h1 h2 => by obtain ⟨x, y, _⟩ := S'.keep b o h1 h2 (fun z => hb (by cases z; rfl)); exact ⟨x, y⟩) S'.dom z3 z4 z5 rv
  cases o with
  | nx => cases e2; exact fun σ' Φ' H' le S' => fin .non Φ' H' σ' S' (by simp only [Rep])
  | rt ev =>
    intro v σ' Φ' H' le S' rv
    obtain ⟨Φ2, S2, le2, r2⟩ := frz_ok S' rv (show frz1 ev L2' = some (r, L3) from e2)
    exact fin v Φ2 H' σ' S2 r2
  | bk => cases e2
  | ct => cases e2
end
end SS

/-! the data layer: a list's methods, a new Machine -/
namespace SS
open PySem PySem.Spec PyProof.Rows L2

section
variable {G : Gx} {B : Base} {Φ Φ' : Fz} {L L' : Loc} {σ : L2.St} {H H' : Hp} {X : Cx} {a b e o : Expr} {es : List Expr} {pos apos cpos p : Pos} {ma mb : EM} {m : AM} {i : Nat} {x : Str}
theorem ds_app (ho : PE X o (tVar i)) (he : PE X e (tE G B ma)) (hb : attributeBase o "append" X.env (eval o X.env) = eval o X.env := by rfl) (hs : starEach [e] X.env = [(false, eval e X.env)] := by rfl)
    (hfew : ((backTo cpos (starEach [e] X.env)).all (fun x => !x.1) && (backToKw cpos (keywordEach [] X.env)).all (fun x => x.1.isSome)
      && decide (([e] : List Expr).length + ([] : List Keyword).length + (if ([] : List Keyword).isEmpty then 0 else 1) < 30)) = true := by rfl) (hl : (apos.endLine == cpos.line) = true := by rfl) (hw : swapsWith (.Call (.Attribute o "append" apos) [e] [] cpos) none pos.line X.env = pure false := by rfl) :
    PS X (.Expr (.Call (.Attribute o "append" apos) [e] [] cpos) pos) (tS G B (mApp i ma)) :=
  ds_append (pe_bm PySem.F.plainAttrs_list PySem.F.slot_list_append PySem.F.type_list_append mt_append ho (pa_cons he pa_nil hs) hb hfew hl hs rfl) hw
theorem ds_ext (ho : PE X o (tVar i)) (he : PE X e (tE G B ma)) (hb : attributeBase o "extend" X.env (eval o X.env) = eval o X.env := by rfl) (hs : starEach [e] X.env = [(false, eval e X.env)] := by rfl)
    (hfew : ((backTo cpos (starEach [e] X.env)).all (fun x => !x.1) && (backToKw cpos (keywordEach [] X.env)).all (fun x => x.1.isSome)
      && decide (([e] : List Expr).length + ([] : List Keyword).length + (if ([] : List Keyword).isEmpty then 0 else 1) < 30)) = true := by rfl) (hl : (apos.endLine == cpos.line) = true := by rfl) (hw : swapsWith (.Call (.Attribute o "extend" apos) [e] [] cpos) none pos.line X.env = pure false := by rfl) :
    PS X (.Expr (.Call (.Attribute o "extend" apos) [e] [] cpos) pos) (tS G B (mExt i ma)) :=
  ds_extend (pe_bm PySem.F.plainAttrs_list PySem.F.slot_list_extend PySem.F.type_list_extend mt_extend ho (pa_cons he pa_nil hs) hb hfew hl hs rfl) hw
theorem de_popl (ho : PE X o (tVar i)) (hb : attributeBase o "pop" X.env (eval o X.env) = eval o X.env := by rfl) (hl : (apos.endLine == cpos.line) = true := by rfl) :
    PE X (.Call (.Attribute o "pop" apos) [] [] cpos) (tE G B (mPop i)) :=
  de_pop (pe_bm0 PySem.F.plainAttrs_list PySem.F.slot_list_pop PySem.F.type_list_pop mt_pop ho hb hl)

/-! ### a new Machine -/
theorem Sim.freezeFo (S : Sim G B Φ L σ H) {a : Addr} {o : HO} {fo : FO} (h : H a = some o) (n : Φ a = none) (no : ¬ OwnAt L σ a) (hb : B.H a = none) (hf : ∀ Φ' : Fz, Fz.Le Φ Φ' → FoOk G Φ' H a fo) :
    ∃ Φ', Sim G B Φ' L σ H ∧ Fz.Le Φ Φ' ∧ Φ' a = some fo ∧ ∀ b, b ≠ a → Φ' b = Φ b := by
  refine ⟨fun b => if b = a then some fo else Φ b, ?_, fun b fo' e => ?_, if_pos rfl, fun b hb => if_neg hb⟩
  · have le : Fz.Le Φ fun b => if b = a then some fo else Φ b := fun b fo' e => by
      have : b ≠ a := fun z => by subst z; rw [n] at e; cases e
      show (if b = a then _ else _) = _
      rw [if_neg this]; exact e
    refine ⟨S.len, fun b fo' e => ?_, fun i lv e => ?_, S.sep, S.ext.trans le, fun b u e1 e2 e3 => ?_, S.dom, S.pinned⟩
    · by_cases eb : b = a
      · subst eb
        have e' : (if b = b then some fo else Φ b) = some fo' := e
        rw [if_pos rfl] at e'
        cases e'
        exact hf _ le
      · have e' : (if b = a then some fo else Φ b) = some fo' := e
        rw [if_neg eb] at e'
        exact (S.fz b fo' e').mono le rfl
    · refine (S.slot i lv e).mono le fun b hi ho => ⟨rfl, ?_⟩
      have hb' : b ≠ a := fun z => no ⟨i, lv, e, hi, by rw [← z]; exact joinEq.mp ho⟩
      obtain ⟨c, u, q1, q2, q3⟩ := (S.slot i lv e).own_at hi
      rw [ho] at q1; cases q1
      show (if b = a then _ else _) = _
      rw [if_neg hb']; exact q3
    · obtain ⟨k1, k2, k3⟩ := S.keep b u e1 e2 e3
      have hb' : b ≠ a := fun z => by subst z; rw [hb] at e1; cases e1
      refine ⟨k1, ?_, k3⟩
      show (if b = a then _ else _) = _
      rw [if_neg hb']; exact k2
  · have : b ≠ a := fun z => by subst z; rw [n] at e; cases e
    show (if b = a then _ else _) = _
    rw [if_neg this]; exact e
/-- Machine.__init__(self, sounds, history) -/
def spInit (G : Gx) : Sp := fun vs H Q _ => ∃ x dx vs' vh, vs = [.ref x, vs', vh] ∧ H x = some (.ins G.cM dx []) ∧ ∀ d, H d = none → Q .non (upd (upd H d (dHO G d [])) x (.ins G.cM dx [("sounds", vs'), ("history", vh), ("known", .ref d)]))
def tDNewN (G : Gx) : TE := fun _ H Q => ∀ p, H p = none → Q (.ref p) (upd H p (dHO G p []))
theorem pe_dnewN (hP : G.P = X.prog) (hw : G.w = X.w) : PE X (.Dict [] [] pos) (tDNewN G) := ⟨fun pins s σ H Q I h =>
  wpAny_Dict_empty ⟨.ref s.heap.objs.size, _, I.laid (a := s.heap.objs.size) (o := dHO G s.heap.objs.size []) (t' := s.toks) (fun _ _ q => Heap.get?_push_of_some _ q) (Nat.le_refl _)
    (by rw [← hP, ← hw]; exact DOk.of (us := []) (Nat.zero_le _) (beq_eq_false_iff_ne.mpr (Ne.symm (Nat.ne_of_lt I.big))) .nil (Heap.DictOfH.new s.heap)), rfl, h _ (I.hok.fresh (Nat.le_refl _))⟩⟩
variable {v1 v2 v3 s1 s2 s3 : Expr} {q1 q2 q3 p1 p2 p3 : Pos}
/-- the body of __init__ -/
theorem init_body (hP : G.P = X.prog) (hw : G.w = X.w) (hc : Cls X.K G.cM) (n1 : NoAttr X.K G.cM "sounds") (n2 : NoAttr X.K G.cM "history") (n3 : NoAttr X.K G.cM "known")
    (h1 : PE X s1 (tVar 0)) (h2 : PE X v1 (tVar 1)) (h3 : PE X s2 (tVar 0)) (h4 : PE X v2 (tVar 2)) (h5 : PE X s3 (tVar 0))
    (w1 : swapsWith v1 (some (.Attribute s1 "sounds" q1)) p1.line X.env = pure false) (w2 : swapsWith v2 (some (.Attribute s2 "history" q2)) p2.line X.env = pure false) (w3 : swapsWith (.Dict [] [] pos) (some (.Attribute s3 "known" q3)) p3.line X.env = pure false)
    {N : List Str} {vs : List V} {Q : VK} (h : spInit G vs H Q E0) : ∃ t, PSs X [.Assign [.Attribute s1 "sounds" q1] v1 p1, .Assign [.Attribute s2 "history" q2] v2 p2, .Assign [.Attribute s3 "known" q3] (.Dict [] [] pos) p3] t ∧ t { nx := fun _ H' => Q .non H', rt := Q } (L2.start N vs) H := by
  refine ⟨_, pss_cons (ps_fld h1 h2 w1) (pss_cons (ps_fld h3 h4 w2) (pss_one (ps_fld h5 (pe_dnewN hP hw) w3))), ?_⟩
  obtain ⟨x, dx, vs', vh, rfl, hx, k⟩ := h
  have g0 : (L2.start N [V.ref x, vs', vh])[0]? = some (some (.ref x)) := start_get rfl
  have g1 : (L2.start N [V.ref x, vs', vh])[1]? = some (some vs') := start_get rfl
  have g2 : (L2.start N [V.ref x, vs', vh])[2]? = some (some vh) := start_get rfl
  refine ⟨vs', g1, .ref x, g0, x, _, dx, [], rfl, hx, hc, n1, by decide, ?_⟩
  refine ⟨vh, g2, .ref x, g0, x, _, dx, _, rfl, upd_same, hc, n2, (show (1 : Nat) < 1000 by decide), ?_⟩
  intro d hd
  have hdx : d ≠ x := fun z => by subst z; rw [upd_same] at hd; cases hd
  have hd' : H d = none := by rw [upd_ne hdx, upd_ne hdx] at hd; exact hd
  refine ⟨.ref x, g0, x, _, dx, putF "history" vh (putF "sounds" vs' []), rfl, by rw [upd_ne (Ne.symm hdx)]; exact upd_same, hc, n3, (show (2 : Nat) < 1000 by decide), ?_⟩
  have e : upd (upd (upd (upd H x (.ins G.cM dx (putF "sounds" vs' []))) x (.ins G.cM dx (putF "history" vh (putF "sounds" vs' [])))) d (dHO G d [])) x (.ins G.cM dx (putF "known" (.ref d) (putF "history" vh (putF "sounds" vs' [])))) =
      upd (upd H d (dHO G d [])) x (.ins G.cM dx [("sounds", vs'), ("history", vh), ("known", .ref d)]) := by
    funext c
    by_cases h1 : c = x
    · subst h1
      rw [upd_same, upd_same]
      rfl
    · rw [upd_ne h1, upd_ne h1]
      by_cases h2 : c = d
      · subst h2; rw [upd_same, upd_same]
      · rw [upd_ne h2, upd_ne h2, upd_ne h1, upd_ne h1]
  show Q .non (upd (upd (upd (upd H x (.ins G.cM dx (putF "sounds" vs' []))) x (.ins G.cM dx (putF "history" vh (putF "sounds" vs' [])))) d (dHO G d [])) x (.ins G.cM dx (putF "known" (.ref d) (putF "history" vh (putF "sounds" vs' [])))))
  rw [e]
  exact k d hd'
def opMach (evs : List EV) : EM := fun L => (frosOf evs).bind fun ds => match ds with
  | [s, h] => some (.fro (.mach s h), L)
  | _ => none
variable {k : Nat} {f : Addr} {fd : FuncData} {ps : List Str}
theorem de_mach (M : Mk X.K G.cM f) (F : FnOk X.prog X.w X.K X.mg X.base CX0 k f fd ps (spInit G)) (hr : Room (k + 1) X.A) (hg : Gl X x) (hm : X.mg x = some (.ref G.cM)) (hb : Binds X.K fd ps [])
    (ha : PA X (e :: es) (tA G B m)) (hdb : (x == ("__debug__" : Str)) = false := by decide) (he : starEach (e :: es) X.env = (false, eval e X.env) :: starEach es X.env := by rfl) (hpl : (backTo pos (starEach es X.env)).any (·.1) = false := by rfl) :
    PE X (.Call (.Name x p) (e :: es) [] pos) (tE G B (mBN opMach m)) :=
  PE.imp (pe_make (E := E0) M F hr hg hm hb .nil pass0 ha hdb he hpl) fun σ H Q h => by
    obtain ⟨Φ0, L0, e0, L0', S0, h0, k0⟩ := eN_of h
    refine ⟨Φ0, L0, e0, L0', S0, h0, fun vs Φ1 H1 S1 s1 r1 => ?_⟩
    obtain ⟨Φ, L, evs, ev, L', S, rx, e, k⟩ := k0 vs Φ1 H1 S1 s1 r1
    obtain ⟨ds, hds, e⟩ := bind_inv e
    have hr := fros_ok rx hds
    split at e
    · rename_i s h
      cases e
      intro x dx hx hdx hne
      simp only [Reps] at hr
      obtain ⟨v1, _, rfl, r1', v2, _, rfl, r2', rfl⟩ := hr
      refine ⟨x, dx, v1, v2, rfl, upd_same, fun d hd => ⟨rfl, ?_⟩⟩
      have ndx : d ≠ x := fun z => by subst z; rw [upd_same] at hd; cases hd
      rw [upd_ne ndx] at hd
      have nddx : d ≠ dx := fun z => by subst z; rw [upd_same] at hd; cases hd
      rw [upd_ne nddx] at hd
      -- the three are laid
      obtain ⟨S2, s2⟩ := S.laid (o := .own x) hdx
      have hx2 : upd H1 dx (.own x) x = none := by rw [upd_ne (Ne.symm hne)]; exact hx
      have hd2 : upd H1 dx (.own x) d = none := by rw [upd_ne nddx]; exact hd
      obtain ⟨S3, s3⟩ := S2.laid (o := dHO G d []) hd2
      have hx3 : upd (upd H1 dx (.own x)) d (dHO G d []) x = none := by rw [upd_ne (Ne.symm ndx)]; exact hx2
      obtain ⟨n1, n2, n3⟩ := S3.hnone hx3
      obtain ⟨m1, m2, m3⟩ := S2.hnone hd2
      obtain ⟨S4, s4⟩ := S3.laid (o := .ins G.cM dx [("sounds", v1), ("history", v2), ("known", .ref d)]) hx3
      have eH : upd (upd (upd (upd H1 dx (.own x)) x (.ins G.cM dx [])) d (dHO G d [])) x (.ins G.cM dx [("sounds", v1), ("history", v2), ("known", .ref d)]) = upd (upd (upd H1 dx (.own x)) d (dHO G d [])) x (.ins G.cM dx [("sounds", v1), ("history", v2), ("known", .ref d)]) := by
        funext c
        by_cases h1 : c = x
        · subst h1; rw [upd_same, upd_same]
        · rw [upd_ne h1, upd_ne h1]
          by_cases h2 : c = d
          · subst h2; rw [upd_same, upd_same]
          · rw [upd_ne h2, upd_ne h2, upd_ne h1]
      rw [eH]
      have gd : upd (upd (upd H1 dx (.own x)) d (dHO G d [])) x (.ins G.cM dx [("sounds", v1), ("history", v2), ("known", .ref d)]) d = some (dHO G d []) := by rw [upd_ne ndx, upd_same]
      obtain ⟨Φ5, S5, le5, eΦ5, o5⟩ := S4.freezeFo (fo := .memo s h) gd m1 m2 m3 fun Φ' _ => ⟨[], gd, List.nodup_nil, fun r hr => by cases hr⟩
      have nx5 : Φ5 x = none := by rw [o5 x (Ne.symm ndx)]; exact n1
      obtain ⟨Φ6, S6, le6, eΦ6, o6⟩ := S5.freezeFo (fo := .ho (.ins G.cM dx [("sounds", v1), ("history", v2), ("known", .ref d)])) upd_same nx5 n2 n3 fun Φ' _ => upd_same
      refine k (.ref x) Φ6 _ S6 ⟨((s2.le.trans (s3.le.trans s4.le)).trans le5).trans le6, fun c u e1 e2 e3 => ?_, fun c h => s2.dom c (s3.dom c (s4.dom c h)), fun _ h => h⟩ ?_ trivial
      · obtain ⟨y1, y2, y3⟩ := (s2.trans (s3.trans s4)).stray c u e1 e2 e3
        have cx : c ≠ x := fun z => by subst z; rw [hx] at e1; cases e1
        have cd : c ≠ d := fun z => by subst z; rw [hd] at e1; cases e1
        exact ⟨y1, by rw [o6 c cx, o5 c cd]; exact e2, y3⟩
      · show Rep G Φ6 (.mach s h) (.ref x)
        simp only [Rep]
        have le : Fz.Le Φ Φ6 := ((s2.le.trans (s3.le.trans s4.le)).trans le5).trans le6
        exact ⟨x, dx, d, v1, v2, rfl, eΦ6, le6 _ _ eΦ5, Rep.mono le _ _ r1', Rep.mono le _ _ r2'⟩
    · cases e
end
end SS

/-! the data layer: dicts with text keys that a def fills -/
namespace SS
open PySem PySem.Spec PyProof.Rows L2

section
variable {G : Gx} {B : Base} {Φ Φ' : Fz} {L L' : Loc} {σ : L2.St} {H H' : Hp} {X : Cx} {a b e o x : Expr} {pos p2 : Pos} {ma mb mi : EM} {i : Nat}
def mDNew : EM := fun L => some (.tmpk [], L)
theorem de_dnew : PE X (.Dict [] [] pos) (tE G B mDNew) := PE.imp pe_dnewK fun σ H Q q => by
  obtain ⟨Φ, L, ev, L', S, e, k⟩ := q
  cases e
  intro p hp
  obtain ⟨n1, n2, n3⟩ := S.hnone hp
  obtain ⟨S1, s1⟩ := S.laid (o := .dK []) hp
  exact k _ Φ _ S1 s1 ⟨p, [], rfl, upd_same, RepK.nil, n1, n2, n3⟩ ⟨p, rfl, hp⟩
def kOf (i : Nat) (L : Loc) : Option (List (List Nat × D)) := match (L[i]? : Option LV) with
  | some (.ownk kvs) => some kvs
  | _ => none
theorem kOf_eq {kvs : List (List Nat × D)} (h : kOf i L = some kvs) : L[i]? = some (.ownk kvs) := by
  unfold kOf at h
  split at h
  · cases h; assumption
  · cases h
/-- d[k] = v -/
def mDPut (i : Nat) (mi ma : EM) : SM := fun L => (ma L).bind fun p => (kOf i p.2).bind fun _ => (mi p.2).bind fun q => (kOf i q.2).bind fun kvs => match p.1 with
  | .fro d => (asStr q.1).bind fun z => if kvs.length < LIM then some (.nx, q.2.set i (.ownk (putS kvs z d))) else none
  | _ => none
theorem RepK.len {kvs : List (List Nat × D)} {kv : List (Key × V)} (h : RepK G Φ kvs kv) : kv.length = kvs.length := by
  have := congrArg List.length h.1
  rwa [List.length_map, List.length_map] at this
theorem ds_dput (hu : X.A.units + 1 < cLine) (ho : PE X o (tVar i)) (hx : PE X x (tE G B mi)) (he : PE X e (tE G B ma)) (hs : swapsWith e (some (.Subscript o x p2)) pos.line X.env = pure false := by rfl) :
    PS X (.Assign [.Subscript o x p2] e pos) (tS G B (mDPut i mi ma)) := PS.imp (ps_dput hu ho hx he hs) fun D σ H q => by
  obtain ⟨Φ, L, o, L', S, e, k⟩ := q
  obtain ⟨p, e1, e⟩ := bind_inv e
  obtain ⟨kv0, w0, e⟩ := bind_inv e
  obtain ⟨q, e2, e⟩ := bind_inv e
  obtain ⟨kvs, w1, e⟩ := bind_inv e
  obtain ⟨ev, L1⟩ := p
  cases ev with
  | fro d =>
    obtain ⟨z, hz, e⟩ := bind_inv (show (asStr q.1).bind _ = some (o, L') from e)
    split at e
    · rename_i hlt
      cases e
      refine ⟨Φ, L, .fro d, L1, S, e1, fun v Φ1 H1 S1 s1 r1 _ => ?_⟩
      obtain ⟨c, kv, q1, q2, q3, q4⟩ := S1.slot i _ (kOf_eq w0)
      refine ⟨.ref c, joinEq.mp q1, Φ1, L1, q.1, q.2, S1, e2, fun u Φ2 H2 S2 s2 r2 _ => ?_⟩
      obtain ⟨c2, kv2, t1, t2, t3, t4⟩ := S2.slot i _ (kOf_eq w1)
      rw [q1] at t1
      cases t1
      rw [asStr_ok r2 hz]
      refine ⟨c, _, rfl, DPut.k (k := kS z) t2 (by rw [t3.len]; exact hlt), ?_⟩
      have hr : RepK G Φ2 (putS kvs z d) (putK kv2 (kS z) v) := t3.put (Rep.mono s2.le _ _ r1)
      obtain ⟨S3, s3⟩ := S2.chg (lv := .ownk (putS kvs z d)) (Φ' := Φ2) (H' := upd H2 c (.dK (putK kv2 (kS z) v))) (kOf_eq w1) rfl (joinEq.mp q1) (Fz.Le.refl _) (fun _ _ => rfl) (fun b hb => upd_ne hb) (by rw [upd_same]; intro z; cases z) (fun fo h => by rw [t4] at h; cases h) ⟨c, _, rfl, upd_same, hr, t4⟩ fun l0 z => by cases z
      exact k σ Φ2 _ (s1.trans s2).le S3
    · cases e
  | _ => cases e
end
end SS

/-! the pool of numbers, the law's first line -/
namespace SS
open PySem PySem.Spec PyProof.Rows L2

def saltL (ns : List Int) : Int := ns.foldl (fun s c => (s * 31 + c) % 1000003) 7
/-- _law_pool(script) -/
def spPool (K : PySem.W.Frag) : Sp := fun vs H Q _ => ∃ a ns, vs = [.ref a] ∧ SqL K H a (ns.map V.int) ∧ ns.length ≤ 63 ∧
  ∀ p q H', p ≠ q → H p = none → H q = none → (∀ b o, H b = some o → H' b = some o) → H' p = some (.lst [.ref q, .int 0, .int 0, .int 0, .int (saltL ns)]) → H' q = some (.lst (ns.map V.int)) → Q (.ref p) H'
theorem cut63 {xs : List V} (h : xs.length ≤ 63) : cutV xs none (some 63) = xs := by
  unfold cutV
  have h1 : HT.sIx xs.length 0 none = 0 := rfl
  have h2 : HT.sIx xs.length xs.length (some 63) = xs.length := by
    unfold HT.sIx
    simp
    omega
  rw [h1, h2]
  simp
theorem salt_bound (ns : List Int) : 0 ≤ saltL ns ∧ saltL ns < 1000003 := by
  unfold saltL
  have go : ∀ (l : List Int) (s : Int), 0 ≤ s ∧ s < 1000003 → 0 ≤ l.foldl (fun s c => (s * 31 + c) % 1000003) s ∧ l.foldl (fun s c => (s * 31 + c) % 1000003) s < 1000003 := by
    intro l
    induction l with
    | nil => intro s h; exact h
    | cons c r ih => intro s h; exact ih _ ⟨Int.emod_nonneg _ (by decide), Int.emod_lt_of_pos _ (by decide)⟩
  exact go ns 7 (by decide)
theorem take_succ_salt {ns : List Int} {i : Nat} (h : i < ns.length) : saltL (ns.take (i + 1)) = (saltL (ns.take i) * 31 + ns[i]) % 1000003 := by
  unfold saltL
  rw [List.take_succ_eq_append_getElem h, List.foldl_append]
  rfl
section
variable {X : Cx} {N : List Str} {s1 s2 : Expr} 
def tPool (K : PySem.W.Frag) : TS :=
  tSeq (tAsg (tC (.int 7)) (gName 1)) (tSeq (tFor (iList K (tSl (rSlL K) (tVar 0) tNoPart (tPart (tC (.int 63))))) (gName 2)
    (tAsg (tOp (rI (fun _ j => 0 < j) fun i j => .int (i % j)) (tCB (fun xs H Q => (∃ i, xs = [.int i] ∧ Q (.int i) H) ∨ ∃ k, xs = [.bl k] ∧ Q (.int (if k then 1 else 0)) H) (tCons (tOp (rI0 fun i j => .int (i + j)) (tOp (rI CMul fun i j => .int (i * j)) (tVar 1) (tC (.int 31))) (tVar 2)) tNil)) (tC (.int 1000003))) (gName 1)))
    (tRet (tLst (tCons (tCB (fun xs H Q => ∃ p ys, xs = [.ref p] ∧ (SqL K H p ys ∨ SqT K H p ys) ∧ ∀ l, H l = none → Q (.ref l) (upd H l (.lst ys))) (tCons (tVar 0) tNil)) (tCons (tC (.int 0)) (tCons (tC (.int 0)) (tCons (tC (.int 0)) (tCons (tVar 1) tNil))))))))
theorem pool_pure {K : PySem.W.Frag} (vs : List V) (H : Hp) (Q : VK) (E : XK) (h : spPool K vs H Q E) : tPool K { nx := fun _ H' => Q .non H', rt := Q } (L2.start ["script", "salt", "cell"] vs) H := by
  obtain ⟨a, ns, rfl, hS, hl, hQ⟩ := h
  have e0 : (L2.start ["script", "salt", "cell"] [V.ref a]) = [some (V.ref a), none, none] := rfl
  rw [e0]
  refine ⟨_, rfl, _, rfl, a, _, rfl, hS, fun p hp => ?_⟩
  have hlen : (ns.map V.int).length ≤ 63 := by rw [List.length_map]; exact hl
  rw [cut63 hlen]
  refine ⟨p, rfl, ⟨_, SqL.of upd_same⟩, ?_⟩
  have hS2 : SqL K (upd H p (.lst (ns.map V.int))) a (ns.map V.int) := by
    rcases hS with z | z
    · refine .inl ?_
      rcases z with z | ⟨o, z⟩
      · exact .inl (by rw [upd_ne (ne_of_none z hp)]; exact z)
      · exact .inr ⟨o, by rw [upd_ne (ne_of_none z hp)]; exact z⟩
    · exact .inr z
  refine ⟨fun i n σ H2 => H2 = upd H p (.lst (ns.map V.int)) ∧ n = ns.length - i ∧ i ≤ ns.length ∧ ∃ c, σ = [some (V.ref a), some (V.int (saltL (ns.take i))), c], ⟨_, rfl, rfl, Nat.zero_le _, _, rfl⟩, ?_⟩
  rintro i n σ H2 ⟨rfl, rfl, hi, c, rfl⟩
  by_cases hlt : i < ns.length
  · refine .inr ⟨⟨ns.map V.int, V.int ns[i], SqL.of upd_same, by rw [List.getElem?_map, List.getElem?_eq_getElem hlt]; rfl⟩, fun σ' H' => H' = upd H p (.lst (ns.map V.int)) ∧ ∃ c, σ' = [some (V.ref a), some (V.int (saltL (ns.take (i + 1)))), c], fun σ' H' ⟨e1, c, e2⟩ => ⟨ns.length - (i + 1), by omega, e1, rfl, hlt, c, e2⟩, fun x H' y => ?_⟩
    obtain ⟨rfl, y⟩ := y
    have e1 := y (ns.map V.int) (SqL.of upd_same)
    rw [List.getElem?_map, List.getElem?_eq_getElem hlt] at e1
    cases e1
    have hb := salt_bound (ns.take i)
    refine ⟨_, rfl, _, _, rfl, rfl, .inl ⟨by omega, by omega⟩, _, rfl, _, _, rfl, rfl, .inl ⟨_, rfl, _, _, rfl, rfl, (by decide : (0 : Int) < 1000003), rfl, some (V.int ns[i]), ?_⟩⟩
    rw [take_succ_salt hlt]
    rfl
  · have hi' : i = ns.length := by omega
    refine .inl ⟨⟨ns.map V.int, SqL.of upd_same, by rw [List.length_map]; omega⟩, ?_⟩
    subst hi'
    rw [List.take_length]
    refine ⟨_, rfl, a, _, rfl, .inl hS2, fun q hq => ?_⟩
    have nq : q ≠ p := fun z => by subst z; rw [upd_same] at hq; cases hq
    refine ⟨_, rfl, (show (5 : Nat) ≤ sizeLine by decide), fun t ht => ?_⟩
    have nt : t ≠ q := fun z => by subst z; rw [upd_same] at ht; cases ht
    rw [upd_ne nt] at ht
    have ntp : t ≠ p := fun z => by subst z; rw [upd_same] at ht; cases ht
    rw [upd_ne ntp] at ht
    rw [upd_ne nq] at hq
    refine hQ t q _ nt ht hq (fun b o hb => ?_) upd_same (by rw [upd_ne (Ne.symm nt)]; exact upd_same)
    rw [upd_ne (ne_of_none hb ht), upd_ne (ne_of_none hb hq), upd_ne (ne_of_none hb hp)]
    exact hb
end
/-! ### the law -/
def lawL (n : Nat) (ns : List Int) : Loc := .none :: .own [.lst (ns.map D.int), .int 0, .int 0, .int 0, .int (saltL ns)] :: List.replicate (n - 2) .none
def spLaw (K : PySem.W.Frag) : Sp := fun vs H Q _ => ∃ (a : Addr) (ns : List Int), vs = [.ref a] ∧ SqL K H a (ns.map V.int) ∧ ns.length ≤ 63 ∧ ∀ H', Q (.bl true) H'
abbrev B00 : Base := ⟨fun _ => none, fun _ => none, none, 0⟩
theorem reps_ints {G : Gx} {Φ : Fz} : ∀ ns : List Int, Reps G Φ (ns.map D.int) (ns.map V.int)
  | [] => Reps.nil
  | n :: r => Reps.cons (by simp only [Rep]) (reps_ints r)
theorem law_sim {G : Gx} {N : List Str} {a p q : Addr} {ns : List Int} {H' : Hp} (hN : 2 ≤ N.length) (npq : p ≠ q) (hp : H' p = some (.lst [.ref q, .int 0, .int 0, .int 0, .int (saltL ns)])) (hq : H' q = some (.lst (ns.map V.int))) :
    Sim G B00 (fun b => if b = q then some (.ho (.lst (ns.map V.int))) else none) (lawL N.length ns) ((L2.start N [.ref a]).set 1 (some (.ref p))) H' := by
  have hst : (L2.start N [V.ref a]).length = N.length := start_length (by simp; omega)
  have get : ∀ i lv, (lawL N.length ns)[i]? = some lv → (i = 1 ∧ lv = LV.own [.lst (ns.map D.int), .int 0, .int 0, .int 0, .int (saltL ns)]) ∨ lv = LV.none := fun i lv e => by
    unfold lawL at e
    match i, e with
    | 0, e => simp at e; exact .inr e.symm
    | 1, e => simp at e; exact .inl ⟨rfl, e.symm⟩
    | i + 2, e =>
      rw [List.getElem?_cons_succ, List.getElem?_cons_succ, List.getElem?_replicate] at e
      split at e
      · cases e; exact .inr rfl
      · cases e
  have s1 : ((L2.start N [V.ref a]).set 1 (some (.ref p)))[1]? = some (some (.ref p)) := List.getElem?_set_self (by omega)
  have own : ∀ i b, OwnI (lawL N.length ns) ((L2.start N [V.ref a]).set 1 (some (.ref p))) i b → i = 1 ∧ b = p := fun i b ⟨lv, e1, e2, e3⟩ => by
    rcases get i lv e1 with ⟨rfl, rfl⟩ | rfl
    · rw [s1] at e3; cases e3; exact ⟨rfl, rfl⟩
    · cases e2
  refine ⟨?_, fun b fo e => ?_, fun i lv e => ?_, fun i j b h1 h2 => (own i b h1).1.trans (own j b h2).1.symm, (fun b fo e => by cases e), (fun b o e => by cases e), fun b e => rfl, (fun b e => by cases e)⟩
  · rw [List.length_set, hst]
    unfold lawL
    simp
    omega
  · by_cases hb : b = q
    · subst hb
      have e' : (if b = b then some (FO.ho (.lst (ns.map V.int))) else none) = some fo := e
      rw [if_pos rfl] at e'
      cases e'
      exact hq
    · have e' : (if b = q then some (FO.ho (.lst (ns.map V.int))) else none) = some fo := e
      rw [if_neg hb] at e'
      cases e'
  · rcases get i lv e with ⟨rfl, rfl⟩ | rfl
    · refine ⟨p, _, by rw [s1]; rfl, hp, Reps.cons ?_ (Reps.cons (by simp only [Rep]) (Reps.cons (by simp only [Rep]) (Reps.cons (by simp only [Rep]) (Reps.cons (by simp only [Rep]) Reps.nil)))), ?_⟩
      · simp only [Rep]
        exact ⟨q, _, rfl, if_pos rfl, reps_ints ns⟩
      · show (if p = q then _ else _) = _
        rw [if_neg npq]
    · trivial
end SS

/-! dead locals are forgotten; loops with canonical locals -/
namespace SS
open PySem PySem.Spec PyProof.Rows L2

section
variable {G : Gx} {B : Base} {Φ Φ' : Fz} {L L' : Loc} {σ : L2.St} {H H' : Hp} {X : Cx} {st : Stmt} {m : SM}
theorem Sim.wipeNow (S : Sim G B Φ L σ H) : ∀ {vs : List Nat}, noPin vs L = true → Sim G B Φ (wipeL vs L) σ H
  | [], _ => S
  | v :: vs, h => by
    unfold noPin at h
    rw [List.all_cons, Bool.and_eq_true] at h
    have S1 := S.wipeNow (vs := vs) h.2
    have h1 := h.1
    have e : wipeL (v :: vs) L = (wipeL vs L).set v .none := rfl
    rw [e]
    cases hv : L[v]? with
    | none => rw [hv] at h1; cases h1
    | some lv =>
      rw [hv] at h1
      have hp : lv.isPin = false := by simpa using h1
      have hw := wipeL_get vs L v
      by_cases hm : v ∈ vs
      · rw [if_pos hm, hv] at hw
        exact S1.forget hw rfl
      · rw [if_neg hm, hv] at hw
        exact S1.forget hw hp
/-- a statement, behind which the slots vs are forgotten -/
def mW (vs : List Nat) (m : SM) : SM := fun L => (m L).bind fun p => match p.1 with
  | .rt ev => some (.rt ev, p.2)
  | o => if noPin vs p.2 = true then some (o, wipeL vs p.2) else none
theorem ds_wipe {vs : List Nat} (h : PS X st (tS G B m)) : PS X st (tS G B (mW vs m)) := PS.imp h fun D σ H q => by
  obtain ⟨Φ, L, o, L', S, e, k⟩ := q
  obtain ⟨p, e1, e2⟩ := bind_inv e
  obtain ⟨o1, L1⟩ := p
  refine ⟨Φ, L, o1, L1, S, e1, ?_⟩
  cases o1 with
  | rt ev => cases e2; exact k
  | nx =>
    have e3 : (if noPin vs L1 = true then some (Out.nx, wipeL vs L1) else none) = some (o, L') := e2
    split at e3
    · rename_i hn
      cases e3
      exact fun σ' Φ' H' le S' => k σ' Φ' H' le (S'.wipeNow hn)
    · cases e3
  | bk =>
    have e3 : (if noPin vs L1 = true then some (Out.bk, wipeL vs L1) else none) = some (o, L') := e2
    split at e3
    · rename_i hn
      cases e3
      exact fun σ' Φ' H' le S' => k σ' Φ' H' le (S'.wipeNow hn)
    · cases e3
  | ct =>
    have e3 : (if noPin vs L1 = true then some (Out.ct, wipeL vs L1) else none) = some (o, L') := e2
    split at e3
    · rename_i hn
      cases e3
      exact fun σ' Φ' H' le S' => k σ' Φ' H' le (S'.wipeNow hn)
    · cases e3
end
end SS

/-! rules, words, machines as plain data -/
namespace SS
open PySem PySem.Spec PyProof.Rows L2
def fuelN : Nat := 1073741824
abbrev Wd := List Nat
structure Rl where
  ch : List (Nat × Wd)
  be : List Wd
  bh : List Wd
  deriving Inhabited
def encP (p : Nat × Wd) : D := .tup [.str [p.1], .str p.2]
def dCh (l : List (Nat × Wd)) : D := .tup (l.map encP)
def dSl (l : List Wd) : D := .tup (l.map D.str)
def dRl (r : Rl) : D := .tup [dCh r.ch, dSl r.be, dSl r.bh]
def dHi (h : List Rl) : D := .tup (h.map dRl)
/-! back -/
def uW : D → Wd
  | .str x => x
  | _ => []
def uL : D → List D
  | .tup l => l
  | _ => []
def uP : D → Nat × Wd
  | .tup [.str [c], .str x] => (c, x)
  | _ => (0, [])
def uRl : D → Rl
  | .tup [a, b, c] => ⟨(uL a).map uP, (uL b).map uW, (uL c).map uW⟩
  | _ => ⟨[], [], []⟩
theorem uRl_dRl (r : Rl) : uRl (dRl r) = r := by
  obtain ⟨a, b, c⟩ := r
  simp only [dRl, uRl, dCh, dSl, uL, List.map_map]
  congr 1
  · exact (List.map_congr_left fun p _ => rfl).trans (List.map_id' a)
  · exact (List.map_congr_left fun p _ => rfl).trans (List.map_id' b)
  · exact (List.map_congr_left fun p _ => rfl).trans (List.map_id' c)
theorem dHi_inj {h h' : List Rl} (e : dHi h = dHi h') : h = h' := by
  have e1 : h.map dRl = h'.map dRl := by injection e
  have e2 := congrArg (List.map uRl) e1
  rw [List.map_map, List.map_map] at e2
  have e3 : uRl ∘ dRl = id := by funext r; exact uRl_dRl r
  rw [e3, List.map_id, List.map_id] at e2
  exact e2
/-! truth lists -/
def dB (a : List Bool) : D := .tup (a.map D.bl)
theorem nks_bl : ∀ {a b : List Bool}, nks (a.map D.bl) = nks (b.map D.bl) → a = b
  | [], [], _ => rfl
  | [], _ :: _, h => by simp [nks] at h
  | _ :: _, [], h => by simp [nks] at h
  | x :: a, y :: b, h => by
    simp only [List.map_cons, nks, nk, List.cons.injEq, NestedKey.num.injEq] at h
    rw [nks_bl h.2]
    have : x = y := by
      have h1 := h.1
      cases x <;> cases y <;> simp at h1 ⊢
    rw [this]
theorem dB_inj {a b : List Bool} (h : nk (dB a) = nk (dB b)) : a = b := by
  unfold dB at h
  simp only [nk, NestedKey.tup.injEq] at h
  exact nks_bl h
/-! stands -/
abbrev RSt := List Bool × List Bool
def dSt1 (s : RSt) : D := .tup [dB s.1, dB s.2]
def dSt (l : List RSt) : D := .tup (l.map dSt1)
theorem dSt1_inj {a b : RSt} (h : nk (dSt1 a) = nk (dSt1 b)) : a = b := by
  unfold dSt1 at h
  simp only [nk, nks, NestedKey.tup.injEq, List.cons.injEq] at h
  exact Prod.ext (dB_inj h.1) (dB_inj h.2.1)
theorem nks_s1 : ∀ {as bs : List RSt}, nks (as.map dSt1) = nks (bs.map dSt1) → as = bs
  | [], [], _ => rfl
  | [], _ :: _, h => by simp [nks] at h
  | _ :: _, [], h => by simp [nks] at h
  | x :: a, y :: b, h => by
    simp only [List.map_cons, nks, List.cons.injEq] at h
    rw [nks_s1 h.2, dSt1_inj h.1]
theorem dSt_inj {a b : List RSt} (h : nk (dSt a) = nk (dSt b)) : a = b := by
  unfold dSt at h
  simp only [nk, NestedKey.tup.injEq] at h
  exact nks_s1 h
/-! a lot of what is found by steps; the last that was laid is taken -/
def wl {α : Type} [DecidableEq α] (next : α → List α) : Nat → List α → List α → Option (List α)
  | 0, _, _ => none
  | _ + 1, f, [] => some f
  | n + 1, f, x :: st => if x ∈ f then wl next n f st else wl next n (f ++ [x]) ((next x).reverse ++ st)
/-! rules -/
def bst (r : Rl) : List Bool := (List.range r.be.length).map fun k => decide (k = 0) && decide (r.be[0]? = some [35])
def bit (r : Rl) (a : List Bool) (c k : Nat) : Bool := decide (c ∈ r.be.getD k []) && (decide (k = 0) || a.getD (k - 1) false)
def bstp (r : Rl) (a : List Bool) (c : Nat) : List Bool := (List.range r.be.length).map (bit r a c)
def bend (r : Rl) : List Bool := (List.range r.bh.length).map fun k => decide (k + 1 = r.bh.length) && decide (r.bh.getD k [] = [35])
def bih (r : Rl) (e : List Bool) (c k : Nat) : Bool := decide (c ∈ r.bh.getD k []) && (decide (k + 1 = r.bh.length) || e.getD (k + 1) false)
def bhst (r : Rl) (e : List Bool) (c : Nat) : List Bool := (List.range r.bh.length).map (bih r e c)
theorem bst_len (r : Rl) : (bst r).length = r.be.length := by simp [bst]
theorem bstp_len (r : Rl) (a : List Bool) (c : Nat) : (bstp r a c).length = r.be.length := by simp [bstp]
theorem bend_len (r : Rl) : (bend r).length = r.bh.length := by simp [bend]
theorem bhst_len (r : Rl) (e : List Bool) (c : Nat) : (bhst r e c).length = r.bh.length := by simp [bhst]
def wlB (r : Rl) (S : Wd) : List (List Bool) := (wl (fun e => S.map (bhst r e)) 10000 [] [bend r]).getD []
noncomputable def leB (a b : List Bool) : Bool := leD (dB a) (dB b)
noncomputable def allB (r : Rl) (S : Wd) : List (List Bool) := (wlB r S).mergeSort leB
def chD (r : Rl) : List (Wd × D) := mergeS [] (r.ch.map fun p => ([p.1], D.str p.2))
def chg (r : Rl) (c : Nat) : Wd := uW ((getS (chD r) [c]).getD (.str [c]))
def lastB (a : List Bool) : Bool := a.getLast?.getD true
def headB (a : List Bool) : Bool := a.head?.getD true
def outB (r : Rl) (a e : List Bool) (c : Nat) : Wd := if (lastB a && headB e) = true then chg r c else [c]
noncomputable def ruleSteps (r : Rl) (S : Wd) (s : RSt) (c : Nat) : List (RSt × Wd) := ((allB r S).filter fun k => decide (bhst r k c = s.2)).map fun k => ((bstp r s.1 c, k), outB r s.1 k c)
noncomputable def ruleRun (r : Rl) (S : Wd) : Wd → List (RSt × Wd) → List (RSt × Wd)
  | [], rows => rows
  | c :: w, rows => ruleRun r S w (rows.flatMap fun p => (ruleSteps r S p.1 c).map fun q => (q.1, p.2 ++ q.2))
noncomputable def stepsG (S : Wd) : List Rl → List RSt → List (List RSt × Wd) → List (List RSt × Wd)
  | r :: h, s :: st, rows => stepsG S h st (rows.flatMap fun p => (ruleRun r S p.2 [(s, [])]).map fun q => (p.1 ++ [q.1], q.2))
  | _, _, rows => rows
noncomputable def stepsT (h : List Rl) (S : Wd) (st : List RSt) (c : Nat) : List (List RSt × Wd) := stepsG S h st [([], [c])]
/-- stands that fit -/
def Fit1 (r : Rl) (s : RSt) : Prop := s.1.length = r.be.length ∧ s.2.length = r.bh.length
def Fits : List Rl → List RSt → Prop
  | [], [] => True
  | r :: h, s :: st => Fit1 r s ∧ Fits h st
  | _, _ => False
/-- what is asked of the sounds, of a rule -/
structure AlOk (S : Wd) : Prop where
  len : S.length ≤ 6
  ne : S ≠ []
  ch : ∀ c ∈ S, c < 0x110000 ∧ c ≠ 35
def LotOk (x : Wd) : Prop := x.length ≤ 6 ∧ 35 ∉ x
structure RlOk (S : Wd) (r : Rl) : Prop where
  nch : r.ch.length ≤ 6
  key : ∀ p ∈ r.ch, p.1 ∈ S ∧ p.2.length ≤ 2 ∧ ∀ c ∈ p.2, c ∈ S
  nbe : r.be.length ≤ 2
  nbh : r.bh.length ≤ 2
  be : ∀ i x, r.be[i]? = some x → LotOk x ∨ (x = [35] ∧ i = 0)
  bh : ∀ i x, r.bh[i]? = some x → LotOk x ∨ (x = [35] ∧ i + 1 = r.bh.length)
structure HiOk (S : Wd) (h : List Rl) : Prop where
  len : h.length ≤ 4
  rl : ∀ r ∈ h, RlOk S r
def encRO (p : RSt × Wd) : D := .tup [dSt1 p.1, .str p.2]
def encSO (p : List RSt × Wd) : D := .tup [dSt p.1, .str p.2]
def key1 (k : Nat) (s : RSt) (c : Nat) : D := .tup [.int k, dSt1 s, .str [c]]
def key2 (st : List RSt) (c : Nat) : D := .tup [dSt st, .str [c]]
noncomputable def val1 (r : Rl) (S : Wd) (s : RSt) (c : Nat) : D := .lst ((ruleSteps r S s c).map encRO)
noncomputable def val2 (h : List Rl) (S : Wd) (st : List RSt) (c : Nat) : D := .lst ((stepsT h S st c).map encSO)
/-- what a Machine's memo may hold -/
def memoR (s m kd vd : D) : Prop := ∃ (S : Wd) (h : List Rl), s = .str S ∧ m = dHi h ∧ AlOk S ∧ HiOk S h ∧ ∃ c ∈ S,
  (∃ k r s1, h[k]? = some r ∧ Fit1 r s1 ∧ kd = key1 k s1 c ∧ vd = val1 r S s1 c) ∨ (∃ st, Fits h st ∧ kd = key2 st c ∧ vd = val2 h S st c)
theorem nodup_sub {α : Type} [DecidableEq α] : ∀ {l K : List α}, l.Nodup → (∀ x ∈ l, x ∈ K) → l.length ≤ K.length
  | [], K, _, _ => Nat.zero_le _
  | x :: l, K, h, hs => by
    have hx := hs x (by simp)
    have h1 := nodup_sub (l := l) (K := K.erase x) (List.nodup_cons.mp h).2 fun y hy => by
      have ne : y ≠ x := fun e => (List.nodup_cons.mp h).1 (e ▸ hy)
      exact (List.mem_erase_of_ne ne).mpr (hs y (by simp [hy]))
    rw [List.length_erase_of_mem hx] at h1
    have : 0 < K.length := List.length_pos_of_mem hx
    rw [List.length_cons]
    omega
theorem flat_le {α β : Type} {f : α → List β} {n : Nat} : ∀ {l : List α}, (∀ x ∈ l, (f x).length ≤ n) → (l.flatMap f).length ≤ l.length * n
  | [], _ => by simp
  | x :: l, h => by
    have h1 := flat_le (l := l) fun y hy => h y (by simp [hy])
    have h2 := h x (by simp)
    rw [List.flatMap_cons, List.length_append, List.length_cons, Nat.add_mul]
    omega
def bools : Nat → List (List Bool)
  | 0 => [[]]
  | n + 1 => (bools n).flatMap fun l => [true :: l, false :: l]
theorem mem_bools : ∀ {a : List Bool} {n : Nat}, a.length = n → a ∈ bools n
  | [], 0, _ => by simp [bools]
  | [], n + 1, h => by simp at h
  | x :: a, 0, h => by simp at h
  | x :: a, n + 1, h => by
    rw [bools, List.mem_flatMap]
    refine ⟨a, mem_bools (by simpa using h), ?_⟩
    cases x <;> simp
theorem bools_len : ∀ n, (bools n).length ≤ 2 ^ n
  | 0 => by simp [bools]
  | n + 1 => by
    have h := flat_le (f := fun l => [true :: l, false :: l]) (n := 2) (l := bools n) fun x _ => by simp
    have := bools_len n
    rw [bools, Nat.pow_succ]
    omega
def stR (r : Rl) : List RSt := (bools r.be.length).flatMap fun a => (bools r.bh.length).map fun e => (a, e)
theorem mem_stR {r : Rl} {s : RSt} (h : Fit1 r s) : s ∈ stR r := List.mem_flatMap.mpr ⟨s.1, mem_bools h.1, List.mem_map.mpr ⟨s.2, mem_bools h.2, rfl⟩⟩
theorem pow_4 {n : Nat} (h : n ≤ 2) : 2 ^ n ≤ 4 := Nat.pow_le_pow_right (n := 2) (by decide) h
theorem stR_len {r : Rl} (h1 : r.be.length ≤ 2) (h2 : r.bh.length ≤ 2) : (stR r).length ≤ 16 := by
  have a1 := bools_len r.be.length
  have a2 := bools_len r.bh.length
  have p1 := pow_4 h1
  have p2 := pow_4 h2
  have h := flat_le (f := fun a => (bools r.bh.length).map fun e => ((a, e) : RSt)) (n := 4) (l := bools r.be.length) fun x _ => by rw [List.length_map]; omega
  unfold stR
  omega
def stH : List Rl → List (List RSt)
  | [] => [[]]
  | r :: h => (stR r).flatMap fun s => (stH h).map (s :: ·)
theorem mem_stH : ∀ {h : List Rl} {st : List RSt}, Fits h st → st ∈ stH h
  | [], [], _ => by simp [stH]
  | r :: h, s :: st, f => by
    rw [stH, List.mem_flatMap]
    exact ⟨s, mem_stR f.1, List.mem_map.mpr ⟨st, mem_stH f.2, rfl⟩⟩
  | [], _ :: _, f => f.elim
  | _ :: _, [], f => f.elim
theorem stH_len : ∀ {h : List Rl}, (∀ r ∈ h, r.be.length ≤ 2 ∧ r.bh.length ≤ 2) → (stH h).length ≤ 16 ^ h.length
  | [], _ => by simp [stH]
  | r :: h, f => by
    have h1 := stH_len (h := h) fun q hq => f q (by simp [hq])
    have h2 := f r (by simp)
    have h3 := flat_le (f := fun s => (stH h).map (s :: ·)) (n := 16 ^ h.length) (l := stR r) fun x _ => by rw [List.length_map]; exact h1
    have h4 := Nat.mul_le_mul_right (16 ^ h.length) (stR_len h2.1 h2.2)
    rw [stH, List.length_cons, Nat.pow_succ, Nat.mul_comm _ 16]
    exact Nat.le_trans h3 h4
def KS (S : Wd) (h : List Rl) : List NestedKey := ((List.range h.length).flatMap fun k => (stR (h.getD k default)).flatMap fun s => S.map fun c => nk (key1 k s c)) ++ (stH h).flatMap fun st => S.map fun c => nk (key2 st c)
theorem KS_len {S : Wd} {h : List Rl} (hS : AlOk S) (hh : HiOk S h) : (KS S h).length ≤ 1000000 := by
  have e16 : (16 : Nat) ^ h.length ≤ 16 ^ 4 := Nat.pow_le_pow_right (by decide) hh.len
  have h0 := hS.len
  unfold KS
  rw [List.length_append]
  have h1 : ((List.range h.length).flatMap fun k => (stR (h.getD k default)).flatMap fun s => S.map fun c => nk (key1 k s c)).length ≤ (List.range h.length).length * 96 := flat_le fun k hk => by
    have hk := List.mem_range.mp hk
    have hm : h.getD k default ∈ h := by rw [List.getD_eq_getElem?_getD, List.getElem?_eq_getElem hk]; exact List.getElem_mem hk
    have h2 := stR_len (hh.rl _ hm).nbe (hh.rl _ hm).nbh
    have h3 : ((stR (h.getD k default)).flatMap fun s => S.map fun c => nk (key1 k s c)).length ≤ (stR (h.getD k default)).length * 6 := flat_le fun s _ => by rw [List.length_map]; exact h0
    omega
  have h2 : ((stH h).flatMap fun st => S.map fun c => nk (key2 st c)).length ≤ (stH h).length * 6 := flat_le fun k _ => by rw [List.length_map]; exact h0
  have h3 := stH_len (h := h) fun r hr => ⟨(hh.rl r hr).nbe, (hh.rl r hr).nbh⟩
  have h4 := hh.len
  rw [List.length_range] at h1
  omega
theorem kb_bls : ∀ a : List Bool, kbs (a.map D.bl) = true
  | [] => rfl
  | x :: a => by simp only [List.map_cons, kbs, kb, kb_bls a, Bool.and_self]
theorem kb_s1 (a : RSt) : kb (dSt1 a) = true := by simp only [dSt1, dB, kb, kbs, kb_bls, Bool.and_self]
theorem kbs_s1 : ∀ as : List RSt, kbs (as.map dSt1) = true
  | [] => rfl
  | a :: as => by simp only [List.map_cons, kbs, kb_s1, kbs_s1 as, Bool.and_self]
theorem dp_bls : ∀ a : List Bool, NestedKey.depthAll (nks (a.map D.bl)) = 0
  | [] => rfl
  | x :: a => by simp only [List.map_cons, nks, nk, NestedKey.depthAll, NestedKey.depth, dp_bls a]; rfl
theorem dp_s1 (a : RSt) : (nk (dSt1 a)).depth ≤ 2 := by
  simp only [dSt1, dB, nk, nks, NestedKey.depth, NestedKey.depthAll, dp_bls]
  decide
theorem dp_s1s : ∀ as : List RSt, NestedKey.depthAll (nks (as.map dSt1)) ≤ 2
  | [] => Nat.zero_le _
  | a :: as => by
    simp only [List.map_cons, nks, NestedKey.depthAll]
    exact Nat.max_le.mpr ⟨dp_s1 a, dp_s1s as⟩
theorem memoOk : MemoOk memoR where
  key := by
    rintro s m kd vd ⟨S, h, _, _, _, _, c, _, ⟨k, r, a, _, _, rfl, _⟩ | ⟨as, _, rfl, _⟩⟩
    · refine ⟨_, rfl, by simp only [key1, kb, kbs, kb_s1, Bool.and_self], ?_⟩
      have := dp_s1 a
      simp only [key1, nk, nks, NestedKey.depth, NestedKey.depthAll]
      have e : nk (dSt1 a) = nk (dSt1 a) := rfl
      omega
    · refine ⟨_, rfl, by simp only [key2, dSt, kb, kbs, kbs_s1, Bool.and_self], ?_⟩
      have := dp_s1s as
      simp only [key2, dSt, nk, nks, NestedKey.depth, NestedKey.depthAll]
      omega
  one := by
    rintro s m kd vd kd' vd' ⟨S, h, rfl, rfl, _, _, c, _, hk⟩ ⟨S', h', e1, e2, _, _, c', _, hk'⟩ en
    have eh := dHi_inj e2
    injection e1 with e1
    subst eh e1
    rcases hk with ⟨k, r, a, hr, ha, rfl, rfl⟩ | ⟨as, hf, rfl, rfl⟩
    · rcases hk' with ⟨k', r', a', hr', ha', rfl, rfl⟩ | ⟨as', hf', rfl, rfl⟩
      · simp only [key1, nk, nks, NestedKey.tup.injEq, List.cons.injEq, NestedKey.num.injEq, NestedKey.text.injEq] at en
        obtain ⟨n1, n2, n3, _⟩ := en
        have h1 : k = k' := by omega
        have h2 := dSt1_inj n2
        have h3 : c = c' := by simpa using n3
        subst h1 h2 h3
        rw [hr] at hr'
        cases hr'
        rfl
      · simp [key1, key2, nk, nks] at en
    · rcases hk' with ⟨k', r', a', hr', ha', rfl, rfl⟩ | ⟨as', hf', rfl, rfl⟩
      · simp [key1, key2, nk, nks] at en
      · simp only [key2, nk, nks, NestedKey.tup.injEq, List.cons.injEq, NestedKey.text.injEq] at en
        obtain ⟨n1, n2, _⟩ := en
        have h1 := dSt_inj n1
        have h3 : c = c' := by simpa using n2
        subst h1 h3
        rfl
  fin := by
    intro s m l hn ha
    cases l with
    | nil => exact Nat.zero_le _
    | cons k0 r0 =>
      obtain ⟨_, _, _, S, h, rfl, rfl, hS, hH, _⟩ := ha k0 (by simp)
      refine Nat.le_trans (nodup_sub (K := KS S h) hn fun k hk => ?_) (Nat.le_trans (KS_len hS hH) (by decide))
      obtain ⟨kd, vd, rfl, S', h', e1, e2, _, hH', c, hc, hh⟩ := ha k hk
      injection e1 with e1
      have eh := dHi_inj e2
      subst e1 eh
      unfold KS
      rcases hh with ⟨k', r, a, hr, ha', rfl, rfl⟩ | ⟨as, hf, rfl, rfl⟩
      · refine List.mem_append_left _ (List.mem_flatMap.mpr ⟨k', ?_, List.mem_flatMap.mpr ⟨a, ?_, List.mem_map.mpr ⟨c, hc, rfl⟩⟩⟩)
        · rw [List.mem_range]; exact (List.getElem?_eq_some_iff.mp hr).1
        · rw [List.getD_eq_getElem?_getD, hr]; exact mem_stR ha'
      · exact List.mem_append_right _ (List.mem_flatMap.mpr ⟨as, mem_stH hf, List.mem_map.mpr ⟨c, hc, rfl⟩⟩)
end SS

/-! the readings of the defs, as functions on data -/
namespace SS
open PySem PySem.Spec PyProof.Rows L2
abbrev mTT : TM := fun L => some (true, L)
noncomputable def g_slots_hold1 : GM := (gTup' 2 (gCons' (gN 3) (gCons' (gN 4) gNil')))
noncomputable def b_slots_hold1 : SM := (mSeq (mW [3] (mSet 5 (mB2 (pu2 opAdd) (mVar 1) (mVar 3))))
  (mSeq (mW [5] (mSet 6 (mIf (mT (mCh (iCmp fun i j => decide (i ≤ j)) (iCmp fun i j => decide (i < j)) (mC (.int 0)) (mVar 5) (mBN (puN opLen) (mCons (mVar 0) mNil)))) (mB2 (pu2 opIx) (mVar 0) (mVar 5)) (mC (.str [35])))))
  (mW [3, 4, 6] (mIfS (mT (mB2 (opB ninE) (mVar 6) (mVar 4))) (mRet (mC (.bl false))) mNx))))
noncomputable def m_slots_hold : SM := (mSeq (mW [0, 1, 2, 3, 4, 5, 6] (mFor (mEnum (mCons (mF (mVar 2)) mNil)) g_slots_hold1 b_slots_hold1))
  (mRet (mC (.bl true))))
noncomputable def F_slots_hold : List D → Option D := runF 7 3 m_slots_hold
noncomputable def g_before_start1 : GM := (gN 2)
noncomputable def e_before_start1 : EM := (mF (mAndV (mB2 (opB eqE) (mVar 2) (mC (.int 0))) (mB2 (opB eqE) (mB2 (pu2 opIx) (mVar 1) (mC (.int 0))) (mC (.str [35])))))
noncomputable def m_before_start : SM := (mSeq (mW [0] (mSet 1 (mB2 (pu2 opIx) (mVar 0) (mC (.int 1)))))
  (mRet (mBN (puN opTuple) (mCons (mLcG [2] (mRng1 (mCons (mBN (puN opLen) (mCons (mVar 1) mNil)) mNil)) g_before_start1 mTT (mElt e_before_start1)) mNil))))
noncomputable def F_before_start : List D → Option D := runF 3 1 m_before_start
noncomputable def g_before_step1 : GM := (gN 5)
noncomputable def b_before_step1 : SM := (mW [5] (mApp 4 (mF (mAndV (mB2 (opB inE) (mVar 2) (mB2 (pu2 opIx) (mVar 3) (mVar 5))) (mOrV (mB2 (opB eqE) (mVar 5) (mC (.int 0))) (mB2 (pu2 opIx) (mVar 1) (mB2 (pu2 (opI (fun i j => .int (i - j)) cT)) (mVar 5) (mC (.int 1)))))))))
noncomputable def m_before_step : SM := (mSeq (mW [0] (mSet 3 (mB2 (pu2 opIx) (mVar 0) (mC (.int 1)))))
  (mSeq (mSet 4 (mLst mNil))
  (mSeq (mW [1, 2, 3, 5] (mFor (mRng1 (mCons (mBN (puN opLen) (mCons (mVar 3) mNil)) mNil)) g_before_step1 b_before_step1))
  (mRet (mBN (puN opTuple) (mCons (mVar 4) mNil))))))
noncomputable def F_before_step : List D → Option D := runF 6 3 m_before_step
noncomputable def g_behind_end1 : GM := (gN 2)
noncomputable def e_behind_end1 : EM := (mF (mAndV (mB2 (opB eqE) (mVar 2) (mB2 (pu2 (opI (fun i j => .int (i - j)) cT)) (mBN (puN opLen) (mCons (mVar 1) mNil)) (mC (.int 1)))) (mB2 (opB eqE) (mB2 (pu2 opIx) (mVar 1) (mVar 2)) (mC (.str [35])))))
noncomputable def m_behind_end : SM := (mSeq (mW [0] (mSet 1 (mB2 (pu2 opIx) (mVar 0) (mC (.int 2)))))
  (mRet (mBN (puN opTuple) (mCons (mLcG [2] (mRng1 (mCons (mBN (puN opLen) (mCons (mVar 1) mNil)) mNil)) g_behind_end1 mTT (mElt e_behind_end1)) mNil))))
noncomputable def F_behind_end : List D → Option D := runF 3 1 m_behind_end
noncomputable def g_behind_step1 : GM := (gN 5)
noncomputable def b_behind_step1 : SM := (mW [5] (mApp 4 (mF (mAndV (mB2 (opB inE) (mVar 2) (mB2 (pu2 opIx) (mVar 3) (mVar 5))) (mOrV (mB2 (opB eqE) (mVar 5) (mB2 (pu2 (opI (fun i j => .int (i - j)) cT)) (mBN (puN opLen) (mCons (mVar 3) mNil)) (mC (.int 1)))) (mB2 (pu2 opIx) (mVar 1) (mB2 (pu2 opAdd) (mVar 5) (mC (.int 1)))))))))
noncomputable def m_behind_step : SM := (mSeq (mW [0] (mSet 3 (mB2 (pu2 opIx) (mVar 0) (mC (.int 2)))))
  (mSeq (mSet 4 (mLst mNil))
  (mSeq (mW [1, 2, 3, 5] (mFor (mRng1 (mCons (mBN (puN opLen) (mCons (mVar 3) mNil)) mNil)) g_behind_step1 b_behind_step1))
  (mRet (mBN (puN opTuple) (mCons (mVar 4) mNil))))))
noncomputable def F_behind_step : List D → Option D := runF 6 3 m_behind_step
noncomputable def g__law_spread1 : GM := (gN 3)
noncomputable def b__law_spread1 : SM := (mSeq (mW [3] (mSet 1 (mB2 (pu2 (opI (fun i j => .int (i % j)) cPos)) (mBN (puN opInt) (mCons (mB2 (pu2 opAdd) (mB2 (pu2 opAdd) (mB2 (pu2 (opI (fun i j => .int (i * j)) cMul)) (mVar 1) (mC (.int 48271))) (mC (.int 12345))) (mVar 3)) mNil)) (mC (.int 2147483647)))))
  (mW [3] (mSet 2 (mB2 (pu2 opAdd) (mB2 (pu2 (opI (fun i j => .int (i * j)) cMul)) (mVar 2) (mC (.int 2147483647))) (mVar 1)))))
noncomputable def m__law_spread : SM := (mSeq (mW [0] (mSet 1 (mB2 (pu2 (opI (fun i j => .int (i % j)) cPos)) (mBN (puN opInt) (mCons (mVar 0) mNil)) (mC (.int 2147483647)))))
  (mSeq (mSet 2 (mC (.int 1)))
  (mSeq (mW [1, 3] (mFor (mRng1 (mCons (mC (.int 4)) mNil)) g__law_spread1 b__law_spread1))
  (mRet (mVar 2)))))
noncomputable def F__law_spread : List D → Option D := runF 4 1 m__law_spread
noncomputable def g_applies1 : GM := (gTup' 2 (gCons' (gN 6) (gCons' (gN 7) gNil')))
noncomputable def e_applies1 : EM := (mF (mVar 6))
noncomputable def m_applies : SM := (mSeq (mW [0] (mAsg (gTup' 3 (gCons' (gN 3) (gCons' (gN 4) (gCons' (gN 5) gNil')))) (mF (mVar 0))))
  (mSeq (mW [3] (mIfS (mT (mB2 (opB ninE) (mB2 (pu2 opIx) (mVar 1) (mVar 2)) (mLcG [6, 7] (mSeq1 (mF (mVar 3))) g_applies1 mTT (mElt e_applies1)))) (mRet (mC (.bl false))) mNx))
  (mRet (mAndV (mBN (callF F_slots_hold) (mCons (mF (mVar 1)) (mCons (mF (mB2 (pu2 (opI (fun i j => .int (i - j)) cT)) (mVar 2) (mBN (puN opLen) (mCons (mVar 4) mNil)))) (mCons (mF (mVar 4)) mNil)))) (mBN (callF F_slots_hold) (mCons (mF (mVar 1)) (mCons (mF (mB2 (pu2 opAdd) (mVar 2) (mC (.int 1)))) (mCons (mF (mVar 5)) mNil))))))))
noncomputable def F_applies : List D → Option D := runF 8 3 m_applies
noncomputable def g_all_behind1 : GM := (gN 5)
noncomputable def e_all_behind1 : EM := (mF (mBN (callF F_behind_step) (mCons (mF (mVar 0)) (mCons (mF (mVar 4)) (mCons (mF (mVar 5)) mNil)))))
noncomputable def c_all_behind1 : TM := (mT (mB2 (opB (iCmp fun i j => decide (j < i))) (mBN (puN opLen) (mCons (mVar 3) mNil)) (mC (.int 0))))
noncomputable def b_all_behind1 : SM := (mSeq (mSet 4 (mPop 3))
  (mW [4] (mIfS (mT (mB2 (opB ninE) (mVar 4) (mVar 2))) (mSeq (mApp 2 (mF (mVar 4)))
  (mW [4] (mExt 3 (mLcG [5] (mSeq1 (mF (mVar 1))) g_all_behind1 mTT (mElt e_all_behind1))))) mNx)))
noncomputable def m_all_behind : SM := (mSeq (mPar' 2 3 (mLst mNil) (mLst (mCons (mF (mBN (callF F_behind_end) (mCons (mF (mVar 0)) mNil))) mNil)))
  (mSeq (mW [0, 1, 3, 4] (mWhile c_all_behind1 b_all_behind1 fuelN))
  (mRet (mBN (puN opSorted) (mCons (mVar 2) mNil)))))
noncomputable def F_all_behind : List D → Option D := runF 6 2 m_all_behind
noncomputable def m_is_rule_end : SM := (mRet (mB2 (opB eqE) (mB2 (pu2 opIx) (mVar 1) (mC (.int 1))) (mBN (callF F_behind_end) (mCons (mF (mVar 0)) mNil))))
noncomputable def F_is_rule_end : List D → Option D := runF 2 2 m_is_rule_end
noncomputable def m__law_draw : SM := (mSeq (mW [3] (mIfS (mAnd (mT (mB2 (opB (iCmp fun i j => decide (i ≤ j))) (mB2 (pu2 opIx) (mVar 0) (mC (.int 2))) (mC (.int 0)))) (mT (mB2 (opB (iCmp fun i j => decide (i < j))) (mB2 (pu2 opIx) (mVar 0) (mC (.int 1))) (mBN (puN opLen) (mCons (mB2 (pu2 opIx) (mVar 0) (mC (.int 0))) mNil))))) (mSeq (mSet 3 (mB2 (pu2 opIx) (mB2 (pu2 opIx) (mVar 0) (mC (.int 0))) (mB2 (pu2 opIx) (mVar 0) (mC (.int 1)))))
  (mSeq (mSetIx 0 (mC (.int 1)) (mF (mB2 (pu2 opAdd) (mB2 (pu2 opIx) (mVar 0) (mC (.int 1))) (mC (.int 1)))))
  (mSeq (mSetIx 0 (mC (.int 2)) (mF (mVar 3)))
  (mW [3] (mIfS (mT (mB2 (opB (iCmp fun i j => decide (i < j))) (mVar 3) (mC (.int 1000000000000000000)))) (mW [3] (mSetIx 0 (mC (.int 2)) (mF (mBN (callF F__law_spread) (mCons (mF (mVar 3)) mNil))))) mNx))))) mNx))
  (mSeq (mSetIx 0 (mC (.int 3)) (mF (mB2 (pu2 opAdd) (mB2 (pu2 opIx) (mVar 0) (mC (.int 3))) (mC (.int 1)))))
  (mSeq (mW [4] (mIfS (mT (mB2 (opB (iCmp fun i j => decide (i ≤ j))) (mB2 (pu2 opIx) (mVar 0) (mC (.int 2))) (mC (.int 0)))) (mSeq (mSet 4 (mB2 (pu2 (opI (fun i j => .int (i % j)) cPos)) (mBN (puN opInt) (mCons (mB2 (pu2 opAdd) (mB2 (pu2 opAdd) (mB2 (pu2 (opI (fun i j => .int (i * j)) cMul)) (mB2 (pu2 opIx) (mVar 0) (mC (.int 4))) (mC (.int 48271))) (mB2 (pu2 (opI (fun i j => .int (i * j)) cMul)) (mB2 (pu2 opIx) (mVar 0) (mC (.int 3))) (mC (.int 69621)))) (mC (.int 1))) mNil)) (mC (.int 2147483647))))
  (mSeq (mSet 4 (mB2 (pu2 (opI (fun i j => .int (i % j)) cPos)) (mBN (puN opInt) (mCons (mB2 (pu2 opAdd) (mB2 (pu2 (opI (fun i j => .int (i * j)) cMul)) (mVar 4) (mC (.int 16807))) (mB2 (pu2 opIx) (mVar 0) (mC (.int 3)))) mNil)) (mC (.int 2147483629))))
  (mRet (mB2 (pu2 (opI (fun i j => .int (i % j)) cPos)) (mB2 (pu2 (opI (fun i j => .int (i / j)) cDv)) (mVar 4) (mC (.int 5))) (mVar 1))))) mNx))
  (mSeq (mSet 2 (mB2 (pu2 (opI (fun i j => .int (i % j)) cPos)) (mBN (puN opInt) (mCons (mB2 (pu2 opIx) (mVar 0) (mC (.int 2))) mNil)) (mVar 1)))
  (mSeq (mW [1] (mSetIx 0 (mC (.int 2)) (mF (mB2 (pu2 (opI (fun i j => .int (i / j)) cDv)) (mB2 (pu2 opIx) (mVar 0) (mC (.int 2))) (mVar 1)))))
  (mRet (mVar 2)))))))
noncomputable def P__law_draw : List D → List D → Option (D × List D) := runP 5 2 m__law_draw
noncomputable def g_changed1 : GM := (gTup' 2 (gCons' (gN 3) (gCons' (gN 4) gNil')))
noncomputable def e_changed1 : EM := (mF (mIf (mT (mBN (callF F_applies) (mCons (mF (mVar 0)) (mCons (mF (mVar 1)) (mCons (mF (mVar 3)) mNil))))) (mB2 (pu2 opKGet) (mVar 2) (mVar 4)) (mVar 4)))
noncomputable def m_changed : SM := (mSeq (mSet 2 (mBN (puN opDict) (mCons (mF (mB2 (pu2 opIx) (mVar 0) (mC (.int 0)))) mNil)))
  (mRet (mB2 (pu2 opJoin) (mC (.str [])) (mLcG [3, 4] (mEnum (mCons (mF (mVar 1)) mNil)) g_changed1 mTT (mElt e_changed1)))))
noncomputable def F_changed : List D → Option D := runF 5 2 m_changed
noncomputable def g_rule_starts1 : GM := (gN 2)
noncomputable def e_rule_starts1 : EM := (mF (mTup (mCons (mF (mBN (callF F_before_start) (mCons (mF (mVar 0)) mNil))) (mCons (mF (mVar 2)) mNil))))
noncomputable def m_rule_starts : SM := (mRet (mLcG [2] (mSeq1 (mF (mBN (callF F_all_behind) (mCons (mF (mVar 0)) (mCons (mF (mVar 1)) mNil))))) g_rule_starts1 mTT (mElt e_rule_starts1)))
noncomputable def F_rule_starts : List D → Option D := runF 3 2 m_rule_starts
noncomputable def g_rule_steps1 : GM := (gN 5)
noncomputable def b_rule_steps1 : SM := (mW [5, 8, 9] (mIfS (mT (mB2 (opB eqE) (mBN (callF F_behind_step) (mCons (mF (mVar 0)) (mCons (mF (mVar 5)) (mCons (mF (mVar 3)) mNil)))) (mVar 7))) (mSeq (mSet 8 (mAndV (mOrV (mB2 (opB eqE) (mBN (puN opLen) (mCons (mB2 (pu2 opIx) (mVar 0) (mC (.int 1))) mNil)) (mC (.int 0))) (mB2 (pu2 opIx) (mVar 6) (mB1 (pu1 opNeg) (mC (.int 1))))) (mOrV (mB2 (opB eqE) (mBN (puN opLen) (mCons (mB2 (pu2 opIx) (mVar 0) (mC (.int 2))) mNil)) (mC (.int 0))) (mB2 (pu2 opIx) (mVar 5) (mC (.int 0))))))
  (mSeq (mW [8] (mSet 9 (mIf (mT (mVar 8)) (mGet2 (mBN (puN opDict) (mCons (mF (mB2 (pu2 opIx) (mVar 0) (mC (.int 0)))) mNil)) (mVar 3) (mF (mVar 3))) (mVar 3))))
  (mW [5, 9] (mApp 4 (mF (mTup (mCons (mF (mTup (mCons (mF (mBN (callF F_before_step) (mCons (mF (mVar 0)) (mCons (mF (mVar 6)) (mCons (mF (mVar 3)) mNil))))) (mCons (mF (mVar 5)) mNil)))) (mCons (mF (mVar 9)) mNil)))))))) mNx))
noncomputable def m_rule_steps : SM := (mSeq (mW [2] (mAsg (gTup' 2 (gCons' (gN 6) (gCons' (gN 7) gNil'))) (mF (mVar 2))))
  (mSeq (mSet 4 (mLst mNil))
  (mSeq (mW [0, 1, 3, 5, 6, 7, 8, 9] (mFor (mSeq1 (mF (mBN (callF F_all_behind) (mCons (mF (mVar 0)) (mCons (mF (mVar 1)) mNil))))) g_rule_steps1 b_rule_steps1))
  (mRet (mVar 4)))))
noncomputable def F_rule_steps : List D → Option D := runF 10 4 m_rule_steps
noncomputable def g_Machine_is_end1 : GM := (gTup' 2 (gCons' (gN 2) (gCons' (gN 3) gNil')))
noncomputable def e_Machine_is_end1 : EM := (mF (mBN (callF F_is_rule_end) (mCons (mF (mVar 2)) (mCons (mF (mVar 3)) mNil))))
noncomputable def m_Machine_is_end : SM := (mRet (mBN (puN (opAllAny fun bs => bs.all id)) (mCons (mLcG [2, 3] (mZip (mCons (mF (mB1 (pu1 opHist) (mVar 0))) (mCons (mF (mVar 1)) mNil))) g_Machine_is_end1 mTT (mElt e_Machine_is_end1)) mNil)))
noncomputable def F_Machine_is_end : List D → Option D := runF 4 2 m_Machine_is_end
noncomputable def g__law_lot1 : GM := (gN 3)
noncomputable def t__law_lot1 : TM := (mT (mB2 (opB eqE) (mBN (callP P__law_draw) (mCons (mVar 0) (mCons (mC (.int 2)) mNil))) (mC (.int 0))))
noncomputable def e__law_lot1 : EM := (mF (mVar 3))
noncomputable def m__law_lot : SM := (mSeq (mSet 2 (mB2 (pu2 opJoin) (mC (.str [])) (mLcG [3] (mSeq1 (mF (mVar 1))) g__law_lot1 t__law_lot1 (mElt e__law_lot1))))
  (mRet (mIf (mT (mB2 (opB neE) (mVar 2) (mC (.str [])))) (mVar 2) (mB2 (pu2 opIx) (mVar 1) (mBN (callP P__law_draw) (mCons (mVar 0) (mCons (mF (mBN (puN opLen) (mCons (mVar 1) mNil))) mNil)))))))
noncomputable def P__law_lot : List D → List D → Option (D × List D) := runP 4 2 m__law_lot
noncomputable def g__law_word1 : GM := (gN 3)
noncomputable def e__law_word1 : EM := (mF (mB2 (pu2 opIx) (mVar 1) (mBN (callP P__law_draw) (mCons (mVar 0) (mCons (mF (mBN (puN opLen) (mCons (mVar 1) mNil))) mNil)))))
noncomputable def m__law_word : SM := (mRet (mB2 (pu2 opJoin) (mC (.str [])) (mLcG [3] (mRng1 (mCons (mBN (callP P__law_draw) (mCons (mVar 0) (mCons (mF (mB2 (pu2 opAdd) (mVar 2) (mC (.int 1)))) mNil))) mNil)) g__law_word1 mTT (mElt e__law_word1))))
noncomputable def P__law_word : List D → List D → Option (D × List D) := runP 4 3 m__law_word
noncomputable def g_led1 : GM := (gN 2)
noncomputable def b_led1 : SM := (mW [2] (mSet 1 (mBN (callF F_changed) (mCons (mF (mVar 2)) (mCons (mF (mVar 1)) mNil)))))
noncomputable def m_led : SM := (mSeq (mW [0, 2] (mFor (mSeq1 (mF (mVar 0))) g_led1 b_led1))
  (mRet (mVar 1)))
noncomputable def F_led : List D → Option D := runF 3 2 m_led
noncomputable def g_Machine_starts1 : GM := (gN 3)
noncomputable def e_Machine_starts1 : EM := (mF (mB2 (pu2 opAdd) (mVar 3) (mTup (mCons (mF (mVar 4)) mNil))))
noncomputable def h_Machine_starts1 : GM := (gN 4)
noncomputable def i_Machine_starts1 : IM := (mSeq1 (mF (mBN (callF F_rule_starts) (mCons (mF (mVar 2)) (mCons (mF (mB1 (pu1 opSounds) (mVar 0))) mNil)))))
noncomputable def g_Machine_starts2 : GM := (gN 2)
noncomputable def b_Machine_starts1 : SM := (mW [2] (mSet 1 (mLcG [3, 4] (mSeq1 (mF (mVar 1))) g_Machine_starts1 mTT (mInn [4] i_Machine_starts1 h_Machine_starts1 mTT (mElt e_Machine_starts1)))))
noncomputable def m_Machine_starts : SM := (mSeq (mSet 1 (mLst (mCons (mF (mTup mNil)) mNil)))
  (mSeq (mW [0, 2] (mFor (mSeq1 (mF (mB1 (pu1 opHist) (mVar 0)))) g_Machine_starts2 b_Machine_starts1))
  (mRet (mVar 1))))
noncomputable def F_Machine_starts : List D → Option D := runF 5 1 m_Machine_starts
noncomputable def m_Machine_rule_step : SM := (mSeq (mSet 4 (mTup (mCons (mF (mVar 1)) (mCons (mF (mVar 2)) (mCons (mF (mVar 3)) mNil)))))
  (mMemo memoR 4 mNx (mBN (callF F_rule_steps) (mCons (mF (mB2 (pu2 opIx) (mB1 (pu1 opHist) (mVar 0)) (mVar 1))) (mCons (mF (mB1 (pu1 opSounds) (mVar 0))) (mCons (mF (mVar 2)) (mCons (mF (mVar 3)) mNil)))))))
noncomputable def F_Machine_rule_step : List D → Option D := runF 5 4 m_Machine_rule_step
noncomputable def g__law_slots1 : GM := (gN 4)
noncomputable def e__law_slots1 : EM := (mF (mBN (callP P__law_lot) (mCons (mVar 0) (mCons (mF (mVar 1)) mNil))))
noncomputable def m__law_slots : SM := (mSeq (mW [1] (mSet 3 (mLcG [4] (mRng1 (mCons (mB2 (pu2 opIx) (mTup (mCons (mC (.int 0)) (mCons (mC (.int 0)) (mCons (mC (.int 1)) (mCons (mC (.int 1)) (mCons (mC (.int 2)) mNil)))))) (mBN (callP P__law_draw) (mCons (mVar 0) (mCons (mC (.int 5)) mNil)))) mNil)) g__law_slots1 mTT (mElt e__law_slots1))))
  (mSeq (mW [2] (mIfS (mAnd (mT (mB2 (opB (iCmp fun i j => decide (j < i))) (mBN (puN opLen) (mCons (mVar 3) mNil)) (mC (.int 0)))) (mT (mB2 (opB eqE) (mBN (callP P__law_draw) (mCons (mVar 0) (mCons (mC (.int 4)) mNil))) (mC (.int 0))))) (mW [2] (mSetIx 3 (mIf (mT (mB2 (opB eqE) (mVar 2) (mC (.int 0)))) (mC (.int 0)) (mB2 (pu2 (opI (fun i j => .int (i - j)) cT)) (mBN (puN opLen) (mCons (mVar 3) mNil)) (mC (.int 1)))) (mC (.str [35])))) mNx))
  (mRet (mBN (puN opTuple) (mCons (mVar 3) mNil)))))
noncomputable def P__law_slots : List D → List D → Option (D × List D) := runP 5 3 m__law_slots
noncomputable def g_Machine_rule_run1 : GM := (gTup' 2 (gCons' (gN 9) (gCons' (gN 10) gNil')))
noncomputable def b_Machine_rule_run1 : SM := (mW [9, 10] (mApp 6 (mF (mTup (mCons (mF (mVar 9)) (mCons (mF (mB2 (pu2 opAdd) (mVar 8) (mVar 10))) mNil))))))
noncomputable def g_Machine_rule_run2 : GM := (gTup' 2 (gCons' (gN 7) (gCons' (gN 8) gNil')))
noncomputable def b_Machine_rule_run2 : SM := (mW [7, 8, 9, 10] (mFor (mSeq1 (mF (mMeth isMach F_Machine_rule_step (mF (mVar 0)) (mCons (mF (mVar 1)) (mCons (mF (mVar 7)) (mCons (mF (mVar 5)) mNil)))))) g_Machine_rule_run1 b_Machine_rule_run1))
noncomputable def g_Machine_rule_run3 : GM := (gN 5)
noncomputable def b_Machine_rule_run3 : SM := (mSeq (mSet 6 (mLst mNil))
  (mSeq (mW [4, 5, 7, 8, 9, 10] (mFor (mSeq1 (mF (mVar 4))) g_Machine_rule_run2 b_Machine_rule_run2))
  (mW [5, 6] (mSet 4 (mVar 6)))))
noncomputable def m_Machine_rule_run : SM := (mSeq (mW [2] (mSet 4 (mLst (mCons (mF (mTup (mCons (mF (mVar 2)) (mCons (mC (.str [])) mNil)))) mNil))))
  (mSeq (mW [0, 1, 3, 5, 6, 7, 8, 9, 10] (mFor (mSeq1 (mF (mVar 3))) g_Machine_rule_run3 b_Machine_rule_run3))
  (mRet (mVar 4))))
noncomputable def F_Machine_rule_run : List D → Option D := runF 11 4 m_Machine_rule_run
noncomputable def g__law_law1 : GM := (gN 3)
noncomputable def t__law_law1 : TM := (mT (mB2 (opB eqE) (mBN (callP P__law_draw) (mCons (mVar 0) (mCons (mC (.int 2)) mNil))) (mC (.int 0))))
noncomputable def e__law_law1 : EM := (mF (mTup (mCons (mF (mVar 3)) (mCons (mF (mBN (callP P__law_word) (mCons (mVar 0) (mCons (mF (mVar 1)) (mCons (mC (.int 2)) mNil))))) mNil))))
noncomputable def m__law_law : SM := (mSeq (mSet 2 (mBN (puN opTuple) (mCons (mLcG [3] (mSeq1 (mF (mVar 1))) g__law_law1 t__law_law1 (mElt e__law_law1)) mNil)))
  (mSeq (mIfS (mT (mB2 (opB eqE) (mBN (puN opLen) (mCons (mVar 2) mNil)) (mC (.int 0)))) (mSet 2 (mTup (mCons (mF (mTup (mCons (mF (mB2 (pu2 opIx) (mVar 1) (mC (.int 0)))) (mCons (mF (mBN (callP P__law_word) (mCons (mVar 0) (mCons (mF (mVar 1)) (mCons (mC (.int 2)) mNil))))) mNil)))) mNil))) mNx)
  (mRet (mTup (mCons (mF (mVar 2)) (mCons (mF (mBN (callP P__law_slots) (mCons (mVar 0) (mCons (mF (mVar 1)) (mCons (mC (.int 0)) mNil))))) (mCons (mF (mBN (callP P__law_slots) (mCons (mVar 0) (mCons (mF (mVar 1)) (mCons (mC (.int 1)) mNil))))) mNil)))))))
noncomputable def P__law_law : List D → List D → Option (D × List D) := runP 4 2 m__law_law
noncomputable def g_Machine_steps1 : GM := (gTup' 2 (gCons' (gN 9) (gCons' (gN 10) gNil')))
noncomputable def b_Machine_steps1 : SM := (mW [9, 10] (mApp 6 (mF (mTup (mCons (mF (mB2 (pu2 opAdd) (mVar 7) (mTup (mCons (mF (mVar 9)) mNil)))) (mCons (mF (mVar 10)) mNil))))))
noncomputable def g_Machine_steps2 : GM := (gTup' 2 (gCons' (gN 7) (gCons' (gN 8) gNil')))
noncomputable def b_Machine_steps2 : SM := (mW [7, 8, 9, 10] (mFor (mSeq1 (mF (mMeth isMach F_Machine_rule_run (mF (mVar 0)) (mCons (mF (mVar 5)) (mCons (mF (mB2 (pu2 opIx) (mVar 1) (mVar 5))) (mCons (mF (mVar 8)) mNil)))))) g_Machine_steps1 b_Machine_steps1))
noncomputable def g_Machine_steps3 : GM := (gN 5)
noncomputable def b_Machine_steps3 : SM := (mSeq (mSet 6 (mLst mNil))
  (mSeq (mW [4, 5, 7, 8, 9, 10] (mFor (mSeq1 (mF (mVar 4))) g_Machine_steps2 b_Machine_steps2))
  (mW [5, 6] (mSet 4 (mVar 6)))))
noncomputable def m_Machine_steps : SM := (mSeq (mSet 3 (mTup (mCons (mF (mVar 1)) (mCons (mF (mVar 2)) mNil))))
  (mMemo memoR 3 (mSeq (mW [2] (mSet 4 (mLst (mCons (mF (mTup (mCons (mF (mTup mNil)) (mCons (mF (mVar 2)) mNil)))) mNil))))
  (mSeq (mW [1, 5, 6, 7, 8, 9, 10] (mFor (mRng1 (mCons (mBN (puN opLen) (mCons (mB1 (pu1 opHist) (mVar 0)) mNil)) mNil)) g_Machine_steps3 b_Machine_steps3))
  mNx)) (mVar 4)))
noncomputable def F_Machine_steps : List D → Option D := runF 11 3 m_Machine_steps
noncomputable def g__law_history1 : GM := (gN 3)
noncomputable def b__law_history1 : SM := (mSeq (mSet 6 (mBN (callP P__law_law) (mCons (mVar 0) (mCons (mF (mVar 1)) mNil))))
  (mSeq (mSet 5 (mB2 (pu2 opAdd) (mB2 (pu2 opAdd) (mVar 5) (mBN (puN opLen) (mCons (mB2 (pu2 opIx) (mVar 6) (mC (.int 1))) mNil))) (mBN (puN opLen) (mCons (mB2 (pu2 opIx) (mVar 6) (mC (.int 2))) mNil))))
  (mW [3, 6] (mSet 4 (mB2 (pu2 opAdd) (mVar 4) (mIf (mT (mB2 (opB (iCmp fun i j => decide (i < j))) (mVar 5) (mC (.int 5)))) (mTup (mCons (mF (mVar 6)) mNil)) (mTup (mCons (mF (mTup (mCons (mF (mB2 (pu2 opIx) (mVar 6) (mC (.int 0)))) (mCons (mF (mTup mNil)) (mCons (mF (mTup mNil)) mNil))))) mNil))))))))
noncomputable def m__law_history : SM := (mSeq (mAsg (gTup' 2 (gCons' (gN 4) (gCons' (gN 5) gNil'))) (mF (mTup (mCons (mF (mTup mNil)) (mCons (mC (.int 0)) mNil)))))
  (mSeq (mW [1, 2, 3, 5, 6] (mFor (mRng1 (mCons (mBN (callP P__law_draw) (mCons (mVar 0) (mCons (mF (mB2 (pu2 opAdd) (mVar 2) (mC (.int 1)))) mNil))) mNil)) g__law_history1 b__law_history1))
  (mRet (mVar 4))))
noncomputable def P__law_history : List D → List D → Option (D × List D) := runP 7 3 m__law_history
noncomputable def g_stands_for1 : GM := (gN 6)
noncomputable def e_stands_for1 : EM := (mF (mTup (mCons (mF (mLst (mCons (mF (mVar 6)) mNil))) (mCons (mF (mLst mNil)) mNil))))
noncomputable def g_stands_for2 : GM := (gTup' 2 (gCons' (gN 10) (gCons' (gN 11) gNil')))
noncomputable def b_stands_for1 : SM := (mW [10, 11] (mApp 5 (mF (mTup (mCons (mF (mB2 (pu2 opAdd) (mVar 7) (mLst (mCons (mF (mVar 10)) mNil)))) (mCons (mF (mB2 (pu2 opAdd) (mVar 8) (mLst (mCons (mF (mVar 11)) mNil)))) mNil))))))
noncomputable def g_stands_for3 : GM := (gTup' 2 (gCons' (gN 7) (gCons' (gN 8) gNil')))
noncomputable def b_stands_for2 : SM := (mW [7, 8, 10, 11] (mFor (mSeq1 (mF (mMeth isMach F_Machine_steps (mF (mVar 0)) (mCons (mF (mB2 (pu2 opIx) (mVar 7) (mB1 (pu1 opNeg) (mC (.int 1))))) (mCons (mF (mVar 3)) mNil))))) g_stands_for2 b_stands_for1))
noncomputable def g_stands_for4 : GM := (gN 3)
noncomputable def b_stands_for3 : SM := (mSeq (mSet 5 (mLst mNil))
  (mSeq (mW [2, 3, 7, 8, 10, 11] (mFor (mSeq1 (mF (mVar 2))) g_stands_for3 b_stands_for2))
  (mW [3, 5] (mSet 2 (mVar 5)))))
noncomputable def g_stands_for5 : GM := (gN 9)
noncomputable def t_stands_for1 : TM := (mT (mMeth isMach F_Machine_is_end (mF (mVar 0)) (mCons (mF (mB2 (pu2 opIx) (mB2 (pu2 opIx) (mVar 9) (mC (.int 0))) (mB1 (pu1 opNeg) (mC (.int 1))))) mNil)))
noncomputable def e_stands_for2 : EM := (mF (mVar 9))
noncomputable def m_stands_for : SM := (mSeq (mSet 2 (mLcG [6] (mSeq1 (mF (mMeth isMach F_Machine_starts (mF (mVar 0)) mNil))) g_stands_for1 mTT (mElt e_stands_for1)))
  (mSeq (mW [1, 3, 5, 7, 8, 10, 11] (mFor (mSeq1 (mF (mVar 1))) g_stands_for4 b_stands_for3))
  (mSeq (mW [0, 2] (mSet 4 (mLcG [9] (mSeq1 (mF (mVar 2))) g_stands_for5 t_stands_for1 (mElt e_stands_for2))))
  (mRet (mB2 (pu2 opIx) (mVar 4) (mC (.int 0)))))))
noncomputable def F_stands_for : List D → Option D := runF 12 2 m_stands_for
noncomputable def g_law1 : GM := (gN 12)
noncomputable def e_law1 : EM := (mF (mBN (callP P__law_word) (mCons (mVar 1) (mCons (mF (mVar 2)) (mCons (mC (.int 4)) mNil)))))
noncomputable def g_law2 : GM := (gN 17)
noncomputable def e_law2 : EM := (mF (mSl (mVar 17) mNo (mSo (mBN (puN opLen) (mCons (mVar 8) mNil)))))
noncomputable def g_law3 : GM := (gN 5)
noncomputable def b_law1 : SM := (mSeq (mAsg (gTup' 2 (gCons' (gN 13) (gCons' (gN 14) gNil'))) (mF (mBN (callF F_stands_for) (mCons (mF (mVar 11)) (mCons (mF (mVar 5)) mNil)))))
  (mSeq (mAsg (gTup' 2 (gCons' (gN 15) (gCons' (gN 16) gNil'))) (mF (mBN (callF F_stands_for) (mCons (mF (mVar 10)) (mCons (mF (mVar 5)) mNil)))))
  (mSeq (mW [13] (mIfS (mOr (mT (mB2 (opB neE) (mBN (puN opLen) (mCons (mVar 13) mNil)) (mB2 (pu2 opAdd) (mBN (puN opLen) (mCons (mVar 5) mNil)) (mC (.int 1))))) (mT (mB2 (opB neE) (mLcG [17] (mSeq1 (mF (mVar 13))) g_law2 mTT (mElt e_law2)) (mVar 15)))) (mRet (mC (.bl false))) mNx))
  (mSeq (mW [14, 16] (mIfS (mOr (mT (mB2 (opB neE) (mB2 (pu2 opJoin) (mC (.str [])) (mVar 14)) (mBN (callF F_led) (mCons (mF (mB2 (pu2 opAdd) (mVar 8) (mVar 9))) (mCons (mF (mVar 5)) mNil))))) (mT (mB2 (opB neE) (mB2 (pu2 opJoin) (mC (.str [])) (mVar 16)) (mBN (callF F_led) (mCons (mF (mVar 8)) (mCons (mF (mVar 5)) mNil)))))) (mRet (mC (.bl false))) mNx))
  (mW [5, 15] (mDPut 4 (mVar 5) (mF (mVar 15))))))))
noncomputable def g_law4 : GM := (gN 17)
noncomputable def e_law3 : EM := (mF (mB2 (pu2 opIx) (mB2 (pu2 opIx) (mVar 17) (mC (.int 0))) (mC (.int 0))))
noncomputable def g_law5 : GM := (gN 17)
noncomputable def e_law4 : EM := (mF (mB2 (pu2 opIx) (mB2 (pu2 opIx) (mVar 17) (mC (.int 0))) (mC (.int 0))))
noncomputable def g_law6 : GM := (gN 17)
noncomputable def e_law5 : EM := (mF (mB2 (pu2 opIx) (mB2 (pu2 opIx) (mVar 17) (mC (.int 0))) (mC (.int 1))))
noncomputable def g_law7 : GM := (gN 17)
noncomputable def e_law6 : EM := (mF (mB2 (pu2 opIx) (mB2 (pu2 opIx) (mVar 17) (mC (.int 0))) (mC (.int 1))))
/-- the law, behind its first line -/
noncomputable def m_law : SM := (mSeq (mSet 2 (mB2 (pu2 opIx) (mTup (mCons (mC (.str [97, 98])) (mCons (mC (.str [97, 98, 99])) (mCons (mC (.str [97])) mNil)))) (mBN (callP P__law_draw) (mCons (mVar 1) (mCons (mC (.int 3)) mNil)))))
  (mSeq (mAsg (gTup' 2 (gCons' (gN 8) (gCons' (gN 9) gNil'))) (mF (mTup (mCons (mF (mBN (callP P__law_history) (mCons (mVar 1) (mCons (mF (mVar 2)) (mCons (mC (.int 1)) mNil))))) (mCons (mF (mBN (callP P__law_history) (mCons (mVar 1) (mCons (mF (mVar 2)) (mCons (mC (.int 1)) mNil))))) mNil)))))
  (mSeq (mPar' 10 11 (mBN opMach (mCons (mF (mVar 2)) (mCons (mF (mVar 8)) mNil))) (mBN opMach (mCons (mF (mVar 2)) (mCons (mF (mB2 (pu2 opAdd) (mVar 8) (mVar 9))) mNil))))
  (mSeq (mW [2] (mSet 3 (mLcG [12] (mRng1 (mCons (mC (.int 4)) mNil)) g_law1 mTT (mElt e_law1))))
  (mSeq (mSet 4 mDNew)
  (mSeq (mW [5, 9, 10, 11, 13, 14, 15, 16] (mFor (mSeq1 (mF (mB2 (pu2 opAdd) (mVar 3) (mLst (mCons (mF (mB2 (pu2 opAdd) (mB2 (pu2 opIx) (mVar 3) (mC (.int 0))) (mB2 (pu2 opIx) (mVar 3) (mC (.int 1))))) (mCons (mF (mB2 (pu2 opAdd) (mB2 (pu2 opIx) (mVar 3) (mC (.int 2))) (mB2 (pu2 opIx) (mVar 3) (mC (.int 1))))) (mCons (mF (mB2 (pu2 opAdd) (mB2 (pu2 opIx) (mVar 3) (mC (.int 0))) (mB2 (pu2 opIx) (mVar 3) (mC (.int 3))))) mNil))))))) g_law3 b_law1))
  (mSeq (mW [8] (mIfS (mT (mB2 (opB eqE) (mBN (puN opLen) (mCons (mVar 8) mNil)) (mC (.int 0)))) (mRet (mC (.bl true))) mNx))
  (mSeq (mSet 6 (mSl (mLcG [17] (mSeq1 (mF (mB2 (pu2 opKGet) (mVar 4) (mB2 (pu2 opAdd) (mB2 (pu2 opIx) (mVar 3) (mC (.int 0))) (mB2 (pu2 opIx) (mVar 3) (mC (.int 1))))))) g_law4 mTT (mElt e_law3)) mNo (mSo (mB2 (pu2 opAdd) (mBN (puN opLen) (mCons (mB2 (pu2 opIx) (mVar 3) (mC (.int 0))) mNil)) (mC (.int 1))))))
  (mSeq (mW [6] (mIfS (mT (mB2 (opB neE) (mSl (mLcG [17] (mSeq1 (mF (mB2 (pu2 opKGet) (mVar 4) (mB2 (pu2 opAdd) (mB2 (pu2 opIx) (mVar 3) (mC (.int 0))) (mB2 (pu2 opIx) (mVar 3) (mC (.int 3))))))) g_law5 mTT (mElt e_law4)) mNo (mSo (mB2 (pu2 opAdd) (mBN (puN opLen) (mCons (mB2 (pu2 opIx) (mVar 3) (mC (.int 0))) mNil)) (mC (.int 1))))) (mVar 6))) (mRet (mC (.bl false))) mNx))
  (mSeq (mSet 7 (mSl (mLcG [17] (mSeq1 (mF (mB2 (pu2 opKGet) (mVar 4) (mB2 (pu2 opAdd) (mB2 (pu2 opIx) (mVar 3) (mC (.int 0))) (mB2 (pu2 opIx) (mVar 3) (mC (.int 1))))))) g_law6 mTT (mElt e_law5)) (mSo (mBN (puN opLen) (mCons (mB2 (pu2 opIx) (mVar 3) (mC (.int 0))) mNil))) mNo))
  (mRet (mB2 (opB eqE) (mSl (mLcG [17] (mSeq1 (mF (mB2 (pu2 opKGet) (mVar 4) (mB2 (pu2 opAdd) (mB2 (pu2 opIx) (mVar 3) (mC (.int 2))) (mB2 (pu2 opIx) (mVar 3) (mC (.int 1))))))) g_law7 mTT (mElt e_law6)) (mSo (mBN (puN opLen) (mCons (mB2 (pu2 opIx) (mVar 3) (mC (.int 2))) mNil))) mNo) (mVar 7)))))))))))))
end SS

/-! what the readers of values say of each kind of value -/
namespace SS
open PySem PySem.Spec PyProof.Rows L2
theorem asInt__fro_int (i : Int) : asInt (.fro (.int i)) = some i := rfl
theorem asInt__fro_str (x : List Nat) : asInt (.fro (.str x)) = none := rfl
theorem asInt__fro_bl (b : Bool) : asInt (.fro (.bl b)) = none := rfl
theorem asInt__fro_tup (l : List D) : asInt (.fro (.tup l)) = none := rfl
theorem asInt__fro_row (l : List D) : asInt (.fro (.row l)) = none := rfl
theorem asInt__fro_lst (l : List D) : asInt (.fro (.lst l)) = none := rfl
theorem asInt__fro_non  : asInt (.fro .non) = none := rfl
theorem asInt__fro_mach (s h : D) : asInt (.fro (.mach s h)) = none := rfl
theorem asInt__fro_obj (c : Nat) (l : List D) : asInt (.fro (.obj c l)) = none := rfl
theorem asInt__tmp (l : List D) : asInt (.tmp l) = none := rfl
theorem asInt__tmpk (k : List (List Nat × D)) : asInt (.tmpk k) = none := rfl
theorem asInt__tmpd (k w : List D) : asInt (.tmpd k w) = none := rfl
theorem asInt__loc (i : Nat) : asInt (.loc i) = none := rfl
theorem asStr__fro_int (i : Int) : asStr (.fro (.int i)) = none := rfl
theorem asStr__fro_str (x : List Nat) : asStr (.fro (.str x)) = some x := rfl
theorem asStr__fro_bl (b : Bool) : asStr (.fro (.bl b)) = none := rfl
theorem asStr__fro_tup (l : List D) : asStr (.fro (.tup l)) = none := rfl
theorem asStr__fro_row (l : List D) : asStr (.fro (.row l)) = none := rfl
theorem asStr__fro_lst (l : List D) : asStr (.fro (.lst l)) = none := rfl
theorem asStr__fro_non  : asStr (.fro .non) = none := rfl
theorem asStr__fro_mach (s h : D) : asStr (.fro (.mach s h)) = none := rfl
theorem asStr__fro_obj (c : Nat) (l : List D) : asStr (.fro (.obj c l)) = none := rfl
theorem asStr__tmp (l : List D) : asStr (.tmp l) = none := rfl
theorem asStr__tmpk (k : List (List Nat × D)) : asStr (.tmpk k) = none := rfl
theorem asStr__tmpd (k w : List D) : asStr (.tmpd k w) = none := rfl
theorem asStr__loc (i : Nat) : asStr (.loc i) = none := rfl
theorem asBl__fro_int (i : Int) : asBl (.fro (.int i)) = none := rfl
theorem asBl__fro_str (x : List Nat) : asBl (.fro (.str x)) = none := rfl
theorem asBl__fro_bl (b : Bool) : asBl (.fro (.bl b)) = some b := rfl
theorem asBl__fro_tup (l : List D) : asBl (.fro (.tup l)) = none := rfl
theorem asBl__fro_row (l : List D) : asBl (.fro (.row l)) = none := rfl
theorem asBl__fro_lst (l : List D) : asBl (.fro (.lst l)) = none := rfl
theorem asBl__fro_non  : asBl (.fro .non) = none := rfl
theorem asBl__fro_mach (s h : D) : asBl (.fro (.mach s h)) = none := rfl
theorem asBl__fro_obj (c : Nat) (l : List D) : asBl (.fro (.obj c l)) = none := rfl
theorem asBl__tmp (l : List D) : asBl (.tmp l) = none := rfl
theorem asBl__tmpk (k : List (List Nat × D)) : asBl (.tmpk k) = none := rfl
theorem asBl__tmpd (k w : List D) : asBl (.tmpd k w) = none := rfl
theorem asBl__loc (i : Nat) : asBl (.loc i) = none := rfl
theorem asTup__fro_int (i : Int) : asTup (.fro (.int i)) = none := rfl
theorem asTup__fro_str (x : List Nat) : asTup (.fro (.str x)) = none := rfl
theorem asTup__fro_bl (b : Bool) : asTup (.fro (.bl b)) = none := rfl
theorem asTup__fro_tup (l : List D) : asTup (.fro (.tup l)) = some l := rfl
theorem asTup__fro_row (l : List D) : asTup (.fro (.row l)) = none := rfl
theorem asTup__fro_lst (l : List D) : asTup (.fro (.lst l)) = none := rfl
theorem asTup__fro_non  : asTup (.fro .non) = none := rfl
theorem asTup__fro_mach (s h : D) : asTup (.fro (.mach s h)) = none := rfl
theorem asTup__fro_obj (c : Nat) (l : List D) : asTup (.fro (.obj c l)) = none := rfl
theorem asTup__tmp (l : List D) : asTup (.tmp l) = none := rfl
theorem asTup__tmpk (k : List (List Nat × D)) : asTup (.tmpk k) = none := rfl
theorem asTup__tmpd (k w : List D) : asTup (.tmpd k w) = none := rfl
theorem asTup__loc (i : Nat) : asTup (.loc i) = none := rfl
theorem contL__fro_int (i : Int) (L : Loc) : contL (.fro (.int i)) L = none := rfl
theorem contL__fro_str (x : List Nat) (L : Loc) : contL (.fro (.str x)) L = none := rfl
theorem contL__fro_bl (b : Bool) (L : Loc) : contL (.fro (.bl b)) L = none := rfl
theorem contL__fro_tup (l : List D) (L : Loc) : contL (.fro (.tup l)) L = none := rfl
theorem contL__fro_row (l : List D) (L : Loc) : contL (.fro (.row l)) L = none := rfl
theorem contL__fro_lst (l : List D) (L : Loc) : contL (.fro (.lst l)) L = some l := rfl
theorem contL__fro_non  (L : Loc) : contL (.fro .non) L = none := rfl
theorem contL__fro_mach (s h : D) (L : Loc) : contL (.fro (.mach s h)) L = none := rfl
theorem contL__fro_obj (c : Nat) (l : List D) (L : Loc) : contL (.fro (.obj c l)) L = none := rfl
theorem contL__tmp (l : List D) (L : Loc) : contL (.tmp l) L = some l := rfl
theorem contL__tmpk (k : List (List Nat × D)) (L : Loc) : contL (.tmpk k) L = none := rfl
theorem contL__tmpd (k w : List D) (L : Loc) : contL (.tmpd k w) L = none := rfl
theorem contK__fro_int (i : Int) (L : Loc) : contK (.fro (.int i)) L = none := rfl
theorem contK__fro_str (x : List Nat) (L : Loc) : contK (.fro (.str x)) L = none := rfl
theorem contK__fro_bl (b : Bool) (L : Loc) : contK (.fro (.bl b)) L = none := rfl
theorem contK__fro_tup (l : List D) (L : Loc) : contK (.fro (.tup l)) L = none := rfl
theorem contK__fro_row (l : List D) (L : Loc) : contK (.fro (.row l)) L = none := rfl
theorem contK__fro_lst (l : List D) (L : Loc) : contK (.fro (.lst l)) L = none := rfl
theorem contK__fro_non  (L : Loc) : contK (.fro .non) L = none := rfl
theorem contK__fro_mach (s h : D) (L : Loc) : contK (.fro (.mach s h)) L = none := rfl
theorem contK__fro_obj (c : Nat) (l : List D) (L : Loc) : contK (.fro (.obj c l)) L = none := rfl
theorem contK__tmp (l : List D) (L : Loc) : contK (.tmp l) L = none := rfl
theorem contK__tmpk (k : List (List Nat × D)) (L : Loc) : contK (.tmpk k) L = some k := rfl
theorem contK__tmpd (k w : List D) (L : Loc) : contK (.tmpd k w) L = none := rfl
def lvL : Option LV → Option (List D)
  | some (.own l) => some l
  | some (.pin l) => some l
  | some (.fro (.lst l)) => some l
  | _ => none
theorem contL__loc (i : Nat) (L : Loc) : contL (.loc i) L = lvL L[i]? := by
  unfold contL lvL
  rfl
theorem lvL__own (l : List D) : lvL (some (.own l)) = some l := rfl
theorem lvL__pin (l : List D) : lvL (some (.pin l)) = some l := rfl
theorem lvL__fro (l : List D) : lvL (some (.fro (.lst l))) = some l := rfl
theorem lvL__k (k : List (List Nat × D)) : lvL (some (.ownk k)) = none := rfl
theorem lvL__d (k w : List D) : lvL (some (.ownd k w)) = none := rfl
theorem contK__loc (i : Nat) (L : Loc) : contK (.loc i) L = kOf i L := by
  unfold contK kOf
  rfl
end SS

/-! what the draws compute -/
namespace SS
open PySem PySem.Spec PyProof.Rows L2

theorem inRng_3 : inRng 3 := by unfold inRng; omega
theorem inRng_4 : inRng 4 := by unfold inRng; omega
theorem inRng_6 : inRng 6 := by unfold inRng; omega
theorem pin_fro {d : D} : (LV.fro d).isPin = false := rfl
theorem pin_non : LV.none.isPin = false := rfl
theorem pin_own {l : List D} : (LV.own l).isPin = false := rfl
theorem forR_nx {g : GM} {m : SM} {d : D} {r : List D} {L L2 : Loc} (h : (g d L).bind m = some (.nx, L2)) : forR g m (d :: r) L = forR g m r L2 := by
  obtain ⟨L1, h1, h2⟩ := bind_inv h
  simp only [forR, h1, h2, Option.bind_some]
theorem forR_rt {g : GM} {m : SM} {d : D} {r : List D} {L L2 : Loc} {ev : EV} (h : (g d L).bind m = some (.rt ev, L2)) : forR g m (d :: r) L = some (.rt ev, L2) := by
  obtain ⟨L1, h1, h2⟩ := bind_inv h
  simp only [forR, h1, h2, Option.bind_some]
theorem atI0 {α : Type} (l : List α) (i : Nat) : atI l (i : Int) = l[i]? := by
  by_cases h : i < l.length
  · rw [List.getElem?_eq_getElem h]; exact atI_nat (List.getElem?_eq_getElem h)
  · rw [List.getElem?_eq_none (by omega)]
    unfold atI ixN
    rw [if_pos (by omega), if_neg (by omega)]
    rfl
theorem ixN0 {n i : Nat} (h : i < n) : ixN n (i : Int) = some i := by
  unfold ixN
  rw [if_pos (by omega), if_pos (by omega)]
  simp
theorem spread_ex (c : Int) : ∃ v, F__law_spread [.int c] = some (.int v) := by
  unfold F__law_spread m__law_spread
  simp [mW, noPin, wipeL, restL, mDNew, List.foldr_cons, List.foldr_nil, List.all_cons, List.all_nil, runF, runP, startL, startP, outD, frz1, mSeq, mNx, mRet, mIfS, mSet, mAsg, mPar', mApp, mExt, mPop, mSetIx, mAug, mFor, mT, mAnd, mOr, mNot, mAndV, mOrV, mNotV, mIf, mB0, mB1, mB2, mBN, mNil, mCons, mF, mVar, mC, mTup, mLst, mSl, mNo, mSo, mMeth, mEnum, mZip, mRng1, mRng2, inRng_3, inRng_4, inRng_6, mSeq1, mTT, opB, opI, opAdd, opIx, opLen, opTuple, opList, opInt, opMin, opAllAny, opJoin, opSl, opDict, opKGet, mGet2, opNeg, opMach, opSounds, opHist, mCh, inE, ninE, eqE, neE, isMach, callF, callP, pu1, pu2, puN, iCmp, frosOf, put, pin_fro, pin_non, pin_own, gN, gNil', gCons', gTup', lstOf, setL, ownOf, isLoc, locIs, mElt, mInn, mLcG, cT, cPos, Option.bind_some, Option.bind_none, Option.map_some, Option.map_none, List.getElem?_cons_zero, List.getElem?_cons_succ, List.set_cons_zero, List.set_cons_succ, List.map_cons, List.map_nil, List.length_cons, List.length_nil, List.cons_append, List.nil_append, List.replicate_succ, List.replicate_zero, asInt__fro_int, asInt__fro_str, asInt__fro_bl, asInt__fro_tup, asInt__fro_row, asInt__fro_lst, asInt__fro_non, asInt__fro_mach, asInt__fro_obj, asInt__tmp, asInt__tmpk, asInt__tmpd, asInt__loc, asStr__fro_int, asStr__fro_str, asStr__fro_bl, asStr__fro_tup, asStr__fro_row, asStr__fro_lst, asStr__fro_non, asStr__fro_mach, asStr__fro_obj, asStr__tmp, asStr__tmpk, asStr__tmpd, asStr__loc, asBl__fro_int, asBl__fro_str, asBl__fro_bl, asBl__fro_tup, asBl__fro_row, asBl__fro_lst, asBl__fro_non, asBl__fro_mach, asBl__fro_obj, asBl__tmp, asBl__tmpk, asBl__tmpd, asBl__loc, asTup__fro_int, asTup__fro_str, asTup__fro_bl, asTup__fro_tup, asTup__fro_row, asTup__fro_lst, asTup__fro_non, asTup__fro_mach, asTup__fro_obj, asTup__tmp, asTup__tmpk, asTup__tmpd, asTup__loc, contL__fro_int, contL__fro_str, contL__fro_bl, contL__fro_tup, contL__fro_row, contL__fro_lst, contL__fro_non, contL__fro_mach, contL__fro_obj, contL__tmp, contL__tmpk, contL__tmpd, contK__fro_int, contK__fro_str, contK__fro_bl, contK__fro_tup, contK__fro_row, contK__fro_lst, contK__fro_non, contK__fro_mach, contK__fro_obj, contK__tmp, contK__tmpk, contK__tmpd, contL__loc, lvL__own, lvL__pin, lvL__fro, lvL__k, lvL__d, contK__loc, kOf, g__law_spread1, b__law_spread1, forR, rangeD, List.range_succ, cMul]
structure PoolOk (l : List D) : Prop where
  ex : ∃ (ns : List Int) (i : Nat) (v n s : Int), l = [.lst (ns.map D.int), .int i, .int v, .int n, .int s] ∧ i ≤ ns.length ∧ ns.length ≤ 63
section
variable {α : Type} {a b c d e : α}
theorem at5_0 : atI [a, b, c, d, e] 0 = some a := rfl
theorem at5_1 : atI [a, b, c, d, e] 1 = some b := rfl
theorem at5_2 : atI [a, b, c, d, e] 2 = some c := rfl
theorem at5_3 : atI [a, b, c, d, e] 3 = some d := rfl
theorem at5_4 : atI [a, b, c, d, e] 4 = some e := rfl
theorem at3_0 : atI [a, b, c] 0 = some a := rfl
theorem at3_1 : atI [a, b, c] 1 = some b := rfl
theorem at3_2 : atI [a, b, c] 2 = some c := rfl
theorem at2_0 : atI [a, b] 0 = some a := rfl
theorem at2_1 : atI [a, b] 1 = some b := rfl
end
theorem ix5_0 : ixN 5 0 = some 0 := rfl
theorem ix5_1 : ixN 5 1 = some 1 := rfl
theorem ix5_2 : ixN 5 2 = some 2 := rfl
theorem ix5_3 : ixN 5 3 = some 3 := rfl
theorem ix5_4 : ixN 5 4 = some 4 := rfl
theorem draw_end {ns : List Int} {i : Nat} {j v n s : Int} (hj : j = i) (hi : i ≤ ns.length) (hl : ns.length ≤ 63) : PoolOk [.lst (ns.map D.int), .int j, .int v, .int n, .int s] := by subst hj; exact ⟨⟨ns, i, v, n, s, rfl, hi, hl⟩⟩
theorem draw_ex {l : List D} (h : PoolOk l) {m : Int} (h1 : 0 < m) (h2 : m < 1073741824) : ∃ v l', P__law_draw l [.int m] = some (.int v, l') ∧ PoolOk l' ∧ 0 ≤ v ∧ v < m := by
  obtain ⟨ns, i, v, n, s, rfl, hi, hl⟩ := h.ex
  unfold P__law_draw m__law_draw
  have hm : ¬ m ≤ 0 := by omega
  by_cases c1 : v ≤ 0
  · by_cases c2 : i < ns.length
    · have hg : (ns.map D.int)[i]? = some (.int ns[i]) := by rw [List.getElem?_map, List.getElem?_eq_getElem c2]; rfl
      have c2' : (i : Int) < ns.length := by omega
      obtain ⟨w, hw⟩ := spread_ex ns[i]
      by_cases c3 : ns[i] < 1000000000000000000
      · by_cases c4 : w ≤ 0
        · simp [mW, noPin, wipeL, restL, mDNew, List.foldr_cons, List.foldr_nil, List.all_cons, List.all_nil, runF, runP, startL, startP, outD, frz1, mSeq, mNx, mRet, mIfS, mSet, mAsg, mPar', mApp, mExt, mPop, mSetIx, mAug, mFor, mT, mAnd, mOr, mNot, mAndV, mOrV, mNotV, mIf, mB0, mB1, mB2, mBN, mNil, mCons, mF, mVar, mC, mTup, mLst, mSl, mNo, mSo, mMeth, mEnum, mZip, mRng1, mRng2, inRng_3, inRng_4, inRng_6, mSeq1, mTT, opB, opI, opAdd, opIx, opLen, opTuple, opList, opInt, opMin, opAllAny, opJoin, opSl, opDict, opKGet, mGet2, opNeg, opMach, opSounds, opHist, mCh, inE, ninE, eqE, neE, isMach, callF, callP, pu1, pu2, puN, iCmp, frosOf, put, pin_fro, pin_non, pin_own, gN, gNil', gCons', gTup', lstOf, setL, ownOf, isLoc, locIs, mElt, mInn, mLcG, cT, cPos, Option.bind_some, Option.bind_none, Option.map_some, Option.map_none, List.getElem?_cons_zero, List.getElem?_cons_succ, List.set_cons_zero, List.set_cons_succ, List.map_cons, List.map_nil, List.length_cons, List.length_nil, List.cons_append, List.nil_append, List.replicate_succ, List.replicate_zero, asInt__fro_int, asInt__fro_str, asInt__fro_bl, asInt__fro_tup, asInt__fro_row, asInt__fro_lst, asInt__fro_non, asInt__fro_mach, asInt__fro_obj, asInt__tmp, asInt__tmpk, asInt__tmpd, asInt__loc, asStr__fro_int, asStr__fro_str, asStr__fro_bl, asStr__fro_tup, asStr__fro_row, asStr__fro_lst, asStr__fro_non, asStr__fro_mach, asStr__fro_obj, asStr__tmp, asStr__tmpk, asStr__tmpd, asStr__loc, asBl__fro_int, asBl__fro_str, asBl__fro_bl, asBl__fro_tup, asBl__fro_row, asBl__fro_lst, asBl__fro_non, asBl__fro_mach, asBl__fro_obj, asBl__tmp, asBl__tmpk, asBl__tmpd, asBl__loc, asTup__fro_int, asTup__fro_str, asTup__fro_bl, asTup__fro_tup, asTup__fro_row, asTup__fro_lst, asTup__fro_non, asTup__fro_mach, asTup__fro_obj, asTup__tmp, asTup__tmpk, asTup__tmpd, asTup__loc, contL__fro_int, contL__fro_str, contL__fro_bl, contL__fro_tup, contL__fro_row, contL__fro_lst, contL__fro_non, contL__fro_mach, contL__fro_obj, contL__tmp, contL__tmpk, contL__tmpd, contK__fro_int, contK__fro_str, contK__fro_bl, contK__fro_tup, contK__fro_row, contK__fro_lst, contK__fro_non, contK__fro_mach, contK__fro_obj, contK__tmp, contK__tmpk, contK__tmpd, contL__loc, lvL__own, lvL__pin, lvL__fro, lvL__k, lvL__d, contK__loc, kOf, at5_0, at5_1, at5_2, at5_3, at5_4, ix5_0, ix5_1, ix5_2, ix5_3, ix5_4, atI0, hg, c1, c2, c2', c3, c4, hw, h1, h2, cMul, cDv]
          exact ⟨_, _, ⟨rfl, rfl⟩, draw_end (i := i + 1) (by simp) (by omega) hl, Int.emod_nonneg _ (by omega), Int.emod_lt_of_pos _ h1⟩
        · simp [mW, noPin, wipeL, restL, mDNew, List.foldr_cons, List.foldr_nil, List.all_cons, List.all_nil, runF, runP, startL, startP, outD, frz1, mSeq, mNx, mRet, mIfS, mSet, mAsg, mPar', mApp, mExt, mPop, mSetIx, mAug, mFor, mT, mAnd, mOr, mNot, mAndV, mOrV, mNotV, mIf, mB0, mB1, mB2, mBN, mNil, mCons, mF, mVar, mC, mTup, mLst, mSl, mNo, mSo, mMeth, mEnum, mZip, mRng1, mRng2, inRng_3, inRng_4, inRng_6, mSeq1, mTT, opB, opI, opAdd, opIx, opLen, opTuple, opList, opInt, opMin, opAllAny, opJoin, opSl, opDict, opKGet, mGet2, opNeg, opMach, opSounds, opHist, mCh, inE, ninE, eqE, neE, isMach, callF, callP, pu1, pu2, puN, iCmp, frosOf, put, pin_fro, pin_non, pin_own, gN, gNil', gCons', gTup', lstOf, setL, ownOf, isLoc, locIs, mElt, mInn, mLcG, cT, cPos, Option.bind_some, Option.bind_none, Option.map_some, Option.map_none, List.getElem?_cons_zero, List.getElem?_cons_succ, List.set_cons_zero, List.set_cons_succ, List.map_cons, List.map_nil, List.length_cons, List.length_nil, List.cons_append, List.nil_append, List.replicate_succ, List.replicate_zero, asInt__fro_int, asInt__fro_str, asInt__fro_bl, asInt__fro_tup, asInt__fro_row, asInt__fro_lst, asInt__fro_non, asInt__fro_mach, asInt__fro_obj, asInt__tmp, asInt__tmpk, asInt__tmpd, asInt__loc, asStr__fro_int, asStr__fro_str, asStr__fro_bl, asStr__fro_tup, asStr__fro_row, asStr__fro_lst, asStr__fro_non, asStr__fro_mach, asStr__fro_obj, asStr__tmp, asStr__tmpk, asStr__tmpd, asStr__loc, asBl__fro_int, asBl__fro_str, asBl__fro_bl, asBl__fro_tup, asBl__fro_row, asBl__fro_lst, asBl__fro_non, asBl__fro_mach, asBl__fro_obj, asBl__tmp, asBl__tmpk, asBl__tmpd, asBl__loc, asTup__fro_int, asTup__fro_str, asTup__fro_bl, asTup__fro_tup, asTup__fro_row, asTup__fro_lst, asTup__fro_non, asTup__fro_mach, asTup__fro_obj, asTup__tmp, asTup__tmpk, asTup__tmpd, asTup__loc, contL__fro_int, contL__fro_str, contL__fro_bl, contL__fro_tup, contL__fro_row, contL__fro_lst, contL__fro_non, contL__fro_mach, contL__fro_obj, contL__tmp, contL__tmpk, contL__tmpd, contK__fro_int, contK__fro_str, contK__fro_bl, contK__fro_tup, contK__fro_row, contK__fro_lst, contK__fro_non, contK__fro_mach, contK__fro_obj, contK__tmp, contK__tmpk, contK__tmpd, contL__loc, lvL__own, lvL__pin, lvL__fro, lvL__k, lvL__d, contK__loc, kOf, at5_0, at5_1, at5_2, at5_3, at5_4, ix5_0, ix5_1, ix5_2, ix5_3, ix5_4, atI0, hg, c1, c2, c2', c3, c4, hw, h1, h2, cMul, cDv]
          exact ⟨_, _, ⟨rfl, rfl⟩, draw_end (i := i + 1) (by simp) (by omega) hl, Int.emod_nonneg _ (by omega), Int.emod_lt_of_pos _ h1⟩
      · by_cases c4 : ns[i] ≤ 0
        · omega
        · simp [mW, noPin, wipeL, restL, mDNew, List.foldr_cons, List.foldr_nil, List.all_cons, List.all_nil, runF, runP, startL, startP, outD, frz1, mSeq, mNx, mRet, mIfS, mSet, mAsg, mPar', mApp, mExt, mPop, mSetIx, mAug, mFor, mT, mAnd, mOr, mNot, mAndV, mOrV, mNotV, mIf, mB0, mB1, mB2, mBN, mNil, mCons, mF, mVar, mC, mTup, mLst, mSl, mNo, mSo, mMeth, mEnum, mZip, mRng1, mRng2, inRng_3, inRng_4, inRng_6, mSeq1, mTT, opB, opI, opAdd, opIx, opLen, opTuple, opList, opInt, opMin, opAllAny, opJoin, opSl, opDict, opKGet, mGet2, opNeg, opMach, opSounds, opHist, mCh, inE, ninE, eqE, neE, isMach, callF, callP, pu1, pu2, puN, iCmp, frosOf, put, pin_fro, pin_non, pin_own, gN, gNil', gCons', gTup', lstOf, setL, ownOf, isLoc, locIs, mElt, mInn, mLcG, cT, cPos, Option.bind_some, Option.bind_none, Option.map_some, Option.map_none, List.getElem?_cons_zero, List.getElem?_cons_succ, List.set_cons_zero, List.set_cons_succ, List.map_cons, List.map_nil, List.length_cons, List.length_nil, List.cons_append, List.nil_append, List.replicate_succ, List.replicate_zero, asInt__fro_int, asInt__fro_str, asInt__fro_bl, asInt__fro_tup, asInt__fro_row, asInt__fro_lst, asInt__fro_non, asInt__fro_mach, asInt__fro_obj, asInt__tmp, asInt__tmpk, asInt__tmpd, asInt__loc, asStr__fro_int, asStr__fro_str, asStr__fro_bl, asStr__fro_tup, asStr__fro_row, asStr__fro_lst, asStr__fro_non, asStr__fro_mach, asStr__fro_obj, asStr__tmp, asStr__tmpk, asStr__tmpd, asStr__loc, asBl__fro_int, asBl__fro_str, asBl__fro_bl, asBl__fro_tup, asBl__fro_row, asBl__fro_lst, asBl__fro_non, asBl__fro_mach, asBl__fro_obj, asBl__tmp, asBl__tmpk, asBl__tmpd, asBl__loc, asTup__fro_int, asTup__fro_str, asTup__fro_bl, asTup__fro_tup, asTup__fro_row, asTup__fro_lst, asTup__fro_non, asTup__fro_mach, asTup__fro_obj, asTup__tmp, asTup__tmpk, asTup__tmpd, asTup__loc, contL__fro_int, contL__fro_str, contL__fro_bl, contL__fro_tup, contL__fro_row, contL__fro_lst, contL__fro_non, contL__fro_mach, contL__fro_obj, contL__tmp, contL__tmpk, contL__tmpd, contK__fro_int, contK__fro_str, contK__fro_bl, contK__fro_tup, contK__fro_row, contK__fro_lst, contK__fro_non, contK__fro_mach, contK__fro_obj, contK__tmp, contK__tmpk, contK__tmpd, contL__loc, lvL__own, lvL__pin, lvL__fro, lvL__k, lvL__d, contK__loc, kOf, at5_0, at5_1, at5_2, at5_3, at5_4, ix5_0, ix5_1, ix5_2, ix5_3, ix5_4, atI0, hg, c1, c2, c2', c3, c4, hw, h1, h2, cMul, cDv]
          exact ⟨_, _, ⟨rfl, rfl⟩, draw_end (i := i + 1) (by simp) (by omega) hl, Int.emod_nonneg _ (by omega), Int.emod_lt_of_pos _ h1⟩
    · have c2' : ¬ (i : Int) < ns.length := by omega
      simp [mW, noPin, wipeL, restL, mDNew, List.foldr_cons, List.foldr_nil, List.all_cons, List.all_nil, runF, runP, startL, startP, outD, frz1, mSeq, mNx, mRet, mIfS, mSet, mAsg, mPar', mApp, mExt, mPop, mSetIx, mAug, mFor, mT, mAnd, mOr, mNot, mAndV, mOrV, mNotV, mIf, mB0, mB1, mB2, mBN, mNil, mCons, mF, mVar, mC, mTup, mLst, mSl, mNo, mSo, mMeth, mEnum, mZip, mRng1, mRng2, inRng_3, inRng_4, inRng_6, mSeq1, mTT, opB, opI, opAdd, opIx, opLen, opTuple, opList, opInt, opMin, opAllAny, opJoin, opSl, opDict, opKGet, mGet2, opNeg, opMach, opSounds, opHist, mCh, inE, ninE, eqE, neE, isMach, callF, callP, pu1, pu2, puN, iCmp, frosOf, put, pin_fro, pin_non, pin_own, gN, gNil', gCons', gTup', lstOf, setL, ownOf, isLoc, locIs, mElt, mInn, mLcG, cT, cPos, Option.bind_some, Option.bind_none, Option.map_some, Option.map_none, List.getElem?_cons_zero, List.getElem?_cons_succ, List.set_cons_zero, List.set_cons_succ, List.map_cons, List.map_nil, List.length_cons, List.length_nil, List.cons_append, List.nil_append, List.replicate_succ, List.replicate_zero, asInt__fro_int, asInt__fro_str, asInt__fro_bl, asInt__fro_tup, asInt__fro_row, asInt__fro_lst, asInt__fro_non, asInt__fro_mach, asInt__fro_obj, asInt__tmp, asInt__tmpk, asInt__tmpd, asInt__loc, asStr__fro_int, asStr__fro_str, asStr__fro_bl, asStr__fro_tup, asStr__fro_row, asStr__fro_lst, asStr__fro_non, asStr__fro_mach, asStr__fro_obj, asStr__tmp, asStr__tmpk, asStr__tmpd, asStr__loc, asBl__fro_int, asBl__fro_str, asBl__fro_bl, asBl__fro_tup, asBl__fro_row, asBl__fro_lst, asBl__fro_non, asBl__fro_mach, asBl__fro_obj, asBl__tmp, asBl__tmpk, asBl__tmpd, asBl__loc, asTup__fro_int, asTup__fro_str, asTup__fro_bl, asTup__fro_tup, asTup__fro_row, asTup__fro_lst, asTup__fro_non, asTup__fro_mach, asTup__fro_obj, asTup__tmp, asTup__tmpk, asTup__tmpd, asTup__loc, contL__fro_int, contL__fro_str, contL__fro_bl, contL__fro_tup, contL__fro_row, contL__fro_lst, contL__fro_non, contL__fro_mach, contL__fro_obj, contL__tmp, contL__tmpk, contL__tmpd, contK__fro_int, contK__fro_str, contK__fro_bl, contK__fro_tup, contK__fro_row, contK__fro_lst, contK__fro_non, contK__fro_mach, contK__fro_obj, contK__tmp, contK__tmpk, contK__tmpd, contL__loc, lvL__own, lvL__pin, lvL__fro, lvL__k, lvL__d, contK__loc, kOf, at5_0, at5_1, at5_2, at5_3, at5_4, ix5_0, ix5_1, ix5_2, ix5_3, ix5_4, atI0, c1, c2, c2', h1, h2, cMul, cDv]
      exact ⟨_, _, ⟨rfl, rfl⟩, draw_end rfl hi hl, Int.emod_nonneg _ (by omega), Int.emod_lt_of_pos _ h1⟩
  · simp [mW, noPin, wipeL, restL, mDNew, List.foldr_cons, List.foldr_nil, List.all_cons, List.all_nil, runF, runP, startL, startP, outD, frz1, mSeq, mNx, mRet, mIfS, mSet, mAsg, mPar', mApp, mExt, mPop, mSetIx, mAug, mFor, mT, mAnd, mOr, mNot, mAndV, mOrV, mNotV, mIf, mB0, mB1, mB2, mBN, mNil, mCons, mF, mVar, mC, mTup, mLst, mSl, mNo, mSo, mMeth, mEnum, mZip, mRng1, mRng2, inRng_3, inRng_4, inRng_6, mSeq1, mTT, opB, opI, opAdd, opIx, opLen, opTuple, opList, opInt, opMin, opAllAny, opJoin, opSl, opDict, opKGet, mGet2, opNeg, opMach, opSounds, opHist, mCh, inE, ninE, eqE, neE, isMach, callF, callP, pu1, pu2, puN, iCmp, frosOf, put, pin_fro, pin_non, pin_own, gN, gNil', gCons', gTup', lstOf, setL, ownOf, isLoc, locIs, mElt, mInn, mLcG, cT, cPos, Option.bind_some, Option.bind_none, Option.map_some, Option.map_none, List.getElem?_cons_zero, List.getElem?_cons_succ, List.set_cons_zero, List.set_cons_succ, List.map_cons, List.map_nil, List.length_cons, List.length_nil, List.cons_append, List.nil_append, List.replicate_succ, List.replicate_zero, asInt__fro_int, asInt__fro_str, asInt__fro_bl, asInt__fro_tup, asInt__fro_row, asInt__fro_lst, asInt__fro_non, asInt__fro_mach, asInt__fro_obj, asInt__tmp, asInt__tmpk, asInt__tmpd, asInt__loc, asStr__fro_int, asStr__fro_str, asStr__fro_bl, asStr__fro_tup, asStr__fro_row, asStr__fro_lst, asStr__fro_non, asStr__fro_mach, asStr__fro_obj, asStr__tmp, asStr__tmpk, asStr__tmpd, asStr__loc, asBl__fro_int, asBl__fro_str, asBl__fro_bl, asBl__fro_tup, asBl__fro_row, asBl__fro_lst, asBl__fro_non, asBl__fro_mach, asBl__fro_obj, asBl__tmp, asBl__tmpk, asBl__tmpd, asBl__loc, asTup__fro_int, asTup__fro_str, asTup__fro_bl, asTup__fro_tup, asTup__fro_row, asTup__fro_lst, asTup__fro_non, asTup__fro_mach, asTup__fro_obj, asTup__tmp, asTup__tmpk, asTup__tmpd, asTup__loc, contL__fro_int, contL__fro_str, contL__fro_bl, contL__fro_tup, contL__fro_row, contL__fro_lst, contL__fro_non, contL__fro_mach, contL__fro_obj, contL__tmp, contL__tmpk, contL__tmpd, contK__fro_int, contK__fro_str, contK__fro_bl, contK__fro_tup, contK__fro_row, contK__fro_lst, contK__fro_non, contK__fro_mach, contK__fro_obj, contK__tmp, contK__tmpk, contK__tmpd, contL__loc, lvL__own, lvL__pin, lvL__fro, lvL__k, lvL__d, contK__loc, kOf, at5_0, at5_1, at5_2, at5_3, at5_4, ix5_0, ix5_1, ix5_2, ix5_3, ix5_4, atI0, c1, h1, h2, cMul, cDv]
    exact ⟨_, _, ⟨rfl, rfl⟩, draw_end rfl hi hl, Int.emod_nonneg _ (by omega), Int.emod_lt_of_pos _ h1⟩
end SS

/-! loops and comprehensions over typed data; small facts -/
namespace SS
open PySem PySem.Spec PyProof.Rows L2

theorem LIM_val : LIM = 16777216 := rfl
theorem atI0' {α : Type} {l : List α} {i : Nat} (h : i < l.length) : atI l (i : Int) = some l[i] := by rw [atI0, List.getElem?_eq_getElem h]
theorem at_last {α : Type} (l : List α) (x : α) : atI (l ++ [x]) (-1) = some x := by
  unfold atI ixN
  rw [if_neg (by omega), if_pos (by simp; omega)]
  have e : ((-1 : Int) + ((l ++ [x]).length : Nat)).toNat = l.length := by simp; omega
  simp only [Option.bind_some, e]
  simp
theorem rangeD0 (n : Nat) : rangeD 0 n = (List.range n).map fun i => .int (i : Nat) := by
  unfold rangeD
  refine List.map_congr_left fun i _ => ?_
  simp
theorem rangeD_len {n : Nat} : (rangeD 0 n).length = n := by simp [rangeD]
theorem mSeq_nx {m1 m2 : SM} {L L1 : Loc} (h : m1 L = some (.nx, L1)) : mSeq m1 m2 L = m2 L1 := by simp only [mSeq, h, Option.bind_some]
theorem mSeq_rt {m1 m2 : SM} {L L1 : Loc} {ev : EV} (h : m1 L = some (.rt ev, L1)) : mSeq m1 m2 L = some (.rt ev, L1) := by simp only [mSeq, h, Option.bind_some]
theorem mRng1_nat {m : AM} {L L1 : Loc} {n : Nat} (h : m L = some ([.fro (.int n)], L1)) (hn : n ≤ 16777216) : mRng1 m L = some (rangeD 0 n, L1) := by
  simp only [mRng1, h, Option.bind_some, asInt]
  rw [if_pos (inRng_nat hn), Int.toNat_natCast]
theorem mFor_of {mi : IM} {g : GM} {m : SM} {L L1 : Loc} {ds : List D} (hi : mi L = some (ds, L1)) : mFor mi g m L = forR g m ds L1 := by simp only [mFor, hi, Option.bind_some]
theorem mRet_of {ma : EM} {L L1 : Loc} {ev : EV} (h : ma L = some (ev, L1)) : mRet ma L = some (.rt ev, L1) := by simp only [mRet, h, Option.map_some]
theorem runF_rt {n p : Nat} {m : SM} {ds : List D} {d : D} {ev : EV} {L L2 : Loc} (hl : ds.length = p) (h : m (startL n ds) = some (.rt ev, L)) (hf : frz1 ev L = some (d, L2)) : runF n p m ds = some d := by
  simp only [runF, hl, if_true, h, Option.bind_some, outD, hf, Option.map_some]
theorem runP_rt {n p : Nat} {m : SM} {l l' ds : List D} {d : D} {ev : EV} {L L2 : Loc} (hl : ds.length + 1 = p) (h : m (startP n l ds) = some (.rt ev, L)) (hf : frz1 ev L = some (d, L2)) (h0 : L2[0]? = some (.pin l')) : runP n p m l ds = some (d, l') := by
  simp only [runP, hl, if_true, h, Option.bind_some, outD, hf, h0]
theorem mW_nx {vs : List Nat} {m : SM} {L L1 : Loc} (h : m L = some (.nx, L1)) (hn : noPin vs L1 = true) : mW vs m L = some (.nx, wipeL vs L1) := by simp only [mW, h, Option.bind_some, hn, if_true]
theorem mW_rt {vs : List Nat} {m : SM} {L L1 : Loc} {ev : EV} (h : m L = some (.rt ev, L1)) : mW vs m L = some (.rt ev, L1) := by simp only [mW, h, Option.bind_some]
/-! ### comprehensions -/
def lcE (vs : List Nat) (g : GM) (me : EM) (L : Loc) (d : D) : Option (EV × Loc) := ((g d (wipeL vs L)).bind me).map fun p => (p.1, restL vs L p.2)
theorem lcG_map {α : Type} {vs : List Nat} {g : GM} {me : EM} {L : Loc} {enc f : α → D} (hn : noPin vs L = true) : ∀ (xs : List α) (acc : List D), (∀ x ∈ xs, lcE vs g me L (enc x) = some (.fro (f x), L)) → acc.length + xs.length ≤ LIM →
    lcG vs g mTT (mElt me) (xs.map enc) acc L = some (acc ++ xs.map f, L)
  | [], acc, _, _ => by simp [lcG]
  | x :: xs, acc, h, hl => by
    rw [List.length_cons] at hl
    have ih := lcG_map hn xs (acc ++ [f x]) (fun y hy => h y (by simp [hy])) (by simp; omega)
    have h1 := h x (by simp)
    unfold lcE at h1
    obtain ⟨p, hp, h2⟩ := map_inv h1
    obtain ⟨L1, h3, h4⟩ := bind_inv hp
    obtain ⟨ev, L3⟩ := p
    simp only [Prod.mk.injEq] at h2
    obtain ⟨rfl, h5⟩ := h2
    have hlt : acc.length < LIM := by omega
    rw [List.map_cons]
    unfold lcG
    simp only [hn, if_true, h3, Option.bind_some, mElt, h4, hlt, h5, ih]
    simp
def lcT (vs : List Nat) (g : GM) (tt : TM) (me : EM) (L : Loc) (d : D) : Option (Option EV × Loc) := (g d (wipeL vs L)).bind fun L1 => (tt L1).bind fun p => if p.1 = true then (me p.2).map fun q => (some q.1, restL vs L q.2) else some (none, restL vs L p.2)
theorem lcG_filt {α : Type} {vs : List Nat} {g : GM} {tt : TM} {me : EM} {L : Loc} {enc f : α → D} {p : α → Bool} (hn : noPin vs L = true) : ∀ (xs : List α) (acc : List D), (∀ x ∈ xs, lcT vs g tt me L (enc x) = some (if p x = true then some (.fro (f x)) else none, L)) → acc.length + xs.length ≤ LIM →
    lcG vs g tt (mElt me) (xs.map enc) acc L = some (acc ++ (xs.filter p).map f, L)
  | [], acc, _, _ => by simp [lcG]
  | x :: xs, acc, h, hl => by
    rw [List.length_cons] at hl
    have h1 := h x (by simp)
    unfold lcT at h1
    obtain ⟨L1, h3, h4⟩ := bind_inv h1
    obtain ⟨q, h5, h6⟩ := bind_inv h4
    rw [List.map_cons]
    unfold lcG
    cases hq : q.1 with
    | true =>
      rw [hq, if_pos rfl] at h6
      obtain ⟨u, h7, h8⟩ := map_inv h6
      cases hp : p x with
      | true =>
        rw [hp, if_pos rfl] at h8
        simp only [Prod.mk.injEq, Option.some.injEq] at h8
        obtain ⟨h9, h10⟩ := h8
        have ih := lcG_filt (f := f) (p := p) hn xs (acc ++ [f x]) (fun y hy => h y (by simp [hy])) (by simp; omega)
        have hlt : acc.length < LIM := by omega
        simp only [hn, if_true, h3, Option.bind_some, h5, hq, mElt, h7, h9, hlt, h10, ih]
        simp [hp]
      | false =>
        rw [hp, if_neg Bool.false_ne_true] at h8
        simp at h8
    | false =>
      rw [hq, if_neg Bool.false_ne_true] at h6
      cases hp : p x with
      | true => rw [hp, if_pos rfl] at h6; simp at h6
      | false =>
        rw [hp, if_neg Bool.false_ne_true] at h6
        simp only [Option.some.injEq, Prod.mk.injEq, true_and] at h6
        have ih := lcG_filt (f := f) (p := p) hn xs acc (fun y hy => h y (by simp [hy])) (by omega)
        simp only [hn, if_true, h3, Option.bind_some, h5, hq, Bool.false_eq_true, if_false, h6, ih]
        simp [hp]
def lcI (vs : List Nat) (g : GM) (mb : BM) (L : Loc) (d : D) (acc : List D) : Option (List D × Loc) := ((g d (wipeL vs L)).bind (mb acc)).map fun p => (p.1, restL vs L p.2)
theorem lcG_flat {α : Type} {vs : List Nat} {g : GM} {mb : BM} {L : Loc} {enc : α → D} {F : α → List D} (hn : noPin vs L = true) : ∀ (xs : List α) (acc : List D), (∀ x ∈ xs, ∀ acc, acc.length + (F x).length ≤ LIM → lcI vs g mb L (enc x) acc = some (acc ++ F x, L)) → acc.length + (xs.flatMap F).length ≤ LIM →
    lcG vs g mTT mb (xs.map enc) acc L = some (acc ++ xs.flatMap F, L)
  | [], acc, _, _ => by simp [lcG]
  | x :: xs, acc, h, hl => by
    rw [List.flatMap_cons, List.length_append] at hl
    have ih := lcG_flat hn xs (acc ++ F x) (fun y hy => h y (by simp [hy])) (by rw [List.length_append]; omega)
    have h1 := h x (by simp) acc (by omega)
    unfold lcI at h1
    obtain ⟨p, hp, h2⟩ := map_inv h1
    obtain ⟨L1, h3, h4⟩ := bind_inv hp
    obtain ⟨ev, L3⟩ := p
    simp only [Prod.mk.injEq] at h2
    obtain ⟨rfl, h5⟩ := h2
    rw [List.map_cons]
    unfold lcG
    simp only [hn, if_true, h3, Option.bind_some, h4, h5, ih]
    simp
/-- an inner walk, as lcI of the outer one asks it -/
theorem lcI_inn {α : Type} {vs vs1 : List Nat} {g g1 : GM} {mi : IM} {me : EM} {L L1 L2 : Loc} {d : D} {acc : List D} {xs : List α} {enc f : α → D} (h1 : g d (wipeL vs L) = some L1) (h2 : mi L1 = some (xs.map enc, L2)) (hn : noPin vs1 L2 = true)
    (h3 : ∀ x ∈ xs, lcE vs1 g1 me L2 (enc x) = some (.fro (f x), L2)) (hl : acc.length + xs.length ≤ LIM) (h4 : restL vs L L2 = L) : lcI vs g (mInn vs1 mi g1 mTT (mElt me)) L d acc = some (acc ++ xs.map f, L) := by
  unfold lcI
  simp only [h1, Option.bind_some, mInn, h2, lcG_map hn xs acc h3 hl, Option.map_some, h4]
/-- a comprehension that draws -/
theorem lc_ex {vs : List Nat} {g : GM} {tt : TM} {me : EM} (P : Loc → Prop) (Q : D → Prop) : ∀ (ds acc : List D) (L : Loc),
    (∀ d ∈ ds, ∀ L, P L → noPin vs L = true ∧ ∃ L1, g d (wipeL vs L) = some L1 ∧ ((∃ L2, tt L1 = some (false, L2) ∧ P (restL vs L L2)) ∨ ∃ L2 y L3, tt L1 = some (true, L2) ∧ me L2 = some (.fro y, L3) ∧ Q y ∧ P (restL vs L L3))) →
    P L → acc.length + ds.length ≤ LIM → ∃ zs L2, lcG vs g tt (mElt me) ds acc L = some (acc ++ zs, L2) ∧ P L2 ∧ (∀ y ∈ zs, Q y) ∧ zs.length ≤ ds.length
  | [], acc, L, _, hP, _ => ⟨[], L, by simp [lcG], hP, by simp, by simp⟩
  | d :: ds, acc, L, h, hP, hl => by
    obtain ⟨hn, L1, h1, h2⟩ := h d (by simp) L hP
    simp only [List.length_cons] at hl
    rcases h2 with ⟨L2, h3, h4⟩ | ⟨L2, y, L3, h3, h4, h5, h6⟩
    · obtain ⟨zs, L4, i1, i2, i3, i4⟩ := lc_ex P Q ds acc _ (fun x hx => h x (by simp [hx])) h4 (by omega)
      refine ⟨zs, L4, ?_, i2, i3, by simp; omega⟩
      unfold lcG
      simp only [hn, if_true, h1, Option.bind_some, h3, Bool.false_eq_true, if_false, i1]
    · obtain ⟨zs, L4, i1, i2, i3, i4⟩ := lc_ex P Q ds (acc ++ [y]) _ (fun x hx => h x (by simp [hx])) h6 (by simp; omega)
      refine ⟨y :: zs, L4, ?_, i2, ?_, by simp; omega⟩
      · have hlt : acc.length < LIM := by omega
        unfold lcG
        simp only [hn, if_true, h1, Option.bind_some, h3, mElt, h4, hlt, i1]
        simp
      · intro z hz
        rcases List.mem_cons.mp hz with e | e
        · subst e; exact h5
        · exact i3 z e
/-! ### for -/
theorem forR_fold {α σ : Type} {g : GM} {m : SM} (enc : α → D) (st : σ → Loc) (f : σ → α → σ) (P : List α → σ → Prop) (h : ∀ x xs s, P (x :: xs) s → (g (enc x) (st s)).bind m = some (.nx, st (f s x)) ∧ P xs (f s x)) : ∀ (xs : List α) (s : σ), P xs s →
    forR g m (xs.map enc) (st s) = some (.nx, st (xs.foldl f s)) ∧ P [] (xs.foldl f s)
  | [], s, hp => ⟨rfl, hp⟩
  | x :: xs, s, hp => by
    obtain ⟨h1, h2⟩ := h x xs s hp
    obtain ⟨h3, h4⟩ := forR_fold enc st f P h xs _ h2
    rw [List.map_cons, forR_nx h1, List.foldl_cons]
    exact ⟨h3, h4⟩
theorem forR_acc {α : Type} {g : GM} {m : SM} {enc : α → D} (st : List D → Loc) {F : α → List D} {N : Nat} : ∀ (xs : List α) (acc : List D), (∀ x ∈ xs, ∀ acc, acc.length + (F x).length ≤ N → (g (enc x) (st acc)).bind m = some (.nx, st (acc ++ F x))) → acc.length + (xs.flatMap F).length ≤ N →
    forR g m (xs.map enc) (st acc) = some (.nx, st (acc ++ xs.flatMap F))
  | [], acc, _, _ => by simp [forR]
  | x :: xs, acc, h, hl => by
    rw [List.flatMap_cons, List.length_append] at hl
    have ih := forR_acc st xs (acc ++ F x) (fun y hy => h y (by simp [hy])) (by rw [List.length_append]; omega)
    rw [List.map_cons, forR_nx (h x (by simp) acc (by omega)), ih, List.flatMap_cons, List.append_assoc]
theorem forR_all {α : Type} {g : GM} {m : SM} {enc : α → D} {p : α → Bool} {ev : EV} {L : Loc} : ∀ (xs : List α), (∀ x ∈ xs, (p x = true → (g (enc x) L).bind m = some (.nx, L)) ∧ (p x = false → ∃ L2, (g (enc x) L).bind m = some (.rt ev, L2))) →
    (xs.all p = true → forR g m (xs.map enc) L = some (.nx, L)) ∧ (xs.all p = false → ∃ L2, forR g m (xs.map enc) L = some (.rt ev, L2))
  | [], _ => ⟨fun _ => rfl, fun h => by simp at h⟩
  | x :: xs, h => by
    obtain ⟨i1, i2⟩ := forR_all xs fun y hy => h y (by simp [hy])
    obtain ⟨h1, h2⟩ := h x (by simp)
    cases hp : p x with
    | true =>
      rw [List.map_cons, forR_nx (h1 hp), List.all_cons, hp, Bool.true_and]
      exact ⟨i1, i2⟩
    | false =>
      obtain ⟨L2, h3⟩ := h2 hp
      rw [List.map_cons, forR_rt h3, List.all_cons, hp, Bool.false_and]
      exact ⟨fun z => (by cases z), fun _ => ⟨L2, rfl⟩⟩
theorem forR_inv {g : GM} {m : SM} (ds : List D) (P : Nat → Loc → Prop) (hs : ∀ (i : Nat) (h : i < ds.length) (L : Loc), P i L → ∃ L2, (g ds[i] L).bind m = some (.nx, L2) ∧ P (i + 1) L2) : ∀ (n k : Nat) (L : Loc), n + k = ds.length → P k L → ∃ L2, forR g m (ds.drop k) L = some (.nx, L2) ∧ P ds.length L2
  | 0, k, L, hk, h0 => by
    have : k = ds.length := by omega
    subst this
    rw [List.drop_length]
    exact ⟨L, rfl, h0⟩
  | n + 1, k, L, hk, h0 => by
    have hlt : k < ds.length := by omega
    obtain ⟨L1, h1, h2⟩ := hs k hlt L h0
    obtain ⟨L2, h3, h4⟩ := forR_inv ds P hs n (k + 1) L1 (by omega) h2
    refine ⟨L2, ?_, h4⟩
    rw [List.drop_eq_getElem_cons hlt, forR_nx h1]
    exact h3
theorem forR_inv0 {g : GM} {m : SM} (ds : List D) (P : Nat → Loc → Prop) (hs : ∀ (i : Nat) (h : i < ds.length) (L : Loc), P i L → ∃ L2, (g ds[i] L).bind m = some (.nx, L2) ∧ P (i + 1) L2) {L : Loc} (h0 : P 0 L) : ∃ L2, forR g m ds L = some (.nx, L2) ∧ P ds.length L2 := by
  have := forR_inv ds P hs ds.length 0 L (by omega) h0
  rwa [List.drop_zero] at this
/-! ### while -/
theorem mWhile_t {c : TM} {b : SM} {n : Nat} {L L1 L2 : Loc} (hc : c L = some (true, L1)) (hb : b L1 = some (.nx, L2)) : mWhile c b (n + 1) L = mWhile c b n L2 := by
  simp only [mWhile, hc, Option.bind_some, if_true, hb]
theorem mWhile_f {c : TM} {b : SM} {n : Nat} {L L1 : Loc} (hc : c L = some (false, L1)) : mWhile c b (n + 1) L = some (.nx, L1) := by
  simp only [mWhile, hc, Option.bind_some, Bool.false_eq_true, if_false]
theorem mWhile_more {c : TM} {b : SM} : ∀ {n : Nat} {L : Loc} {r : Out × Loc}, mWhile c b n L = some r → ∀ k, mWhile c b (n + k) L = some r
  | 0, _, _, h, _ => by cases h
  | n + 1, L, r, h, k => by
    have e : n + 1 + k = (n + k) + 1 := by omega
    rw [e]
    unfold mWhile at h ⊢
    obtain ⟨p, h1, h2⟩ := bind_inv h
    rw [h1, Option.bind_some]
    cases hp : p.1 with
    | false => rw [hp, if_neg Bool.false_ne_true] at h2; rw [if_neg Bool.false_ne_true]; exact h2
    | true =>
      rw [hp, if_pos rfl] at h2
      rw [if_pos rfl]
      obtain ⟨q, h3, h4⟩ := bind_inv h2
      rw [h3, Option.bind_some]
      cases hq : q.1 with
      | nx => rw [hq] at h4; exact mWhile_more h4 k
      | ct => rw [hq] at h4; exact mWhile_more h4 k
      | bk => rw [hq] at h4; exact h4
      | rt ev => rw [hq] at h4; exact h4
theorem mWhile_fuel {c : TM} {b : SM} {n : Nat} {L : Loc} {r : Out × Loc} (h : mWhile c b n L = some r) (hn : n ≤ fuelN) : mWhile c b fuelN L = some r := by
  obtain ⟨k, hk⟩ := Nat.exists_eq_add_of_le hn
  rw [hk]
  exact mWhile_more h k
section
variable {α : Type} [DecidableEq α] {next : α → List α}
theorem while_wl {c : TM} {b : SM} (st : List α → List α → Loc) (P : List α → List α → Prop) (hc : ∀ f s, P f s → c (st f s) = some (decide (0 < s.length), st f s))
    (h1 : ∀ f x s, P f (x :: s) → x ∈ f → b (st f (x :: s)) = some (.nx, st f s) ∧ P f s)
    (h2 : ∀ f x s, P f (x :: s) → x ∉ f → b (st f (x :: s)) = some (.nx, st (f ++ [x]) ((next x).reverse ++ s)) ∧ P (f ++ [x]) ((next x).reverse ++ s)) :
    ∀ (n : Nat) (f s r : List α), wl next n f s = some r → P f s → mWhile c b n (st f s) = some (.nx, st r []) ∧ P r []
  | 0, _, _, _, h, _ => by cases h
  | n + 1, f, [], r, h, hp => by
    have e : f = r := by simpa [wl] using h
    subst e
    exact ⟨mWhile_f (hc f [] hp), hp⟩
  | n + 1, f, x :: s, r, h, hp => by
    have hc' := hc f (x :: s) hp
    rw [List.length_cons, decide_eq_true (Nat.succ_pos _)] at hc'
    unfold wl at h
    by_cases hx : x ∈ f
    · rw [if_pos hx] at h
      obtain ⟨e1, e2⟩ := h1 f x s hp hx
      rw [mWhile_t hc' e1]
      exact while_wl st P hc h1 h2 n f s r h e2
    · rw [if_neg hx] at h
      obtain ⟨e1, e2⟩ := h2 f x s hp hx
      rw [mWhile_t hc' e1]
      exact while_wl st P hc h1 h2 n _ _ r h e2
/-- it ends -/
theorem wl_some {U : List α} {d : Nat} (hU : ∀ x ∈ U, (next x).length ≤ d ∧ ∀ y ∈ next x, y ∈ U) : ∀ (n : Nat) (f s : List α), f.Nodup → (∀ x ∈ f, x ∈ U) → (∀ x ∈ s, x ∈ U) → (U.length - f.length) * (d + 1) + s.length < n → ∃ r, wl next n f s = some r
  | 0, _, _, _, _, _, h => by omega
  | n + 1, f, [], _, _, _, _ => ⟨f, rfl⟩
  | n + 1, f, x :: s, hf, hfU, hsU, h => by
    rw [List.length_cons] at h
    unfold wl
    by_cases hx : x ∈ f
    · rw [if_pos hx]
      exact wl_some hU n f s hf hfU (fun y hy => hsU y (by simp [hy])) (by omega)
    · rw [if_neg hx]
      have hxU := hsU x (by simp)
      have hn : (f ++ [x]).Nodup := by
        rw [List.nodup_append]
        exact ⟨hf, by simp, fun a ha b hb => by rw [List.mem_singleton.mp hb]; exact fun e => hx (e ▸ ha)⟩
      have hlt : (f ++ [x]).length ≤ U.length := nodup_sub hn fun y hy => by
        rcases List.mem_append.mp hy with z | z
        · exact hfU y z
        · rw [List.mem_singleton.mp z]; exact hxU
      refine wl_some hU n _ _ hn (fun y hy => ?_) (fun y hy => ?_) ?_
      · rcases List.mem_append.mp hy with z | z
        · exact hfU y z
        · rw [List.mem_singleton.mp z]; exact hxU
      · rcases List.mem_append.mp hy with z | z
        · exact (hU x hxU).2 y (List.mem_reverse.mp z)
        · exact hsU y (by simp [z])
      · rw [List.length_append, List.length_singleton] at hlt ⊢
        rw [List.length_append, List.length_reverse]
        have h1 := (hU x hxU).1
        have h3 : U.length - f.length = (U.length - (f.length + 1)) + 1 := by omega
        rw [h3, Nat.add_mul] at h
        omega
/-- what holds of what is found -/
theorem wl_spec : ∀ {n : Nat} {f s r : List α}, wl next n f s = some r → f.Nodup → (∀ x ∈ f, ∀ y ∈ next x, y ∈ f ∨ y ∈ s) → r.Nodup ∧ (∀ x, x ∈ f ∨ x ∈ s → x ∈ r) ∧ ∀ x ∈ r, ∀ y ∈ next x, y ∈ r
  | 0, _, _, _, h, _, _ => by cases h
  | n + 1, f, [], r, h, hf, hc => by
    have e : f = r := by simpa [wl] using h
    subst e
    refine ⟨hf, fun x hx => ?_, fun x hx y hy => ?_⟩
    · simpa using hx
    · simpa using hc x hx y hy
  | n + 1, f, x :: s, r, h, hf, hc => by
    unfold wl at h
    by_cases hx : x ∈ f
    · rw [if_pos hx] at h
      obtain ⟨i1, i2, i3⟩ := wl_spec h hf fun a ha y hy => by
        rcases hc a ha y hy with z | z
        · exact .inl z
        · rcases List.mem_cons.mp z with z | z
          · exact .inl (z ▸ hx)
          · exact .inr z
      refine ⟨i1, fun a ha => i2 a ?_, i3⟩
      rcases ha with z | z
      · exact .inl z
      · rcases List.mem_cons.mp z with z | z
        · exact .inl (z ▸ hx)
        · exact .inr z
    · rw [if_neg hx] at h
      have hn : (f ++ [x]).Nodup := by
        rw [List.nodup_append]
        exact ⟨hf, by simp, fun a ha b hb => by rw [List.mem_singleton.mp hb]; exact fun e => hx (e ▸ ha)⟩
      obtain ⟨i1, i2, i3⟩ := wl_spec h hn fun a ha y hy => by
        rcases List.mem_append.mp ha with z | z
        · rcases hc a z y hy with z | z
          · exact .inl (List.mem_append_left _ z)
          · rcases List.mem_cons.mp z with z | z
            · exact .inl (List.mem_append_right _ (by simp [z]))
            · exact .inr (List.mem_append_right _ z)
        · rw [List.mem_singleton.mp z] at hy
          exact .inr (List.mem_append_left _ (List.mem_reverse.mpr hy))
      refine ⟨i1, fun a ha => i2 a ?_, i3⟩
      rcases ha with z | z
      · exact .inl (List.mem_append_left _ z)
      · rcases List.mem_cons.mp z with z | z
        · exact .inl (List.mem_append_right _ (by simp [z]))
        · exact .inr (List.mem_append_right _ z)
theorem wl_all {R : α → Prop} (hR : ∀ x, R x → ∀ y ∈ next x, R y) : ∀ {n : Nat} {f s r : List α}, wl next n f s = some r → (∀ x ∈ f, R x) → (∀ x ∈ s, R x) → ∀ x ∈ r, R x
  | 0, _, _, _, h, _, _ => by cases h
  | n + 1, f, [], r, h, hf, _ => by
    have e : f = r := by simpa [wl] using h
    subst e
    exact hf
  | n + 1, f, x :: s, r, h, hf, hs => by
    unfold wl at h
    by_cases hx : x ∈ f
    · rw [if_pos hx] at h
      exact wl_all hR h hf fun y hy => hs y (by simp [hy])
    · rw [if_neg hx] at h
      have hxR := hs x (by simp)
      refine wl_all hR h (fun y hy => ?_) (fun y hy => ?_)
      · rcases List.mem_append.mp hy with z | z
        · exact hf y z
        · rw [List.mem_singleton.mp z]; exact hxR
      · rcases List.mem_append.mp hy with z | z
        · exact hR x hxR y (List.mem_reverse.mp z)
        · exact hs y (by simp [z])
theorem wl_more : ∀ {n : Nat} {f s r : List α}, wl next n f s = some r → ∀ k, wl next (n + k) f s = some r
  | 0, _, _, _, h, _ => by cases h
  | n + 1, f, [], r, h, k => by
    have e : n + 1 + k = (n + k) + 1 := by omega
    rw [e]
    exact h
  | n + 1, f, x :: s, r, h, k => by
    have e : n + 1 + k = (n + k) + 1 := by omega
    rw [e]
    unfold wl at h ⊢
    by_cases hx : x ∈ f
    · rw [if_pos hx] at h ⊢; exact wl_more h k
    · rw [if_neg hx] at h ⊢; exact wl_more h k
end
end SS

/-! equality of data; data that can be compared -/
namespace SS
open PySem PySem.Spec PyProof.Rows L2

theorem str_arr {x y : List Nat} : (⟨x.toArray⟩ : Str) = ⟨y.toArray⟩ ↔ x = y := by
  constructor
  · intro h
    have : x.toArray = y.toArray := by injection h
    simpa using this
  · rintro rfl; rfl
theorem deq_str (x y : Wd) : deq (.str x) (.str y) = decide (x = y) := by
  unfold deq
  simp only [py, PyData.eqv]
  by_cases h : x = y
  · subst h; simp
  · rw [decide_eq_false h]
    exact beq_eq_false_iff_ne.mpr fun e => h (str_arr.mp e)
theorem deq_int (x y : Int) : deq (.int x) (.int y) = decide (x = y) := by
  unfold deq
  simp only [py, PyData.eqv]
  by_cases h : x = y
  · subst h; simp
  · rw [decide_eq_false h]
    exact beq_eq_false_iff_ne.mpr h
theorem deq_bl (x y : Bool) : deq (.bl x) (.bl y) = decide (x = y) := by
  unfold deq
  simp only [py, PyData.eqv]
  cases x <;> cases y <;> rfl
def deqs (a b : List D) : Bool := PyData.eqvAll (pys a) (pys b)
theorem deq_tup (a b : List D) : deq (.tup a) (.tup b) = deqs a b := by unfold deq deqs; simp only [py, PyData.eqv]
theorem deq_lst (a b : List D) : deq (.lst a) (.lst b) = deqs a b := by unfold deq deqs; simp only [py, PyData.eqv]
theorem deqs_nil : deqs [] [] = true := rfl
theorem deqs_nc (x : D) (a : List D) : deqs [] (x :: a) = false := rfl
theorem deqs_cn (x : D) (a : List D) : deqs (x :: a) [] = false := rfl
theorem deqs_cons (x y : D) (a b : List D) : deqs (x :: a) (y :: b) = (deq x y && deqs a b) := by unfold deqs deq; simp only [pys, PyData.eqvAll]
theorem deqs_map {α : Type} [DecidableEq α] {enc : α → D} (h : ∀ x y, deq (enc x) (enc y) = decide (x = y)) : ∀ a b : List α, deqs (a.map enc) (b.map enc) = decide (a = b)
  | [], [] => by simp [deqs_nil]
  | [], y :: b => by simp [deqs_nc]
  | x :: a, [] => by simp [deqs_cn]
  | x :: a, y :: b => by
    rw [List.map_cons, List.map_cons, deqs_cons, h, deqs_map h a b]
    by_cases h1 : x = y <;> by_cases h2 : a = b <;> simp [h1, h2]
theorem deq_dB (a b : List Bool) : deq (dB a) (dB b) = decide (a = b) := by
  unfold dB
  rw [deq_tup, deqs_map deq_bl]
theorem deq_dSt1 (a b : RSt) : deq (dSt1 a) (dSt1 b) = decide (a = b) := by
  unfold dSt1
  rw [deq_tup, deqs_cons, deqs_cons, deqs_nil, deq_dB, deq_dB, Bool.and_true]
  by_cases h1 : a.1 = b.1 <;> by_cases h2 : a.2 = b.2 <;> simp [h1, h2, Prod.ext_iff]
theorem deq_dSt (a b : List RSt) : deq (dSt a) (dSt b) = decide (a = b) := by
  unfold dSt
  rw [deq_tup, deqs_map deq_dSt1]
/-! ### what can be compared -/
structure Fine (n : Nat) (d : D) : Prop where
  pl : plOk d = true
  dp : dpt d ≤ n
theorem Fine.cok {n : Nat} {d : D} (h : Fine n d) (hn : n ≤ 60 := by decide) : cok d = true := by
  unfold SS.cok
  rw [h.pl, Bool.true_and]
  exact decide_eq_true (Nat.le_trans h.dp hn)
theorem Fine.mono {n m : Nat} {d : D} (h : Fine n d) (hn : n ≤ m) : Fine m d := ⟨h.pl, Nat.le_trans h.dp hn⟩
theorem fine_int (i : Int) : Fine 0 (.int i) := ⟨rfl, Nat.le_refl _⟩
theorem fine_bl (b : Bool) : Fine 0 (.bl b) := ⟨rfl, Nat.le_refl _⟩
theorem fine_non : Fine 0 .non := ⟨rfl, Nat.le_refl _⟩
theorem fine_str {x : Wd} (h : ∀ c ∈ x, c < 0x110000) : Fine 0 (.str x) := ⟨by simpa [plOk] using h, Nat.le_refl _⟩
theorem fines {n : Nat} : ∀ {l : List D}, (∀ x ∈ l, Fine n x) → plOks l = true ∧ dpts l ≤ n
  | [], _ => ⟨rfl, Nat.zero_le _⟩
  | x :: l, h => by
    obtain ⟨h1, h2⟩ := fines (l := l) fun y hy => h y (by simp [hy])
    have h3 := h x (by simp)
    exact ⟨by simp only [plOks, h3.pl, h1, Bool.and_self], by simp only [dpts]; exact Nat.max_le.mpr ⟨h3.dp, h2⟩⟩
theorem fine_tup {n : Nat} {l : List D} (h : ∀ x ∈ l, Fine n x) : Fine (n + 1) (.tup l) := by
  obtain ⟨h1, h2⟩ := fines h
  exact ⟨by simp only [plOk, h1], by simp only [dpt]; omega⟩
theorem fine_lst {n : Nat} {l : List D} (h : ∀ x ∈ l, Fine n x) : Fine (n + 1) (.lst l) := by
  obtain ⟨h1, h2⟩ := fines h
  exact ⟨by simp only [plOk, h1], by simp only [dpt]; omega⟩
theorem fine_map {α : Type} {enc : α → D} {n : Nat} {l : List α} (h : ∀ x ∈ l, Fine n (enc x)) : ∀ d ∈ l.map enc, Fine n d := fun d hd => by
  obtain ⟨x, hx, rfl⟩ := List.mem_map.mp hd
  exact h x hx
theorem fine_dB (a : List Bool) : Fine 1 (dB a) := fine_tup (fine_map fun b _ => fine_bl b)
theorem fine_dSt1 (s : RSt) : Fine 2 (dSt1 s) := fine_tup fun x hx => by
  simp only [List.mem_cons, List.not_mem_nil, or_false] at hx
  rcases hx with rfl | rfl
  · exact fine_dB _
  · exact fine_dB _
theorem fine_dSt (s : List RSt) : Fine 3 (dSt s) := fine_tup (fine_map fun b _ => fine_dSt1 b)
theorem cok_int (i : Int) : cok (.int i) = true := (fine_int i).cok
theorem cok_bl (b : Bool) : cok (.bl b) = true := (fine_bl b).cok
theorem cok_dB (a : List Bool) : cok (dB a) = true := (fine_dB a).cok
theorem cok_chr {c : Nat} (h : c < 0x110000) : cok (.str [c]) = true := (fine_str fun x hx => by rw [List.mem_singleton.mp hx]; exact h).cok
/-- membership -/
theorem any_deq {α : Type} [DecidableEq α] {enc : α → D} (h : ∀ x y, deq (enc x) (enc y) = decide (x = y)) (l : List α) (x : α) : ((l.map enc).any fun z => deq z (enc x)) = decide (x ∈ l) := by
  induction l with
  | nil => simp
  | cons y l ih =>
    rw [List.map_cons, List.any_cons, ih, h]
    by_cases e : y = x
    · subst e; simp
    · have e2 : ¬ x = y := fun z => e z.symm
      simp [e, e2]
theorem enumD_enc {α : Type} (enc : α → D) (l : List α) : enumD (l.map enc) = l.zipIdx.map fun p => .row [.int (p.2 : Nat), enc p.1] := by
  unfold enumD
  rw [List.zipIdx_map, List.map_map]
  rfl
theorem zipD_enc {α β : Type} (e1 : α → D) (e2 : β → D) (l : List α) (m : List β) : zipD (l.map e1) (m.map e2) = (l.zip m).map fun p => .row [e1 p.1, e2 p.2] := by
  unfold zipD
  rw [List.zip_map, List.map_map]
  rfl
theorem strsOf_map : ∀ l : List Wd, strsOf (l.map D.str) = some l
  | [] => rfl
  | x :: l => by simp only [List.map_cons, strsOf, strsOf_map l, Option.map_some]
theorem blsOf_map : ∀ l : List Bool, blsOf (l.map D.bl) = some l
  | [] => rfl
  | x :: l => by simp only [List.map_cons, blsOf, blsOf_map l, Option.map_some]
/-! ### what stands for what -/
theorem asStr_dB (a : List Bool) : asStr (.fro (dB a)) = none := rfl
theorem asInt_dB (a : List Bool) : asInt (.fro (dB a)) = none := rfl
theorem asBl_dB (a : List Bool) : asBl (.fro (dB a)) = none := rfl
theorem asTup_dB (a : List Bool) : asTup (.fro (dB a)) = some (a.map D.bl) := rfl
theorem contL_dB (a : List Bool) (L : Loc) : contL (.fro (dB a)) L = none := rfl
theorem asStr_dSt1 (a : RSt) : asStr (.fro (dSt1 a)) = none := rfl
theorem asInt_dSt1 (a : RSt) : asInt (.fro (dSt1 a)) = none := rfl
theorem asBl_dSt1 (a : RSt) : asBl (.fro (dSt1 a)) = none := rfl
theorem asTup_dSt1 (a : RSt) : asTup (.fro (dSt1 a)) = some ([dB a.1, dB a.2]) := rfl
theorem contL_dSt1 (a : RSt) (L : Loc) : contL (.fro (dSt1 a)) L = none := rfl
theorem asStr_dSt (a : List RSt) : asStr (.fro (dSt a)) = none := rfl
theorem asInt_dSt (a : List RSt) : asInt (.fro (dSt a)) = none := rfl
theorem asBl_dSt (a : List RSt) : asBl (.fro (dSt a)) = none := rfl
theorem asTup_dSt (a : List RSt) : asTup (.fro (dSt a)) = some (a.map dSt1) := rfl
theorem contL_dSt (a : List RSt) (L : Loc) : contL (.fro (dSt a)) L = none := rfl
theorem asStr_dSl (a : List Wd) : asStr (.fro (dSl a)) = none := rfl
theorem asInt_dSl (a : List Wd) : asInt (.fro (dSl a)) = none := rfl
theorem asBl_dSl (a : List Wd) : asBl (.fro (dSl a)) = none := rfl
theorem asTup_dSl (a : List Wd) : asTup (.fro (dSl a)) = some (a.map D.str) := rfl
theorem contL_dSl (a : List Wd) (L : Loc) : contL (.fro (dSl a)) L = none := rfl
theorem asStr_dCh (a : List (Nat × Wd)) : asStr (.fro (dCh a)) = none := rfl
theorem asInt_dCh (a : List (Nat × Wd)) : asInt (.fro (dCh a)) = none := rfl
theorem asBl_dCh (a : List (Nat × Wd)) : asBl (.fro (dCh a)) = none := rfl
theorem asTup_dCh (a : List (Nat × Wd)) : asTup (.fro (dCh a)) = some (a.map encP) := rfl
theorem contL_dCh (a : List (Nat × Wd)) (L : Loc) : contL (.fro (dCh a)) L = none := rfl
theorem asStr_dRl (a : Rl) : asStr (.fro (dRl a)) = none := rfl
theorem asInt_dRl (a : Rl) : asInt (.fro (dRl a)) = none := rfl
theorem asBl_dRl (a : Rl) : asBl (.fro (dRl a)) = none := rfl
theorem asTup_dRl (a : Rl) : asTup (.fro (dRl a)) = some ([dCh a.ch, dSl a.be, dSl a.bh]) := rfl
theorem contL_dRl (a : Rl) (L : Loc) : contL (.fro (dRl a)) L = none := rfl
theorem asStr_dHi (a : List Rl) : asStr (.fro (dHi a)) = none := rfl
theorem asInt_dHi (a : List Rl) : asInt (.fro (dHi a)) = none := rfl
theorem asBl_dHi (a : List Rl) : asBl (.fro (dHi a)) = none := rfl
theorem asTup_dHi (a : List Rl) : asTup (.fro (dHi a)) = some (a.map dRl) := rfl
theorem contL_dHi (a : List Rl) (L : Loc) : contL (.fro (dHi a)) L = none := rfl
theorem asStr_encP (a : Nat × Wd) : asStr (.fro (encP a)) = none := rfl
theorem asInt_encP (a : Nat × Wd) : asInt (.fro (encP a)) = none := rfl
theorem asBl_encP (a : Nat × Wd) : asBl (.fro (encP a)) = none := rfl
theorem asTup_encP (a : Nat × Wd) : asTup (.fro (encP a)) = some ([.str [a.1], .str a.2]) := rfl
theorem contL_encP (a : Nat × Wd) (L : Loc) : contL (.fro (encP a)) L = none := rfl
theorem asStr_encRO (a : RSt × Wd) : asStr (.fro (encRO a)) = none := rfl
theorem asInt_encRO (a : RSt × Wd) : asInt (.fro (encRO a)) = none := rfl
theorem asBl_encRO (a : RSt × Wd) : asBl (.fro (encRO a)) = none := rfl
theorem asTup_encRO (a : RSt × Wd) : asTup (.fro (encRO a)) = some ([dSt1 a.1, .str a.2]) := rfl
theorem contL_encRO (a : RSt × Wd) (L : Loc) : contL (.fro (encRO a)) L = none := rfl
theorem asStr_encSO (a : List RSt × Wd) : asStr (.fro (encSO a)) = none := rfl
theorem asInt_encSO (a : List RSt × Wd) : asInt (.fro (encSO a)) = none := rfl
theorem asBl_encSO (a : List RSt × Wd) : asBl (.fro (encSO a)) = none := rfl
theorem asTup_encSO (a : List RSt × Wd) : asTup (.fro (encSO a)) = some ([dSt a.1, .str a.2]) := rfl
theorem contL_encSO (a : List RSt × Wd) (L : Loc) : contL (.fro (encSO a)) L = none := rfl
end SS

/-! what the rules' defs compute -/
namespace SS
open PySem PySem.Spec PyProof.Rows L2

/-- the sound at a place, or the edge -/
def chAt (w : Wd) (z : Int) : Nat := if 0 ≤ z ∧ z < w.length then w.getD z.toNat 35 else 35
def shG (w : Wd) (p : Int) : Nat → List Wd → Bool
  | _, [] => true
  | k, x :: r => decide (chAt w (p + k) ∈ x) && shG w p (k + 1) r
theorem shG_all (w : Wd) (p : Int) : ∀ (l : List Wd) (k : Nat), (l.zipIdx k).all (fun q => decide (chAt w (p + (q.2 : Nat)) ∈ q.1)) = shG w p k l
  | [], _ => rfl
  | x :: l, k => by rw [List.zipIdx_cons, List.all_cons, shG_all w p l (k + 1)]; rfl
theorem at_nat {w : Wd} {z : Int} (h0 : 0 ≤ z) (h1 : z < w.length) : atI w z = some (chAt w z) := by
  obtain ⟨n, rfl⟩ : ∃ n : Nat, z = n := ⟨z.toNat, by omega⟩
  have hl : n < w.length := by omega
  unfold chAt
  rw [if_pos ⟨h0, h1⟩, atI0, List.getElem?_eq_getElem hl]
  simp [hl]
theorem sh_step {w : Wd} (hw : w.length ≤ LIM) {p : Int} {x0 : D} {x : Wd} {k : Nat} :
    ∃ L2, (g_slots_hold1 (.row [.int k, .str x]) [.fro (.str w), .fro (.int p), .fro x0, .none, .none, .none, .none]).bind b_slots_hold1 = some (if chAt w (p + k) ∈ x then .nx else .rt (.fro (.bl false)), if chAt w (p + k) ∈ x then [.fro (.str w), .fro (.int p), .fro x0, .none, .none, .none, .none] else L2) := by
  by_cases c0 : 0 ≤ p + k ∧ p + k < w.length
  · by_cases c1 : chAt w (p + k) ∈ x
    · simp [mW, noPin, wipeL, restL, mDNew, List.foldr_cons, List.foldr_nil, List.all_cons, List.all_nil, runF, runP, startL, startP, outD, frz1, mSeq, mNx, mRet, mIfS, mSet, mAsg, mPar', mApp, mExt, mPop, mSetIx, mAug, mFor, mT, mAnd, mOr, mNot, mAndV, mOrV, mNotV, mIf, mB0, mB1, mB2, mBN, mNil, mCons, mF, mVar, mC, mTup, mLst, mSl, mNo, mSo, mMeth, mEnum, mZip, mRng1, mRng2, inRng_3, inRng_4, inRng_6, mSeq1, mTT, opB, opI, opAdd, opIx, opLen, opTuple, opList, opInt, opMin, opAllAny, opJoin, opSl, opDict, opKGet, mGet2, opNeg, opMach, opSounds, opHist, mCh, inE, ninE, eqE, neE, isMach, callF, callP, pu1, pu2, puN, iCmp, frosOf, put, pin_fro, pin_non, pin_own, gN, gNil', gCons', gTup', lstOf, setL, ownOf, isLoc, locIs, mElt, mInn, mLcG, cT, cPos, Option.bind_some, Option.bind_none, Option.map_some, Option.map_none, List.getElem?_cons_zero, List.getElem?_cons_succ, List.set_cons_zero, List.set_cons_succ, List.map_cons, List.map_nil, List.length_cons, List.length_nil, List.cons_append, List.nil_append, List.replicate_succ, List.replicate_zero, asInt__fro_int, asInt__fro_str, asInt__fro_bl, asInt__fro_tup, asInt__fro_row, asInt__fro_lst, asInt__fro_non, asInt__fro_mach, asInt__fro_obj, asInt__tmp, asInt__tmpk, asInt__tmpd, asInt__loc, asStr__fro_int, asStr__fro_str, asStr__fro_bl, asStr__fro_tup, asStr__fro_row, asStr__fro_lst, asStr__fro_non, asStr__fro_mach, asStr__fro_obj, asStr__tmp, asStr__tmpk, asStr__tmpd, asStr__loc, asBl__fro_int, asBl__fro_str, asBl__fro_bl, asBl__fro_tup, asBl__fro_row, asBl__fro_lst, asBl__fro_non, asBl__fro_mach, asBl__fro_obj, asBl__tmp, asBl__tmpk, asBl__tmpd, asBl__loc, asTup__fro_int, asTup__fro_str, asTup__fro_bl, asTup__fro_tup, asTup__fro_row, asTup__fro_lst, asTup__fro_non, asTup__fro_mach, asTup__fro_obj, asTup__tmp, asTup__tmpk, asTup__tmpd, asTup__loc, contL__fro_int, contL__fro_str, contL__fro_bl, contL__fro_tup, contL__fro_row, contL__fro_lst, contL__fro_non, contL__fro_mach, contL__fro_obj, contL__tmp, contL__tmpk, contL__tmpd, contK__fro_int, contK__fro_str, contK__fro_bl, contK__fro_tup, contK__fro_row, contK__fro_lst, contK__fro_non, contK__fro_mach, contK__fro_obj, contK__tmp, contK__tmpk, contK__tmpd, contL__loc, lvL__own, lvL__pin, lvL__fro, lvL__k, lvL__d, contK__loc, kOf, g_slots_hold1, b_slots_hold1, hw, c0.1, c0.2, at_nat c0.1 c0.2, c1]
    · simp [mW, noPin, wipeL, restL, mDNew, List.foldr_cons, List.foldr_nil, List.all_cons, List.all_nil, runF, runP, startL, startP, outD, frz1, mSeq, mNx, mRet, mIfS, mSet, mAsg, mPar', mApp, mExt, mPop, mSetIx, mAug, mFor, mT, mAnd, mOr, mNot, mAndV, mOrV, mNotV, mIf, mB0, mB1, mB2, mBN, mNil, mCons, mF, mVar, mC, mTup, mLst, mSl, mNo, mSo, mMeth, mEnum, mZip, mRng1, mRng2, inRng_3, inRng_4, inRng_6, mSeq1, mTT, opB, opI, opAdd, opIx, opLen, opTuple, opList, opInt, opMin, opAllAny, opJoin, opSl, opDict, opKGet, mGet2, opNeg, opMach, opSounds, opHist, mCh, inE, ninE, eqE, neE, isMach, callF, callP, pu1, pu2, puN, iCmp, frosOf, put, pin_fro, pin_non, pin_own, gN, gNil', gCons', gTup', lstOf, setL, ownOf, isLoc, locIs, mElt, mInn, mLcG, cT, cPos, Option.bind_some, Option.bind_none, Option.map_some, Option.map_none, List.getElem?_cons_zero, List.getElem?_cons_succ, List.set_cons_zero, List.set_cons_succ, List.map_cons, List.map_nil, List.length_cons, List.length_nil, List.cons_append, List.nil_append, List.replicate_succ, List.replicate_zero, asInt__fro_int, asInt__fro_str, asInt__fro_bl, asInt__fro_tup, asInt__fro_row, asInt__fro_lst, asInt__fro_non, asInt__fro_mach, asInt__fro_obj, asInt__tmp, asInt__tmpk, asInt__tmpd, asInt__loc, asStr__fro_int, asStr__fro_str, asStr__fro_bl, asStr__fro_tup, asStr__fro_row, asStr__fro_lst, asStr__fro_non, asStr__fro_mach, asStr__fro_obj, asStr__tmp, asStr__tmpk, asStr__tmpd, asStr__loc, asBl__fro_int, asBl__fro_str, asBl__fro_bl, asBl__fro_tup, asBl__fro_row, asBl__fro_lst, asBl__fro_non, asBl__fro_mach, asBl__fro_obj, asBl__tmp, asBl__tmpk, asBl__tmpd, asBl__loc, asTup__fro_int, asTup__fro_str, asTup__fro_bl, asTup__fro_tup, asTup__fro_row, asTup__fro_lst, asTup__fro_non, asTup__fro_mach, asTup__fro_obj, asTup__tmp, asTup__tmpk, asTup__tmpd, asTup__loc, contL__fro_int, contL__fro_str, contL__fro_bl, contL__fro_tup, contL__fro_row, contL__fro_lst, contL__fro_non, contL__fro_mach, contL__fro_obj, contL__tmp, contL__tmpk, contL__tmpd, contK__fro_int, contK__fro_str, contK__fro_bl, contK__fro_tup, contK__fro_row, contK__fro_lst, contK__fro_non, contK__fro_mach, contK__fro_obj, contK__tmp, contK__tmpk, contK__tmpd, contL__loc, lvL__own, lvL__pin, lvL__fro, lvL__k, lvL__d, contK__loc, kOf, g_slots_hold1, b_slots_hold1, hw, c0.1, c0.2, at_nat c0.1 c0.2, c1]
  · have ec : chAt w (p + k) = 35 := by unfold chAt; rw [if_neg c0]
    rw [ec]
    by_cases c2 : 0 ≤ p + k
    · have c3 : ¬ p + k < w.length := fun z => c0 ⟨c2, z⟩
      by_cases c1 : 35 ∈ x
      · simp [mW, noPin, wipeL, restL, mDNew, List.foldr_cons, List.foldr_nil, List.all_cons, List.all_nil, runF, runP, startL, startP, outD, frz1, mSeq, mNx, mRet, mIfS, mSet, mAsg, mPar', mApp, mExt, mPop, mSetIx, mAug, mFor, mT, mAnd, mOr, mNot, mAndV, mOrV, mNotV, mIf, mB0, mB1, mB2, mBN, mNil, mCons, mF, mVar, mC, mTup, mLst, mSl, mNo, mSo, mMeth, mEnum, mZip, mRng1, mRng2, inRng_3, inRng_4, inRng_6, mSeq1, mTT, opB, opI, opAdd, opIx, opLen, opTuple, opList, opInt, opMin, opAllAny, opJoin, opSl, opDict, opKGet, mGet2, opNeg, opMach, opSounds, opHist, mCh, inE, ninE, eqE, neE, isMach, callF, callP, pu1, pu2, puN, iCmp, frosOf, put, pin_fro, pin_non, pin_own, gN, gNil', gCons', gTup', lstOf, setL, ownOf, isLoc, locIs, mElt, mInn, mLcG, cT, cPos, Option.bind_some, Option.bind_none, Option.map_some, Option.map_none, List.getElem?_cons_zero, List.getElem?_cons_succ, List.set_cons_zero, List.set_cons_succ, List.map_cons, List.map_nil, List.length_cons, List.length_nil, List.cons_append, List.nil_append, List.replicate_succ, List.replicate_zero, asInt__fro_int, asInt__fro_str, asInt__fro_bl, asInt__fro_tup, asInt__fro_row, asInt__fro_lst, asInt__fro_non, asInt__fro_mach, asInt__fro_obj, asInt__tmp, asInt__tmpk, asInt__tmpd, asInt__loc, asStr__fro_int, asStr__fro_str, asStr__fro_bl, asStr__fro_tup, asStr__fro_row, asStr__fro_lst, asStr__fro_non, asStr__fro_mach, asStr__fro_obj, asStr__tmp, asStr__tmpk, asStr__tmpd, asStr__loc, asBl__fro_int, asBl__fro_str, asBl__fro_bl, asBl__fro_tup, asBl__fro_row, asBl__fro_lst, asBl__fro_non, asBl__fro_mach, asBl__fro_obj, asBl__tmp, asBl__tmpk, asBl__tmpd, asBl__loc, asTup__fro_int, asTup__fro_str, asTup__fro_bl, asTup__fro_tup, asTup__fro_row, asTup__fro_lst, asTup__fro_non, asTup__fro_mach, asTup__fro_obj, asTup__tmp, asTup__tmpk, asTup__tmpd, asTup__loc, contL__fro_int, contL__fro_str, contL__fro_bl, contL__fro_tup, contL__fro_row, contL__fro_lst, contL__fro_non, contL__fro_mach, contL__fro_obj, contL__tmp, contL__tmpk, contL__tmpd, contK__fro_int, contK__fro_str, contK__fro_bl, contK__fro_tup, contK__fro_row, contK__fro_lst, contK__fro_non, contK__fro_mach, contK__fro_obj, contK__tmp, contK__tmpk, contK__tmpd, contL__loc, lvL__own, lvL__pin, lvL__fro, lvL__k, lvL__d, contK__loc, kOf, g_slots_hold1, b_slots_hold1, hw, c2, c3, c1]
      · simp [mW, noPin, wipeL, restL, mDNew, List.foldr_cons, List.foldr_nil, List.all_cons, List.all_nil, runF, runP, startL, startP, outD, frz1, mSeq, mNx, mRet, mIfS, mSet, mAsg, mPar', mApp, mExt, mPop, mSetIx, mAug, mFor, mT, mAnd, mOr, mNot, mAndV, mOrV, mNotV, mIf, mB0, mB1, mB2, mBN, mNil, mCons, mF, mVar, mC, mTup, mLst, mSl, mNo, mSo, mMeth, mEnum, mZip, mRng1, mRng2, inRng_3, inRng_4, inRng_6, mSeq1, mTT, opB, opI, opAdd, opIx, opLen, opTuple, opList, opInt, opMin, opAllAny, opJoin, opSl, opDict, opKGet, mGet2, opNeg, opMach, opSounds, opHist, mCh, inE, ninE, eqE, neE, isMach, callF, callP, pu1, pu2, puN, iCmp, frosOf, put, pin_fro, pin_non, pin_own, gN, gNil', gCons', gTup', lstOf, setL, ownOf, isLoc, locIs, mElt, mInn, mLcG, cT, cPos, Option.bind_some, Option.bind_none, Option.map_some, Option.map_none, List.getElem?_cons_zero, List.getElem?_cons_succ, List.set_cons_zero, List.set_cons_succ, List.map_cons, List.map_nil, List.length_cons, List.length_nil, List.cons_append, List.nil_append, List.replicate_succ, List.replicate_zero, asInt__fro_int, asInt__fro_str, asInt__fro_bl, asInt__fro_tup, asInt__fro_row, asInt__fro_lst, asInt__fro_non, asInt__fro_mach, asInt__fro_obj, asInt__tmp, asInt__tmpk, asInt__tmpd, asInt__loc, asStr__fro_int, asStr__fro_str, asStr__fro_bl, asStr__fro_tup, asStr__fro_row, asStr__fro_lst, asStr__fro_non, asStr__fro_mach, asStr__fro_obj, asStr__tmp, asStr__tmpk, asStr__tmpd, asStr__loc, asBl__fro_int, asBl__fro_str, asBl__fro_bl, asBl__fro_tup, asBl__fro_row, asBl__fro_lst, asBl__fro_non, asBl__fro_mach, asBl__fro_obj, asBl__tmp, asBl__tmpk, asBl__tmpd, asBl__loc, asTup__fro_int, asTup__fro_str, asTup__fro_bl, asTup__fro_tup, asTup__fro_row, asTup__fro_lst, asTup__fro_non, asTup__fro_mach, asTup__fro_obj, asTup__tmp, asTup__tmpk, asTup__tmpd, asTup__loc, contL__fro_int, contL__fro_str, contL__fro_bl, contL__fro_tup, contL__fro_row, contL__fro_lst, contL__fro_non, contL__fro_mach, contL__fro_obj, contL__tmp, contL__tmpk, contL__tmpd, contK__fro_int, contK__fro_str, contK__fro_bl, contK__fro_tup, contK__fro_row, contK__fro_lst, contK__fro_non, contK__fro_mach, contK__fro_obj, contK__tmp, contK__tmpk, contK__tmpd, contL__loc, lvL__own, lvL__pin, lvL__fro, lvL__k, lvL__d, contK__loc, kOf, g_slots_hold1, b_slots_hold1, hw, c2, c3, c1]
    · by_cases c1 : 35 ∈ x
      · simp [mW, noPin, wipeL, restL, mDNew, List.foldr_cons, List.foldr_nil, List.all_cons, List.all_nil, runF, runP, startL, startP, outD, frz1, mSeq, mNx, mRet, mIfS, mSet, mAsg, mPar', mApp, mExt, mPop, mSetIx, mAug, mFor, mT, mAnd, mOr, mNot, mAndV, mOrV, mNotV, mIf, mB0, mB1, mB2, mBN, mNil, mCons, mF, mVar, mC, mTup, mLst, mSl, mNo, mSo, mMeth, mEnum, mZip, mRng1, mRng2, inRng_3, inRng_4, inRng_6, mSeq1, mTT, opB, opI, opAdd, opIx, opLen, opTuple, opList, opInt, opMin, opAllAny, opJoin, opSl, opDict, opKGet, mGet2, opNeg, opMach, opSounds, opHist, mCh, inE, ninE, eqE, neE, isMach, callF, callP, pu1, pu2, puN, iCmp, frosOf, put, pin_fro, pin_non, pin_own, gN, gNil', gCons', gTup', lstOf, setL, ownOf, isLoc, locIs, mElt, mInn, mLcG, cT, cPos, Option.bind_some, Option.bind_none, Option.map_some, Option.map_none, List.getElem?_cons_zero, List.getElem?_cons_succ, List.set_cons_zero, List.set_cons_succ, List.map_cons, List.map_nil, List.length_cons, List.length_nil, List.cons_append, List.nil_append, List.replicate_succ, List.replicate_zero, asInt__fro_int, asInt__fro_str, asInt__fro_bl, asInt__fro_tup, asInt__fro_row, asInt__fro_lst, asInt__fro_non, asInt__fro_mach, asInt__fro_obj, asInt__tmp, asInt__tmpk, asInt__tmpd, asInt__loc, asStr__fro_int, asStr__fro_str, asStr__fro_bl, asStr__fro_tup, asStr__fro_row, asStr__fro_lst, asStr__fro_non, asStr__fro_mach, asStr__fro_obj, asStr__tmp, asStr__tmpk, asStr__tmpd, asStr__loc, asBl__fro_int, asBl__fro_str, asBl__fro_bl, asBl__fro_tup, asBl__fro_row, asBl__fro_lst, asBl__fro_non, asBl__fro_mach, asBl__fro_obj, asBl__tmp, asBl__tmpk, asBl__tmpd, asBl__loc, asTup__fro_int, asTup__fro_str, asTup__fro_bl, asTup__fro_tup, asTup__fro_row, asTup__fro_lst, asTup__fro_non, asTup__fro_mach, asTup__fro_obj, asTup__tmp, asTup__tmpk, asTup__tmpd, asTup__loc, contL__fro_int, contL__fro_str, contL__fro_bl, contL__fro_tup, contL__fro_row, contL__fro_lst, contL__fro_non, contL__fro_mach, contL__fro_obj, contL__tmp, contL__tmpk, contL__tmpd, contK__fro_int, contK__fro_str, contK__fro_bl, contK__fro_tup, contK__fro_row, contK__fro_lst, contK__fro_non, contK__fro_mach, contK__fro_obj, contK__tmp, contK__tmpk, contK__tmpd, contL__loc, lvL__own, lvL__pin, lvL__fro, lvL__k, lvL__d, contK__loc, kOf, g_slots_hold1, b_slots_hold1, hw, c2, c1]
      · simp [mW, noPin, wipeL, restL, mDNew, List.foldr_cons, List.foldr_nil, List.all_cons, List.all_nil, runF, runP, startL, startP, outD, frz1, mSeq, mNx, mRet, mIfS, mSet, mAsg, mPar', mApp, mExt, mPop, mSetIx, mAug, mFor, mT, mAnd, mOr, mNot, mAndV, mOrV, mNotV, mIf, mB0, mB1, mB2, mBN, mNil, mCons, mF, mVar, mC, mTup, mLst, mSl, mNo, mSo, mMeth, mEnum, mZip, mRng1, mRng2, inRng_3, inRng_4, inRng_6, mSeq1, mTT, opB, opI, opAdd, opIx, opLen, opTuple, opList, opInt, opMin, opAllAny, opJoin, opSl, opDict, opKGet, mGet2, opNeg, opMach, opSounds, opHist, mCh, inE, ninE, eqE, neE, isMach, callF, callP, pu1, pu2, puN, iCmp, frosOf, put, pin_fro, pin_non, pin_own, gN, gNil', gCons', gTup', lstOf, setL, ownOf, isLoc, locIs, mElt, mInn, mLcG, cT, cPos, Option.bind_some, Option.bind_none, Option.map_some, Option.map_none, List.getElem?_cons_zero, List.getElem?_cons_succ, List.set_cons_zero, List.set_cons_succ, List.map_cons, List.map_nil, List.length_cons, List.length_nil, List.cons_append, List.nil_append, List.replicate_succ, List.replicate_zero, asInt__fro_int, asInt__fro_str, asInt__fro_bl, asInt__fro_tup, asInt__fro_row, asInt__fro_lst, asInt__fro_non, asInt__fro_mach, asInt__fro_obj, asInt__tmp, asInt__tmpk, asInt__tmpd, asInt__loc, asStr__fro_int, asStr__fro_str, asStr__fro_bl, asStr__fro_tup, asStr__fro_row, asStr__fro_lst, asStr__fro_non, asStr__fro_mach, asStr__fro_obj, asStr__tmp, asStr__tmpk, asStr__tmpd, asStr__loc, asBl__fro_int, asBl__fro_str, asBl__fro_bl, asBl__fro_tup, asBl__fro_row, asBl__fro_lst, asBl__fro_non, asBl__fro_mach, asBl__fro_obj, asBl__tmp, asBl__tmpk, asBl__tmpd, asBl__loc, asTup__fro_int, asTup__fro_str, asTup__fro_bl, asTup__fro_tup, asTup__fro_row, asTup__fro_lst, asTup__fro_non, asTup__fro_mach, asTup__fro_obj, asTup__tmp, asTup__tmpk, asTup__tmpd, asTup__loc, contL__fro_int, contL__fro_str, contL__fro_bl, contL__fro_tup, contL__fro_row, contL__fro_lst, contL__fro_non, contL__fro_mach, contL__fro_obj, contL__tmp, contL__tmpk, contL__tmpd, contK__fro_int, contK__fro_str, contK__fro_bl, contK__fro_tup, contK__fro_row, contK__fro_lst, contK__fro_non, contK__fro_mach, contK__fro_obj, contK__tmp, contK__tmpk, contK__tmpd, contL__loc, lvL__own, lvL__pin, lvL__fro, lvL__k, lvL__d, contK__loc, kOf, g_slots_hold1, b_slots_hold1, hw, c2, c1]
theorem ev_slots_hold {w : Wd} (hw : w.length ≤ LIM) {p : Int} {s : List Wd} : F_slots_hold [.str w, .int p, dSl s] = some (.bl (shG w p 0 s)) := by
  obtain ⟨h1, h2⟩ := forR_all (g := g_slots_hold1) (m := b_slots_hold1) (enc := fun q : Wd × Nat => .row [.int (q.2 : Nat), .str q.1]) (p := fun q => decide (chAt w (p + (q.2 : Nat)) ∈ q.1)) (ev := .fro (.bl false)) (L := [.fro (.str w), .fro (.int p), .fro (dSl s), .none, .none, .none, .none]) s.zipIdx fun q _ => by
    obtain ⟨L2, h⟩ := sh_step hw (p := p) (x0 := dSl s) (x := q.1) (k := q.2)
    refine ⟨fun hp => ?_, fun hp => ?_⟩
    · have hp := of_decide_eq_true hp
      rw [if_pos hp, if_pos hp] at h
      exact h
    · have hp := of_decide_eq_false hp
      rw [if_neg hp, if_neg hp] at h
      exact ⟨L2, h⟩
  rw [shG_all] at h1 h2
  unfold F_slots_hold m_slots_hold
  unfold dSl at h1 h2 ⊢
  cases hs : shG w p 0 s with
  | true => simp [mW, noPin, wipeL, restL, mDNew, List.foldr_cons, List.foldr_nil, List.all_cons, List.all_nil, runF, runP, startL, startP, outD, frz1, mSeq, mNx, mRet, mIfS, mSet, mAsg, mPar', mApp, mExt, mPop, mSetIx, mAug, mFor, mT, mAnd, mOr, mNot, mAndV, mOrV, mNotV, mIf, mB0, mB1, mB2, mBN, mNil, mCons, mF, mVar, mC, mTup, mLst, mSl, mNo, mSo, mMeth, mEnum, mZip, mRng1, mRng2, inRng_3, inRng_4, inRng_6, mSeq1, mTT, opB, opI, opAdd, opIx, opLen, opTuple, opList, opInt, opMin, opAllAny, opJoin, opSl, opDict, opKGet, mGet2, opNeg, opMach, opSounds, opHist, mCh, inE, ninE, eqE, neE, isMach, callF, callP, pu1, pu2, puN, iCmp, frosOf, put, pin_fro, pin_non, pin_own, gN, gNil', gCons', gTup', lstOf, setL, ownOf, isLoc, locIs, mElt, mInn, mLcG, cT, cPos, Option.bind_some, Option.bind_none, Option.map_some, Option.map_none, List.getElem?_cons_zero, List.getElem?_cons_succ, List.set_cons_zero, List.set_cons_succ, List.map_cons, List.map_nil, List.length_cons, List.length_nil, List.cons_append, List.nil_append, List.replicate_succ, List.replicate_zero, asInt__fro_int, asInt__fro_str, asInt__fro_bl, asInt__fro_tup, asInt__fro_row, asInt__fro_lst, asInt__fro_non, asInt__fro_mach, asInt__fro_obj, asInt__tmp, asInt__tmpk, asInt__tmpd, asInt__loc, asStr__fro_int, asStr__fro_str, asStr__fro_bl, asStr__fro_tup, asStr__fro_row, asStr__fro_lst, asStr__fro_non, asStr__fro_mach, asStr__fro_obj, asStr__tmp, asStr__tmpk, asStr__tmpd, asStr__loc, asBl__fro_int, asBl__fro_str, asBl__fro_bl, asBl__fro_tup, asBl__fro_row, asBl__fro_lst, asBl__fro_non, asBl__fro_mach, asBl__fro_obj, asBl__tmp, asBl__tmpk, asBl__tmpd, asBl__loc, asTup__fro_int, asTup__fro_str, asTup__fro_bl, asTup__fro_tup, asTup__fro_row, asTup__fro_lst, asTup__fro_non, asTup__fro_mach, asTup__fro_obj, asTup__tmp, asTup__tmpk, asTup__tmpd, asTup__loc, contL__fro_int, contL__fro_str, contL__fro_bl, contL__fro_tup, contL__fro_row, contL__fro_lst, contL__fro_non, contL__fro_mach, contL__fro_obj, contL__tmp, contL__tmpk, contL__tmpd, contK__fro_int, contK__fro_str, contK__fro_bl, contK__fro_tup, contK__fro_row, contK__fro_lst, contK__fro_non, contK__fro_mach, contK__fro_obj, contK__tmp, contK__tmpk, contK__tmpd, contL__loc, lvL__own, lvL__pin, lvL__fro, lvL__k, lvL__d, contK__loc, kOf, enumD_enc, h1 hs]
  | false =>
    obtain ⟨L2, h⟩ := h2 hs
    simp [mW, noPin, wipeL, restL, mDNew, List.foldr_cons, List.foldr_nil, List.all_cons, List.all_nil, runF, runP, startL, startP, outD, frz1, mSeq, mNx, mRet, mIfS, mSet, mAsg, mPar', mApp, mExt, mPop, mSetIx, mAug, mFor, mT, mAnd, mOr, mNot, mAndV, mOrV, mNotV, mIf, mB0, mB1, mB2, mBN, mNil, mCons, mF, mVar, mC, mTup, mLst, mSl, mNo, mSo, mMeth, mEnum, mZip, mRng1, mRng2, inRng_3, inRng_4, inRng_6, mSeq1, mTT, opB, opI, opAdd, opIx, opLen, opTuple, opList, opInt, opMin, opAllAny, opJoin, opSl, opDict, opKGet, mGet2, opNeg, opMach, opSounds, opHist, mCh, inE, ninE, eqE, neE, isMach, callF, callP, pu1, pu2, puN, iCmp, frosOf, put, pin_fro, pin_non, pin_own, gN, gNil', gCons', gTup', lstOf, setL, ownOf, isLoc, locIs, mElt, mInn, mLcG, cT, cPos, Option.bind_some, Option.bind_none, Option.map_some, Option.map_none, List.getElem?_cons_zero, List.getElem?_cons_succ, List.set_cons_zero, List.set_cons_succ, List.map_cons, List.map_nil, List.length_cons, List.length_nil, List.cons_append, List.nil_append, List.replicate_succ, List.replicate_zero, asInt__fro_int, asInt__fro_str, asInt__fro_bl, asInt__fro_tup, asInt__fro_row, asInt__fro_lst, asInt__fro_non, asInt__fro_mach, asInt__fro_obj, asInt__tmp, asInt__tmpk, asInt__tmpd, asInt__loc, asStr__fro_int, asStr__fro_str, asStr__fro_bl, asStr__fro_tup, asStr__fro_row, asStr__fro_lst, asStr__fro_non, asStr__fro_mach, asStr__fro_obj, asStr__tmp, asStr__tmpk, asStr__tmpd, asStr__loc, asBl__fro_int, asBl__fro_str, asBl__fro_bl, asBl__fro_tup, asBl__fro_row, asBl__fro_lst, asBl__fro_non, asBl__fro_mach, asBl__fro_obj, asBl__tmp, asBl__tmpk, asBl__tmpd, asBl__loc, asTup__fro_int, asTup__fro_str, asTup__fro_bl, asTup__fro_tup, asTup__fro_row, asTup__fro_lst, asTup__fro_non, asTup__fro_mach, asTup__fro_obj, asTup__tmp, asTup__tmpk, asTup__tmpd, asTup__loc, contL__fro_int, contL__fro_str, contL__fro_bl, contL__fro_tup, contL__fro_row, contL__fro_lst, contL__fro_non, contL__fro_mach, contL__fro_obj, contL__tmp, contL__tmpk, contL__tmpd, contK__fro_int, contK__fro_str, contK__fro_bl, contK__fro_tup, contK__fro_row, contK__fro_lst, contK__fro_non, contK__fro_mach, contK__fro_obj, contK__tmp, contK__tmpk, contK__tmpd, contL__loc, lvL__own, lvL__pin, lvL__fro, lvL__k, lvL__d, contK__loc, kOf, enumD_enc, h]
def appl (r : Rl) (w : Wd) (i : Nat) : Bool := decide (w.getD i 0 ∈ r.ch.map (·.1)) && (shG w ((i : Int) - r.be.length) 0 r.be && shG w ((i : Int) + 1) 0 r.bh)
theorem ev_applies {r : Rl} {w : Wd} {i : Nat} (hw : w.length ≤ LIM) (hi : i < w.length) (hc : w.getD i 0 < 0x110000) (hk : ∀ p ∈ r.ch, p.1 < 0x110000) (hl : r.ch.length ≤ LIM) : F_applies [dRl r, .str w, .int i] = some (.bl (appl r w i)) := by
  have hg : w[i]? = some (w.getD i 0) := by rw [List.getD_eq_getElem?_getD, List.getElem?_eq_getElem hi]; rfl
  have h1 := ev_slots_hold hw (p := (i : Int) - r.be.length) (s := r.be)
  have h2 := ev_slots_hold hw (p := (i : Int) + 1) (s := r.bh)
  have hcm := lcG_map (vs := [6, 7]) (g := g_applies1) (me := e_applies1) (L := [.none, .fro (.str w), .fro (.int i), .fro (dCh r.ch), .fro (dSl r.be), .fro (dSl r.bh), .none, .none]) (enc := encP) (f := fun p => .str [p.1]) rfl r.ch [] (fun p _ => by
    simp [mW, noPin, wipeL, restL, mDNew, List.foldr_cons, List.foldr_nil, List.all_cons, List.all_nil, runF, runP, startL, startP, outD, frz1, mSeq, mNx, mRet, mIfS, mSet, mAsg, mPar', mApp, mExt, mPop, mSetIx, mAug, mFor, mT, mAnd, mOr, mNot, mAndV, mOrV, mNotV, mIf, mB0, mB1, mB2, mBN, mNil, mCons, mF, mVar, mC, mTup, mLst, mSl, mNo, mSo, mMeth, mEnum, mZip, mRng1, mRng2, inRng_3, inRng_4, inRng_6, mSeq1, mTT, opB, opI, opAdd, opIx, opLen, opTuple, opList, opInt, opMin, opAllAny, opJoin, opSl, opDict, opKGet, mGet2, opNeg, opMach, opSounds, opHist, mCh, inE, ninE, eqE, neE, isMach, callF, callP, pu1, pu2, puN, iCmp, frosOf, put, pin_fro, pin_non, pin_own, gN, gNil', gCons', gTup', lstOf, setL, ownOf, isLoc, locIs, mElt, mInn, mLcG, cT, cPos, Option.bind_some, Option.bind_none, Option.map_some, Option.map_none, List.getElem?_cons_zero, List.getElem?_cons_succ, List.set_cons_zero, List.set_cons_succ, List.map_cons, List.map_nil, List.length_cons, List.length_nil, List.cons_append, List.nil_append, List.replicate_succ, List.replicate_zero, asInt__fro_int, asInt__fro_str, asInt__fro_bl, asInt__fro_tup, asInt__fro_row, asInt__fro_lst, asInt__fro_non, asInt__fro_mach, asInt__fro_obj, asInt__tmp, asInt__tmpk, asInt__tmpd, asInt__loc, asStr__fro_int, asStr__fro_str, asStr__fro_bl, asStr__fro_tup, asStr__fro_row, asStr__fro_lst, asStr__fro_non, asStr__fro_mach, asStr__fro_obj, asStr__tmp, asStr__tmpk, asStr__tmpd, asStr__loc, asBl__fro_int, asBl__fro_str, asBl__fro_bl, asBl__fro_tup, asBl__fro_row, asBl__fro_lst, asBl__fro_non, asBl__fro_mach, asBl__fro_obj, asBl__tmp, asBl__tmpk, asBl__tmpd, asBl__loc, asTup__fro_int, asTup__fro_str, asTup__fro_bl, asTup__fro_tup, asTup__fro_row, asTup__fro_lst, asTup__fro_non, asTup__fro_mach, asTup__fro_obj, asTup__tmp, asTup__tmpk, asTup__tmpd, asTup__loc, contL__fro_int, contL__fro_str, contL__fro_bl, contL__fro_tup, contL__fro_row, contL__fro_lst, contL__fro_non, contL__fro_mach, contL__fro_obj, contL__tmp, contL__tmpk, contL__tmpd, contK__fro_int, contK__fro_str, contK__fro_bl, contK__fro_tup, contK__fro_row, contK__fro_lst, contK__fro_non, contK__fro_mach, contK__fro_obj, contK__tmp, contK__tmpk, contK__tmpd, contL__loc, lvL__own, lvL__pin, lvL__fro, lvL__k, lvL__d, contK__loc, kOf, lcE, g_applies1, e_applies1, encP]) (by simpa using hl)
  have ha := any_deq (enc := fun c : Nat => D.str [c]) (fun x y => by rw [deq_str]; simp) (r.ch.map (·.1)) (w.getD i 0)
  rw [List.map_map] at ha
  have ha : ((r.ch.map fun p => D.str [p.1]).any fun z => deq z (.str [w.getD i 0])) = decide (w.getD i 0 ∈ r.ch.map (·.1)) := ha
  have hk1 := cok_chr hc
  have hk2 : cok (.lst (r.ch.map fun p => D.str [p.1])) = true := (fine_lst (fine_map fun p hp => fine_str fun x hx => by rw [List.mem_singleton.mp hx]; exact hk p hp)).cok
  unfold F_applies m_applies appl
  unfold dSl at h1 h2
  unfold dRl dCh dSl at *
  generalize w.getD i 0 = c at *
  cases hin : decide (c ∈ r.ch.map (·.1)) with
  | true =>
    rw [hin] at ha
    cases hb : shG w ((i : Int) - r.be.length) 0 r.be with
    | true =>
      rw [hb] at h1
      simp [mW, noPin, wipeL, restL, mDNew, List.foldr_cons, List.foldr_nil, List.all_cons, List.all_nil, runF, runP, startL, startP, outD, frz1, mSeq, mNx, mRet, mIfS, mSet, mAsg, mPar', mApp, mExt, mPop, mSetIx, mAug, mFor, mT, mAnd, mOr, mNot, mAndV, mOrV, mNotV, mIf, mB0, mB1, mB2, mBN, mNil, mCons, mF, mVar, mC, mTup, mLst, mSl, mNo, mSo, mMeth, mEnum, mZip, mRng1, mRng2, inRng_3, inRng_4, inRng_6, mSeq1, mTT, opB, opI, opAdd, opIx, opLen, opTuple, opList, opInt, opMin, opAllAny, opJoin, opSl, opDict, opKGet, mGet2, opNeg, opMach, opSounds, opHist, mCh, inE, ninE, eqE, neE, isMach, callF, callP, pu1, pu2, puN, iCmp, frosOf, put, pin_fro, pin_non, pin_own, gN, gNil', gCons', gTup', lstOf, setL, ownOf, isLoc, locIs, mElt, mInn, mLcG, cT, cPos, Option.bind_some, Option.bind_none, Option.map_some, Option.map_none, List.getElem?_cons_zero, List.getElem?_cons_succ, List.set_cons_zero, List.set_cons_succ, List.map_cons, List.map_nil, List.length_cons, List.length_nil, List.cons_append, List.nil_append, List.replicate_succ, List.replicate_zero, asInt__fro_int, asInt__fro_str, asInt__fro_bl, asInt__fro_tup, asInt__fro_row, asInt__fro_lst, asInt__fro_non, asInt__fro_mach, asInt__fro_obj, asInt__tmp, asInt__tmpk, asInt__tmpd, asInt__loc, asStr__fro_int, asStr__fro_str, asStr__fro_bl, asStr__fro_tup, asStr__fro_row, asStr__fro_lst, asStr__fro_non, asStr__fro_mach, asStr__fro_obj, asStr__tmp, asStr__tmpk, asStr__tmpd, asStr__loc, asBl__fro_int, asBl__fro_str, asBl__fro_bl, asBl__fro_tup, asBl__fro_row, asBl__fro_lst, asBl__fro_non, asBl__fro_mach, asBl__fro_obj, asBl__tmp, asBl__tmpk, asBl__tmpd, asBl__loc, asTup__fro_int, asTup__fro_str, asTup__fro_bl, asTup__fro_tup, asTup__fro_row, asTup__fro_lst, asTup__fro_non, asTup__fro_mach, asTup__fro_obj, asTup__tmp, asTup__tmpk, asTup__tmpd, asTup__loc, contL__fro_int, contL__fro_str, contL__fro_bl, contL__fro_tup, contL__fro_row, contL__fro_lst, contL__fro_non, contL__fro_mach, contL__fro_obj, contL__tmp, contL__tmpk, contL__tmpd, contK__fro_int, contK__fro_str, contK__fro_bl, contK__fro_tup, contK__fro_row, contK__fro_lst, contK__fro_non, contK__fro_mach, contK__fro_obj, contK__tmp, contK__tmpk, contK__tmpd, contL__loc, lvL__own, lvL__pin, lvL__fro, lvL__k, lvL__d, contK__loc, kOf, hcm, atI0, hg, hw, datE, ha, hk1, hk2, h1, h2]
    | false =>
      rw [hb] at h1
      simp [mW, noPin, wipeL, restL, mDNew, List.foldr_cons, List.foldr_nil, List.all_cons, List.all_nil, runF, runP, startL, startP, outD, frz1, mSeq, mNx, mRet, mIfS, mSet, mAsg, mPar', mApp, mExt, mPop, mSetIx, mAug, mFor, mT, mAnd, mOr, mNot, mAndV, mOrV, mNotV, mIf, mB0, mB1, mB2, mBN, mNil, mCons, mF, mVar, mC, mTup, mLst, mSl, mNo, mSo, mMeth, mEnum, mZip, mRng1, mRng2, inRng_3, inRng_4, inRng_6, mSeq1, mTT, opB, opI, opAdd, opIx, opLen, opTuple, opList, opInt, opMin, opAllAny, opJoin, opSl, opDict, opKGet, mGet2, opNeg, opMach, opSounds, opHist, mCh, inE, ninE, eqE, neE, isMach, callF, callP, pu1, pu2, puN, iCmp, frosOf, put, pin_fro, pin_non, pin_own, gN, gNil', gCons', gTup', lstOf, setL, ownOf, isLoc, locIs, mElt, mInn, mLcG, cT, cPos, Option.bind_some, Option.bind_none, Option.map_some, Option.map_none, List.getElem?_cons_zero, List.getElem?_cons_succ, List.set_cons_zero, List.set_cons_succ, List.map_cons, List.map_nil, List.length_cons, List.length_nil, List.cons_append, List.nil_append, List.replicate_succ, List.replicate_zero, asInt__fro_int, asInt__fro_str, asInt__fro_bl, asInt__fro_tup, asInt__fro_row, asInt__fro_lst, asInt__fro_non, asInt__fro_mach, asInt__fro_obj, asInt__tmp, asInt__tmpk, asInt__tmpd, asInt__loc, asStr__fro_int, asStr__fro_str, asStr__fro_bl, asStr__fro_tup, asStr__fro_row, asStr__fro_lst, asStr__fro_non, asStr__fro_mach, asStr__fro_obj, asStr__tmp, asStr__tmpk, asStr__tmpd, asStr__loc, asBl__fro_int, asBl__fro_str, asBl__fro_bl, asBl__fro_tup, asBl__fro_row, asBl__fro_lst, asBl__fro_non, asBl__fro_mach, asBl__fro_obj, asBl__tmp, asBl__tmpk, asBl__tmpd, asBl__loc, asTup__fro_int, asTup__fro_str, asTup__fro_bl, asTup__fro_tup, asTup__fro_row, asTup__fro_lst, asTup__fro_non, asTup__fro_mach, asTup__fro_obj, asTup__tmp, asTup__tmpk, asTup__tmpd, asTup__loc, contL__fro_int, contL__fro_str, contL__fro_bl, contL__fro_tup, contL__fro_row, contL__fro_lst, contL__fro_non, contL__fro_mach, contL__fro_obj, contL__tmp, contL__tmpk, contL__tmpd, contK__fro_int, contK__fro_str, contK__fro_bl, contK__fro_tup, contK__fro_row, contK__fro_lst, contK__fro_non, contK__fro_mach, contK__fro_obj, contK__tmp, contK__tmpk, contK__tmpd, contL__loc, lvL__own, lvL__pin, lvL__fro, lvL__k, lvL__d, contK__loc, kOf, hcm, atI0, hg, hw, datE, ha, hk1, hk2, h1]
  | false =>
    rw [hin] at ha
    simp [mW, noPin, wipeL, restL, mDNew, List.foldr_cons, List.foldr_nil, List.all_cons, List.all_nil, runF, runP, startL, startP, outD, frz1, mSeq, mNx, mRet, mIfS, mSet, mAsg, mPar', mApp, mExt, mPop, mSetIx, mAug, mFor, mT, mAnd, mOr, mNot, mAndV, mOrV, mNotV, mIf, mB0, mB1, mB2, mBN, mNil, mCons, mF, mVar, mC, mTup, mLst, mSl, mNo, mSo, mMeth, mEnum, mZip, mRng1, mRng2, inRng_3, inRng_4, inRng_6, mSeq1, mTT, opB, opI, opAdd, opIx, opLen, opTuple, opList, opInt, opMin, opAllAny, opJoin, opSl, opDict, opKGet, mGet2, opNeg, opMach, opSounds, opHist, mCh, inE, ninE, eqE, neE, isMach, callF, callP, pu1, pu2, puN, iCmp, frosOf, put, pin_fro, pin_non, pin_own, gN, gNil', gCons', gTup', lstOf, setL, ownOf, isLoc, locIs, mElt, mInn, mLcG, cT, cPos, Option.bind_some, Option.bind_none, Option.map_some, Option.map_none, List.getElem?_cons_zero, List.getElem?_cons_succ, List.set_cons_zero, List.set_cons_succ, List.map_cons, List.map_nil, List.length_cons, List.length_nil, List.cons_append, List.nil_append, List.replicate_succ, List.replicate_zero, asInt__fro_int, asInt__fro_str, asInt__fro_bl, asInt__fro_tup, asInt__fro_row, asInt__fro_lst, asInt__fro_non, asInt__fro_mach, asInt__fro_obj, asInt__tmp, asInt__tmpk, asInt__tmpd, asInt__loc, asStr__fro_int, asStr__fro_str, asStr__fro_bl, asStr__fro_tup, asStr__fro_row, asStr__fro_lst, asStr__fro_non, asStr__fro_mach, asStr__fro_obj, asStr__tmp, asStr__tmpk, asStr__tmpd, asStr__loc, asBl__fro_int, asBl__fro_str, asBl__fro_bl, asBl__fro_tup, asBl__fro_row, asBl__fro_lst, asBl__fro_non, asBl__fro_mach, asBl__fro_obj, asBl__tmp, asBl__tmpk, asBl__tmpd, asBl__loc, asTup__fro_int, asTup__fro_str, asTup__fro_bl, asTup__fro_tup, asTup__fro_row, asTup__fro_lst, asTup__fro_non, asTup__fro_mach, asTup__fro_obj, asTup__tmp, asTup__tmpk, asTup__tmpd, asTup__loc, contL__fro_int, contL__fro_str, contL__fro_bl, contL__fro_tup, contL__fro_row, contL__fro_lst, contL__fro_non, contL__fro_mach, contL__fro_obj, contL__tmp, contL__tmpk, contL__tmpd, contK__fro_int, contK__fro_str, contK__fro_bl, contK__fro_tup, contK__fro_row, contK__fro_lst, contK__fro_non, contK__fro_mach, contK__fro_obj, contK__tmp, contK__tmpk, contK__tmpd, contL__loc, lvL__own, lvL__pin, lvL__fro, lvL__k, lvL__d, contK__loc, kOf, hcm, atI0, hg, hw, datE, ha, hk1, hk2]
end SS

/-! words through rules -/
namespace SS
open PySem PySem.Spec PyProof.Rows L2

theorem getS_put {kvs : List (Wd × D)} {k k' : Wd} {v : D} : getS (putS kvs k v) k' = if k = k' then some v else getS kvs k' := by
  unfold putS
  split
  · rename_i h
    by_cases e : k = k'
    · subst e
      rw [if_pos rfl]
      induction kvs with
      | nil => simp at h
      | cons p r ih =>
        by_cases hp : p.1 = k
        · simp [getS, hp]
        · rw [List.any_cons, decide_eq_false hp, Bool.false_or] at h
          have := ih h
          unfold getS at this ⊢
          rw [List.map_cons, if_neg hp, List.find?_cons_of_neg (by simpa using hp)]
          exact this
    · rw [if_neg e]
      clear h
      induction kvs with
      | nil => rfl
      | cons p r ih =>
        unfold getS at ih ⊢
        rw [List.map_cons]
        by_cases hp : p.1 = k
        · have hn : ¬ p.1 = k' := fun z => e (hp.symm.trans z)
          rw [if_pos hp, List.find?_cons_of_neg (by simpa using hn), List.find?_cons_of_neg (by simpa using hn)]
          exact ih
        · rw [if_neg hp]
          by_cases hq : p.1 = k'
          · rw [List.find?_cons_of_pos (by simpa using hq), List.find?_cons_of_pos (by simpa using hq)]
          · rw [List.find?_cons_of_neg (by simpa using hq), List.find?_cons_of_neg (by simpa using hq)]
            exact ih
  · rename_i h
    unfold getS
    rw [List.find?_append]
    by_cases e : k = k'
    · subst e
      have hn : List.find? (fun p => decide (p.1 = k)) kvs = none := by
        rw [List.find?_eq_none]
        intro p hp hq
        exact h (List.any_eq_true.mpr ⟨p, hp, hq⟩)
      rw [hn, if_pos rfl]
      simp
    · rw [if_neg e]
      simp [e]
/-- what a rule makes of its letters -/
theorem getS_merge (P : Wd → Prop) : ∀ (l : List (Nat × Wd)) (acc : List (Wd × D)) (c : Nat), (∀ p ∈ l, P p.2) → (∀ d, getS acc [c] = some d → ∃ y, d = .str y ∧ P y) →
    (∀ d, getS (mergeS acc (l.map fun p => ([p.1], D.str p.2))) [c] = some d → ∃ y, d = .str y ∧ P y) ∧ (c ∈ l.map (·.1) ∨ (getS acc [c]).isSome = true → (getS (mergeS acc (l.map fun p => ([p.1], D.str p.2))) [c]).isSome = true)
  | [], acc, c, _, h => ⟨h, fun z => z.elim (fun z => by simp at z) id⟩
  | p :: l, acc, c, hp, h => by
    have hg : ∀ d, getS (putS acc [p.1] (D.str p.2)) [c] = some d → ∃ y, d = .str y ∧ P y := fun d e => by
      rw [getS_put] at e
      split at e
      · cases e; exact ⟨_, rfl, hp p (by simp)⟩
      · exact h d e
    obtain ⟨i1, i2⟩ := getS_merge P l (putS acc [p.1] (D.str p.2)) c (fun q hq => hp q (by simp [hq])) hg
    refine ⟨i1, fun z => i2 ?_⟩
    rw [getS_put]
    rcases z with z | z
    · rw [List.map_cons, List.mem_cons] at z
      rcases z with z | z
      · right
        rw [if_pos (by rw [z])]
        rfl
      · exact .inl z
    · right
      split
      · rfl
      · exact z
theorem chg_get {r : Rl} {c : Nat} (P : Wd → Prop) (hp : ∀ p ∈ r.ch, P p.2) (hc : c ∈ r.ch.map (·.1)) : getS (chD r) [c] = some (.str (chg r c)) ∧ P (chg r c) := by
  obtain ⟨h1, h2⟩ := getS_merge P r.ch [] c hp (fun d e => by cases e)
  have h3 := h2 (.inl hc)
  unfold chg chD
  cases hg : getS (mergeS [] (r.ch.map fun p => ([p.1], D.str p.2))) [c] with
  | none => rw [hg] at h3; cases h3
  | some d =>
    obtain ⟨y, rfl, hy⟩ := h1 d hg
    exact ⟨rfl, hy⟩
theorem chg_non {r : Rl} {c : Nat} (P : Wd → Prop) (hp : ∀ p ∈ r.ch, P p.2) (h1 : P [c]) : P (chg r c) ∧ (getS (chD r) [c]).getD (.str [c]) = .str (chg r c) := by
  obtain ⟨h2, _⟩ := getS_merge P r.ch [] c hp (fun d e => by cases e)
  unfold chg chD
  cases hg : getS (mergeS [] (r.ch.map fun p => ([p.1], D.str p.2))) [c] with
  | none => exact ⟨h1, rfl⟩
  | some d =>
    obtain ⟨y, rfl, hy⟩ := h2 d hg
    exact ⟨hy, rfl⟩
theorem pairsS_enc : ∀ l : List (Nat × Wd), pairsS (l.map encP) = some (l.map fun p => ([p.1], D.str p.2))
  | [] => rfl
  | p :: l => by simp only [List.map_cons, pairsS, pairS, encP, pairsS_enc l, Option.bind_some, Option.map_some]
def chgAt (r : Rl) (w : Wd) (i : Nat) : Wd := if appl r w i = true then chg r (w.getD i 0) else [w.getD i 0]
def changed (r : Rl) (w : Wd) : Wd := ((List.range w.length).map (chgAt r w)).flatten
theorem enum_word (w : Wd) : enumD (rows w) = (List.range w.length).map fun i => .row [.int (i : Nat), .str [w.getD i 0]] := by
  refine List.ext_getElem? fun i => ?_
  unfold enumD rows
  rw [List.getElem?_map, List.getElem?_zipIdx, List.getElem?_map, List.getElem?_map]
  by_cases h : i < w.length
  · rw [List.getElem?_eq_getElem h, List.getElem?_range h]
    simp [List.getElem?_eq_getElem h]
  · rw [List.getElem?_eq_none (by omega), List.getElem?_eq_none (by simp; omega)]
    rfl
/-- words of a rule's letters: what is asked -/
structure WdOk (S : Wd) (w : Wd) : Prop where
  len : w.length ≤ 4096
  ch : ∀ c ∈ w, c ∈ S
theorem chg_ok {S : Wd} {r : Rl} (hr : RlOk S r) {c : Nat} (hc : c ∈ S) : (chg r c).length ≤ 2 ∧ ∀ x ∈ chg r c, x ∈ S :=
  (chg_non (fun y => y.length ≤ 2 ∧ ∀ x ∈ y, x ∈ S) (fun p hp => (hr.key p hp).2) ⟨by simp, fun x hx => by rw [List.mem_singleton.mp hx]; exact hc⟩).1
theorem getD_mem {w : Wd} {i : Nat} (h : i < w.length) : w.getD i 0 ∈ w := by
  rw [List.getD_eq_getElem?_getD, List.getElem?_eq_getElem h]
  exact List.getElem_mem h
theorem chgAt_ok {S : Wd} {r : Rl} (hr : RlOk S r) {w : Wd} (hw : WdOk S w) {i : Nat} (hi : i < w.length) : (chgAt r w i).length ≤ 2 ∧ ∀ x ∈ chgAt r w i, x ∈ S := by
  have hc := hw.ch _ (getD_mem hi)
  unfold chgAt
  split
  · exact chg_ok hr hc
  · exact ⟨by simp, fun x hx => by rw [List.mem_singleton.mp hx]; exact hc⟩
theorem flat_len {n : Nat} : ∀ {l : List Wd}, (∀ x ∈ l, x.length ≤ n) → (l.map List.length).sum ≤ n * l.length
  | [], _ => by simp
  | x :: l, h => by
    have h1 := flat_len (l := l) fun y hy => h y (by simp [hy])
    have h2 := h x (by simp)
    rw [List.map_cons, List.sum_cons, List.length_cons, Nat.mul_add]
    omega
theorem changed_len {S : Wd} {r : Rl} (hr : RlOk S r) {w : Wd} (hw : WdOk S w) : (((List.range w.length).map (chgAt r w)).map List.length).sum ≤ 2 * w.length := by
  have := flat_len (n := 2) (l := (List.range w.length).map (chgAt r w)) fun x hx => by
    obtain ⟨i, hi, rfl⟩ := List.mem_map.mp hx
    exact (chgAt_ok hr hw (List.mem_range.mp hi)).1
  rwa [List.length_map, List.length_range] at this
theorem changed_ok {S : Wd} {r : Rl} (hr : RlOk S r) {w : Wd} (hw : WdOk S w) : (changed r w).length ≤ 2 * w.length ∧ ∀ c ∈ changed r w, c ∈ S := by
  unfold changed
  rw [List.length_flatten]
  refine ⟨changed_len hr hw, fun c hc => ?_⟩
  obtain ⟨x, hx, hcx⟩ := List.mem_flatten.mp hc
  obtain ⟨i, hi, rfl⟩ := List.mem_map.mp hx
  exact (chgAt_ok hr hw (List.mem_range.mp hi)).2 c hcx
theorem ev_changed {S : Wd} (hS : AlOk S) {r : Rl} (hr : RlOk S r) {w : Wd} (hw : WdOk S w) : F_changed [dRl r, .str w] = some (.str (changed r w)) := by
  have hl : w.length ≤ LIM := Nat.le_trans hw.len (by decide)
  have hlc : r.ch.length ≤ LIM := Nat.le_trans hr.nch (by decide)
  have hc := lcG_map (vs := [3, 4]) (g := g_changed1) (me := e_changed1) (L := [.fro (dRl r), .fro (.str w), .ownk (chD r), .none, .none]) (enc := fun q : Nat × Nat => .row [.int (q.2 : Nat), .str [q.1]]) (f := fun q => .str (chgAt r w q.2)) rfl w.zipIdx [] (fun q hq => by
    obtain ⟨c, i⟩ := q
    have hq1 := List.mem_zipIdx_iff_getElem?.mp hq
    simp only at hq1
    have hi : i < w.length := (List.getElem?_eq_some_iff.mp hq1).1
    have hgd : w.getD i 0 = c := by rw [List.getD_eq_getElem?_getD, hq1]; rfl
    have hcS := hw.ch _ (getD_mem hi)
    have ha := ev_applies hl hi ((hS.ch _ hcS).1) (fun p hp => (hS.ch _ (hr.key p hp).1).1) hlc
    cases hap : appl r w i with
    | true =>
      rw [hap] at ha
      have hin : w.getD i 0 ∈ r.ch.map (·.1) := by
        unfold appl at hap
        rw [Bool.and_eq_true] at hap
        exact of_decide_eq_true hap.1
      have hg := (chg_get (r := r) (fun _ => True) (fun _ _ => trivial) hin).1
      have ec : chgAt r w i = chg r c := by unfold chgAt; rw [if_pos hap, hgd]
      rw [hgd] at hg
      simp [mW, noPin, wipeL, restL, mDNew, List.foldr_cons, List.foldr_nil, List.all_cons, List.all_nil, runF, runP, startL, startP, outD, frz1, mSeq, mNx, mRet, mIfS, mSet, mAsg, mPar', mApp, mExt, mPop, mSetIx, mAug, mFor, mT, mAnd, mOr, mNot, mAndV, mOrV, mNotV, mIf, mB0, mB1, mB2, mBN, mNil, mCons, mF, mVar, mC, mTup, mLst, mSl, mNo, mSo, mMeth, mEnum, mZip, mRng1, mRng2, inRng_3, inRng_4, inRng_6, mSeq1, mTT, opB, opI, opAdd, opIx, opLen, opTuple, opList, opInt, opMin, opAllAny, opJoin, opSl, opDict, opKGet, mGet2, opNeg, opMach, opSounds, opHist, mCh, inE, ninE, eqE, neE, isMach, callF, callP, pu1, pu2, puN, iCmp, frosOf, put, pin_fro, pin_non, pin_own, gN, gNil', gCons', gTup', lstOf, setL, ownOf, isLoc, locIs, mElt, mInn, mLcG, cT, cPos, Option.bind_some, Option.bind_none, Option.map_some, Option.map_none, List.getElem?_cons_zero, List.getElem?_cons_succ, List.set_cons_zero, List.set_cons_succ, List.map_cons, List.map_nil, List.length_cons, List.length_nil, List.cons_append, List.nil_append, List.replicate_succ, List.replicate_zero, asInt__fro_int, asInt__fro_str, asInt__fro_bl, asInt__fro_tup, asInt__fro_row, asInt__fro_lst, asInt__fro_non, asInt__fro_mach, asInt__fro_obj, asInt__tmp, asInt__tmpk, asInt__tmpd, asInt__loc, asStr__fro_int, asStr__fro_str, asStr__fro_bl, asStr__fro_tup, asStr__fro_row, asStr__fro_lst, asStr__fro_non, asStr__fro_mach, asStr__fro_obj, asStr__tmp, asStr__tmpk, asStr__tmpd, asStr__loc, asBl__fro_int, asBl__fro_str, asBl__fro_bl, asBl__fro_tup, asBl__fro_row, asBl__fro_lst, asBl__fro_non, asBl__fro_mach, asBl__fro_obj, asBl__tmp, asBl__tmpk, asBl__tmpd, asBl__loc, asTup__fro_int, asTup__fro_str, asTup__fro_bl, asTup__fro_tup, asTup__fro_row, asTup__fro_lst, asTup__fro_non, asTup__fro_mach, asTup__fro_obj, asTup__tmp, asTup__tmpk, asTup__tmpd, asTup__loc, contL__fro_int, contL__fro_str, contL__fro_bl, contL__fro_tup, contL__fro_row, contL__fro_lst, contL__fro_non, contL__fro_mach, contL__fro_obj, contL__tmp, contL__tmpk, contL__tmpd, contK__fro_int, contK__fro_str, contK__fro_bl, contK__fro_tup, contK__fro_row, contK__fro_lst, contK__fro_non, contK__fro_mach, contK__fro_obj, contK__tmp, contK__tmpk, contK__tmpd, contL__loc, lvL__own, lvL__pin, lvL__fro, lvL__k, lvL__d, contK__loc, kOf, lcE, g_changed1, e_changed1, ha, hg, ec]
    | false =>
      rw [hap] at ha
      have ec : chgAt r w i = [c] := by unfold chgAt; rw [if_neg (by rw [hap]; decide), hgd]
      simp [mW, noPin, wipeL, restL, mDNew, List.foldr_cons, List.foldr_nil, List.all_cons, List.all_nil, runF, runP, startL, startP, outD, frz1, mSeq, mNx, mRet, mIfS, mSet, mAsg, mPar', mApp, mExt, mPop, mSetIx, mAug, mFor, mT, mAnd, mOr, mNot, mAndV, mOrV, mNotV, mIf, mB0, mB1, mB2, mBN, mNil, mCons, mF, mVar, mC, mTup, mLst, mSl, mNo, mSo, mMeth, mEnum, mZip, mRng1, mRng2, inRng_3, inRng_4, inRng_6, mSeq1, mTT, opB, opI, opAdd, opIx, opLen, opTuple, opList, opInt, opMin, opAllAny, opJoin, opSl, opDict, opKGet, mGet2, opNeg, opMach, opSounds, opHist, mCh, inE, ninE, eqE, neE, isMach, callF, callP, pu1, pu2, puN, iCmp, frosOf, put, pin_fro, pin_non, pin_own, gN, gNil', gCons', gTup', lstOf, setL, ownOf, isLoc, locIs, mElt, mInn, mLcG, cT, cPos, Option.bind_some, Option.bind_none, Option.map_some, Option.map_none, List.getElem?_cons_zero, List.getElem?_cons_succ, List.set_cons_zero, List.set_cons_succ, List.map_cons, List.map_nil, List.length_cons, List.length_nil, List.cons_append, List.nil_append, List.replicate_succ, List.replicate_zero, asInt__fro_int, asInt__fro_str, asInt__fro_bl, asInt__fro_tup, asInt__fro_row, asInt__fro_lst, asInt__fro_non, asInt__fro_mach, asInt__fro_obj, asInt__tmp, asInt__tmpk, asInt__tmpd, asInt__loc, asStr__fro_int, asStr__fro_str, asStr__fro_bl, asStr__fro_tup, asStr__fro_row, asStr__fro_lst, asStr__fro_non, asStr__fro_mach, asStr__fro_obj, asStr__tmp, asStr__tmpk, asStr__tmpd, asStr__loc, asBl__fro_int, asBl__fro_str, asBl__fro_bl, asBl__fro_tup, asBl__fro_row, asBl__fro_lst, asBl__fro_non, asBl__fro_mach, asBl__fro_obj, asBl__tmp, asBl__tmpk, asBl__tmpd, asBl__loc, asTup__fro_int, asTup__fro_str, asTup__fro_bl, asTup__fro_tup, asTup__fro_row, asTup__fro_lst, asTup__fro_non, asTup__fro_mach, asTup__fro_obj, asTup__tmp, asTup__tmpk, asTup__tmpd, asTup__loc, contL__fro_int, contL__fro_str, contL__fro_bl, contL__fro_tup, contL__fro_row, contL__fro_lst, contL__fro_non, contL__fro_mach, contL__fro_obj, contL__tmp, contL__tmpk, contL__tmpd, contK__fro_int, contK__fro_str, contK__fro_bl, contK__fro_tup, contK__fro_row, contK__fro_lst, contK__fro_non, contK__fro_mach, contK__fro_obj, contK__tmp, contK__tmpk, contK__tmpd, contL__loc, lvL__own, lvL__pin, lvL__fro, lvL__k, lvL__d, contK__loc, kOf, lcE, g_changed1, e_changed1, ha, ec]) (by simpa using hl)
  have hlen : (((List.range w.length).map (chgAt r w)).map List.length).sum ≤ LIM := Nat.le_trans (changed_len hr hw) (by have := hw.len; have : LIM = 16777216 := rfl; omega)
  have hst := strsOf_map ((List.range w.length).map (chgAt r w))
  have hp := pairsS_enc r.ch
  have hz : w.zipIdx.map (fun q => D.str (chgAt r w q.2)) = ((List.range w.length).map (chgAt r w)).map D.str := by
    rw [List.map_map]
    have : w.zipIdx.map (·.2) = List.range w.length := by rw [List.zipIdx_map_snd, List.range_eq_range']
    rw [← this, List.map_map]
    rfl
  rw [List.nil_append, hz] at hc
  have he : enumD (rows w) = w.zipIdx.map fun q => .row [.int (q.2 : Nat), .str [q.1]] := enumD_enc (fun c : Nat => D.str [c]) w
  unfold F_changed m_changed changed
  unfold chD dRl dCh dSl at hc
  unfold dRl dCh dSl
  generalize (List.range w.length).map (chgAt r w) = zs at *
  simp [mW, noPin, wipeL, restL, mDNew, List.foldr_cons, List.foldr_nil, List.all_cons, List.all_nil, runF, runP, startL, startP, outD, frz1, mSeq, mNx, mRet, mIfS, mSet, mAsg, mPar', mApp, mExt, mPop, mSetIx, mAug, mFor, mT, mAnd, mOr, mNot, mAndV, mOrV, mNotV, mIf, mB0, mB1, mB2, mBN, mNil, mCons, mF, mVar, mC, mTup, mLst, mSl, mNo, mSo, mMeth, mEnum, mZip, mRng1, mRng2, inRng_3, inRng_4, inRng_6, mSeq1, mTT, opB, opI, opAdd, opIx, opLen, opTuple, opList, opInt, opMin, opAllAny, opJoin, opSl, opDict, opKGet, mGet2, opNeg, opMach, opSounds, opHist, mCh, inE, ninE, eqE, neE, isMach, callF, callP, pu1, pu2, puN, iCmp, frosOf, put, pin_fro, pin_non, pin_own, gN, gNil', gCons', gTup', lstOf, setL, ownOf, isLoc, locIs, mElt, mInn, mLcG, cT, cPos, Option.bind_some, Option.bind_none, Option.map_some, Option.map_none, List.getElem?_cons_zero, List.getElem?_cons_succ, List.set_cons_zero, List.set_cons_succ, List.map_cons, List.map_nil, List.length_cons, List.length_nil, List.cons_append, List.nil_append, List.replicate_succ, List.replicate_zero, asInt__fro_int, asInt__fro_str, asInt__fro_bl, asInt__fro_tup, asInt__fro_row, asInt__fro_lst, asInt__fro_non, asInt__fro_mach, asInt__fro_obj, asInt__tmp, asInt__tmpk, asInt__tmpd, asInt__loc, asStr__fro_int, asStr__fro_str, asStr__fro_bl, asStr__fro_tup, asStr__fro_row, asStr__fro_lst, asStr__fro_non, asStr__fro_mach, asStr__fro_obj, asStr__tmp, asStr__tmpk, asStr__tmpd, asStr__loc, asBl__fro_int, asBl__fro_str, asBl__fro_bl, asBl__fro_tup, asBl__fro_row, asBl__fro_lst, asBl__fro_non, asBl__fro_mach, asBl__fro_obj, asBl__tmp, asBl__tmpk, asBl__tmpd, asBl__loc, asTup__fro_int, asTup__fro_str, asTup__fro_bl, asTup__fro_tup, asTup__fro_row, asTup__fro_lst, asTup__fro_non, asTup__fro_mach, asTup__fro_obj, asTup__tmp, asTup__tmpk, asTup__tmpd, asTup__loc, contL__fro_int, contL__fro_str, contL__fro_bl, contL__fro_tup, contL__fro_row, contL__fro_lst, contL__fro_non, contL__fro_mach, contL__fro_obj, contL__tmp, contL__tmpk, contL__tmpd, contK__fro_int, contK__fro_str, contK__fro_bl, contK__fro_tup, contK__fro_row, contK__fro_lst, contK__fro_non, contK__fro_mach, contK__fro_obj, contK__tmp, contK__tmpk, contK__tmpd, contL__loc, lvL__own, lvL__pin, lvL__fro, lvL__k, lvL__d, contK__loc, kOf, at3_0, hp, he, hc, hst, hlen]
def ledT : List Rl → Wd → Wd
  | [], w => w
  | r :: h, w => ledT h (changed r w)
def stagesT : List Rl → Wd → List Wd
  | [], w => [w]
  | r :: h, w => w :: stagesT h (changed r w)
/-- the history's rules, the word's length so that nothing grows too long -/
def Room2 (S : Wd) (h : List Rl) (w : Wd) : Prop := (∀ r ∈ h, RlOk S r) ∧ (∀ c ∈ w, c ∈ S) ∧ w.length * 2 ^ h.length ≤ 4096
theorem Room2.wd {S : Wd} {h : List Rl} {w : Wd} (x : Room2 S h w) : WdOk S w := ⟨by
  have h1 : 1 ≤ 2 ^ h.length := Nat.one_le_two_pow
  have := Nat.le_mul_of_pos_right w.length h1
  have := x.2.2
  omega, x.2.1⟩
theorem Room2.next {S : Wd} {r : Rl} {h : List Rl} {w : Wd} (x : Room2 S (r :: h) w) : Room2 S h (changed r w) := by
  obtain ⟨h1, h2⟩ := changed_ok (x.1 r (by simp)) x.wd
  refine ⟨fun q hq => x.1 q (by simp [hq]), h2, ?_⟩
  have h3 := x.2.2
  rw [List.length_cons, Nat.pow_succ] at h3
  calc (changed r w).length * 2 ^ h.length ≤ (2 * w.length) * 2 ^ h.length := Nat.mul_le_mul_right _ h1
    _ = w.length * (2 ^ h.length * 2) := by rw [Nat.mul_comm 2, Nat.mul_assoc, Nat.mul_comm 2]
    _ ≤ 4096 := h3
theorem Room2.tail {S : Wd} {h h' : List Rl} {w : Wd} (x : Room2 S h w) (hs : ∀ r ∈ h', r ∈ h) (hl : h'.length ≤ h.length) : Room2 S h' w :=
  ⟨fun r hr => x.1 r (hs r hr), x.2.1, Nat.le_trans (Nat.mul_le_mul_left _ (Nat.pow_le_pow_right (by decide) hl)) x.2.2⟩
theorem Room2.of {S : Wd} {h : List Rl} {w : Wd} (hh : HiOk S h) (hw : ∀ c ∈ w, c ∈ S) (hl : w.length ≤ 256) : Room2 S h w := ⟨hh.rl, hw, by
  have h1 : 2 ^ h.length ≤ 2 ^ 4 := Nat.pow_le_pow_right (by decide) hh.len
  exact Nat.le_trans (Nat.mul_le_mul hl h1) (by decide)⟩
theorem led_ok {S : Wd} : ∀ {h : List Rl} {w : Wd}, Room2 S h w → (ledT h w).length ≤ 4096 ∧ ∀ c ∈ ledT h w, c ∈ S
  | [], _, x => ⟨x.wd.len, x.2.1⟩
  | r :: h, w, x => by rw [ledT]; exact led_ok x.next
theorem led_loop {S : Wd} (hS : AlOk S) {x0 : D} : ∀ (h : List Rl) (w : Wd), Room2 S h w → forR g_led1 b_led1 (h.map dRl) [.fro x0, .fro (.str w), .none] = some (.nx, [.fro x0, .fro (.str (ledT h w)), .none])
  | [], w, _ => rfl
  | r :: h, w, x => by
    have ih := led_loop hS (x0 := x0) h (changed r w) x.next
    have hc := ev_changed hS (x.1 r (by simp)) x.wd
    rw [List.map_cons, ledT, forR_nx (L2 := [.fro x0, .fro (.str (changed r w)), .none]) ?_]
    · exact ih
    · simp [mW, noPin, wipeL, restL, mDNew, List.foldr_cons, List.foldr_nil, List.all_cons, List.all_nil, runF, runP, startL, startP, outD, frz1, mSeq, mNx, mRet, mIfS, mSet, mAsg, mPar', mApp, mExt, mPop, mSetIx, mAug, mFor, mT, mAnd, mOr, mNot, mAndV, mOrV, mNotV, mIf, mB0, mB1, mB2, mBN, mNil, mCons, mF, mVar, mC, mTup, mLst, mSl, mNo, mSo, mMeth, mEnum, mZip, mRng1, mRng2, inRng_3, inRng_4, inRng_6, mSeq1, mTT, opB, opI, opAdd, opIx, opLen, opTuple, opList, opInt, opMin, opAllAny, opJoin, opSl, opDict, opKGet, mGet2, opNeg, opMach, opSounds, opHist, mCh, inE, ninE, eqE, neE, isMach, callF, callP, pu1, pu2, puN, iCmp, frosOf, put, pin_fro, pin_non, pin_own, gN, gNil', gCons', gTup', lstOf, setL, ownOf, isLoc, locIs, mElt, mInn, mLcG, cT, cPos, Option.bind_some, Option.bind_none, Option.map_some, Option.map_none, List.getElem?_cons_zero, List.getElem?_cons_succ, List.set_cons_zero, List.set_cons_succ, List.map_cons, List.map_nil, List.length_cons, List.length_nil, List.cons_append, List.nil_append, List.replicate_succ, List.replicate_zero, asInt__fro_int, asInt__fro_str, asInt__fro_bl, asInt__fro_tup, asInt__fro_row, asInt__fro_lst, asInt__fro_non, asInt__fro_mach, asInt__fro_obj, asInt__tmp, asInt__tmpk, asInt__tmpd, asInt__loc, asStr__fro_int, asStr__fro_str, asStr__fro_bl, asStr__fro_tup, asStr__fro_row, asStr__fro_lst, asStr__fro_non, asStr__fro_mach, asStr__fro_obj, asStr__tmp, asStr__tmpk, asStr__tmpd, asStr__loc, asBl__fro_int, asBl__fro_str, asBl__fro_bl, asBl__fro_tup, asBl__fro_row, asBl__fro_lst, asBl__fro_non, asBl__fro_mach, asBl__fro_obj, asBl__tmp, asBl__tmpk, asBl__tmpd, asBl__loc, asTup__fro_int, asTup__fro_str, asTup__fro_bl, asTup__fro_tup, asTup__fro_row, asTup__fro_lst, asTup__fro_non, asTup__fro_mach, asTup__fro_obj, asTup__tmp, asTup__tmpk, asTup__tmpd, asTup__loc, contL__fro_int, contL__fro_str, contL__fro_bl, contL__fro_tup, contL__fro_row, contL__fro_lst, contL__fro_non, contL__fro_mach, contL__fro_obj, contL__tmp, contL__tmpk, contL__tmpd, contK__fro_int, contK__fro_str, contK__fro_bl, contK__fro_tup, contK__fro_row, contK__fro_lst, contK__fro_non, contK__fro_mach, contK__fro_obj, contK__tmp, contK__tmpk, contK__tmpd, contL__loc, lvL__own, lvL__pin, lvL__fro, lvL__k, lvL__d, contK__loc, kOf, g_led1, b_led1, hc]
theorem ev_led {S : Wd} (hS : AlOk S) {h : List Rl} {w : Wd} (x : Room2 S h w) : F_led [dHi h, .str w] = some (.str (ledT h w)) := by
  have hl := led_loop hS (x0 := dHi h) h w x
  unfold F_led m_led
  unfold dHi at hl ⊢
  simp [mW, noPin, wipeL, restL, mDNew, List.foldr_cons, List.foldr_nil, List.all_cons, List.all_nil, runF, runP, startL, startP, outD, frz1, mSeq, mNx, mRet, mIfS, mSet, mAsg, mPar', mApp, mExt, mPop, mSetIx, mAug, mFor, mT, mAnd, mOr, mNot, mAndV, mOrV, mNotV, mIf, mB0, mB1, mB2, mBN, mNil, mCons, mF, mVar, mC, mTup, mLst, mSl, mNo, mSo, mMeth, mEnum, mZip, mRng1, mRng2, inRng_3, inRng_4, inRng_6, mSeq1, mTT, opB, opI, opAdd, opIx, opLen, opTuple, opList, opInt, opMin, opAllAny, opJoin, opSl, opDict, opKGet, mGet2, opNeg, opMach, opSounds, opHist, mCh, inE, ninE, eqE, neE, isMach, callF, callP, pu1, pu2, puN, iCmp, frosOf, put, pin_fro, pin_non, pin_own, gN, gNil', gCons', gTup', lstOf, setL, ownOf, isLoc, locIs, mElt, mInn, mLcG, cT, cPos, Option.bind_some, Option.bind_none, Option.map_some, Option.map_none, List.getElem?_cons_zero, List.getElem?_cons_succ, List.set_cons_zero, List.set_cons_succ, List.map_cons, List.map_nil, List.length_cons, List.length_nil, List.cons_append, List.nil_append, List.replicate_succ, List.replicate_zero, asInt__fro_int, asInt__fro_str, asInt__fro_bl, asInt__fro_tup, asInt__fro_row, asInt__fro_lst, asInt__fro_non, asInt__fro_mach, asInt__fro_obj, asInt__tmp, asInt__tmpk, asInt__tmpd, asInt__loc, asStr__fro_int, asStr__fro_str, asStr__fro_bl, asStr__fro_tup, asStr__fro_row, asStr__fro_lst, asStr__fro_non, asStr__fro_mach, asStr__fro_obj, asStr__tmp, asStr__tmpk, asStr__tmpd, asStr__loc, asBl__fro_int, asBl__fro_str, asBl__fro_bl, asBl__fro_tup, asBl__fro_row, asBl__fro_lst, asBl__fro_non, asBl__fro_mach, asBl__fro_obj, asBl__tmp, asBl__tmpk, asBl__tmpd, asBl__loc, asTup__fro_int, asTup__fro_str, asTup__fro_bl, asTup__fro_tup, asTup__fro_row, asTup__fro_lst, asTup__fro_non, asTup__fro_mach, asTup__fro_obj, asTup__tmp, asTup__tmpk, asTup__tmpd, asTup__loc, contL__fro_int, contL__fro_str, contL__fro_bl, contL__fro_tup, contL__fro_row, contL__fro_lst, contL__fro_non, contL__fro_mach, contL__fro_obj, contL__tmp, contL__tmpk, contL__tmpd, contK__fro_int, contK__fro_str, contK__fro_bl, contK__fro_tup, contK__fro_row, contK__fro_lst, contK__fro_non, contK__fro_mach, contK__fro_obj, contK__tmp, contK__tmpk, contK__tmpd, contL__loc, lvL__own, lvL__pin, lvL__fro, lvL__k, lvL__d, contK__loc, kOf, hl]
end SS

/-! machines: what their steps are -/
namespace SS

theorem allB_ok {S : Wd} {r : Rl} (hS : S.length ≤ 6) (hr : r.bh.length ≤ 2) : (allB r S).Nodup ∧ bend r ∈ allB r S ∧ (∀ e ∈ allB r S, ∀ c ∈ S, bhst r e c ∈ allB r S) ∧ (∀ e ∈ allB r S, e.length = r.bh.length) ∧ (allB r S).length ≤ 4 ∧
    wl (fun e => S.map (bhst r e)) 10000 [] [bend r] = some (wlB r S) := by
  have hU : ∀ x ∈ bools r.bh.length, ((fun e => S.map (bhst r e)) x).length ≤ 6 ∧ ∀ y ∈ (fun e => S.map (bhst r e)) x, y ∈ bools r.bh.length := fun x _ => by
    refine ⟨by simpa using hS, fun y hy => ?_⟩
    obtain ⟨c, _, rfl⟩ := List.mem_map.mp hy
    exact mem_bools (bhst_len r x c)
  have hl := Nat.le_trans (bools_len r.bh.length) (pow_4 hr)
  obtain ⟨l, h1⟩ := wl_some hU 10000 [] [bend r] (by simp) (by simp) (fun x hx => by rw [List.mem_singleton.mp hx]; exact mem_bools (bend_len r)) (by simp; omega)
  have e : wlB r S = l := by unfold wlB; rw [h1]; rfl
  obtain ⟨n1, n2, n3⟩ := wl_spec h1 (by simp) (by simp)
  have h3 := wl_all (R := fun e => e.length = r.bh.length) (fun x _ y hy => by
    obtain ⟨c, _, rfl⟩ := List.mem_map.mp hy
    exact bhst_len r x c) h1 (by simp) (fun x hx => by rw [List.mem_singleton.mp hx]; exact bend_len r)
  have hp : (allB r S).Perm l := by unfold allB; rw [e]; exact List.mergeSort_perm _ _
  refine ⟨hp.nodup_iff.mpr n1, hp.mem_iff.mpr (n2 _ (by simp)), fun x hx c hc => hp.mem_iff.mpr (n3 x (hp.mem_iff.mp hx) _ (List.mem_map.mpr ⟨c, hc, rfl⟩)), fun x hx => h3 x (hp.mem_iff.mp hx), ?_, by rw [e]; exact h1⟩
  rw [hp.length_eq]
  exact Nat.le_trans (nodup_sub n1 fun x hx => mem_bools (h3 x hx)) hl
def bkW (r : Rl) (e : List Bool) (w : Wd) : List Bool := w.foldr (fun c x => bhst r x c) e
def fwW (r : Rl) (a : List Bool) (w : Wd) : List Bool := w.foldl (bstp r) a
def outW (r : Rl) : List Bool → List Bool → Wd → Wd
  | _, _, [] => []
  | a, e, c :: w => outB r a (bkW r e w) c ++ outW r (bstp r a c) e w
theorem bkW_app (r : Rl) (e : List Bool) (u v : Wd) : bkW r e (u ++ v) = bkW r (bkW r e v) u := by simp [bkW]
theorem fwW_app (r : Rl) (a : List Bool) (u v : Wd) : fwW r a (u ++ v) = fwW r (fwW r a u) v := by simp [fwW]
theorem outW_app (r : Rl) (e : List Bool) (v : Wd) : ∀ (u : Wd) (a : List Bool), outW r a e (u ++ v) = outW r a (bkW r e v) u ++ outW r (fwW r a u) e v
  | [], a => rfl
  | c :: u, a => by
    rw [List.cons_append, outW, outW, bkW_app, outW_app r e v u, List.append_assoc]
    rfl
theorem bkW_in {S : Wd} {r : Rl} (hS : S.length ≤ 6) (hr : r.bh.length ≤ 2) {e : List Bool} (he : e ∈ allB r S) : ∀ {w : Wd}, (∀ c ∈ w, c ∈ S) → bkW r e w ∈ allB r S
  | [], _ => he
  | c :: w, h => (allB_ok hS hr).2.2.1 _ (bkW_in hS hr he fun x hx => h x (by simp [hx])) c (h c (by simp))
theorem outB_ok {S : Wd} {r : Rl} (hr : RlOk S r) {a e : List Bool} {c : Nat} (hc : c ∈ S) : (outB r a e c).length ≤ 2 ∧ ∀ x ∈ outB r a e c, x ∈ S := by
  unfold outB
  split
  · exact chg_ok hr hc
  · exact ⟨by simp, fun x hx => by rw [List.mem_singleton.mp hx]; exact hc⟩
theorem outW_ok {S : Wd} {r : Rl} (hr : RlOk S r) {e : List Bool} : ∀ {w : Wd} {a : List Bool}, (∀ c ∈ w, c ∈ S) → (outW r a e w).length ≤ 2 * w.length ∧ ∀ x ∈ outW r a e w, x ∈ S
  | [], _, _ => by simp [outW]
  | c :: w, a, h => by
    obtain ⟨h1, h2⟩ := outB_ok hr (a := a) (e := bkW r e w) (h c (by simp))
    obtain ⟨h3, h4⟩ := outW_ok hr (e := e) (w := w) (a := bstp r a c) fun x hx => h x (by simp [hx])
    rw [outW]
    refine ⟨by rw [List.length_append, List.length_cons]; omega, fun x hx => ?_⟩
    rcases List.mem_append.mp hx with z | z
    · exact h2 x z
    · exact h4 x z
/-! ### one rule along a word -/
theorem ruleRun_rows (r : Rl) (S : Wd) : ∀ (w : Wd) (rows : List (RSt × Wd)), ruleRun r S w rows = rows.flatMap fun p => (ruleRun r S w [(p.1, [])]).map fun q => (q.1, p.2 ++ q.2)
  | [], rows => by
    induction rows with
    | nil => rfl
    | cons p rows ih =>
      simp only [ruleRun] at ih ⊢
      rw [List.flatMap_cons, ← ih]
      simp
  | c :: w, rows => by
    simp only [ruleRun]
    rw [ruleRun_rows r S w, List.flatMap_assoc]
    congr 1
    funext p
    rw [ruleRun_rows r S w ([(p.1, [])].flatMap _)]
    simp only [List.flatMap_cons, List.flatMap_nil, List.append_nil, List.flatMap_map, List.nil_append, List.map_flatMap, List.map_map]
    congr 1
    funext q
    refine List.map_congr_left fun t _ => ?_
    simp
theorem ruleRun_cons (r : Rl) (S : Wd) (c : Nat) (w : Wd) (s : RSt) : ruleRun r S (c :: w) [(s, [])] = (ruleSteps r S s c).flatMap fun q => (ruleRun r S w [(q.1, [])]).map fun t => (t.1, q.2 ++ t.2) := by
  rw [ruleRun, ruleRun_rows]
  simp [List.flatMap_map]
theorem ruleRun_mem {r : Rl} {S : Wd} (hS : S.length ≤ 6) (hr : r.bh.length ≤ 2) : ∀ {w : Wd} {s : RSt}, s.2 ∈ allB r S → (∀ c ∈ w, c ∈ S) → ∀ p : RSt × Wd, p ∈ ruleRun r S w [(s, [])] ↔ p.1.2 ∈ allB r S ∧ s.2 = bkW r p.1.2 w ∧ p.1.1 = fwW r s.1 w ∧ p.2 = outW r s.1 p.1.2 w
  | [], s, hs, _, p => by
    simp only [ruleRun, List.mem_singleton, bkW, fwW, outW, List.foldr_nil, List.foldl_nil]
    constructor
    · rintro rfl; exact ⟨hs, rfl, rfl, rfl⟩
    · rintro ⟨_, h2, h3, h4⟩; exact Prod.ext (Prod.ext h3 h2.symm) h4
  | c :: w, s, hs, hw, p => by
    have hc := hw c (by simp)
    have hw' : ∀ x ∈ w, x ∈ S := fun x hx => hw x (by simp [hx])
    rw [ruleRun_cons, List.mem_flatMap]
    constructor
    · rintro ⟨q, hq, ht⟩
      unfold ruleSteps at hq
      obtain ⟨k, hk, rfl⟩ := List.mem_map.mp hq
      obtain ⟨hk1, hk2⟩ := List.mem_filter.mp hk
      have hk2 := of_decide_eq_true hk2
      obtain ⟨t, ht1, rfl⟩ := List.mem_map.mp ht
      obtain ⟨h1, h2, h3, h4⟩ := (ruleRun_mem hS hr (s := (bstp r s.1 c, k)) hk1 hw' t).mp ht1
      simp only at h2 h3 h4
      refine ⟨h1, ?_, h3, ?_⟩
      · rw [← hk2, h2]; rfl
      · show _ ++ t.2 = outB r s.1 (bkW r t.1.2 w) c ++ outW r (bstp r s.1 c) t.1.2 w
        rw [h4, h2]
    · rintro ⟨h1, h2, h3, h4⟩
      have hk := bkW_in hS hr h1 hw'
      refine ⟨((bstp r s.1 c, bkW r p.1.2 w), outB r s.1 (bkW r p.1.2 w) c), ?_, List.mem_map.mpr ⟨(p.1, outW r (bstp r s.1 c) p.1.2 w), (ruleRun_mem hS hr hk hw' _).mpr ⟨h1, rfl, h3, rfl⟩, ?_⟩⟩
      · unfold ruleSteps
        exact List.mem_map.mpr ⟨bkW r p.1.2 w, List.mem_filter.mpr ⟨hk, decide_eq_true h2.symm⟩, rfl⟩
      · exact Prod.ext rfl h4.symm
theorem ruleRun_nodup {r : Rl} {S : Wd} (hS : S.length ≤ 6) (hr : r.bh.length ≤ 2) : ∀ {w : Wd} {s : RSt}, s.2 ∈ allB r S → (∀ c ∈ w, c ∈ S) → ((ruleRun r S w [(s, [])]).map fun p => p.1.2).Nodup
  | [], s, _, _ => by simp [ruleRun]
  | c :: w, s, hs, hw => by
    have hw' : ∀ x ∈ w, x ∈ S := fun x hx => hw x (by simp [hx])
    rw [ruleRun_cons, List.map_flatMap]
    unfold ruleSteps
    rw [List.flatMap_map]
    have hn := ((allB_ok hS hr).1).filter (fun k => decide (bhst r k c = s.2))
    refine List.pairwise_flatMap.mpr ⟨fun k hk => ?_, hn.imp_of_mem fun {k k'} hk hk' hne => ?_⟩
    · have hk1 := (List.mem_filter.mp hk).1
      have h := ruleRun_nodup hS hr (w := w) (s := (bstp r s.1 c, k)) hk1 hw'
      rw [List.map_map]
      exact h
    · intro x hx y hy e
      subst e
      have go : ∀ k, k ∈ (allB r S).filter (fun k => decide (bhst r k c = s.2)) → x ∈ ((ruleRun r S w [((bstp r s.1 c, k), [])]).map fun t => ((t.1, outB r s.1 k c ++ t.2) : RSt × Wd)).map (fun p => p.1.2) → k = bkW r x w := fun k hk hx => by
        rw [List.map_map] at hx
        obtain ⟨t, ht, rfl⟩ := List.mem_map.mp hx
        exact ((ruleRun_mem hS hr (s := (bstp r s.1 c, k)) (List.mem_filter.mp hk).1 hw' t).mp ht).2.1
      exact hne ((go k hk hx).trans (go k' hk' hy).symm)
theorem ruleRun_len {r : Rl} {S : Wd} (hS : S.length ≤ 6) (hr : r.bh.length ≤ 2) {w : Wd} {s : RSt} (hs : s.2 ∈ allB r S) (hw : ∀ c ∈ w, c ∈ S) : (ruleRun r S w [(s, [])]).length ≤ 4 := by
  have h := nodup_sub (ruleRun_nodup hS hr hs hw) (K := allB r S) fun x hx => by
    obtain ⟨p, hp, rfl⟩ := List.mem_map.mp hx
    exact ((ruleRun_mem hS hr hs hw p).mp hp).1
  rw [List.length_map] at h
  exact Nat.le_trans h (allB_ok hS hr).2.2.2.2.1
/-! ### a history along a word -/
def Tr : List Rl → List RSt → Wd → List RSt → Wd → Prop
  | [], [], w, [], o => o = w
  | r :: h, s :: st, w, s' :: st', o => s'.1 = fwW r s.1 w ∧ s.2 = bkW r s'.2 w ∧ Tr h st (outW r s.1 s'.2 w) st' o
  | _, _, _, _, _ => False
def InB (S : Wd) : List Rl → List RSt → Prop
  | [], [] => True
  | r :: h, s :: st => s.2 ∈ allB r S ∧ InB S h st
  | _, _ => False
theorem stepsG_rows (S : Wd) : ∀ (h : List Rl) (st : List RSt) (rows : List (List RSt × Wd)), stepsG S h st rows = rows.flatMap fun p => (stepsG S h st [([], p.2)]).map fun q => (p.1 ++ q.1, q.2)
  | [], st, rows => by
    induction rows with
    | nil => rfl
    | cons p rows ih =>
      simp only [stepsG] at ih ⊢
      rw [List.flatMap_cons, ← ih]
      simp
  | _ :: _, [], rows => by
    induction rows with
    | nil => rfl
    | cons p rows ih =>
      simp only [stepsG] at ih ⊢
      rw [List.flatMap_cons, ← ih]
      simp
  | r :: h, s :: st, rows => by
    simp only [stepsG]
    rw [stepsG_rows S h st, List.flatMap_assoc]
    congr 1
    funext p
    rw [stepsG_rows S h st ([([], p.2)].flatMap _)]
    simp only [List.flatMap_cons, List.flatMap_nil, List.append_nil, List.flatMap_map, List.nil_append, List.map_flatMap, List.map_map]
    congr 1
    funext q
    refine List.map_congr_left fun t _ => ?_
    simp
theorem stepsG_cons (S : Wd) (r : Rl) (h : List Rl) (s : RSt) (st : List RSt) (w : Wd) : stepsG S (r :: h) (s :: st) [([], w)] = (ruleRun r S w [(s, [])]).flatMap fun q => (stepsG S h st [([], q.2)]).map fun t => (q.1 :: t.1, t.2) := by
  rw [stepsG, stepsG_rows]
  simp [List.flatMap_map]
structure SlOk (S : Wd) (h : List Rl) : Prop where
  S6 : S.length ≤ 6
  rl : ∀ r ∈ h, RlOk S r
theorem SlOk.tail {S : Wd} {r : Rl} {h : List Rl} (x : SlOk S (r :: h)) : SlOk S h := ⟨x.S6, fun q hq => x.rl q (by simp [hq])⟩
theorem stepsG_mem {S : Wd} : ∀ {h : List Rl} {st : List RSt} {w : Wd}, SlOk S h → InB S h st → (∀ c ∈ w, c ∈ S) → ∀ p : List RSt × Wd, p ∈ stepsG S h st [([], w)] ↔ Tr h st w p.1 p.2 ∧ InB S h p.1
  | [], [], w, _, _, _, p => by
    obtain ⟨a, o⟩ := p
    simp only [stepsG, List.mem_singleton, Prod.mk.injEq]
    constructor
    · rintro ⟨rfl, rfl⟩; exact ⟨rfl, trivial⟩
    · rintro ⟨h1, h2⟩
      cases a with
      | nil => exact ⟨rfl, h1⟩
      | cons x a => exact h2.elim
  | r :: h, s :: st, w, ok, hin, hw, p => by
    have hr := ok.rl r (by simp)
    obtain ⟨a, o⟩ := p
    rw [stepsG_cons, List.mem_flatMap]
    constructor
    · rintro ⟨q, hq, ht⟩
      obtain ⟨t, ht1, e⟩ := List.mem_map.mp ht
      cases e
      obtain ⟨h1, h2, h3, h4⟩ := (ruleRun_mem ok.S6 hr.nbh hin.1 hw q).mp hq
      have hq2 : ∀ c ∈ q.2, c ∈ S := by rw [h4]; exact (outW_ok hr hw).2
      obtain ⟨h5, h6⟩ := (stepsG_mem ok.tail hin.2 hq2 t).mp ht1
      rw [h4] at h5
      exact ⟨⟨h3, h2, h5⟩, h1, h6⟩
    · rintro ⟨h1, h2⟩
      cases a with
      | nil => exact h1.elim
      | cons s' a =>
        obtain ⟨h3, h4, h5⟩ := h1
        refine ⟨(s', outW r s.1 s'.2 w), (ruleRun_mem ok.S6 hr.nbh hin.1 hw _).mpr ⟨h2.1, h4, h3, rfl⟩, List.mem_map.mpr ⟨(a, o), (stepsG_mem ok.tail hin.2 (outW_ok hr hw).2 _).mpr ⟨h5, h2.2⟩, rfl⟩⟩
  | [], _ :: _, _, _, hin, _, _ => hin.elim
  | _ :: _, [], _, _, hin, _, _ => hin.elim
theorem stepsG_nodup {S : Wd} : ∀ {h : List Rl} {st : List RSt} {w : Wd}, SlOk S h → InB S h st → (∀ c ∈ w, c ∈ S) → ((stepsG S h st [([], w)]).map (·.1)).Nodup ∧ (stepsG S h st [([], w)]).length ≤ 4 ^ h.length
  | [], [], w, _, _, _ => by simp [stepsG]
  | r :: h, s :: st, w, ok, hin, hw => by
    have hr := ok.rl r (by simp)
    have hn := ruleRun_nodup ok.S6 hr.nbh hin.1 hw
    have hq2 : ∀ q ∈ ruleRun r S w [(s, [])], ∀ c ∈ q.2, c ∈ S := fun q hq => by
      rw [((ruleRun_mem ok.S6 hr.nbh hin.1 hw q).mp hq).2.2.2]; exact (outW_ok hr hw).2
    rw [stepsG_cons]
    constructor
    · rw [List.map_flatMap]
      refine List.pairwise_flatMap.mpr ⟨fun q hq => ?_, ?_⟩
      · have h1 := (stepsG_nodup ok.tail hin.2 (hq2 q hq)).1
        rw [List.map_map]
        have e : ((fun x => x.1) ∘ fun t => (q.1 :: t.1, t.2)) = (fun l : List RSt => q.1 :: l) ∘ fun t : List RSt × Wd => t.1 := rfl
        rw [e, ← List.map_map]
        exact List.Pairwise.map _ (fun a b hab e => hab (by injection e)) h1
      · have hn' : (ruleRun r S w [(s, [])]).Pairwise fun a b => a.1.2 ≠ b.1.2 := List.pairwise_map.mp hn
        refine hn'.imp fun {a b} hab x hx y hy e => ?_
        subst e
        rw [List.map_map] at hx hy
        obtain ⟨t, _, e1⟩ := List.mem_map.mp hx
        obtain ⟨t', _, e2⟩ := List.mem_map.mp hy
        simp only [Function.comp] at e1 e2
        rw [← e1] at e2
        injection e2 with e3 _
        exact hab (by rw [e3])
    · have h1 := flat_le (f := fun q : RSt × Wd => (stepsG S h st [([], q.2)]).map fun t => ((q.1 :: t.1, t.2) : List RSt × Wd)) (n := 4 ^ h.length) (l := ruleRun r S w [(s, [])]) fun q hq => by
        rw [List.length_map]
        exact (stepsG_nodup ok.tail hin.2 (hq2 q hq)).2
      have h2 := ruleRun_len ok.S6 hr.nbh hin.1 hw
      rw [List.length_cons, Nat.pow_succ, Nat.mul_comm _ 4]
      exact Nat.le_trans h1 (Nat.mul_le_mul_right _ h2)
  | [], _ :: _, _, _, hin, _ => hin.elim
  | _ :: _, [], _, _, hin, _ => hin.elim
/-! ### words put together -/
theorem Tr.app : ∀ {h : List Rl} {s m s' : List RSt} {u v o1 o2 : Wd}, Tr h s u m o1 → Tr h m v s' o2 → Tr h s (u ++ v) s' (o1 ++ o2)
  | [], [], [], [], u, v, o1, o2, h1, h2 => by
    have e1 : o1 = u := h1
    have e2 : o2 = v := h2
    subst e1 e2
    exact (rfl : _ = _)
  | r :: h, s :: st, m :: mt, s' :: st', u, v, o1, o2, ⟨a1, a2, a3⟩, ⟨b1, b2, b3⟩ => by
    refine ⟨?_, ?_, ?_⟩
    · rw [b1, a1, fwW_app]
    · rw [a2, b2, bkW_app]
    · rw [outW_app, ← b2, ← a1]
      exact Tr.app a3 b3
/-- both ends tell all -/
theorem Tr.same : ∀ {h : List Rl} {s m s' t m2 t' : List RSt} {u v o1 o2 p1 p2 : Wd}, Tr h s u m o1 → Tr h m v s' o2 → Tr h t u m2 p1 → Tr h m2 v t' p2 → s.map (·.1) = t.map (·.1) → s'.map (·.2) = t'.map (·.2) → m = m2 ∧ s = t ∧ s' = t' ∧ o1 = p1 ∧ o2 = p2
  | [], [], [], [], [], [], [], u, v, o1, o2, p1, p2, h1, h2, h3, h4, _, _ => ⟨rfl, rfl, rfl, (h1 : o1 = u).trans (h3 : p1 = u).symm, (h2 : o2 = v).trans (h4 : p2 = v).symm⟩
  | r :: h, s :: st, m :: mt, s' :: st', t :: tt, m2 :: mt2, t' :: tt', u, v, o1, o2, p1, p2, ⟨a1, a2, a3⟩, ⟨b1, b2, b3⟩, ⟨c1, c2, c3⟩, ⟨d1, d2, d3⟩, e1, e2 => by
    simp only [List.map_cons, List.cons.injEq] at e1 e2
    obtain ⟨x1, x2⟩ := e1
    obtain ⟨y1, y2⟩ := e2
    have m1 : m.1 = m2.1 := by rw [a1, c1, x1]
    have m2' : m.2 = m2.2 := by rw [b2, d2, y1]
    have hm : m = m2 := Prod.ext m1 m2'
    subst hm
    have hs : s = t := Prod.ext x1 (by rw [a2, c2])
    have hs' : s' = t' := Prod.ext (by rw [b1, d1]) y1
    subst hs hs'
    obtain ⟨i1, i2, i3, i4, i5⟩ := Tr.same a3 b3 c3 d3 x2 y2
    subst i1 i2 i3 i4 i5
    exact ⟨rfl, rfl, rfl, rfl, rfl⟩
theorem Tr.nil_id : ∀ {h : List Rl} {s : List RSt}, s.length = h.length → Tr h s [] s []
  | [], [], _ => (rfl : _ = _)
  | r :: h, s :: st, e => ⟨rfl, rfl, Tr.nil_id (by simpa using e)⟩
  | [], _ :: _, e => by simp at e
  | _ :: _, [], e => by simp at e
theorem Tr.len : ∀ {h : List Rl} {s s' : List RSt} {u o : Wd}, Tr h s u s' o → s.length = h.length ∧ s'.length = h.length
  | [], [], [], _, _, _ => ⟨rfl, rfl⟩
  | r :: h, s :: st, s' :: st', _, _, ⟨_, _, c⟩ => by
    obtain ⟨h1, h2⟩ := Tr.len c
    exact ⟨by simp [h1], by simp [h2]⟩
theorem Tr.uniq {h : List Rl} {s s' t t' : List RSt} {u o p : Wd} (h1 : Tr h s u s' o) (h2 : Tr h t u t' p) (e1 : s.map (·.1) = t.map (·.1)) (e2 : s'.map (·.2) = t'.map (·.2)) : s = t ∧ s' = t' ∧ o = p := by
  obtain ⟨i1, i2, i3, i4, i5⟩ := Tr.same (Tr.nil_id h1.len.1) h1 (Tr.nil_id h2.len.1) h2 e1 e2
  exact ⟨i2, i3, i5⟩
/-- behinds that can be -/
def InE (S : Wd) : List Rl → List (List Bool) → Prop
  | [], [] => True
  | r :: h, e :: es => e ∈ allB r S ∧ InE S h es
  | _, _ => False
/-- there is a way -/
theorem Tr.ex {S : Wd} : ∀ {h : List Rl} {as es : List (List Bool)} {w : Wd}, SlOk S h → (∀ c ∈ w, c ∈ S) → as.length = h.length → InE S h es → ∃ s s' o, Tr h s w s' o ∧ s.map (·.1) = as ∧ s'.map (·.2) = es ∧ InB S h s ∧ InB S h s' ∧ ∀ c ∈ o, c ∈ S
  | [], [], [], w, _, hw, _, _ => ⟨[], [], w, rfl, rfl, rfl, trivial, trivial, hw⟩
  | r :: h, a :: as, e :: es, w, ok, hw, hl, f => by
    have hr := ok.rl r (by simp)
    obtain ⟨s, s', o, i1, i2, i3, i4, i5, i6⟩ := Tr.ex (as := as) (es := es) (w := outW r a e w) ok.tail (outW_ok hr hw).2 (by simpa using hl) f.2
    exact ⟨(a, bkW r e w) :: s, (fwW r a w, e) :: s', o, ⟨rfl, rfl, i1⟩, by simp [i2], by simp [i3], ⟨bkW_in ok.S6 hr.nbh f.1 hw, i4⟩, ⟨f.1, i5⟩, i6⟩
  | [], _ :: _, _, _, _, _, hl, _ => by simp at hl
  | _ :: _, [], _, _, _, _, hl, _ => by simp at hl
  | [], [], _ :: _, _, _, _, _, f => f.elim
  | _ :: _, _ :: _, [], _, _, _, _, f => f.elim
theorem InE.ends {S : Wd} : ∀ {h : List Rl}, SlOk S h → InE S h (h.map bend)
  | [], _ => trivial
  | r :: h, ok => ⟨(allB_ok ok.S6 (ok.rl r (by simp)).nbh).2.1, InE.ends ok.tail⟩
theorem InB.inE {S : Wd} : ∀ {h : List Rl} {s : List RSt}, InB S h s → InE S h (s.map (·.2))
  | [], [], _ => trivial
  | r :: h, s :: st, f => ⟨f.1, InB.inE f.2⟩
  | [], _ :: _, f => f.elim
  | _ :: _, [], f => f.elim
theorem InE.inB {S : Wd} : ∀ {h : List Rl} {s : List RSt}, InE S h (s.map (·.2)) → InB S h s
  | [], [], _ => trivial
  | r :: h, s :: st, f => ⟨f.1, InE.inB f.2⟩
  | [], _ :: _, f => f.elim
  | _ :: _, [], f => f.elim
end SS

/-! machines: the ways along a word, what the history leads it to -/
namespace SS

theorem chAt_i {w : Wd} {i : Nat} {c : Nat} (h : w[i]? = some c) {z : Int} (hz : z = i) : chAt w z = c := by
  subst hz
  have hi := (List.getElem?_eq_some_iff.mp h).1
  unfold chAt
  rw [if_pos ⟨by omega, by omega⟩, Int.toNat_natCast, List.getD_eq_getElem?_getD, h]
  rfl
theorem chAt_out {w : Wd} {z : Int} (h : z < 0 ∨ w.length ≤ z) : chAt w z = 35 := by
  unfold chAt
  rw [if_neg (by omega)]
theorem slot_35 {x : Wd} {p : Prop} [Decidable p] (h : LotOk x ∨ (x = [35] ∧ p)) : decide (35 ∈ x) = decide (x = [35]) := by
  rcases h with h | ⟨rfl, _⟩
  · rw [decide_eq_false h.2]
    exact (decide_eq_false fun e => h.2 (by rw [e]; simp)).symm
  · simp
theorem lot_35 {x : Wd} (h : LotOk x) : decide (35 ∈ x) = false := decide_eq_false h.2
def beF (w : Wd) (i : Nat) : List Wd → List Bool
  | [x] => [decide (chAt w ((i : Int) - 1) ∈ x)]
  | [x, y] => [decide (chAt w ((i : Int) - 1) ∈ x), decide (chAt w ((i : Int) - 2) ∈ x) && decide (chAt w ((i : Int) - 1) ∈ y)]
  | _ => []
def bhF (w : Wd) (i : Nat) : List Wd → List Bool
  | [x] => [decide (chAt w (i : Int) ∈ x)]
  | [x, y] => [decide (chAt w (i : Int) ∈ x) && decide (chAt w ((i : Int) + 1) ∈ y), decide (chAt w (i : Int) ∈ y)]
  | _ => []
theorem range_2 : List.range 2 = [0, 1] := rfl
theorem range_1 : List.range 1 = [0] := rfl
theorem fw_is {S : Wd} {r : Rl} (hr : RlOk S r) {w : Wd} (hw : ∀ c ∈ w, c ≠ 35) : ∀ {i : Nat}, i ≤ w.length → fwW r (bst r) (w.take i) = beF w i r.be
  | 0, _ => by
    have h2 := hr.nbe
    have hb := hr.be
    rw [List.take_zero]
    show bst r = _
    unfold bst
    match h : r.be, h2 with
    | [], _ => rfl
    | [x], _ =>
      have := hb 0 x (by rw [h]; rfl)
      have e := slot_35 this
      simp only [beF, List.length_cons, List.length_nil, range_1, List.map_cons, List.map_nil, List.getElem?_cons_zero, chAt_out (w := w) (z := ((0 : Nat) : Int) - 1) (by omega)]
      rw [e]
      simp
    | [x, y], _ =>
      have e := slot_35 (hb 0 x (by rw [h]; rfl))
      have e2 := hb 1 y (by rw [h]; rfl)
      have e3 : decide (35 ∈ y) = false := by
        rcases e2 with z | z
        · exact lot_35 z
        · omega
      simp only [beF, List.length_cons, List.length_nil, range_2, List.map_cons, List.map_nil, List.getElem?_cons_zero, chAt_out (w := w) (z := ((0 : Nat) : Int) - 1) (by omega), chAt_out (w := w) (z := ((0 : Nat) : Int) - 2) (by omega)]
      rw [e, e3]
      simp [range_2]
  | i + 1, hi => by
    have h2 := hr.nbe
    have ih := fw_is hr hw (i := i) (by omega)
    obtain ⟨c, hc⟩ : ∃ c, w[i]? = some c := ⟨w[i], List.getElem?_eq_getElem (by omega)⟩
    rw [List.take_succ, hc]
    show fwW r (bst r) (w.take i ++ [c]) = _
    rw [fwW_app, ih]
    show bstp r (beF w i r.be) c = _
    have e1 := chAt_i hc (z := (i : Int)) rfl
    have e2 : (i : Int) + 1 - 2 = (i : Int) - 1 := by omega
    unfold bstp bit
    match h : r.be, h2 with
    | [], _ => rfl
    | [x], _ => simp [beF, range_1, e1]
    | [x, y], _ => simp [beF, range_2, e1, e2, Bool.and_comm]
theorem bk_is {S : Wd} {r : Rl} (hr : RlOk S r) {w : Wd} : ∀ {n i : Nat}, n + i = w.length → bkW r (bend r) (w.drop i) = bhF w i r.bh
  | 0, i, hi => by
    have h2 := hr.nbh
    have hb := hr.bh
    rw [List.drop_eq_nil_of_le (by omega)]
    show bend r = _
    unfold bend
    match h : r.bh, h2 with
    | [], _ => rfl
    | [x], _ =>
      have := hb 0 x (by rw [h]; rfl)
      have e := slot_35 this
      simp only [bhF, List.length_cons, List.length_nil, range_1, List.map_cons, List.map_nil, List.getElem?_cons_zero, chAt_out (w := w) (z := (i : Int)) (by omega)]
      rw [e]
      simp
    | [x, y], _ =>
      have e := slot_35 (hb 1 y (by rw [h]; rfl))
      have e2 := hb 0 x (by rw [h]; rfl)
      have e3 : decide (35 ∈ x) = false := by
        rcases e2 with z | z
        · exact lot_35 z
        · rw [h] at z; simp at z
      simp only [bhF, List.length_cons, List.length_nil, range_2, List.map_cons, List.map_nil, List.getElem?_cons_zero, chAt_out (w := w) (z := (i : Int)) (by omega), chAt_out (w := w) (z := (i : Int) + 1) (by omega)]
      rw [e, e3]
      simp [range_2]
  | n + 1, i, hi => by
    have h2 := hr.nbh
    have ih := bk_is hr (w := w) (n := n) (i := i + 1) (by omega)
    have hlt : i < w.length := by omega
    have hc : w[i]? = some w[i] := List.getElem?_eq_getElem hlt
    rw [List.drop_eq_getElem_cons hlt]
    show bhst r (bkW r (bend r) (w.drop (i + 1))) w[i] = _
    rw [ih]
    have e1 := chAt_i hc (z := (i : Int)) rfl
    have e2 : ((i + 1 : Nat) : Int) = (i : Int) + 1 := by omega
    unfold bhst bih
    match h : r.bh, h2 with
    | [], _ => rfl
    | [x], _ => simp [bhF, range_1, e1]
    | [x, y], _ => simp [bhF, range_2, e1, e2]
theorem lastB_be {S : Wd} {r : Rl} (hr : RlOk S r) (w : Wd) (i : Nat) : lastB (beF w i r.be) = shG w ((i : Int) - r.be.length) 0 r.be := by
  have h2 := hr.nbe
  match h : r.be, h2 with
  | [], _ => rfl
  | [x], _ => simp [beF, lastB, shG]
  | [x, y], _ =>
    have e : (i : Int) - 2 + 1 = i - 1 := by omega
    simp [beF, lastB, shG, e]
theorem headB_bh {S : Wd} {r : Rl} (hr : RlOk S r) (w : Wd) (i : Nat) : headB (bhF w i r.bh) = shG w (i : Int) 0 r.bh := by
  have h2 := hr.nbh
  match h : r.bh, h2 with
  | [], _ => rfl
  | [x], _ => simp [bhF, headB, shG]
  | [x, y], _ => simp [bhF, headB, shG]
theorem getS_none {l : List (Nat × Wd)} {c : Nat} (h : c ∉ l.map (·.1)) : ∀ {acc : List (Wd × D)}, getS acc [c] = none → getS (mergeS acc (l.map fun p => ([p.1], D.str p.2))) [c] = none := by
  induction l with
  | nil => exact fun h => h
  | cons p l ih =>
    intro acc ha
    rw [List.map_cons, List.mem_cons, not_or] at h
    have e : mergeS acc ((p :: l).map fun p => ([p.1], D.str p.2)) = mergeS (putS acc [p.1] (D.str p.2)) (l.map fun p => ([p.1], D.str p.2)) := rfl
    rw [e]
    refine ih h.2 ?_
    rw [getS_put, if_neg (fun z => h.1 (by simpa using z.symm)), ha]
theorem chg_id {r : Rl} {c : Nat} (h : c ∉ r.ch.map (·.1)) : chg r c = [c] := by
  unfold chg chD
  rw [getS_none h rfl]
  rfl
theorem out_is {S : Wd} {r : Rl} (hr : RlOk S r) {w : Wd} (hw : ∀ c ∈ w, c ≠ 35) : ∀ {n i : Nat}, n + i = w.length → outW r (fwW r (bst r) (w.take i)) (bend r) (w.drop i) = ((List.range' i n).map (chgAt r w)).flatten
  | 0, i, hi => by
    rw [List.drop_eq_nil_of_le (by omega)]
    rfl
  | n + 1, i, hi => by
    have hlt : i < w.length := by omega
    have ih := out_is hr hw (n := n) (i := i + 1) (by omega)
    have hc : w[i]? = some w[i] := List.getElem?_eq_getElem hlt
    rw [List.drop_eq_getElem_cons hlt, outW, List.range'_succ, List.map_cons, List.flatten_cons]
    have e1 : bstp r (fwW r (bst r) (w.take i)) w[i] = fwW r (bst r) (w.take (i + 1)) := by
      rw [List.take_succ, hc, fwW_app]
      rfl
    rw [e1, ih, fw_is hr hw (by omega), bk_is hr (w := w) (n := n) (i := i + 1) (by omega)]
    congr 1
    unfold outB chgAt appl
    have hg : w.getD i 0 = w[i] := by rw [List.getD_eq_getElem?_getD, hc]; rfl
    have e2 : ((i + 1 : Nat) : Int) = (i : Int) + 1 := by omega
    rw [lastB_be hr, headB_bh hr, hg, e2]
    by_cases hk : w[i] ∈ r.ch.map (·.1)
    · rw [decide_eq_true hk, Bool.true_and]
    · rw [decide_eq_false hk, Bool.false_and, chg_id hk]
      simp
theorem out_changed {S : Wd} {r : Rl} (hr : RlOk S r) {w : Wd} (hw : ∀ c ∈ w, c ≠ 35) : outW r (bst r) (bend r) w = changed r w := by
  have h := out_is hr hw (n := w.length) (i := 0) rfl
  rw [List.take_zero, List.drop_zero] at h
  show outW r (fwW r (bst r) []) (bend r) w = _
  rw [h]
  unfold changed
  rw [List.range_eq_range']
theorem Tr.led {S : Wd} (h35 : 35 ∉ S) : ∀ {h : List Rl} {s s' : List RSt} {w o : Wd}, SlOk S h → (∀ c ∈ w, c ∈ S) → Tr h s w s' o → s.map (·.1) = h.map bst → s'.map (·.2) = h.map bend → o = ledT h w
  | [], [], [], w, o, _, _, t, _, _ => t
  | r :: h, s :: st, s' :: st', w, o, ok, hw, ⟨_, _, t⟩, e1, e2 => by
    simp only [List.map_cons, List.cons.injEq] at e1 e2
    have hr := ok.rl r (by simp)
    have hw2 : ∀ c ∈ w, c ≠ 35 := fun c hc e => h35 (e ▸ hw c hc)
    have ho := out_changed hr hw2
    rw [e1.1, e2.1, ho] at t
    rw [ledT]
    exact Tr.led h35 ok.tail (by rw [← ho]; exact (outW_ok hr hw).2) t e1.2 e2.2
theorem Tr.split {S : Wd} : ∀ {h : List Rl} {s s' : List RSt} {u v o : Wd}, SlOk S h → (∀ c ∈ u, c ∈ S) → (∀ c ∈ v, c ∈ S) → InB S h s' → Tr h s (u ++ v) s' o → ∃ m o1 o2, Tr h s u m o1 ∧ Tr h m v s' o2 ∧ o = o1 ++ o2 ∧ InB S h m
  | [], [], [], u, v, o, _, _, _, _, t => ⟨[], u, v, rfl, rfl, t, trivial⟩
  | r :: h, s :: st, s' :: st', u, v, o, ok, hu, hv, hin, ⟨a1, a2, a3⟩ => by
    have hr := ok.rl r (by simp)
    rw [outW_app] at a3
    obtain ⟨m, o1, o2, i1, i2, i3, i4⟩ := Tr.split ok.tail (outW_ok hr hu).2 (outW_ok hr hv).2 hin.2 a3
    refine ⟨(fwW r s.1 u, bkW r s'.2 v) :: m, o1, o2, ⟨rfl, ?_, i1⟩, ⟨?_, rfl, i2⟩, i3, bkW_in ok.S6 hr.nbh hin.1 hv, i4⟩
    · rw [a2, bkW_app]
    · rw [a1, fwW_app]
/-! ### ways -/
def Path (h : List Rl) : List RSt → Wd → List (List RSt) → List Wd → Prop
  | _, [], [], [] => True
  | s, c :: w, s' :: way, o :: outs => Tr h s [c] s' o ∧ Path h s' w way outs
  | _, _, _, _ => False
def lastOf {α : Type} : α → List α → α
  | s, [] => s
  | _, x :: l => lastOf x l
theorem Path.tr {h : List Rl} : ∀ {w : Wd} {s : List RSt} {way : List (List RSt)} {outs : List Wd}, s.length = h.length → Path h s w way outs → Tr h s w (lastOf s way) outs.flatten
  | [], s, [], [], hl, _ => Tr.nil_id hl
  | c :: w, s, s' :: way, o :: outs, hl, ⟨t, p⟩ => Tr.app t (Path.tr t.len.2 p)
theorem Path.same {h : List Rl} : ∀ {w : Wd} {s t : List RSt} {way way2 : List (List RSt)} {outs outs2 : List Wd}, s.length = h.length → t.length = h.length → Path h s w way outs → Path h t w way2 outs2 → s.map (·.1) = t.map (·.1) → (lastOf s way).map (·.2) = (lastOf t way2).map (·.2) → s = t ∧ way = way2 ∧ outs = outs2
  | [], s, t, [], [], [], [], _, _, _, _, e1, e2 => ⟨List.ext_getElem? fun i => by
      have h1 := congrArg (fun l => l[i]?) e1
      have h2 := congrArg (fun l => l[i]?) e2
      simp only [lastOf, List.getElem?_map] at h1 h2
      cases hs : s[i]? with
      | none =>
        rw [hs] at h1
        cases ht : t[i]? with
        | none => rfl
        | some y => rw [ht] at h1; cases h1
      | some x =>
        rw [hs] at h1 h2
        cases ht : t[i]? with
        | none => rw [ht] at h1; cases h1
        | some y =>
          rw [ht] at h1 h2
          exact congrArg some (Prod.ext (Option.some.inj h1) (Option.some.inj h2)), rfl, rfl⟩
  | c :: w, s, t, s' :: way, t' :: way2, o :: outs, o2 :: outs2, hs, ht, ⟨p1, p2⟩, ⟨q1, q2⟩, e1, e2 => by
    obtain ⟨i1, i2, _, i4, _⟩ := Tr.same p1 (Path.tr p1.len.2 p2) q1 (Path.tr q1.len.2 q2) e1 e2
    subst i1 i2 i4
    obtain ⟨_, j2, j3⟩ := Path.same p1.len.2 q1.len.2 p2 q2 rfl e2
    exact ⟨rfl, by rw [j2], by rw [j3]⟩
theorem Path.ex {S : Wd} {h : List Rl} (ok : SlOk S h) : ∀ {w : Wd} {s s' : List RSt} {o : Wd}, (∀ c ∈ w, c ∈ S) → Tr h s w s' o → InB S h s' → ∃ way outs, Path h s w way outs ∧ lastOf s way = s' ∧ ∀ x ∈ way, InB S h x
  | [], s, s', o, _, t, hin => by
    obtain ⟨_, e, _⟩ := Tr.same (Tr.nil_id t.len.1) (Tr.nil_id t.len.1) (Tr.nil_id t.len.1) (Tr.nil_id t.len.1) (rfl : s.map (·.1) = _) rfl
    have hss : s = s' := by
      have go : ∀ {h : List Rl} {s s' : List RSt} {o : Wd}, Tr h s [] s' o → s = s' := by
        intro h
        induction h with
        | nil =>
          intro s s' o t
          match s, s', t with
          | [], [], _ => rfl
        | cons r h ih =>
          intro s s' o t
          match s, s', t with
          | s :: st, s' :: st', ⟨a, b, c⟩ =>
            have e : s = s' := Prod.ext a.symm b
            subst e
            rw [ih c]
      exact go t
    exact ⟨[], [], trivial, hss, by simp⟩
  | c :: w, s, s', o, hw, t, hin => by
    have hw' : ∀ x ∈ w, x ∈ S := fun x hx => hw x (by simp [hx])
    obtain ⟨m, o1, o2, t1, t2, _, hm⟩ := Tr.split (u := [c]) (v := w) ok (fun x hx => by rw [List.mem_singleton.mp hx]; exact hw c (by simp)) hw' hin t
    obtain ⟨way, outs, p, l, q⟩ := Path.ex ok hw' t2 hin
    exact ⟨m :: way, o1 :: outs, ⟨t1, p⟩, l, fun x hx => by
      rcases List.mem_cons.mp hx with rfl | hx
      · exact hm
      · exact q x hx⟩
theorem Path.len {h : List Rl} : ∀ {w : Wd} {s : List RSt} {way : List (List RSt)} {outs : List Wd}, Path h s w way outs → way.length = w.length ∧ outs.length = w.length
  | [], _, [], [], _ => ⟨rfl, rfl⟩
  | c :: w, _, _ :: _, _ :: _, ⟨_, p⟩ => by
    obtain ⟨h1, h2⟩ := Path.len p
    exact ⟨by simp [h1], by simp [h2]⟩
end SS

/-! machines: the readings of the rules' defs -/
namespace SS
open PySem PySem.Spec PyProof.Rows L2

theorem inRng_0 : inRng 0 := by unfold inRng; omega
theorem slot_at {l : List Wd} {k : Nat} (h : k < l.length) : (l.map D.str)[k]? = some (.str (l.getD k [])) := by
  rw [List.getElem?_map, List.getElem?_eq_getElem h, List.getD_eq_getElem?_getD, List.getElem?_eq_getElem h]
  rfl
theorem bl_at {a : List Bool} {k : Nat} (h : k < a.length) : (a.map D.bl)[k]? = some (.bl (a.getD k false)) := by
  rw [List.getElem?_map, List.getElem?_eq_getElem h, List.getD_eq_getElem?_getD, List.getElem?_eq_getElem h]
  rfl
theorem ev_before_start {r : Rl} (hl : r.be.length ≤ 1000) : F_before_start [dRl r] = some (dB (bst r)) := by
  have hc := lcG_map (vs := [2]) (g := g_before_start1) (me := e_before_start1) (L := [.none, .fro (dSl r.be), .none]) (enc := fun i : Nat => .int (i : Nat)) (f := fun i => .bl (decide (i = 0) && decide (r.be[0]? = some [35]))) rfl (List.range r.be.length) [] (fun i hi => by
    have hi := List.mem_range.mp hi
    by_cases h0 : i = 0
    · subst h0
      obtain ⟨z, hz⟩ : ∃ z, r.be[0]? = some z := ⟨r.be[0], List.getElem?_eq_getElem hi⟩
      have hz2 : (r.be.map D.str)[0]? = some (.str z) := by rw [List.getElem?_map, hz]; rfl
      have ha : atI (r.be.map D.str) 0 = some (.str z) := by have := atI0 (r.be.map D.str) 0; rw [hz2] at this; exact this
      simp [mW, noPin, wipeL, restL, mDNew, List.foldr_cons, List.foldr_nil, List.all_cons, List.all_nil, runF, runP, startL, startP, outD, frz1, mSeq, mNx, mRet, mIfS, mSet, mAsg, mPar', mApp, mExt, mPop, mSetIx, mAug, mFor, mT, mAnd, mOr, mNot, mAndV, mOrV, mNotV, mIf, mB0, mB1, mB2, mBN, mNil, mCons, mF, mVar, mC, mTup, mLst, mSl, mNo, mSo, mMeth, mEnum, mZip, mRng1, mRng2, inRng_3, inRng_4, inRng_6, mSeq1, mTT, opB, opI, opAdd, opIx, opLen, opTuple, opList, opInt, opMin, opAllAny, opJoin, opSl, opDict, opKGet, mGet2, opNeg, opMach, opSounds, opHist, mCh, inE, ninE, eqE, neE, isMach, callF, callP, pu1, pu2, puN, iCmp, frosOf, put, pin_fro, pin_non, pin_own, gN, gNil', gCons', gTup', lstOf, setL, ownOf, isLoc, locIs, mElt, mInn, mLcG, cT, cPos, Option.bind_some, Option.bind_none, Option.map_some, Option.map_none, List.getElem?_cons_zero, List.getElem?_cons_succ, List.set_cons_zero, List.set_cons_succ, List.map_cons, List.map_nil, List.length_cons, List.length_nil, List.cons_append, List.nil_append, List.replicate_succ, List.replicate_zero, asInt__fro_int, asInt__fro_str, asInt__fro_bl, asInt__fro_tup, asInt__fro_row, asInt__fro_lst, asInt__fro_non, asInt__fro_mach, asInt__fro_obj, asInt__tmp, asInt__tmpk, asInt__tmpd, asInt__loc, asStr__fro_int, asStr__fro_str, asStr__fro_bl, asStr__fro_tup, asStr__fro_row, asStr__fro_lst, asStr__fro_non, asStr__fro_mach, asStr__fro_obj, asStr__tmp, asStr__tmpk, asStr__tmpd, asStr__loc, asBl__fro_int, asBl__fro_str, asBl__fro_bl, asBl__fro_tup, asBl__fro_row, asBl__fro_lst, asBl__fro_non, asBl__fro_mach, asBl__fro_obj, asBl__tmp, asBl__tmpk, asBl__tmpd, asBl__loc, asTup__fro_int, asTup__fro_str, asTup__fro_bl, asTup__fro_tup, asTup__fro_row, asTup__fro_lst, asTup__fro_non, asTup__fro_mach, asTup__fro_obj, asTup__tmp, asTup__tmpk, asTup__tmpd, asTup__loc, contL__fro_int, contL__fro_str, contL__fro_bl, contL__fro_tup, contL__fro_row, contL__fro_lst, contL__fro_non, contL__fro_mach, contL__fro_obj, contL__tmp, contL__tmpk, contL__tmpd, contK__fro_int, contK__fro_str, contK__fro_bl, contK__fro_tup, contK__fro_row, contK__fro_lst, contK__fro_non, contK__fro_mach, contK__fro_obj, contK__tmp, contK__tmpk, contK__tmpd, contL__loc, lvL__own, lvL__pin, lvL__fro, lvL__k, lvL__d, contK__loc, kOf, lcE, g_before_start1, e_before_start1, dSl, ha, hz, datE, cok_int, deq_int]
    · simp [mW, noPin, wipeL, restL, mDNew, List.foldr_cons, List.foldr_nil, List.all_cons, List.all_nil, runF, runP, startL, startP, outD, frz1, mSeq, mNx, mRet, mIfS, mSet, mAsg, mPar', mApp, mExt, mPop, mSetIx, mAug, mFor, mT, mAnd, mOr, mNot, mAndV, mOrV, mNotV, mIf, mB0, mB1, mB2, mBN, mNil, mCons, mF, mVar, mC, mTup, mLst, mSl, mNo, mSo, mMeth, mEnum, mZip, mRng1, mRng2, inRng_3, inRng_4, inRng_6, mSeq1, mTT, opB, opI, opAdd, opIx, opLen, opTuple, opList, opInt, opMin, opAllAny, opJoin, opSl, opDict, opKGet, mGet2, opNeg, opMach, opSounds, opHist, mCh, inE, ninE, eqE, neE, isMach, callF, callP, pu1, pu2, puN, iCmp, frosOf, put, pin_fro, pin_non, pin_own, gN, gNil', gCons', gTup', lstOf, setL, ownOf, isLoc, locIs, mElt, mInn, mLcG, cT, cPos, Option.bind_some, Option.bind_none, Option.map_some, Option.map_none, List.getElem?_cons_zero, List.getElem?_cons_succ, List.set_cons_zero, List.set_cons_succ, List.map_cons, List.map_nil, List.length_cons, List.length_nil, List.cons_append, List.nil_append, List.replicate_succ, List.replicate_zero, asInt__fro_int, asInt__fro_str, asInt__fro_bl, asInt__fro_tup, asInt__fro_row, asInt__fro_lst, asInt__fro_non, asInt__fro_mach, asInt__fro_obj, asInt__tmp, asInt__tmpk, asInt__tmpd, asInt__loc, asStr__fro_int, asStr__fro_str, asStr__fro_bl, asStr__fro_tup, asStr__fro_row, asStr__fro_lst, asStr__fro_non, asStr__fro_mach, asStr__fro_obj, asStr__tmp, asStr__tmpk, asStr__tmpd, asStr__loc, asBl__fro_int, asBl__fro_str, asBl__fro_bl, asBl__fro_tup, asBl__fro_row, asBl__fro_lst, asBl__fro_non, asBl__fro_mach, asBl__fro_obj, asBl__tmp, asBl__tmpk, asBl__tmpd, asBl__loc, asTup__fro_int, asTup__fro_str, asTup__fro_bl, asTup__fro_tup, asTup__fro_row, asTup__fro_lst, asTup__fro_non, asTup__fro_mach, asTup__fro_obj, asTup__tmp, asTup__tmpk, asTup__tmpd, asTup__loc, contL__fro_int, contL__fro_str, contL__fro_bl, contL__fro_tup, contL__fro_row, contL__fro_lst, contL__fro_non, contL__fro_mach, contL__fro_obj, contL__tmp, contL__tmpk, contL__tmpd, contK__fro_int, contK__fro_str, contK__fro_bl, contK__fro_tup, contK__fro_row, contK__fro_lst, contK__fro_non, contK__fro_mach, contK__fro_obj, contK__tmp, contK__tmpk, contK__tmpd, contL__loc, lvL__own, lvL__pin, lvL__fro, lvL__k, lvL__d, contK__loc, kOf, lcE, g_before_start1, e_before_start1, dSl, h0, datE, cok_int, deq_int]) (by rw [List.length_range, LIM_val]; simp; omega)
  have hr := inRng_nat (n := r.be.length) (by omega)
  unfold F_before_start m_before_start bst dB
  unfold dSl at hc
  unfold dRl dSl
  rw [List.nil_append] at hc
  simp [mW, noPin, wipeL, restL, mDNew, List.foldr_cons, List.foldr_nil, List.all_cons, List.all_nil, runF, runP, startL, startP, outD, frz1, mSeq, mNx, mRet, mIfS, mSet, mAsg, mPar', mApp, mExt, mPop, mSetIx, mAug, mFor, mT, mAnd, mOr, mNot, mAndV, mOrV, mNotV, mIf, mB0, mB1, mB2, mBN, mNil, mCons, mF, mVar, mC, mTup, mLst, mSl, mNo, mSo, mMeth, mEnum, mZip, mRng1, mRng2, inRng_3, inRng_4, inRng_6, mSeq1, mTT, opB, opI, opAdd, opIx, opLen, opTuple, opList, opInt, opMin, opAllAny, opJoin, opSl, opDict, opKGet, mGet2, opNeg, opMach, opSounds, opHist, mCh, inE, ninE, eqE, neE, isMach, callF, callP, pu1, pu2, puN, iCmp, frosOf, put, pin_fro, pin_non, pin_own, gN, gNil', gCons', gTup', lstOf, setL, ownOf, isLoc, locIs, mElt, mInn, mLcG, cT, cPos, Option.bind_some, Option.bind_none, Option.map_some, Option.map_none, List.getElem?_cons_zero, List.getElem?_cons_succ, List.set_cons_zero, List.set_cons_succ, List.map_cons, List.map_nil, List.length_cons, List.length_nil, List.cons_append, List.nil_append, List.replicate_succ, List.replicate_zero, asInt__fro_int, asInt__fro_str, asInt__fro_bl, asInt__fro_tup, asInt__fro_row, asInt__fro_lst, asInt__fro_non, asInt__fro_mach, asInt__fro_obj, asInt__tmp, asInt__tmpk, asInt__tmpd, asInt__loc, asStr__fro_int, asStr__fro_str, asStr__fro_bl, asStr__fro_tup, asStr__fro_row, asStr__fro_lst, asStr__fro_non, asStr__fro_mach, asStr__fro_obj, asStr__tmp, asStr__tmpk, asStr__tmpd, asStr__loc, asBl__fro_int, asBl__fro_str, asBl__fro_bl, asBl__fro_tup, asBl__fro_row, asBl__fro_lst, asBl__fro_non, asBl__fro_mach, asBl__fro_obj, asBl__tmp, asBl__tmpk, asBl__tmpd, asBl__loc, asTup__fro_int, asTup__fro_str, asTup__fro_bl, asTup__fro_tup, asTup__fro_row, asTup__fro_lst, asTup__fro_non, asTup__fro_mach, asTup__fro_obj, asTup__tmp, asTup__tmpk, asTup__tmpd, asTup__loc, contL__fro_int, contL__fro_str, contL__fro_bl, contL__fro_tup, contL__fro_row, contL__fro_lst, contL__fro_non, contL__fro_mach, contL__fro_obj, contL__tmp, contL__tmpk, contL__tmpd, contK__fro_int, contK__fro_str, contK__fro_bl, contK__fro_tup, contK__fro_row, contK__fro_lst, contK__fro_non, contK__fro_mach, contK__fro_obj, contK__tmp, contK__tmpk, contK__tmpd, contL__loc, lvL__own, lvL__pin, lvL__fro, lvL__k, lvL__d, contK__loc, kOf, at3_1, hr, rangeD0, hc]
theorem ev_behind_end {r : Rl} (hl : r.bh.length ≤ 1000) : F_behind_end [dRl r] = some (dB (bend r)) := by
  have hc := lcG_map (vs := [2]) (g := g_behind_end1) (me := e_behind_end1) (L := [.none, .fro (dSl r.bh), .none]) (enc := fun i : Nat => .int (i : Nat)) (f := fun i => .bl (decide (i + 1 = r.bh.length) && decide (r.bh.getD i [] = [35]))) rfl (List.range r.bh.length) [] (fun i hi => by
    have hi := List.mem_range.mp hi
    have ha := (atI0 (r.bh.map D.str) i).trans (slot_at hi)
    by_cases h0 : i + 1 = r.bh.length
    · have h1 : (i : Int) = (r.bh.length : Int) - 1 := by omega
      generalize r.bh.getD i [] = z at *
      simp [mW, noPin, wipeL, restL, mDNew, List.foldr_cons, List.foldr_nil, List.all_cons, List.all_nil, runF, runP, startL, startP, outD, frz1, mSeq, mNx, mRet, mIfS, mSet, mAsg, mPar', mApp, mExt, mPop, mSetIx, mAug, mFor, mT, mAnd, mOr, mNot, mAndV, mOrV, mNotV, mIf, mB0, mB1, mB2, mBN, mNil, mCons, mF, mVar, mC, mTup, mLst, mSl, mNo, mSo, mMeth, mEnum, mZip, mRng1, mRng2, inRng_3, inRng_4, inRng_6, mSeq1, mTT, opB, opI, opAdd, opIx, opLen, opTuple, opList, opInt, opMin, opAllAny, opJoin, opSl, opDict, opKGet, mGet2, opNeg, opMach, opSounds, opHist, mCh, inE, ninE, eqE, neE, isMach, callF, callP, pu1, pu2, puN, iCmp, frosOf, put, pin_fro, pin_non, pin_own, gN, gNil', gCons', gTup', lstOf, setL, ownOf, isLoc, locIs, mElt, mInn, mLcG, cT, cPos, Option.bind_some, Option.bind_none, Option.map_some, Option.map_none, List.getElem?_cons_zero, List.getElem?_cons_succ, List.set_cons_zero, List.set_cons_succ, List.map_cons, List.map_nil, List.length_cons, List.length_nil, List.cons_append, List.nil_append, List.replicate_succ, List.replicate_zero, asInt__fro_int, asInt__fro_str, asInt__fro_bl, asInt__fro_tup, asInt__fro_row, asInt__fro_lst, asInt__fro_non, asInt__fro_mach, asInt__fro_obj, asInt__tmp, asInt__tmpk, asInt__tmpd, asInt__loc, asStr__fro_int, asStr__fro_str, asStr__fro_bl, asStr__fro_tup, asStr__fro_row, asStr__fro_lst, asStr__fro_non, asStr__fro_mach, asStr__fro_obj, asStr__tmp, asStr__tmpk, asStr__tmpd, asStr__loc, asBl__fro_int, asBl__fro_str, asBl__fro_bl, asBl__fro_tup, asBl__fro_row, asBl__fro_lst, asBl__fro_non, asBl__fro_mach, asBl__fro_obj, asBl__tmp, asBl__tmpk, asBl__tmpd, asBl__loc, asTup__fro_int, asTup__fro_str, asTup__fro_bl, asTup__fro_tup, asTup__fro_row, asTup__fro_lst, asTup__fro_non, asTup__fro_mach, asTup__fro_obj, asTup__tmp, asTup__tmpk, asTup__tmpd, asTup__loc, contL__fro_int, contL__fro_str, contL__fro_bl, contL__fro_tup, contL__fro_row, contL__fro_lst, contL__fro_non, contL__fro_mach, contL__fro_obj, contL__tmp, contL__tmpk, contL__tmpd, contK__fro_int, contK__fro_str, contK__fro_bl, contK__fro_tup, contK__fro_row, contK__fro_lst, contK__fro_non, contK__fro_mach, contK__fro_obj, contK__tmp, contK__tmpk, contK__tmpd, contL__loc, lvL__own, lvL__pin, lvL__fro, lvL__k, lvL__d, contK__loc, kOf, lcE, g_behind_end1, e_behind_end1, dSl, h0, ← h1, ha, datE, cok_int, deq_int]
    · have h1 : ¬ (i : Int) = (r.bh.length : Int) - 1 := by omega
      generalize r.bh.getD i [] = z at *
      simp [mW, noPin, wipeL, restL, mDNew, List.foldr_cons, List.foldr_nil, List.all_cons, List.all_nil, runF, runP, startL, startP, outD, frz1, mSeq, mNx, mRet, mIfS, mSet, mAsg, mPar', mApp, mExt, mPop, mSetIx, mAug, mFor, mT, mAnd, mOr, mNot, mAndV, mOrV, mNotV, mIf, mB0, mB1, mB2, mBN, mNil, mCons, mF, mVar, mC, mTup, mLst, mSl, mNo, mSo, mMeth, mEnum, mZip, mRng1, mRng2, inRng_3, inRng_4, inRng_6, mSeq1, mTT, opB, opI, opAdd, opIx, opLen, opTuple, opList, opInt, opMin, opAllAny, opJoin, opSl, opDict, opKGet, mGet2, opNeg, opMach, opSounds, opHist, mCh, inE, ninE, eqE, neE, isMach, callF, callP, pu1, pu2, puN, iCmp, frosOf, put, pin_fro, pin_non, pin_own, gN, gNil', gCons', gTup', lstOf, setL, ownOf, isLoc, locIs, mElt, mInn, mLcG, cT, cPos, Option.bind_some, Option.bind_none, Option.map_some, Option.map_none, List.getElem?_cons_zero, List.getElem?_cons_succ, List.set_cons_zero, List.set_cons_succ, List.map_cons, List.map_nil, List.length_cons, List.length_nil, List.cons_append, List.nil_append, List.replicate_succ, List.replicate_zero, asInt__fro_int, asInt__fro_str, asInt__fro_bl, asInt__fro_tup, asInt__fro_row, asInt__fro_lst, asInt__fro_non, asInt__fro_mach, asInt__fro_obj, asInt__tmp, asInt__tmpk, asInt__tmpd, asInt__loc, asStr__fro_int, asStr__fro_str, asStr__fro_bl, asStr__fro_tup, asStr__fro_row, asStr__fro_lst, asStr__fro_non, asStr__fro_mach, asStr__fro_obj, asStr__tmp, asStr__tmpk, asStr__tmpd, asStr__loc, asBl__fro_int, asBl__fro_str, asBl__fro_bl, asBl__fro_tup, asBl__fro_row, asBl__fro_lst, asBl__fro_non, asBl__fro_mach, asBl__fro_obj, asBl__tmp, asBl__tmpk, asBl__tmpd, asBl__loc, asTup__fro_int, asTup__fro_str, asTup__fro_bl, asTup__fro_tup, asTup__fro_row, asTup__fro_lst, asTup__fro_non, asTup__fro_mach, asTup__fro_obj, asTup__tmp, asTup__tmpk, asTup__tmpd, asTup__loc, contL__fro_int, contL__fro_str, contL__fro_bl, contL__fro_tup, contL__fro_row, contL__fro_lst, contL__fro_non, contL__fro_mach, contL__fro_obj, contL__tmp, contL__tmpk, contL__tmpd, contK__fro_int, contK__fro_str, contK__fro_bl, contK__fro_tup, contK__fro_row, contK__fro_lst, contK__fro_non, contK__fro_mach, contK__fro_obj, contK__tmp, contK__tmpk, contK__tmpd, contL__loc, lvL__own, lvL__pin, lvL__fro, lvL__k, lvL__d, contK__loc, kOf, lcE, g_behind_end1, e_behind_end1, dSl, h0, h1, datE, cok_int, deq_int]) (by rw [List.length_range, LIM_val]; simp; omega)
  have hr := inRng_nat (n := r.bh.length) (by omega)
  unfold F_behind_end m_behind_end bend dB
  unfold dSl at hc
  unfold dRl dSl
  rw [List.nil_append] at hc
  simp [mW, noPin, wipeL, restL, mDNew, List.foldr_cons, List.foldr_nil, List.all_cons, List.all_nil, runF, runP, startL, startP, outD, frz1, mSeq, mNx, mRet, mIfS, mSet, mAsg, mPar', mApp, mExt, mPop, mSetIx, mAug, mFor, mT, mAnd, mOr, mNot, mAndV, mOrV, mNotV, mIf, mB0, mB1, mB2, mBN, mNil, mCons, mF, mVar, mC, mTup, mLst, mSl, mNo, mSo, mMeth, mEnum, mZip, mRng1, mRng2, inRng_3, inRng_4, inRng_6, mSeq1, mTT, opB, opI, opAdd, opIx, opLen, opTuple, opList, opInt, opMin, opAllAny, opJoin, opSl, opDict, opKGet, mGet2, opNeg, opMach, opSounds, opHist, mCh, inE, ninE, eqE, neE, isMach, callF, callP, pu1, pu2, puN, iCmp, frosOf, put, pin_fro, pin_non, pin_own, gN, gNil', gCons', gTup', lstOf, setL, ownOf, isLoc, locIs, mElt, mInn, mLcG, cT, cPos, Option.bind_some, Option.bind_none, Option.map_some, Option.map_none, List.getElem?_cons_zero, List.getElem?_cons_succ, List.set_cons_zero, List.set_cons_succ, List.map_cons, List.map_nil, List.length_cons, List.length_nil, List.cons_append, List.nil_append, List.replicate_succ, List.replicate_zero, asInt__fro_int, asInt__fro_str, asInt__fro_bl, asInt__fro_tup, asInt__fro_row, asInt__fro_lst, asInt__fro_non, asInt__fro_mach, asInt__fro_obj, asInt__tmp, asInt__tmpk, asInt__tmpd, asInt__loc, asStr__fro_int, asStr__fro_str, asStr__fro_bl, asStr__fro_tup, asStr__fro_row, asStr__fro_lst, asStr__fro_non, asStr__fro_mach, asStr__fro_obj, asStr__tmp, asStr__tmpk, asStr__tmpd, asStr__loc, asBl__fro_int, asBl__fro_str, asBl__fro_bl, asBl__fro_tup, asBl__fro_row, asBl__fro_lst, asBl__fro_non, asBl__fro_mach, asBl__fro_obj, asBl__tmp, asBl__tmpk, asBl__tmpd, asBl__loc, asTup__fro_int, asTup__fro_str, asTup__fro_bl, asTup__fro_tup, asTup__fro_row, asTup__fro_lst, asTup__fro_non, asTup__fro_mach, asTup__fro_obj, asTup__tmp, asTup__tmpk, asTup__tmpd, asTup__loc, contL__fro_int, contL__fro_str, contL__fro_bl, contL__fro_tup, contL__fro_row, contL__fro_lst, contL__fro_non, contL__fro_mach, contL__fro_obj, contL__tmp, contL__tmpk, contL__tmpd, contK__fro_int, contK__fro_str, contK__fro_bl, contK__fro_tup, contK__fro_row, contK__fro_lst, contK__fro_non, contK__fro_mach, contK__fro_obj, contK__tmp, contK__tmpk, contK__tmpd, contL__loc, lvL__own, lvL__pin, lvL__fro, lvL__k, lvL__d, contK__loc, kOf, at3_2, hr, rangeD0, hc]
theorem ev_before_step {r : Rl} (hl : r.be.length ≤ 1000) {a : List Bool} (ha : a.length = r.be.length) {c : Nat} : F_before_step [dRl r, dB a, .str [c]] = some (dB (bstp r a c)) := by
  have h := forR_acc (g := g_before_step1) (m := b_before_step1) (enc := fun k : Nat => D.int (k : Nat)) (fun acc => [.none, .fro (dB a), .fro (.str [c]), .fro (dSl r.be), .own acc, .none]) (F := fun k => [D.bl (bit r a c k)]) (N := LIM) (List.range r.be.length) [] (fun k hk acc hz => by
    have hi := List.mem_range.mp hk
    rw [List.length_singleton] at hz
    have hz : acc.length < LIM := by omega
    have h1 := (atI0 (r.be.map D.str) k).trans (slot_at hi)
    unfold bit
    generalize r.be.getD k [] = z at *
    by_cases hc : c ∈ z
    · by_cases h0 : k = 0
      · subst h0
        have h1 : atI (r.be.map D.str) 0 = some (.str z) := h1
        simp [mW, noPin, wipeL, restL, mDNew, List.foldr_cons, List.foldr_nil, List.all_cons, List.all_nil, runF, runP, startL, startP, outD, frz1, mSeq, mNx, mRet, mIfS, mSet, mAsg, mPar', mApp, mExt, mPop, mSetIx, mAug, mFor, mT, mAnd, mOr, mNot, mAndV, mOrV, mNotV, mIf, mB0, mB1, mB2, mBN, mNil, mCons, mF, mVar, mC, mTup, mLst, mSl, mNo, mSo, mMeth, mEnum, mZip, mRng1, mRng2, inRng_3, inRng_4, inRng_6, mSeq1, mTT, opB, opI, opAdd, opIx, opLen, opTuple, opList, opInt, opMin, opAllAny, opJoin, opSl, opDict, opKGet, mGet2, opNeg, opMach, opSounds, opHist, mCh, inE, ninE, eqE, neE, isMach, callF, callP, pu1, pu2, puN, iCmp, frosOf, put, pin_fro, pin_non, pin_own, gN, gNil', gCons', gTup', lstOf, setL, ownOf, isLoc, locIs, mElt, mInn, mLcG, cT, cPos, Option.bind_some, Option.bind_none, Option.map_some, Option.map_none, List.getElem?_cons_zero, List.getElem?_cons_succ, List.set_cons_zero, List.set_cons_succ, List.map_cons, List.map_nil, List.length_cons, List.length_nil, List.cons_append, List.nil_append, List.replicate_succ, List.replicate_zero, asInt__fro_int, asInt__fro_str, asInt__fro_bl, asInt__fro_tup, asInt__fro_row, asInt__fro_lst, asInt__fro_non, asInt__fro_mach, asInt__fro_obj, asInt__tmp, asInt__tmpk, asInt__tmpd, asInt__loc, asStr__fro_int, asStr__fro_str, asStr__fro_bl, asStr__fro_tup, asStr__fro_row, asStr__fro_lst, asStr__fro_non, asStr__fro_mach, asStr__fro_obj, asStr__tmp, asStr__tmpk, asStr__tmpd, asStr__loc, asBl__fro_int, asBl__fro_str, asBl__fro_bl, asBl__fro_tup, asBl__fro_row, asBl__fro_lst, asBl__fro_non, asBl__fro_mach, asBl__fro_obj, asBl__tmp, asBl__tmpk, asBl__tmpd, asBl__loc, asTup__fro_int, asTup__fro_str, asTup__fro_bl, asTup__fro_tup, asTup__fro_row, asTup__fro_lst, asTup__fro_non, asTup__fro_mach, asTup__fro_obj, asTup__tmp, asTup__tmpk, asTup__tmpd, asTup__loc, contL__fro_int, contL__fro_str, contL__fro_bl, contL__fro_tup, contL__fro_row, contL__fro_lst, contL__fro_non, contL__fro_mach, contL__fro_obj, contL__tmp, contL__tmpk, contL__tmpd, contK__fro_int, contK__fro_str, contK__fro_bl, contK__fro_tup, contK__fro_row, contK__fro_lst, contK__fro_non, contK__fro_mach, contK__fro_obj, contK__tmp, contK__tmpk, contK__tmpd, contL__loc, lvL__own, lvL__pin, lvL__fro, lvL__k, lvL__d, contK__loc, kOf, g_before_step1, b_before_step1, dSl, h1, hc, datE, cok_int, deq_int, hz]
      · have h3 : (k : Int) - 1 = ((k - 1 : Nat) : Int) := by omega
        have h5 := (atI0 (a.map D.bl) (k - 1)).trans (bl_at (by omega))
        rw [← h3] at h5
        generalize a.getD (k - 1) false = y at *
        simp [mW, noPin, wipeL, restL, mDNew, List.foldr_cons, List.foldr_nil, List.all_cons, List.all_nil, runF, runP, startL, startP, outD, frz1, mSeq, mNx, mRet, mIfS, mSet, mAsg, mPar', mApp, mExt, mPop, mSetIx, mAug, mFor, mT, mAnd, mOr, mNot, mAndV, mOrV, mNotV, mIf, mB0, mB1, mB2, mBN, mNil, mCons, mF, mVar, mC, mTup, mLst, mSl, mNo, mSo, mMeth, mEnum, mZip, mRng1, mRng2, inRng_3, inRng_4, inRng_6, mSeq1, mTT, opB, opI, opAdd, opIx, opLen, opTuple, opList, opInt, opMin, opAllAny, opJoin, opSl, opDict, opKGet, mGet2, opNeg, opMach, opSounds, opHist, mCh, inE, ninE, eqE, neE, isMach, callF, callP, pu1, pu2, puN, iCmp, frosOf, put, pin_fro, pin_non, pin_own, gN, gNil', gCons', gTup', lstOf, setL, ownOf, isLoc, locIs, mElt, mInn, mLcG, cT, cPos, Option.bind_some, Option.bind_none, Option.map_some, Option.map_none, List.getElem?_cons_zero, List.getElem?_cons_succ, List.set_cons_zero, List.set_cons_succ, List.map_cons, List.map_nil, List.length_cons, List.length_nil, List.cons_append, List.nil_append, List.replicate_succ, List.replicate_zero, asInt__fro_int, asInt__fro_str, asInt__fro_bl, asInt__fro_tup, asInt__fro_row, asInt__fro_lst, asInt__fro_non, asInt__fro_mach, asInt__fro_obj, asInt__tmp, asInt__tmpk, asInt__tmpd, asInt__loc, asStr__fro_int, asStr__fro_str, asStr__fro_bl, asStr__fro_tup, asStr__fro_row, asStr__fro_lst, asStr__fro_non, asStr__fro_mach, asStr__fro_obj, asStr__tmp, asStr__tmpk, asStr__tmpd, asStr__loc, asBl__fro_int, asBl__fro_str, asBl__fro_bl, asBl__fro_tup, asBl__fro_row, asBl__fro_lst, asBl__fro_non, asBl__fro_mach, asBl__fro_obj, asBl__tmp, asBl__tmpk, asBl__tmpd, asBl__loc, asTup__fro_int, asTup__fro_str, asTup__fro_bl, asTup__fro_tup, asTup__fro_row, asTup__fro_lst, asTup__fro_non, asTup__fro_mach, asTup__fro_obj, asTup__tmp, asTup__tmpk, asTup__tmpd, asTup__loc, contL__fro_int, contL__fro_str, contL__fro_bl, contL__fro_tup, contL__fro_row, contL__fro_lst, contL__fro_non, contL__fro_mach, contL__fro_obj, contL__tmp, contL__tmpk, contL__tmpd, contK__fro_int, contK__fro_str, contK__fro_bl, contK__fro_tup, contK__fro_row, contK__fro_lst, contK__fro_non, contK__fro_mach, contK__fro_obj, contK__tmp, contK__tmpk, contK__tmpd, contL__loc, lvL__own, lvL__pin, lvL__fro, lvL__k, lvL__d, contK__loc, kOf, g_before_step1, b_before_step1, dSl, dB, h1, hc, h0, datE, cok_int, deq_int, hz, h5]
    · simp [mW, noPin, wipeL, restL, mDNew, List.foldr_cons, List.foldr_nil, List.all_cons, List.all_nil, runF, runP, startL, startP, outD, frz1, mSeq, mNx, mRet, mIfS, mSet, mAsg, mPar', mApp, mExt, mPop, mSetIx, mAug, mFor, mT, mAnd, mOr, mNot, mAndV, mOrV, mNotV, mIf, mB0, mB1, mB2, mBN, mNil, mCons, mF, mVar, mC, mTup, mLst, mSl, mNo, mSo, mMeth, mEnum, mZip, mRng1, mRng2, inRng_3, inRng_4, inRng_6, mSeq1, mTT, opB, opI, opAdd, opIx, opLen, opTuple, opList, opInt, opMin, opAllAny, opJoin, opSl, opDict, opKGet, mGet2, opNeg, opMach, opSounds, opHist, mCh, inE, ninE, eqE, neE, isMach, callF, callP, pu1, pu2, puN, iCmp, frosOf, put, pin_fro, pin_non, pin_own, gN, gNil', gCons', gTup', lstOf, setL, ownOf, isLoc, locIs, mElt, mInn, mLcG, cT, cPos, Option.bind_some, Option.bind_none, Option.map_some, Option.map_none, List.getElem?_cons_zero, List.getElem?_cons_succ, List.set_cons_zero, List.set_cons_succ, List.map_cons, List.map_nil, List.length_cons, List.length_nil, List.cons_append, List.nil_append, List.replicate_succ, List.replicate_zero, asInt__fro_int, asInt__fro_str, asInt__fro_bl, asInt__fro_tup, asInt__fro_row, asInt__fro_lst, asInt__fro_non, asInt__fro_mach, asInt__fro_obj, asInt__tmp, asInt__tmpk, asInt__tmpd, asInt__loc, asStr__fro_int, asStr__fro_str, asStr__fro_bl, asStr__fro_tup, asStr__fro_row, asStr__fro_lst, asStr__fro_non, asStr__fro_mach, asStr__fro_obj, asStr__tmp, asStr__tmpk, asStr__tmpd, asStr__loc, asBl__fro_int, asBl__fro_str, asBl__fro_bl, asBl__fro_tup, asBl__fro_row, asBl__fro_lst, asBl__fro_non, asBl__fro_mach, asBl__fro_obj, asBl__tmp, asBl__tmpk, asBl__tmpd, asBl__loc, asTup__fro_int, asTup__fro_str, asTup__fro_bl, asTup__fro_tup, asTup__fro_row, asTup__fro_lst, asTup__fro_non, asTup__fro_mach, asTup__fro_obj, asTup__tmp, asTup__tmpk, asTup__tmpd, asTup__loc, contL__fro_int, contL__fro_str, contL__fro_bl, contL__fro_tup, contL__fro_row, contL__fro_lst, contL__fro_non, contL__fro_mach, contL__fro_obj, contL__tmp, contL__tmpk, contL__tmpd, contK__fro_int, contK__fro_str, contK__fro_bl, contK__fro_tup, contK__fro_row, contK__fro_lst, contK__fro_non, contK__fro_mach, contK__fro_obj, contK__tmp, contK__tmpk, contK__tmpd, contL__loc, lvL__own, lvL__pin, lvL__fro, lvL__k, lvL__d, contK__loc, kOf, g_before_step1, b_before_step1, dSl, h1, hc, hz]) (by
    have := flat_le (f := fun k => [D.bl (bit r a c k)]) (l := List.range r.be.length) (n := 1) (by simp)
    rw [List.length_range] at this
    rw [LIM_val]
    simp at this ⊢
    omega)
  rw [← List.map_eq_flatMap, List.nil_append] at h
  have hr := inRng_nat (n := r.be.length) (by omega)
  have e : (bstp r a c).map D.bl = (List.range r.be.length).map fun k => D.bl (bit r a c k) := by unfold bstp; rw [List.map_map]; rfl
  rw [← e] at h
  unfold F_before_step m_before_step
  unfold dB at h ⊢
  unfold dSl at h
  unfold dRl dSl
  generalize (bstp r a c).map D.bl = zs at *
  simp [mW, noPin, wipeL, restL, mDNew, List.foldr_cons, List.foldr_nil, List.all_cons, List.all_nil, runF, runP, startL, startP, outD, frz1, mSeq, mNx, mRet, mIfS, mSet, mAsg, mPar', mApp, mExt, mPop, mSetIx, mAug, mFor, mT, mAnd, mOr, mNot, mAndV, mOrV, mNotV, mIf, mB0, mB1, mB2, mBN, mNil, mCons, mF, mVar, mC, mTup, mLst, mSl, mNo, mSo, mMeth, mEnum, mZip, mRng1, mRng2, inRng_3, inRng_4, inRng_6, mSeq1, mTT, opB, opI, opAdd, opIx, opLen, opTuple, opList, opInt, opMin, opAllAny, opJoin, opSl, opDict, opKGet, mGet2, opNeg, opMach, opSounds, opHist, mCh, inE, ninE, eqE, neE, isMach, callF, callP, pu1, pu2, puN, iCmp, frosOf, put, pin_fro, pin_non, pin_own, gN, gNil', gCons', gTup', lstOf, setL, ownOf, isLoc, locIs, mElt, mInn, mLcG, cT, cPos, Option.bind_some, Option.bind_none, Option.map_some, Option.map_none, List.getElem?_cons_zero, List.getElem?_cons_succ, List.set_cons_zero, List.set_cons_succ, List.map_cons, List.map_nil, List.length_cons, List.length_nil, List.cons_append, List.nil_append, List.replicate_succ, List.replicate_zero, asInt__fro_int, asInt__fro_str, asInt__fro_bl, asInt__fro_tup, asInt__fro_row, asInt__fro_lst, asInt__fro_non, asInt__fro_mach, asInt__fro_obj, asInt__tmp, asInt__tmpk, asInt__tmpd, asInt__loc, asStr__fro_int, asStr__fro_str, asStr__fro_bl, asStr__fro_tup, asStr__fro_row, asStr__fro_lst, asStr__fro_non, asStr__fro_mach, asStr__fro_obj, asStr__tmp, asStr__tmpk, asStr__tmpd, asStr__loc, asBl__fro_int, asBl__fro_str, asBl__fro_bl, asBl__fro_tup, asBl__fro_row, asBl__fro_lst, asBl__fro_non, asBl__fro_mach, asBl__fro_obj, asBl__tmp, asBl__tmpk, asBl__tmpd, asBl__loc, asTup__fro_int, asTup__fro_str, asTup__fro_bl, asTup__fro_tup, asTup__fro_row, asTup__fro_lst, asTup__fro_non, asTup__fro_mach, asTup__fro_obj, asTup__tmp, asTup__tmpk, asTup__tmpd, asTup__loc, contL__fro_int, contL__fro_str, contL__fro_bl, contL__fro_tup, contL__fro_row, contL__fro_lst, contL__fro_non, contL__fro_mach, contL__fro_obj, contL__tmp, contL__tmpk, contL__tmpd, contK__fro_int, contK__fro_str, contK__fro_bl, contK__fro_tup, contK__fro_row, contK__fro_lst, contK__fro_non, contK__fro_mach, contK__fro_obj, contK__tmp, contK__tmpk, contK__tmpd, contL__loc, lvL__own, lvL__pin, lvL__fro, lvL__k, lvL__d, contK__loc, kOf, at3_1, hr, rangeD0, h]
theorem ev_behind_step {r : Rl} (hl : r.bh.length ≤ 1000) {a : List Bool} (ha : a.length = r.bh.length) {c : Nat} : F_behind_step [dRl r, dB a, .str [c]] = some (dB (bhst r a c)) := by
  have h := forR_acc (g := g_behind_step1) (m := b_behind_step1) (enc := fun k : Nat => D.int (k : Nat)) (fun acc => [.none, .fro (dB a), .fro (.str [c]), .fro (dSl r.bh), .own acc, .none]) (F := fun k => [D.bl (bih r a c k)]) (N := LIM) (List.range r.bh.length) [] (fun k hk acc hz => by
    have hi := List.mem_range.mp hk
    rw [List.length_singleton] at hz
    have hz : acc.length < LIM := by omega
    have h1 := (atI0 (r.bh.map D.str) k).trans (slot_at hi)
    unfold bih
    generalize r.bh.getD k [] = z at *
    by_cases hc : c ∈ z
    · by_cases h0 : k + 1 = r.bh.length
      · have h3 : (k : Int) = (r.bh.length : Int) - 1 := by omega
        simp [mW, noPin, wipeL, restL, mDNew, List.foldr_cons, List.foldr_nil, List.all_cons, List.all_nil, runF, runP, startL, startP, outD, frz1, mSeq, mNx, mRet, mIfS, mSet, mAsg, mPar', mApp, mExt, mPop, mSetIx, mAug, mFor, mT, mAnd, mOr, mNot, mAndV, mOrV, mNotV, mIf, mB0, mB1, mB2, mBN, mNil, mCons, mF, mVar, mC, mTup, mLst, mSl, mNo, mSo, mMeth, mEnum, mZip, mRng1, mRng2, inRng_3, inRng_4, inRng_6, mSeq1, mTT, opB, opI, opAdd, opIx, opLen, opTuple, opList, opInt, opMin, opAllAny, opJoin, opSl, opDict, opKGet, mGet2, opNeg, opMach, opSounds, opHist, mCh, inE, ninE, eqE, neE, isMach, callF, callP, pu1, pu2, puN, iCmp, frosOf, put, pin_fro, pin_non, pin_own, gN, gNil', gCons', gTup', lstOf, setL, ownOf, isLoc, locIs, mElt, mInn, mLcG, cT, cPos, Option.bind_some, Option.bind_none, Option.map_some, Option.map_none, List.getElem?_cons_zero, List.getElem?_cons_succ, List.set_cons_zero, List.set_cons_succ, List.map_cons, List.map_nil, List.length_cons, List.length_nil, List.cons_append, List.nil_append, List.replicate_succ, List.replicate_zero, asInt__fro_int, asInt__fro_str, asInt__fro_bl, asInt__fro_tup, asInt__fro_row, asInt__fro_lst, asInt__fro_non, asInt__fro_mach, asInt__fro_obj, asInt__tmp, asInt__tmpk, asInt__tmpd, asInt__loc, asStr__fro_int, asStr__fro_str, asStr__fro_bl, asStr__fro_tup, asStr__fro_row, asStr__fro_lst, asStr__fro_non, asStr__fro_mach, asStr__fro_obj, asStr__tmp, asStr__tmpk, asStr__tmpd, asStr__loc, asBl__fro_int, asBl__fro_str, asBl__fro_bl, asBl__fro_tup, asBl__fro_row, asBl__fro_lst, asBl__fro_non, asBl__fro_mach, asBl__fro_obj, asBl__tmp, asBl__tmpk, asBl__tmpd, asBl__loc, asTup__fro_int, asTup__fro_str, asTup__fro_bl, asTup__fro_tup, asTup__fro_row, asTup__fro_lst, asTup__fro_non, asTup__fro_mach, asTup__fro_obj, asTup__tmp, asTup__tmpk, asTup__tmpd, asTup__loc, contL__fro_int, contL__fro_str, contL__fro_bl, contL__fro_tup, contL__fro_row, contL__fro_lst, contL__fro_non, contL__fro_mach, contL__fro_obj, contL__tmp, contL__tmpk, contL__tmpd, contK__fro_int, contK__fro_str, contK__fro_bl, contK__fro_tup, contK__fro_row, contK__fro_lst, contK__fro_non, contK__fro_mach, contK__fro_obj, contK__tmp, contK__tmpk, contK__tmpd, contL__loc, lvL__own, lvL__pin, lvL__fro, lvL__k, lvL__d, contK__loc, kOf, g_behind_step1, b_behind_step1, dSl, ← h3, h1, hc, h0, datE, cok_int, deq_int, hz]
      · have h3 : ¬ (k : Int) = (r.bh.length : Int) - 1 := by omega
        have h5 := (atI0 (a.map D.bl) (k + 1)).trans (bl_at (by omega))
        have h6 : ((k + 1 : Nat) : Int) = (k : Int) + 1 := by omega
        rw [h6] at h5
        generalize a.getD (k + 1) false = y at *
        simp [mW, noPin, wipeL, restL, mDNew, List.foldr_cons, List.foldr_nil, List.all_cons, List.all_nil, runF, runP, startL, startP, outD, frz1, mSeq, mNx, mRet, mIfS, mSet, mAsg, mPar', mApp, mExt, mPop, mSetIx, mAug, mFor, mT, mAnd, mOr, mNot, mAndV, mOrV, mNotV, mIf, mB0, mB1, mB2, mBN, mNil, mCons, mF, mVar, mC, mTup, mLst, mSl, mNo, mSo, mMeth, mEnum, mZip, mRng1, mRng2, inRng_3, inRng_4, inRng_6, mSeq1, mTT, opB, opI, opAdd, opIx, opLen, opTuple, opList, opInt, opMin, opAllAny, opJoin, opSl, opDict, opKGet, mGet2, opNeg, opMach, opSounds, opHist, mCh, inE, ninE, eqE, neE, isMach, callF, callP, pu1, pu2, puN, iCmp, frosOf, put, pin_fro, pin_non, pin_own, gN, gNil', gCons', gTup', lstOf, setL, ownOf, isLoc, locIs, mElt, mInn, mLcG, cT, cPos, Option.bind_some, Option.bind_none, Option.map_some, Option.map_none, List.getElem?_cons_zero, List.getElem?_cons_succ, List.set_cons_zero, List.set_cons_succ, List.map_cons, List.map_nil, List.length_cons, List.length_nil, List.cons_append, List.nil_append, List.replicate_succ, List.replicate_zero, asInt__fro_int, asInt__fro_str, asInt__fro_bl, asInt__fro_tup, asInt__fro_row, asInt__fro_lst, asInt__fro_non, asInt__fro_mach, asInt__fro_obj, asInt__tmp, asInt__tmpk, asInt__tmpd, asInt__loc, asStr__fro_int, asStr__fro_str, asStr__fro_bl, asStr__fro_tup, asStr__fro_row, asStr__fro_lst, asStr__fro_non, asStr__fro_mach, asStr__fro_obj, asStr__tmp, asStr__tmpk, asStr__tmpd, asStr__loc, asBl__fro_int, asBl__fro_str, asBl__fro_bl, asBl__fro_tup, asBl__fro_row, asBl__fro_lst, asBl__fro_non, asBl__fro_mach, asBl__fro_obj, asBl__tmp, asBl__tmpk, asBl__tmpd, asBl__loc, asTup__fro_int, asTup__fro_str, asTup__fro_bl, asTup__fro_tup, asTup__fro_row, asTup__fro_lst, asTup__fro_non, asTup__fro_mach, asTup__fro_obj, asTup__tmp, asTup__tmpk, asTup__tmpd, asTup__loc, contL__fro_int, contL__fro_str, contL__fro_bl, contL__fro_tup, contL__fro_row, contL__fro_lst, contL__fro_non, contL__fro_mach, contL__fro_obj, contL__tmp, contL__tmpk, contL__tmpd, contK__fro_int, contK__fro_str, contK__fro_bl, contK__fro_tup, contK__fro_row, contK__fro_lst, contK__fro_non, contK__fro_mach, contK__fro_obj, contK__tmp, contK__tmpk, contK__tmpd, contL__loc, lvL__own, lvL__pin, lvL__fro, lvL__k, lvL__d, contK__loc, kOf, g_behind_step1, b_behind_step1, dSl, dB, h1, hc, h0, h3, datE, cok_int, deq_int, hz, h5]
    · simp [mW, noPin, wipeL, restL, mDNew, List.foldr_cons, List.foldr_nil, List.all_cons, List.all_nil, runF, runP, startL, startP, outD, frz1, mSeq, mNx, mRet, mIfS, mSet, mAsg, mPar', mApp, mExt, mPop, mSetIx, mAug, mFor, mT, mAnd, mOr, mNot, mAndV, mOrV, mNotV, mIf, mB0, mB1, mB2, mBN, mNil, mCons, mF, mVar, mC, mTup, mLst, mSl, mNo, mSo, mMeth, mEnum, mZip, mRng1, mRng2, inRng_3, inRng_4, inRng_6, mSeq1, mTT, opB, opI, opAdd, opIx, opLen, opTuple, opList, opInt, opMin, opAllAny, opJoin, opSl, opDict, opKGet, mGet2, opNeg, opMach, opSounds, opHist, mCh, inE, ninE, eqE, neE, isMach, callF, callP, pu1, pu2, puN, iCmp, frosOf, put, pin_fro, pin_non, pin_own, gN, gNil', gCons', gTup', lstOf, setL, ownOf, isLoc, locIs, mElt, mInn, mLcG, cT, cPos, Option.bind_some, Option.bind_none, Option.map_some, Option.map_none, List.getElem?_cons_zero, List.getElem?_cons_succ, List.set_cons_zero, List.set_cons_succ, List.map_cons, List.map_nil, List.length_cons, List.length_nil, List.cons_append, List.nil_append, List.replicate_succ, List.replicate_zero, asInt__fro_int, asInt__fro_str, asInt__fro_bl, asInt__fro_tup, asInt__fro_row, asInt__fro_lst, asInt__fro_non, asInt__fro_mach, asInt__fro_obj, asInt__tmp, asInt__tmpk, asInt__tmpd, asInt__loc, asStr__fro_int, asStr__fro_str, asStr__fro_bl, asStr__fro_tup, asStr__fro_row, asStr__fro_lst, asStr__fro_non, asStr__fro_mach, asStr__fro_obj, asStr__tmp, asStr__tmpk, asStr__tmpd, asStr__loc, asBl__fro_int, asBl__fro_str, asBl__fro_bl, asBl__fro_tup, asBl__fro_row, asBl__fro_lst, asBl__fro_non, asBl__fro_mach, asBl__fro_obj, asBl__tmp, asBl__tmpk, asBl__tmpd, asBl__loc, asTup__fro_int, asTup__fro_str, asTup__fro_bl, asTup__fro_tup, asTup__fro_row, asTup__fro_lst, asTup__fro_non, asTup__fro_mach, asTup__fro_obj, asTup__tmp, asTup__tmpk, asTup__tmpd, asTup__loc, contL__fro_int, contL__fro_str, contL__fro_bl, contL__fro_tup, contL__fro_row, contL__fro_lst, contL__fro_non, contL__fro_mach, contL__fro_obj, contL__tmp, contL__tmpk, contL__tmpd, contK__fro_int, contK__fro_str, contK__fro_bl, contK__fro_tup, contK__fro_row, contK__fro_lst, contK__fro_non, contK__fro_mach, contK__fro_obj, contK__tmp, contK__tmpk, contK__tmpd, contL__loc, lvL__own, lvL__pin, lvL__fro, lvL__k, lvL__d, contK__loc, kOf, g_behind_step1, b_behind_step1, dSl, h1, hc, hz]) (by
    have := flat_le (f := fun k => [D.bl (bih r a c k)]) (l := List.range r.bh.length) (n := 1) (by simp)
    rw [List.length_range] at this
    rw [LIM_val]
    simp at this ⊢
    omega)
  rw [← List.map_eq_flatMap, List.nil_append] at h
  have hr := inRng_nat (n := r.bh.length) (by omega)
  have e : (bhst r a c).map D.bl = (List.range r.bh.length).map fun k => D.bl (bih r a c k) := by unfold bhst; rw [List.map_map]; rfl
  rw [← e] at h
  unfold F_behind_step m_behind_step
  unfold dB at h ⊢
  unfold dSl at h
  unfold dRl dSl
  generalize (bhst r a c).map D.bl = zs at *
  simp [mW, noPin, wipeL, restL, mDNew, List.foldr_cons, List.foldr_nil, List.all_cons, List.all_nil, runF, runP, startL, startP, outD, frz1, mSeq, mNx, mRet, mIfS, mSet, mAsg, mPar', mApp, mExt, mPop, mSetIx, mAug, mFor, mT, mAnd, mOr, mNot, mAndV, mOrV, mNotV, mIf, mB0, mB1, mB2, mBN, mNil, mCons, mF, mVar, mC, mTup, mLst, mSl, mNo, mSo, mMeth, mEnum, mZip, mRng1, mRng2, inRng_3, inRng_4, inRng_6, mSeq1, mTT, opB, opI, opAdd, opIx, opLen, opTuple, opList, opInt, opMin, opAllAny, opJoin, opSl, opDict, opKGet, mGet2, opNeg, opMach, opSounds, opHist, mCh, inE, ninE, eqE, neE, isMach, callF, callP, pu1, pu2, puN, iCmp, frosOf, put, pin_fro, pin_non, pin_own, gN, gNil', gCons', gTup', lstOf, setL, ownOf, isLoc, locIs, mElt, mInn, mLcG, cT, cPos, Option.bind_some, Option.bind_none, Option.map_some, Option.map_none, List.getElem?_cons_zero, List.getElem?_cons_succ, List.set_cons_zero, List.set_cons_succ, List.map_cons, List.map_nil, List.length_cons, List.length_nil, List.cons_append, List.nil_append, List.replicate_succ, List.replicate_zero, asInt__fro_int, asInt__fro_str, asInt__fro_bl, asInt__fro_tup, asInt__fro_row, asInt__fro_lst, asInt__fro_non, asInt__fro_mach, asInt__fro_obj, asInt__tmp, asInt__tmpk, asInt__tmpd, asInt__loc, asStr__fro_int, asStr__fro_str, asStr__fro_bl, asStr__fro_tup, asStr__fro_row, asStr__fro_lst, asStr__fro_non, asStr__fro_mach, asStr__fro_obj, asStr__tmp, asStr__tmpk, asStr__tmpd, asStr__loc, asBl__fro_int, asBl__fro_str, asBl__fro_bl, asBl__fro_tup, asBl__fro_row, asBl__fro_lst, asBl__fro_non, asBl__fro_mach, asBl__fro_obj, asBl__tmp, asBl__tmpk, asBl__tmpd, asBl__loc, asTup__fro_int, asTup__fro_str, asTup__fro_bl, asTup__fro_tup, asTup__fro_row, asTup__fro_lst, asTup__fro_non, asTup__fro_mach, asTup__fro_obj, asTup__tmp, asTup__tmpk, asTup__tmpd, asTup__loc, contL__fro_int, contL__fro_str, contL__fro_bl, contL__fro_tup, contL__fro_row, contL__fro_lst, contL__fro_non, contL__fro_mach, contL__fro_obj, contL__tmp, contL__tmpk, contL__tmpd, contK__fro_int, contK__fro_str, contK__fro_bl, contK__fro_tup, contK__fro_row, contK__fro_lst, contK__fro_non, contK__fro_mach, contK__fro_obj, contK__tmp, contK__tmpk, contK__tmpd, contL__loc, lvL__own, lvL__pin, lvL__fro, lvL__k, lvL__d, contK__loc, kOf, at3_2, hr, rangeD0, h]
/-! ### sorted -/
theorem mergeSort_le1 {α : Type} {le : α → α → Bool} {l : List α} (h : l.length ≤ 1) : l.mergeSort le = l := by
  match l, h with
  | [], _ => simp
  | [x], _ => simp
theorem opSorted_is {a : EV} {L : Loc} {l : List D} (h : contL a L = some l) (ok : l.length ≤ 1 ∨ SortOk l) : opSorted [a] L = some (.tmp (l.mergeSort leD)) := by
  unfold opSorted
  simp only [h, Option.bind_some]
  split
  · rename_i h1
    rw [mergeSort_le1 h1]
  · rename_i h1
    rw [if_pos (ok.resolve_left h1)]
theorem alikeAll_bl : ∀ a b : List Bool, PySem.W.alikeAll (pys (a.map D.bl)) (pys (b.map D.bl)) = true
  | [], [] => rfl
  | [], _ :: _ => rfl
  | _ :: _, [] => rfl
  | x :: a, y :: b => by
    show PySem.W.alikeAll (.bool x :: pys (a.map D.bl)) (.bool y :: pys (b.map D.bl)) = true
    rw [PySem.W.alikeAll, alikeAll_bl a b]
    rfl
theorem sortOk_dB {l : List (List Bool)} (h : ∀ a ∈ l, a ≠ []) : SortOk (l.map dB) where
  lay := fun d hd => by
    obtain ⟨a, _, rfl⟩ := List.mem_map.mp hd
    exact cok_dB a
  al := fun d hd d' hd' => by
    rw [List.map_map] at hd hd'
    obtain ⟨a, _, rfl⟩ := List.mem_map.mp hd
    obtain ⟨b, _, rfl⟩ := List.mem_map.mp hd'
    show PySem.W.alike (.tuple (pys (a.map D.bl))) (.tuple (pys (b.map D.bl))) = true
    rw [PySem.W.alike, alikeAll_bl]
  so := .inl fun d hd => by
    rw [List.map_map] at hd
    obtain ⟨a, ha, rfl⟩ := List.mem_map.mp hd
    match a, h a ha with
    | x :: a, _ => exact ⟨_, _, rfl⟩
    | [], z => exact absurd rfl z
theorem sort_dB {l : List (List Bool)} : (l.map dB).mergeSort leD = (l.mergeSort leB).map dB := (List.map_mergeSort (r := leB) (s := leD) (f := dB) fun _ _ _ _ => rfl).symm
end SS

/-! machines: all that may come, a rule's steps -/
namespace SS
open PySem PySem.Spec PyProof.Rows L2

theorem ev_all_behind {S : Wd} (hS : AlOk S) {r : Rl} (hr : r.bh.length ≤ 2) : F_all_behind [dRl r, .str S] = some (.lst ((allB r S).map dB)) := by
  obtain ⟨hn, _, _, hlen, h4, hw⟩ := allB_ok hS.len hr
  have he := ev_behind_end (r := r) (by omega)
  have hS6 := hS.len
  obtain ⟨hwh, _⟩ := while_wl (next := fun e => S.map (bhst r e)) (c := c_all_behind1) (b := b_all_behind1) (fun f s => [.fro (dRl r), .fro (.str S), .own (f.map dB), .own (s.reverse.map dB), .none, .none])
    (fun f s => f.Nodup ∧ (∀ x ∈ f, x.length = r.bh.length) ∧ (∀ x ∈ s, x.length = r.bh.length) ∧ s.length ≤ 6 * f.length + 1)
    (fun f s hp => by simp [mW, noPin, wipeL, restL, mDNew, List.foldr_cons, List.foldr_nil, List.all_cons, List.all_nil, runF, runP, startL, startP, outD, frz1, mSeq, mNx, mRet, mIfS, mSet, mAsg, mPar', mApp, mExt, mPop, mSetIx, mAug, mFor, mT, mAnd, mOr, mNot, mAndV, mOrV, mNotV, mIf, mB0, mB1, mB2, mBN, mNil, mCons, mF, mVar, mC, mTup, mLst, mSl, mNo, mSo, mMeth, mEnum, mZip, mRng1, mRng2, inRng_3, inRng_4, inRng_6, mSeq1, mTT, opB, opI, opAdd, opIx, opLen, opTuple, opList, opInt, opMin, opAllAny, opJoin, opSl, opDict, opKGet, mGet2, opNeg, opMach, opSounds, opHist, mCh, inE, ninE, eqE, neE, isMach, callF, callP, pu1, pu2, puN, iCmp, frosOf, put, pin_fro, pin_non, pin_own, gN, gNil', gCons', gTup', lstOf, setL, ownOf, isLoc, locIs, mElt, mInn, mLcG, cT, cPos, Option.bind_some, Option.bind_none, Option.map_some, Option.map_none, List.getElem?_cons_zero, List.getElem?_cons_succ, List.set_cons_zero, List.set_cons_succ, List.map_cons, List.map_nil, List.length_cons, List.length_nil, List.cons_append, List.nil_append, List.replicate_succ, List.replicate_zero, asInt__fro_int, asInt__fro_str, asInt__fro_bl, asInt__fro_tup, asInt__fro_row, asInt__fro_lst, asInt__fro_non, asInt__fro_mach, asInt__fro_obj, asInt__tmp, asInt__tmpk, asInt__tmpd, asInt__loc, asStr__fro_int, asStr__fro_str, asStr__fro_bl, asStr__fro_tup, asStr__fro_row, asStr__fro_lst, asStr__fro_non, asStr__fro_mach, asStr__fro_obj, asStr__tmp, asStr__tmpk, asStr__tmpd, asStr__loc, asBl__fro_int, asBl__fro_str, asBl__fro_bl, asBl__fro_tup, asBl__fro_row, asBl__fro_lst, asBl__fro_non, asBl__fro_mach, asBl__fro_obj, asBl__tmp, asBl__tmpk, asBl__tmpd, asBl__loc, asTup__fro_int, asTup__fro_str, asTup__fro_bl, asTup__fro_tup, asTup__fro_row, asTup__fro_lst, asTup__fro_non, asTup__fro_mach, asTup__fro_obj, asTup__tmp, asTup__tmpk, asTup__tmpd, asTup__loc, contL__fro_int, contL__fro_str, contL__fro_bl, contL__fro_tup, contL__fro_row, contL__fro_lst, contL__fro_non, contL__fro_mach, contL__fro_obj, contL__tmp, contL__tmpk, contL__tmpd, contK__fro_int, contK__fro_str, contK__fro_bl, contK__fro_tup, contK__fro_row, contK__fro_lst, contK__fro_non, contK__fro_mach, contK__fro_obj, contK__tmp, contK__tmpk, contK__tmpd, contL__loc, lvL__own, lvL__pin, lvL__fro, lvL__k, lvL__d, contK__loc, kOf, c_all_behind1])
    (fun f x s hp hx => by
      obtain ⟨p1, p2, p3, p4⟩ := hp
      refine ⟨?_, p1, p2, fun y hy => p3 y (by simp [hy]), by simp at p4; omega⟩
      have ha := any_deq (enc := dB) deq_dB f x
      have hk1 := cok_dB x
      have hk2 : cok (.lst (f.map dB)) = true := (fine_lst (fine_map fun p _ => fine_dB p)).cok
      replace ha := ha.trans (show _ = true by simp [hx])
      simp [↓asStr_dB, ↓asInt_dB, ↓asBl_dB, ↓asTup_dB, ↓contL_dB, ↓asStr_dSt1, ↓asInt_dSt1, ↓asBl_dSt1, ↓asTup_dSt1, ↓contL_dSt1, ↓asStr_dSt, ↓asInt_dSt, ↓asBl_dSt, ↓asTup_dSt, ↓contL_dSt, ↓asStr_dSl, ↓asInt_dSl, ↓asBl_dSl, ↓asTup_dSl, ↓contL_dSl, ↓asStr_dCh, ↓asInt_dCh, ↓asBl_dCh, ↓asTup_dCh, ↓contL_dCh, ↓asStr_dRl, ↓asInt_dRl, ↓asBl_dRl, ↓asTup_dRl, ↓contL_dRl, ↓asStr_dHi, ↓asInt_dHi, ↓asBl_dHi, ↓asTup_dHi, ↓contL_dHi, ↓asStr_encP, ↓asInt_encP, ↓asBl_encP, ↓asTup_encP, ↓contL_encP, ↓asStr_encRO, ↓asInt_encRO, ↓asBl_encRO, ↓asTup_encRO, ↓contL_encRO, ↓asStr_encSO, ↓asInt_encSO, ↓asBl_encSO, ↓asTup_encSO, ↓contL_encSO, mW, noPin, wipeL, restL, mDNew, List.foldr_cons, List.foldr_nil, List.all_cons, List.all_nil, runF, runP, startL, startP, outD, frz1, mSeq, mNx, mRet, mIfS, mSet, mAsg, mPar', mApp, mExt, mPop, mSetIx, mAug, mFor, mT, mAnd, mOr, mNot, mAndV, mOrV, mNotV, mIf, mB0, mB1, mB2, mBN, mNil, mCons, mF, mVar, mC, mTup, mLst, mSl, mNo, mSo, mMeth, mEnum, mZip, mRng1, mRng2, inRng_3, inRng_4, inRng_6, mSeq1, mTT, opB, opI, opAdd, opIx, opLen, opTuple, opList, opInt, opMin, opAllAny, opJoin, opSl, opDict, opKGet, mGet2, opNeg, opMach, opSounds, opHist, mCh, inE, ninE, eqE, neE, isMach, callF, callP, pu1, pu2, puN, iCmp, frosOf, put, pin_fro, pin_non, pin_own, gN, gNil', gCons', gTup', lstOf, setL, ownOf, isLoc, locIs, mElt, mInn, mLcG, cT, cPos, Option.bind_some, Option.bind_none, Option.map_some, Option.map_none, List.getElem?_cons_zero, List.getElem?_cons_succ, List.set_cons_zero, List.set_cons_succ, List.map_cons, List.map_nil, List.length_cons, List.length_nil, List.cons_append, List.nil_append, List.replicate_succ, List.replicate_zero, asInt__fro_int, asInt__fro_str, asInt__fro_bl, asInt__fro_tup, asInt__fro_row, asInt__fro_lst, asInt__fro_non, asInt__fro_mach, asInt__fro_obj, asInt__tmp, asInt__tmpk, asInt__tmpd, asInt__loc, asStr__fro_int, asStr__fro_str, asStr__fro_bl, asStr__fro_tup, asStr__fro_row, asStr__fro_lst, asStr__fro_non, asStr__fro_mach, asStr__fro_obj, asStr__tmp, asStr__tmpk, asStr__tmpd, asStr__loc, asBl__fro_int, asBl__fro_str, asBl__fro_bl, asBl__fro_tup, asBl__fro_row, asBl__fro_lst, asBl__fro_non, asBl__fro_mach, asBl__fro_obj, asBl__tmp, asBl__tmpk, asBl__tmpd, asBl__loc, asTup__fro_int, asTup__fro_str, asTup__fro_bl, asTup__fro_tup, asTup__fro_row, asTup__fro_lst, asTup__fro_non, asTup__fro_mach, asTup__fro_obj, asTup__tmp, asTup__tmpk, asTup__tmpd, asTup__loc, contL__fro_int, contL__fro_str, contL__fro_bl, contL__fro_tup, contL__fro_row, contL__fro_lst, contL__fro_non, contL__fro_mach, contL__fro_obj, contL__tmp, contL__tmpk, contL__tmpd, contK__fro_int, contK__fro_str, contK__fro_bl, contK__fro_tup, contK__fro_row, contK__fro_lst, contK__fro_non, contK__fro_mach, contK__fro_obj, contK__tmp, contK__tmpk, contK__tmpd, contL__loc, lvL__own, lvL__pin, lvL__fro, lvL__k, lvL__d, contK__loc, kOf, b_all_behind1, datE, ha, hk1, hk2])
    (fun f x s hp hx => by
      obtain ⟨p1, p2, p3, p4⟩ := hp
      have hxl := p3 x (by simp)
      have hfn : (f ++ [x]).Nodup := by
        rw [List.nodup_append]
        exact ⟨p1, by simp, fun a ha b hb => by rw [List.mem_singleton.mp hb]; exact fun e => hx (e ▸ ha)⟩
      have hfl : ∀ y ∈ f ++ [x], y.length = r.bh.length := fun y hy => by
        rcases List.mem_append.mp hy with z | z
        · exact p2 y z
        · rw [List.mem_singleton.mp z]; exact hxl
      have hc4 : (f ++ [x]).length ≤ 4 := Nat.le_trans (nodup_sub hfn fun y hy => mem_bools (hfl y hy)) (Nat.le_trans (bools_len _) (pow_4 hr))
      rw [List.length_append, List.length_singleton] at hc4
      rw [List.length_cons] at p4
      have hz1 : f.length < LIM := by rw [LIM_val]; omega
      have hz2 : s.length + S.length ≤ LIM := by rw [LIM_val]; omega
      refine ⟨?_, hfn, hfl, fun y hy => ?_, ?_⟩
      · have ha := any_deq (enc := dB) deq_dB f x
        have hk1 := cok_dB x
        have hk2 : cok (.lst (f.map dB)) = true := (fine_lst (fine_map fun p _ => fine_dB p)).cok
        replace ha := ha.trans (show _ = false by simp [hx])
        have hcm := lcG_map (vs := [5]) (g := g_all_behind1) (me := e_all_behind1) (L := [.fro (dRl r), .fro (.str S), .own (f.map dB ++ [dB x]), .own (s.reverse.map dB), .fro (dB x), .none]) (enc := fun c : Nat => .str [c]) (f := fun c => dB (bhst r x c)) rfl S [] (fun c _ => by
          have h1 := ev_behind_step (r := r) (by omega) hxl (c := c)
          simp [mW, noPin, wipeL, restL, mDNew, List.foldr_cons, List.foldr_nil, List.all_cons, List.all_nil, runF, runP, startL, startP, outD, frz1, mSeq, mNx, mRet, mIfS, mSet, mAsg, mPar', mApp, mExt, mPop, mSetIx, mAug, mFor, mT, mAnd, mOr, mNot, mAndV, mOrV, mNotV, mIf, mB0, mB1, mB2, mBN, mNil, mCons, mF, mVar, mC, mTup, mLst, mSl, mNo, mSo, mMeth, mEnum, mZip, mRng1, mRng2, inRng_3, inRng_4, inRng_6, mSeq1, mTT, opB, opI, opAdd, opIx, opLen, opTuple, opList, opInt, opMin, opAllAny, opJoin, opSl, opDict, opKGet, mGet2, opNeg, opMach, opSounds, opHist, mCh, inE, ninE, eqE, neE, isMach, callF, callP, pu1, pu2, puN, iCmp, frosOf, put, pin_fro, pin_non, pin_own, gN, gNil', gCons', gTup', lstOf, setL, ownOf, isLoc, locIs, mElt, mInn, mLcG, cT, cPos, Option.bind_some, Option.bind_none, Option.map_some, Option.map_none, List.getElem?_cons_zero, List.getElem?_cons_succ, List.set_cons_zero, List.set_cons_succ, List.map_cons, List.map_nil, List.length_cons, List.length_nil, List.cons_append, List.nil_append, List.replicate_succ, List.replicate_zero, asInt__fro_int, asInt__fro_str, asInt__fro_bl, asInt__fro_tup, asInt__fro_row, asInt__fro_lst, asInt__fro_non, asInt__fro_mach, asInt__fro_obj, asInt__tmp, asInt__tmpk, asInt__tmpd, asInt__loc, asStr__fro_int, asStr__fro_str, asStr__fro_bl, asStr__fro_tup, asStr__fro_row, asStr__fro_lst, asStr__fro_non, asStr__fro_mach, asStr__fro_obj, asStr__tmp, asStr__tmpk, asStr__tmpd, asStr__loc, asBl__fro_int, asBl__fro_str, asBl__fro_bl, asBl__fro_tup, asBl__fro_row, asBl__fro_lst, asBl__fro_non, asBl__fro_mach, asBl__fro_obj, asBl__tmp, asBl__tmpk, asBl__tmpd, asBl__loc, asTup__fro_int, asTup__fro_str, asTup__fro_bl, asTup__fro_tup, asTup__fro_row, asTup__fro_lst, asTup__fro_non, asTup__fro_mach, asTup__fro_obj, asTup__tmp, asTup__tmpk, asTup__tmpd, asTup__loc, contL__fro_int, contL__fro_str, contL__fro_bl, contL__fro_tup, contL__fro_row, contL__fro_lst, contL__fro_non, contL__fro_mach, contL__fro_obj, contL__tmp, contL__tmpk, contL__tmpd, contK__fro_int, contK__fro_str, contK__fro_bl, contK__fro_tup, contK__fro_row, contK__fro_lst, contK__fro_non, contK__fro_mach, contK__fro_obj, contK__tmp, contK__tmpk, contK__tmpd, contL__loc, lvL__own, lvL__pin, lvL__fro, lvL__k, lvL__d, contK__loc, kOf, lcE, g_all_behind1, e_all_behind1, h1]) (by rw [LIM_val]; simp; omega)
        rw [List.nil_append, List.map_reverse] at hcm
        have hrw : rows S = S.map fun c => .str [c] := rfl
        simp [↓asStr_dB, ↓asInt_dB, ↓asBl_dB, ↓asTup_dB, ↓contL_dB, ↓asStr_dSt1, ↓asInt_dSt1, ↓asBl_dSt1, ↓asTup_dSt1, ↓contL_dSt1, ↓asStr_dSt, ↓asInt_dSt, ↓asBl_dSt, ↓asTup_dSt, ↓contL_dSt, ↓asStr_dSl, ↓asInt_dSl, ↓asBl_dSl, ↓asTup_dSl, ↓contL_dSl, ↓asStr_dCh, ↓asInt_dCh, ↓asBl_dCh, ↓asTup_dCh, ↓contL_dCh, ↓asStr_dRl, ↓asInt_dRl, ↓asBl_dRl, ↓asTup_dRl, ↓contL_dRl, ↓asStr_dHi, ↓asInt_dHi, ↓asBl_dHi, ↓asTup_dHi, ↓contL_dHi, ↓asStr_encP, ↓asInt_encP, ↓asBl_encP, ↓asTup_encP, ↓contL_encP, ↓asStr_encRO, ↓asInt_encRO, ↓asBl_encRO, ↓asTup_encRO, ↓contL_encRO, ↓asStr_encSO, ↓asInt_encSO, ↓asBl_encSO, ↓asTup_encSO, ↓contL_encSO, mW, noPin, wipeL, restL, mDNew, List.foldr_cons, List.foldr_nil, List.all_cons, List.all_nil, runF, runP, startL, startP, outD, frz1, mSeq, mNx, mRet, mIfS, mSet, mAsg, mPar', mApp, mExt, mPop, mSetIx, mAug, mFor, mT, mAnd, mOr, mNot, mAndV, mOrV, mNotV, mIf, mB0, mB1, mB2, mBN, mNil, mCons, mF, mVar, mC, mTup, mLst, mSl, mNo, mSo, mMeth, mEnum, mZip, mRng1, mRng2, inRng_3, inRng_4, inRng_6, mSeq1, mTT, opB, opI, opAdd, opIx, opLen, opTuple, opList, opInt, opMin, opAllAny, opJoin, opSl, opDict, opKGet, mGet2, opNeg, opMach, opSounds, opHist, mCh, inE, ninE, eqE, neE, isMach, callF, callP, pu1, pu2, puN, iCmp, frosOf, put, pin_fro, pin_non, pin_own, gN, gNil', gCons', gTup', lstOf, setL, ownOf, isLoc, locIs, mElt, mInn, mLcG, cT, cPos, Option.bind_some, Option.bind_none, Option.map_some, Option.map_none, List.getElem?_cons_zero, List.getElem?_cons_succ, List.set_cons_zero, List.set_cons_succ, List.map_cons, List.map_nil, List.length_cons, List.length_nil, List.cons_append, List.nil_append, List.replicate_succ, List.replicate_zero, asInt__fro_int, asInt__fro_str, asInt__fro_bl, asInt__fro_tup, asInt__fro_row, asInt__fro_lst, asInt__fro_non, asInt__fro_mach, asInt__fro_obj, asInt__tmp, asInt__tmpk, asInt__tmpd, asInt__loc, asStr__fro_int, asStr__fro_str, asStr__fro_bl, asStr__fro_tup, asStr__fro_row, asStr__fro_lst, asStr__fro_non, asStr__fro_mach, asStr__fro_obj, asStr__tmp, asStr__tmpk, asStr__tmpd, asStr__loc, asBl__fro_int, asBl__fro_str, asBl__fro_bl, asBl__fro_tup, asBl__fro_row, asBl__fro_lst, asBl__fro_non, asBl__fro_mach, asBl__fro_obj, asBl__tmp, asBl__tmpk, asBl__tmpd, asBl__loc, asTup__fro_int, asTup__fro_str, asTup__fro_bl, asTup__fro_tup, asTup__fro_row, asTup__fro_lst, asTup__fro_non, asTup__fro_mach, asTup__fro_obj, asTup__tmp, asTup__tmpk, asTup__tmpd, asTup__loc, contL__fro_int, contL__fro_str, contL__fro_bl, contL__fro_tup, contL__fro_row, contL__fro_lst, contL__fro_non, contL__fro_mach, contL__fro_obj, contL__tmp, contL__tmpk, contL__tmpd, contK__fro_int, contK__fro_str, contK__fro_bl, contK__fro_tup, contK__fro_row, contK__fro_lst, contK__fro_non, contK__fro_mach, contK__fro_obj, contK__tmp, contK__tmpk, contK__tmpd, contL__loc, lvL__own, lvL__pin, lvL__fro, lvL__k, lvL__d, contK__loc, kOf, b_all_behind1, datE, ha, hk1, hk2, hz1, hz2, hrw, hcm, Function.comp_def]
      · rcases List.mem_append.mp hy with z | z
        · obtain ⟨c, _, rfl⟩ := List.mem_map.mp (List.mem_reverse.mp z)
          exact bhst_len r x c
        · exact p3 y (by simp [z])
      · rw [List.length_append, List.length_reverse, List.length_map, List.length_append, List.length_singleton]
        omega) 10000 [] [bend r] _ hw ⟨by simp, by simp, fun x hx => by rw [List.mem_singleton.mp hx]; exact bend_len r, by simp⟩
  have hwf := mWhile_fuel hwh (by decide)
  have hperm : (wlB r S).Perm (allB r S) := by unfold allB; exact (List.mergeSort_perm _ _).symm
  have hso : ((wlB r S).map dB).length ≤ 1 ∨ SortOk ((wlB r S).map dB) := by
    by_cases h0 : r.bh.length = 0
    · left
      have := nodup_sub (hperm.nodup_iff.mpr hn) (K := bools 0) fun x hx => mem_bools ((hlen x (hperm.mem_iff.mp hx)).trans h0)
      rw [List.length_map]
      exact this
    · right
      exact sortOk_dB fun a ha e => h0 (by rw [← hlen a (hperm.mem_iff.mp ha), e]; rfl)
  have hsd := opSorted_is (a := .loc 2) (L := [.none, .none, .own ((wlB r S).map dB), .none, .none, .none]) rfl hso
  rw [sort_dB] at hsd
  have eall : (wlB r S).mergeSort leB = allB r S := rfl
  rw [eall] at hsd
  unfold F_all_behind m_all_behind
  generalize (wlB r S).map dB = zs at *
  generalize (allB r S).map dB = ys at *
  simp at hwf
  simp [mW, noPin, wipeL, restL, mDNew, List.foldr_cons, List.foldr_nil, List.all_cons, List.all_nil, runF, runP, startL, startP, outD, frz1, mSeq, mNx, mRet, mIfS, mSet, mAsg, mPar', mApp, mExt, mPop, mSetIx, mAug, mFor, mT, mAnd, mOr, mNot, mAndV, mOrV, mNotV, mIf, mB0, mB1, mB2, mBN, mNil, mCons, mF, mVar, mC, mTup, mLst, mSl, mNo, mSo, mMeth, mEnum, mZip, mRng1, mRng2, inRng_3, inRng_4, inRng_6, mSeq1, mTT, opB, opI, opAdd, opIx, opLen, opTuple, opList, opInt, opMin, opAllAny, opJoin, opSl, opDict, opKGet, mGet2, opNeg, opMach, opSounds, opHist, mCh, inE, ninE, eqE, neE, isMach, callF, callP, pu1, pu2, puN, iCmp, frosOf, put, pin_fro, pin_non, pin_own, gN, gNil', gCons', gTup', lstOf, setL, ownOf, isLoc, locIs, mElt, mInn, mLcG, cT, cPos, Option.bind_some, Option.bind_none, Option.map_some, Option.map_none, List.getElem?_cons_zero, List.getElem?_cons_succ, List.set_cons_zero, List.set_cons_succ, List.map_cons, List.map_nil, List.length_cons, List.length_nil, List.cons_append, List.nil_append, List.replicate_succ, List.replicate_zero, asInt__fro_int, asInt__fro_str, asInt__fro_bl, asInt__fro_tup, asInt__fro_row, asInt__fro_lst, asInt__fro_non, asInt__fro_mach, asInt__fro_obj, asInt__tmp, asInt__tmpk, asInt__tmpd, asInt__loc, asStr__fro_int, asStr__fro_str, asStr__fro_bl, asStr__fro_tup, asStr__fro_row, asStr__fro_lst, asStr__fro_non, asStr__fro_mach, asStr__fro_obj, asStr__tmp, asStr__tmpk, asStr__tmpd, asStr__loc, asBl__fro_int, asBl__fro_str, asBl__fro_bl, asBl__fro_tup, asBl__fro_row, asBl__fro_lst, asBl__fro_non, asBl__fro_mach, asBl__fro_obj, asBl__tmp, asBl__tmpk, asBl__tmpd, asBl__loc, asTup__fro_int, asTup__fro_str, asTup__fro_bl, asTup__fro_tup, asTup__fro_row, asTup__fro_lst, asTup__fro_non, asTup__fro_mach, asTup__fro_obj, asTup__tmp, asTup__tmpk, asTup__tmpd, asTup__loc, contL__fro_int, contL__fro_str, contL__fro_bl, contL__fro_tup, contL__fro_row, contL__fro_lst, contL__fro_non, contL__fro_mach, contL__fro_obj, contL__tmp, contL__tmpk, contL__tmpd, contK__fro_int, contK__fro_str, contK__fro_bl, contK__fro_tup, contK__fro_row, contK__fro_lst, contK__fro_non, contK__fro_mach, contK__fro_obj, contK__tmp, contK__tmpk, contK__tmpd, contL__loc, lvL__own, lvL__pin, lvL__fro, lvL__k, lvL__d, contK__loc, kOf, he, hwf, hsd]
theorem ev_rule_starts {S : Wd} (hS : AlOk S) {r : Rl} (hr : r.bh.length ≤ 2) (hb : r.be.length ≤ 2) : F_rule_starts [dRl r, .str S] = some (.lst ((allB r S).map fun e => dSt1 (bst r, e))) := by
  have h1 := ev_all_behind hS hr
  have h2 := ev_before_start (r := r) (by omega)
  have h4 := (allB_ok hS.len hr).2.2.2.2.1
  have hcm := lcG_map (vs := [2]) (g := g_rule_starts1) (me := e_rule_starts1) (L := [.fro (dRl r), .fro (.str S), .none]) (enc := dB) (f := fun e => dSt1 (bst r, e)) rfl (allB r S) [] (fun e _ => by
    simp [mW, noPin, wipeL, restL, mDNew, List.foldr_cons, List.foldr_nil, List.all_cons, List.all_nil, runF, runP, startL, startP, outD, frz1, mSeq, mNx, mRet, mIfS, mSet, mAsg, mPar', mApp, mExt, mPop, mSetIx, mAug, mFor, mT, mAnd, mOr, mNot, mAndV, mOrV, mNotV, mIf, mB0, mB1, mB2, mBN, mNil, mCons, mF, mVar, mC, mTup, mLst, mSl, mNo, mSo, mMeth, mEnum, mZip, mRng1, mRng2, inRng_3, inRng_4, inRng_6, mSeq1, mTT, opB, opI, opAdd, opIx, opLen, opTuple, opList, opInt, opMin, opAllAny, opJoin, opSl, opDict, opKGet, mGet2, opNeg, opMach, opSounds, opHist, mCh, inE, ninE, eqE, neE, isMach, callF, callP, pu1, pu2, puN, iCmp, frosOf, put, pin_fro, pin_non, pin_own, gN, gNil', gCons', gTup', lstOf, setL, ownOf, isLoc, locIs, mElt, mInn, mLcG, cT, cPos, Option.bind_some, Option.bind_none, Option.map_some, Option.map_none, List.getElem?_cons_zero, List.getElem?_cons_succ, List.set_cons_zero, List.set_cons_succ, List.map_cons, List.map_nil, List.length_cons, List.length_nil, List.cons_append, List.nil_append, List.replicate_succ, List.replicate_zero, asInt__fro_int, asInt__fro_str, asInt__fro_bl, asInt__fro_tup, asInt__fro_row, asInt__fro_lst, asInt__fro_non, asInt__fro_mach, asInt__fro_obj, asInt__tmp, asInt__tmpk, asInt__tmpd, asInt__loc, asStr__fro_int, asStr__fro_str, asStr__fro_bl, asStr__fro_tup, asStr__fro_row, asStr__fro_lst, asStr__fro_non, asStr__fro_mach, asStr__fro_obj, asStr__tmp, asStr__tmpk, asStr__tmpd, asStr__loc, asBl__fro_int, asBl__fro_str, asBl__fro_bl, asBl__fro_tup, asBl__fro_row, asBl__fro_lst, asBl__fro_non, asBl__fro_mach, asBl__fro_obj, asBl__tmp, asBl__tmpk, asBl__tmpd, asBl__loc, asTup__fro_int, asTup__fro_str, asTup__fro_bl, asTup__fro_tup, asTup__fro_row, asTup__fro_lst, asTup__fro_non, asTup__fro_mach, asTup__fro_obj, asTup__tmp, asTup__tmpk, asTup__tmpd, asTup__loc, contL__fro_int, contL__fro_str, contL__fro_bl, contL__fro_tup, contL__fro_row, contL__fro_lst, contL__fro_non, contL__fro_mach, contL__fro_obj, contL__tmp, contL__tmpk, contL__tmpd, contK__fro_int, contK__fro_str, contK__fro_bl, contK__fro_tup, contK__fro_row, contK__fro_lst, contK__fro_non, contK__fro_mach, contK__fro_obj, contK__tmp, contK__tmpk, contK__tmpd, contL__loc, lvL__own, lvL__pin, lvL__fro, lvL__k, lvL__d, contK__loc, kOf, lcE, g_rule_starts1, e_rule_starts1, h2, dSt1]) (by rw [LIM_val]; simp; omega)
  rw [List.nil_append] at hcm
  unfold F_rule_starts m_rule_starts
  generalize (allB r S).map (fun e => dSt1 (bst r, e)) = ys at *
  simp [mW, noPin, wipeL, restL, mDNew, List.foldr_cons, List.foldr_nil, List.all_cons, List.all_nil, runF, runP, startL, startP, outD, frz1, mSeq, mNx, mRet, mIfS, mSet, mAsg, mPar', mApp, mExt, mPop, mSetIx, mAug, mFor, mT, mAnd, mOr, mNot, mAndV, mOrV, mNotV, mIf, mB0, mB1, mB2, mBN, mNil, mCons, mF, mVar, mC, mTup, mLst, mSl, mNo, mSo, mMeth, mEnum, mZip, mRng1, mRng2, inRng_3, inRng_4, inRng_6, mSeq1, mTT, opB, opI, opAdd, opIx, opLen, opTuple, opList, opInt, opMin, opAllAny, opJoin, opSl, opDict, opKGet, mGet2, opNeg, opMach, opSounds, opHist, mCh, inE, ninE, eqE, neE, isMach, callF, callP, pu1, pu2, puN, iCmp, frosOf, put, pin_fro, pin_non, pin_own, gN, gNil', gCons', gTup', lstOf, setL, ownOf, isLoc, locIs, mElt, mInn, mLcG, cT, cPos, Option.bind_some, Option.bind_none, Option.map_some, Option.map_none, List.getElem?_cons_zero, List.getElem?_cons_succ, List.set_cons_zero, List.set_cons_succ, List.map_cons, List.map_nil, List.length_cons, List.length_nil, List.cons_append, List.nil_append, List.replicate_succ, List.replicate_zero, asInt__fro_int, asInt__fro_str, asInt__fro_bl, asInt__fro_tup, asInt__fro_row, asInt__fro_lst, asInt__fro_non, asInt__fro_mach, asInt__fro_obj, asInt__tmp, asInt__tmpk, asInt__tmpd, asInt__loc, asStr__fro_int, asStr__fro_str, asStr__fro_bl, asStr__fro_tup, asStr__fro_row, asStr__fro_lst, asStr__fro_non, asStr__fro_mach, asStr__fro_obj, asStr__tmp, asStr__tmpk, asStr__tmpd, asStr__loc, asBl__fro_int, asBl__fro_str, asBl__fro_bl, asBl__fro_tup, asBl__fro_row, asBl__fro_lst, asBl__fro_non, asBl__fro_mach, asBl__fro_obj, asBl__tmp, asBl__tmpk, asBl__tmpd, asBl__loc, asTup__fro_int, asTup__fro_str, asTup__fro_bl, asTup__fro_tup, asTup__fro_row, asTup__fro_lst, asTup__fro_non, asTup__fro_mach, asTup__fro_obj, asTup__tmp, asTup__tmpk, asTup__tmpd, asTup__loc, contL__fro_int, contL__fro_str, contL__fro_bl, contL__fro_tup, contL__fro_row, contL__fro_lst, contL__fro_non, contL__fro_mach, contL__fro_obj, contL__tmp, contL__tmpk, contL__tmpd, contK__fro_int, contK__fro_str, contK__fro_bl, contK__fro_tup, contK__fro_row, contK__fro_lst, contK__fro_non, contK__fro_mach, contK__fro_obj, contK__tmp, contK__tmpk, contK__tmpd, contL__loc, lvL__own, lvL__pin, lvL__fro, lvL__k, lvL__d, contK__loc, kOf, h1, hcm]
theorem flatMap_ite {α β : Type} {p : α → Bool} {f : α → β} : ∀ l : List α, l.flatMap (fun x => if p x = true then [f x] else []) = (l.filter p).map f
  | [] => rfl
  | x :: l => by
    rw [List.flatMap_cons, flatMap_ite l, List.filter_cons]
    split <;> simp
theorem encs_dCh (r : Rl) : dCh r.ch = .tup (r.ch.map encP) := rfl
theorem rule_step_b {r : Rl} {S : Wd} (hS : AlOk S) (hr : RlOk S r) {s : RSt} (hf : Fit1 r s) {c : Nat} (hc : c ∈ S) {k : List Bool} (hk : k.length = r.bh.length) {acc : List D} (hz : acc.length < LIM) :
    (g_rule_steps1 (dB k) [.fro (dRl r), .fro (.str S), .none, .fro (.str [c]), .own acc, .none, .fro (dB s.1), .fro (dB s.2), .none, .none]).bind b_rule_steps1 =
      some (.nx, [.fro (dRl r), .fro (.str S), .none, .fro (.str [c]), .own (acc ++ if decide (bhst r k c = s.2) = true then [encRO ((bstp r s.1 c, k), outB r s.1 k c)] else []), .none, .fro (dB s.1), .fro (dB s.2), .none, .none]) := by
  obtain ⟨a, e⟩ := s
  obtain ⟨f1, f2⟩ := hf
  simp only at f1 f2 ⊢
  have nbe := hr.nbe
  have nbh := hr.nbh
  have h1 := ev_behind_step (r := r) (by omega) hk (c := c)
  have h2 := ev_before_step (r := r) (by omega) f1 (c := c)
  have hp := pairsS_enc r.ch
  have hg := (chg_non (r := r) (c := c) (fun _ => True) (fun _ _ => trivial) trivial).2
  have hd := deq_dB (bhst r k c) e
  have hk1 := cok_dB (bhst r k c)
  have hk2 := cok_dB e
  unfold chD at hg
  by_cases he : bhst r k c = e
  · rw [decide_eq_true he] at hd ⊢
    rw [if_pos rfl]
    unfold outB encRO dSt1
    have hbe : (r.be = [] ∧ lastB a = true) ∨ (¬ r.be = [] ∧ atI (a.map D.bl) (-1) = some (.bl (lastB a))) := by
      by_cases z : r.be = []
      · refine .inl ⟨z, ?_⟩
        rw [z] at f1
        have : a = [] := List.length_eq_zero_iff.mp f1
        rw [this]
        rfl
      · refine .inr ⟨z, ?_⟩
        have hne : a ≠ [] := fun q => z (by rw [q] at f1; exact List.length_eq_zero_iff.mp f1.symm)
        obtain ⟨pre, b, rfl⟩ : ∃ pre b, a = pre ++ [b] := ⟨a.dropLast, a.getLast hne, (List.dropLast_concat_getLast hne).symm⟩
        rw [List.map_append]
        simp only [lastB, List.map_cons, List.map_nil]
        rw [at_last]
        simp
    have hbh : (r.bh = [] ∧ headB k = true) ∨ (¬ r.bh = [] ∧ atI (k.map D.bl) 0 = some (.bl (headB k))) := by
      by_cases z : r.bh = []
      · refine .inl ⟨z, ?_⟩
        rw [z] at hk
        have : k = [] := List.length_eq_zero_iff.mp hk
        rw [this]
        rfl
      · refine .inr ⟨z, ?_⟩
        match k, hk with
        | [], q => exact absurd (List.length_eq_zero_iff.mp q.symm) z
        | x :: k, _ => exact atI0 (D.bl x :: k.map D.bl) 0
    have e0 : dRl r = .tup [.tup (r.ch.map encP), .tup (r.be.map D.str), .tup (r.bh.map D.str)] := rfl
    rw [e0] at h1 h2 ⊢
    unfold dB at *
    generalize lastB a = la at *
    generalize headB k = hb at *
    rcases hbe with ⟨z1, rfl⟩ | ⟨z1, z2⟩
    · rw [z1, List.map_nil] at h1 h2 ⊢
      rcases hbh with ⟨y1, rfl⟩ | ⟨y1, y2⟩
      · rw [y1, List.map_nil] at h1 h2 ⊢
        simp [mW, noPin, wipeL, restL, mDNew, List.foldr_cons, List.foldr_nil, List.all_cons, List.all_nil, runF, runP, startL, startP, outD, frz1, mSeq, mNx, mRet, mIfS, mSet, mAsg, mPar', mApp, mExt, mPop, mSetIx, mAug, mFor, mT, mAnd, mOr, mNot, mAndV, mOrV, mNotV, mIf, mB0, mB1, mB2, mBN, mNil, mCons, mF, mVar, mC, mTup, mLst, mSl, mNo, mSo, mMeth, mEnum, mZip, mRng1, mRng2, inRng_3, inRng_4, inRng_6, mSeq1, mTT, opB, opI, opAdd, opIx, opLen, opTuple, opList, opInt, opMin, opAllAny, opJoin, opSl, opDict, opKGet, mGet2, opNeg, opMach, opSounds, opHist, mCh, inE, ninE, eqE, neE, isMach, callF, callP, pu1, pu2, puN, iCmp, frosOf, put, pin_fro, pin_non, pin_own, gN, gNil', gCons', gTup', lstOf, setL, ownOf, isLoc, locIs, mElt, mInn, mLcG, cT, cPos, Option.bind_some, Option.bind_none, Option.map_some, Option.map_none, List.getElem?_cons_zero, List.getElem?_cons_succ, List.set_cons_zero, List.set_cons_succ, List.map_cons, List.map_nil, List.length_cons, List.length_nil, List.cons_append, List.nil_append, List.replicate_succ, List.replicate_zero, asInt__fro_int, asInt__fro_str, asInt__fro_bl, asInt__fro_tup, asInt__fro_row, asInt__fro_lst, asInt__fro_non, asInt__fro_mach, asInt__fro_obj, asInt__tmp, asInt__tmpk, asInt__tmpd, asInt__loc, asStr__fro_int, asStr__fro_str, asStr__fro_bl, asStr__fro_tup, asStr__fro_row, asStr__fro_lst, asStr__fro_non, asStr__fro_mach, asStr__fro_obj, asStr__tmp, asStr__tmpk, asStr__tmpd, asStr__loc, asBl__fro_int, asBl__fro_str, asBl__fro_bl, asBl__fro_tup, asBl__fro_row, asBl__fro_lst, asBl__fro_non, asBl__fro_mach, asBl__fro_obj, asBl__tmp, asBl__tmpk, asBl__tmpd, asBl__loc, asTup__fro_int, asTup__fro_str, asTup__fro_bl, asTup__fro_tup, asTup__fro_row, asTup__fro_lst, asTup__fro_non, asTup__fro_mach, asTup__fro_obj, asTup__tmp, asTup__tmpk, asTup__tmpd, asTup__loc, contL__fro_int, contL__fro_str, contL__fro_bl, contL__fro_tup, contL__fro_row, contL__fro_lst, contL__fro_non, contL__fro_mach, contL__fro_obj, contL__tmp, contL__tmpk, contL__tmpd, contK__fro_int, contK__fro_str, contK__fro_bl, contK__fro_tup, contK__fro_row, contK__fro_lst, contK__fro_non, contK__fro_mach, contK__fro_obj, contK__tmp, contK__tmpk, contK__tmpd, contL__loc, lvL__own, lvL__pin, lvL__fro, lvL__k, lvL__d, contK__loc, kOf, g_rule_steps1, b_rule_steps1, h1, h2, datE, hd, hk1, hk2, at3_0, at3_1, at3_2, cok_int, deq_int, hp, hg, hz]
      · have y3 : ¬ (r.bh.length : Int) = 0 := fun q => y1 (List.length_eq_zero_iff.mp (by omega))
        cases hb with
        | true => simp [mW, noPin, wipeL, restL, mDNew, List.foldr_cons, List.foldr_nil, List.all_cons, List.all_nil, runF, runP, startL, startP, outD, frz1, mSeq, mNx, mRet, mIfS, mSet, mAsg, mPar', mApp, mExt, mPop, mSetIx, mAug, mFor, mT, mAnd, mOr, mNot, mAndV, mOrV, mNotV, mIf, mB0, mB1, mB2, mBN, mNil, mCons, mF, mVar, mC, mTup, mLst, mSl, mNo, mSo, mMeth, mEnum, mZip, mRng1, mRng2, inRng_3, inRng_4, inRng_6, mSeq1, mTT, opB, opI, opAdd, opIx, opLen, opTuple, opList, opInt, opMin, opAllAny, opJoin, opSl, opDict, opKGet, mGet2, opNeg, opMach, opSounds, opHist, mCh, inE, ninE, eqE, neE, isMach, callF, callP, pu1, pu2, puN, iCmp, frosOf, put, pin_fro, pin_non, pin_own, gN, gNil', gCons', gTup', lstOf, setL, ownOf, isLoc, locIs, mElt, mInn, mLcG, cT, cPos, Option.bind_some, Option.bind_none, Option.map_some, Option.map_none, List.getElem?_cons_zero, List.getElem?_cons_succ, List.set_cons_zero, List.set_cons_succ, List.map_cons, List.map_nil, List.length_cons, List.length_nil, List.cons_append, List.nil_append, List.replicate_succ, List.replicate_zero, asInt__fro_int, asInt__fro_str, asInt__fro_bl, asInt__fro_tup, asInt__fro_row, asInt__fro_lst, asInt__fro_non, asInt__fro_mach, asInt__fro_obj, asInt__tmp, asInt__tmpk, asInt__tmpd, asInt__loc, asStr__fro_int, asStr__fro_str, asStr__fro_bl, asStr__fro_tup, asStr__fro_row, asStr__fro_lst, asStr__fro_non, asStr__fro_mach, asStr__fro_obj, asStr__tmp, asStr__tmpk, asStr__tmpd, asStr__loc, asBl__fro_int, asBl__fro_str, asBl__fro_bl, asBl__fro_tup, asBl__fro_row, asBl__fro_lst, asBl__fro_non, asBl__fro_mach, asBl__fro_obj, asBl__tmp, asBl__tmpk, asBl__tmpd, asBl__loc, asTup__fro_int, asTup__fro_str, asTup__fro_bl, asTup__fro_tup, asTup__fro_row, asTup__fro_lst, asTup__fro_non, asTup__fro_mach, asTup__fro_obj, asTup__tmp, asTup__tmpk, asTup__tmpd, asTup__loc, contL__fro_int, contL__fro_str, contL__fro_bl, contL__fro_tup, contL__fro_row, contL__fro_lst, contL__fro_non, contL__fro_mach, contL__fro_obj, contL__tmp, contL__tmpk, contL__tmpd, contK__fro_int, contK__fro_str, contK__fro_bl, contK__fro_tup, contK__fro_row, contK__fro_lst, contK__fro_non, contK__fro_mach, contK__fro_obj, contK__tmp, contK__tmpk, contK__tmpd, contL__loc, lvL__own, lvL__pin, lvL__fro, lvL__k, lvL__d, contK__loc, kOf, g_rule_steps1, b_rule_steps1, h1, h2, datE, hd, hk1, hk2, at3_0, at3_1, at3_2, cok_int, deq_int, hp, hg, hz, y1, y2, y3]
        | false => simp [mW, noPin, wipeL, restL, mDNew, List.foldr_cons, List.foldr_nil, List.all_cons, List.all_nil, runF, runP, startL, startP, outD, frz1, mSeq, mNx, mRet, mIfS, mSet, mAsg, mPar', mApp, mExt, mPop, mSetIx, mAug, mFor, mT, mAnd, mOr, mNot, mAndV, mOrV, mNotV, mIf, mB0, mB1, mB2, mBN, mNil, mCons, mF, mVar, mC, mTup, mLst, mSl, mNo, mSo, mMeth, mEnum, mZip, mRng1, mRng2, inRng_3, inRng_4, inRng_6, mSeq1, mTT, opB, opI, opAdd, opIx, opLen, opTuple, opList, opInt, opMin, opAllAny, opJoin, opSl, opDict, opKGet, mGet2, opNeg, opMach, opSounds, opHist, mCh, inE, ninE, eqE, neE, isMach, callF, callP, pu1, pu2, puN, iCmp, frosOf, put, pin_fro, pin_non, pin_own, gN, gNil', gCons', gTup', lstOf, setL, ownOf, isLoc, locIs, mElt, mInn, mLcG, cT, cPos, Option.bind_some, Option.bind_none, Option.map_some, Option.map_none, List.getElem?_cons_zero, List.getElem?_cons_succ, List.set_cons_zero, List.set_cons_succ, List.map_cons, List.map_nil, List.length_cons, List.length_nil, List.cons_append, List.nil_append, List.replicate_succ, List.replicate_zero, asInt__fro_int, asInt__fro_str, asInt__fro_bl, asInt__fro_tup, asInt__fro_row, asInt__fro_lst, asInt__fro_non, asInt__fro_mach, asInt__fro_obj, asInt__tmp, asInt__tmpk, asInt__tmpd, asInt__loc, asStr__fro_int, asStr__fro_str, asStr__fro_bl, asStr__fro_tup, asStr__fro_row, asStr__fro_lst, asStr__fro_non, asStr__fro_mach, asStr__fro_obj, asStr__tmp, asStr__tmpk, asStr__tmpd, asStr__loc, asBl__fro_int, asBl__fro_str, asBl__fro_bl, asBl__fro_tup, asBl__fro_row, asBl__fro_lst, asBl__fro_non, asBl__fro_mach, asBl__fro_obj, asBl__tmp, asBl__tmpk, asBl__tmpd, asBl__loc, asTup__fro_int, asTup__fro_str, asTup__fro_bl, asTup__fro_tup, asTup__fro_row, asTup__fro_lst, asTup__fro_non, asTup__fro_mach, asTup__fro_obj, asTup__tmp, asTup__tmpk, asTup__tmpd, asTup__loc, contL__fro_int, contL__fro_str, contL__fro_bl, contL__fro_tup, contL__fro_row, contL__fro_lst, contL__fro_non, contL__fro_mach, contL__fro_obj, contL__tmp, contL__tmpk, contL__tmpd, contK__fro_int, contK__fro_str, contK__fro_bl, contK__fro_tup, contK__fro_row, contK__fro_lst, contK__fro_non, contK__fro_mach, contK__fro_obj, contK__tmp, contK__tmpk, contK__tmpd, contL__loc, lvL__own, lvL__pin, lvL__fro, lvL__k, lvL__d, contK__loc, kOf, g_rule_steps1, b_rule_steps1, h1, h2, datE, hd, hk1, hk2, at3_0, at3_1, at3_2, cok_int, deq_int, hp, hg, hz, y1, y2, y3]
    · have z3 : ¬ (r.be.length : Int) = 0 := fun q => z1 (List.length_eq_zero_iff.mp (by omega))
      cases la with
      | false => simp [mW, noPin, wipeL, restL, mDNew, List.foldr_cons, List.foldr_nil, List.all_cons, List.all_nil, runF, runP, startL, startP, outD, frz1, mSeq, mNx, mRet, mIfS, mSet, mAsg, mPar', mApp, mExt, mPop, mSetIx, mAug, mFor, mT, mAnd, mOr, mNot, mAndV, mOrV, mNotV, mIf, mB0, mB1, mB2, mBN, mNil, mCons, mF, mVar, mC, mTup, mLst, mSl, mNo, mSo, mMeth, mEnum, mZip, mRng1, mRng2, inRng_3, inRng_4, inRng_6, mSeq1, mTT, opB, opI, opAdd, opIx, opLen, opTuple, opList, opInt, opMin, opAllAny, opJoin, opSl, opDict, opKGet, mGet2, opNeg, opMach, opSounds, opHist, mCh, inE, ninE, eqE, neE, isMach, callF, callP, pu1, pu2, puN, iCmp, frosOf, put, pin_fro, pin_non, pin_own, gN, gNil', gCons', gTup', lstOf, setL, ownOf, isLoc, locIs, mElt, mInn, mLcG, cT, cPos, Option.bind_some, Option.bind_none, Option.map_some, Option.map_none, List.getElem?_cons_zero, List.getElem?_cons_succ, List.set_cons_zero, List.set_cons_succ, List.map_cons, List.map_nil, List.length_cons, List.length_nil, List.cons_append, List.nil_append, List.replicate_succ, List.replicate_zero, asInt__fro_int, asInt__fro_str, asInt__fro_bl, asInt__fro_tup, asInt__fro_row, asInt__fro_lst, asInt__fro_non, asInt__fro_mach, asInt__fro_obj, asInt__tmp, asInt__tmpk, asInt__tmpd, asInt__loc, asStr__fro_int, asStr__fro_str, asStr__fro_bl, asStr__fro_tup, asStr__fro_row, asStr__fro_lst, asStr__fro_non, asStr__fro_mach, asStr__fro_obj, asStr__tmp, asStr__tmpk, asStr__tmpd, asStr__loc, asBl__fro_int, asBl__fro_str, asBl__fro_bl, asBl__fro_tup, asBl__fro_row, asBl__fro_lst, asBl__fro_non, asBl__fro_mach, asBl__fro_obj, asBl__tmp, asBl__tmpk, asBl__tmpd, asBl__loc, asTup__fro_int, asTup__fro_str, asTup__fro_bl, asTup__fro_tup, asTup__fro_row, asTup__fro_lst, asTup__fro_non, asTup__fro_mach, asTup__fro_obj, asTup__tmp, asTup__tmpk, asTup__tmpd, asTup__loc, contL__fro_int, contL__fro_str, contL__fro_bl, contL__fro_tup, contL__fro_row, contL__fro_lst, contL__fro_non, contL__fro_mach, contL__fro_obj, contL__tmp, contL__tmpk, contL__tmpd, contK__fro_int, contK__fro_str, contK__fro_bl, contK__fro_tup, contK__fro_row, contK__fro_lst, contK__fro_non, contK__fro_mach, contK__fro_obj, contK__tmp, contK__tmpk, contK__tmpd, contL__loc, lvL__own, lvL__pin, lvL__fro, lvL__k, lvL__d, contK__loc, kOf, g_rule_steps1, b_rule_steps1, h1, h2, datE, hd, hk1, hk2, at3_0, at3_1, at3_2, cok_int, deq_int, hp, hg, hz, z1, z2, z3]
      | true =>
        rcases hbh with ⟨y1, rfl⟩ | ⟨y1, y2⟩
        · rw [y1, List.map_nil] at h1 h2 ⊢
          simp [mW, noPin, wipeL, restL, mDNew, List.foldr_cons, List.foldr_nil, List.all_cons, List.all_nil, runF, runP, startL, startP, outD, frz1, mSeq, mNx, mRet, mIfS, mSet, mAsg, mPar', mApp, mExt, mPop, mSetIx, mAug, mFor, mT, mAnd, mOr, mNot, mAndV, mOrV, mNotV, mIf, mB0, mB1, mB2, mBN, mNil, mCons, mF, mVar, mC, mTup, mLst, mSl, mNo, mSo, mMeth, mEnum, mZip, mRng1, mRng2, inRng_3, inRng_4, inRng_6, mSeq1, mTT, opB, opI, opAdd, opIx, opLen, opTuple, opList, opInt, opMin, opAllAny, opJoin, opSl, opDict, opKGet, mGet2, opNeg, opMach, opSounds, opHist, mCh, inE, ninE, eqE, neE, isMach, callF, callP, pu1, pu2, puN, iCmp, frosOf, put, pin_fro, pin_non, pin_own, gN, gNil', gCons', gTup', lstOf, setL, ownOf, isLoc, locIs, mElt, mInn, mLcG, cT, cPos, Option.bind_some, Option.bind_none, Option.map_some, Option.map_none, List.getElem?_cons_zero, List.getElem?_cons_succ, List.set_cons_zero, List.set_cons_succ, List.map_cons, List.map_nil, List.length_cons, List.length_nil, List.cons_append, List.nil_append, List.replicate_succ, List.replicate_zero, asInt__fro_int, asInt__fro_str, asInt__fro_bl, asInt__fro_tup, asInt__fro_row, asInt__fro_lst, asInt__fro_non, asInt__fro_mach, asInt__fro_obj, asInt__tmp, asInt__tmpk, asInt__tmpd, asInt__loc, asStr__fro_int, asStr__fro_str, asStr__fro_bl, asStr__fro_tup, asStr__fro_row, asStr__fro_lst, asStr__fro_non, asStr__fro_mach, asStr__fro_obj, asStr__tmp, asStr__tmpk, asStr__tmpd, asStr__loc, asBl__fro_int, asBl__fro_str, asBl__fro_bl, asBl__fro_tup, asBl__fro_row, asBl__fro_lst, asBl__fro_non, asBl__fro_mach, asBl__fro_obj, asBl__tmp, asBl__tmpk, asBl__tmpd, asBl__loc, asTup__fro_int, asTup__fro_str, asTup__fro_bl, asTup__fro_tup, asTup__fro_row, asTup__fro_lst, asTup__fro_non, asTup__fro_mach, asTup__fro_obj, asTup__tmp, asTup__tmpk, asTup__tmpd, asTup__loc, contL__fro_int, contL__fro_str, contL__fro_bl, contL__fro_tup, contL__fro_row, contL__fro_lst, contL__fro_non, contL__fro_mach, contL__fro_obj, contL__tmp, contL__tmpk, contL__tmpd, contK__fro_int, contK__fro_str, contK__fro_bl, contK__fro_tup, contK__fro_row, contK__fro_lst, contK__fro_non, contK__fro_mach, contK__fro_obj, contK__tmp, contK__tmpk, contK__tmpd, contL__loc, lvL__own, lvL__pin, lvL__fro, lvL__k, lvL__d, contK__loc, kOf, g_rule_steps1, b_rule_steps1, h1, h2, datE, hd, hk1, hk2, at3_0, at3_1, at3_2, cok_int, deq_int, hp, hg, hz, z1, z2, z3]
        · have y3 : ¬ (r.bh.length : Int) = 0 := fun q => y1 (List.length_eq_zero_iff.mp (by omega))
          cases hb with
          | true => simp [mW, noPin, wipeL, restL, mDNew, List.foldr_cons, List.foldr_nil, List.all_cons, List.all_nil, runF, runP, startL, startP, outD, frz1, mSeq, mNx, mRet, mIfS, mSet, mAsg, mPar', mApp, mExt, mPop, mSetIx, mAug, mFor, mT, mAnd, mOr, mNot, mAndV, mOrV, mNotV, mIf, mB0, mB1, mB2, mBN, mNil, mCons, mF, mVar, mC, mTup, mLst, mSl, mNo, mSo, mMeth, mEnum, mZip, mRng1, mRng2, inRng_3, inRng_4, inRng_6, mSeq1, mTT, opB, opI, opAdd, opIx, opLen, opTuple, opList, opInt, opMin, opAllAny, opJoin, opSl, opDict, opKGet, mGet2, opNeg, opMach, opSounds, opHist, mCh, inE, ninE, eqE, neE, isMach, callF, callP, pu1, pu2, puN, iCmp, frosOf, put, pin_fro, pin_non, pin_own, gN, gNil', gCons', gTup', lstOf, setL, ownOf, isLoc, locIs, mElt, mInn, mLcG, cT, cPos, Option.bind_some, Option.bind_none, Option.map_some, Option.map_none, List.getElem?_cons_zero, List.getElem?_cons_succ, List.set_cons_zero, List.set_cons_succ, List.map_cons, List.map_nil, List.length_cons, List.length_nil, List.cons_append, List.nil_append, List.replicate_succ, List.replicate_zero, asInt__fro_int, asInt__fro_str, asInt__fro_bl, asInt__fro_tup, asInt__fro_row, asInt__fro_lst, asInt__fro_non, asInt__fro_mach, asInt__fro_obj, asInt__tmp, asInt__tmpk, asInt__tmpd, asInt__loc, asStr__fro_int, asStr__fro_str, asStr__fro_bl, asStr__fro_tup, asStr__fro_row, asStr__fro_lst, asStr__fro_non, asStr__fro_mach, asStr__fro_obj, asStr__tmp, asStr__tmpk, asStr__tmpd, asStr__loc, asBl__fro_int, asBl__fro_str, asBl__fro_bl, asBl__fro_tup, asBl__fro_row, asBl__fro_lst, asBl__fro_non, asBl__fro_mach, asBl__fro_obj, asBl__tmp, asBl__tmpk, asBl__tmpd, asBl__loc, asTup__fro_int, asTup__fro_str, asTup__fro_bl, asTup__fro_tup, asTup__fro_row, asTup__fro_lst, asTup__fro_non, asTup__fro_mach, asTup__fro_obj, asTup__tmp, asTup__tmpk, asTup__tmpd, asTup__loc, contL__fro_int, contL__fro_str, contL__fro_bl, contL__fro_tup, contL__fro_row, contL__fro_lst, contL__fro_non, contL__fro_mach, contL__fro_obj, contL__tmp, contL__tmpk, contL__tmpd, contK__fro_int, contK__fro_str, contK__fro_bl, contK__fro_tup, contK__fro_row, contK__fro_lst, contK__fro_non, contK__fro_mach, contK__fro_obj, contK__tmp, contK__tmpk, contK__tmpd, contL__loc, lvL__own, lvL__pin, lvL__fro, lvL__k, lvL__d, contK__loc, kOf, g_rule_steps1, b_rule_steps1, h1, h2, datE, hd, hk1, hk2, at3_0, at3_1, at3_2, cok_int, deq_int, hp, hg, hz, z1, z2, z3, y1, y2, y3]
          | false => simp [mW, noPin, wipeL, restL, mDNew, List.foldr_cons, List.foldr_nil, List.all_cons, List.all_nil, runF, runP, startL, startP, outD, frz1, mSeq, mNx, mRet, mIfS, mSet, mAsg, mPar', mApp, mExt, mPop, mSetIx, mAug, mFor, mT, mAnd, mOr, mNot, mAndV, mOrV, mNotV, mIf, mB0, mB1, mB2, mBN, mNil, mCons, mF, mVar, mC, mTup, mLst, mSl, mNo, mSo, mMeth, mEnum, mZip, mRng1, mRng2, inRng_3, inRng_4, inRng_6, mSeq1, mTT, opB, opI, opAdd, opIx, opLen, opTuple, opList, opInt, opMin, opAllAny, opJoin, opSl, opDict, opKGet, mGet2, opNeg, opMach, opSounds, opHist, mCh, inE, ninE, eqE, neE, isMach, callF, callP, pu1, pu2, puN, iCmp, frosOf, put, pin_fro, pin_non, pin_own, gN, gNil', gCons', gTup', lstOf, setL, ownOf, isLoc, locIs, mElt, mInn, mLcG, cT, cPos, Option.bind_some, Option.bind_none, Option.map_some, Option.map_none, List.getElem?_cons_zero, List.getElem?_cons_succ, List.set_cons_zero, List.set_cons_succ, List.map_cons, List.map_nil, List.length_cons, List.length_nil, List.cons_append, List.nil_append, List.replicate_succ, List.replicate_zero, asInt__fro_int, asInt__fro_str, asInt__fro_bl, asInt__fro_tup, asInt__fro_row, asInt__fro_lst, asInt__fro_non, asInt__fro_mach, asInt__fro_obj, asInt__tmp, asInt__tmpk, asInt__tmpd, asInt__loc, asStr__fro_int, asStr__fro_str, asStr__fro_bl, asStr__fro_tup, asStr__fro_row, asStr__fro_lst, asStr__fro_non, asStr__fro_mach, asStr__fro_obj, asStr__tmp, asStr__tmpk, asStr__tmpd, asStr__loc, asBl__fro_int, asBl__fro_str, asBl__fro_bl, asBl__fro_tup, asBl__fro_row, asBl__fro_lst, asBl__fro_non, asBl__fro_mach, asBl__fro_obj, asBl__tmp, asBl__tmpk, asBl__tmpd, asBl__loc, asTup__fro_int, asTup__fro_str, asTup__fro_bl, asTup__fro_tup, asTup__fro_row, asTup__fro_lst, asTup__fro_non, asTup__fro_mach, asTup__fro_obj, asTup__tmp, asTup__tmpk, asTup__tmpd, asTup__loc, contL__fro_int, contL__fro_str, contL__fro_bl, contL__fro_tup, contL__fro_row, contL__fro_lst, contL__fro_non, contL__fro_mach, contL__fro_obj, contL__tmp, contL__tmpk, contL__tmpd, contK__fro_int, contK__fro_str, contK__fro_bl, contK__fro_tup, contK__fro_row, contK__fro_lst, contK__fro_non, contK__fro_mach, contK__fro_obj, contK__tmp, contK__tmpk, contK__tmpd, contL__loc, lvL__own, lvL__pin, lvL__fro, lvL__k, lvL__d, contK__loc, kOf, g_rule_steps1, b_rule_steps1, h1, h2, datE, hd, hk1, hk2, at3_0, at3_1, at3_2, cok_int, deq_int, hp, hg, hz, z1, z2, z3, y1, y2, y3]
  · rw [decide_eq_false he] at hd ⊢
    rw [if_neg Bool.false_ne_true, List.append_nil]
    unfold dB at *
    simp [mW, noPin, wipeL, restL, mDNew, List.foldr_cons, List.foldr_nil, List.all_cons, List.all_nil, runF, runP, startL, startP, outD, frz1, mSeq, mNx, mRet, mIfS, mSet, mAsg, mPar', mApp, mExt, mPop, mSetIx, mAug, mFor, mT, mAnd, mOr, mNot, mAndV, mOrV, mNotV, mIf, mB0, mB1, mB2, mBN, mNil, mCons, mF, mVar, mC, mTup, mLst, mSl, mNo, mSo, mMeth, mEnum, mZip, mRng1, mRng2, inRng_3, inRng_4, inRng_6, mSeq1, mTT, opB, opI, opAdd, opIx, opLen, opTuple, opList, opInt, opMin, opAllAny, opJoin, opSl, opDict, opKGet, mGet2, opNeg, opMach, opSounds, opHist, mCh, inE, ninE, eqE, neE, isMach, callF, callP, pu1, pu2, puN, iCmp, frosOf, put, pin_fro, pin_non, pin_own, gN, gNil', gCons', gTup', lstOf, setL, ownOf, isLoc, locIs, mElt, mInn, mLcG, cT, cPos, Option.bind_some, Option.bind_none, Option.map_some, Option.map_none, List.getElem?_cons_zero, List.getElem?_cons_succ, List.set_cons_zero, List.set_cons_succ, List.map_cons, List.map_nil, List.length_cons, List.length_nil, List.cons_append, List.nil_append, List.replicate_succ, List.replicate_zero, asInt__fro_int, asInt__fro_str, asInt__fro_bl, asInt__fro_tup, asInt__fro_row, asInt__fro_lst, asInt__fro_non, asInt__fro_mach, asInt__fro_obj, asInt__tmp, asInt__tmpk, asInt__tmpd, asInt__loc, asStr__fro_int, asStr__fro_str, asStr__fro_bl, asStr__fro_tup, asStr__fro_row, asStr__fro_lst, asStr__fro_non, asStr__fro_mach, asStr__fro_obj, asStr__tmp, asStr__tmpk, asStr__tmpd, asStr__loc, asBl__fro_int, asBl__fro_str, asBl__fro_bl, asBl__fro_tup, asBl__fro_row, asBl__fro_lst, asBl__fro_non, asBl__fro_mach, asBl__fro_obj, asBl__tmp, asBl__tmpk, asBl__tmpd, asBl__loc, asTup__fro_int, asTup__fro_str, asTup__fro_bl, asTup__fro_tup, asTup__fro_row, asTup__fro_lst, asTup__fro_non, asTup__fro_mach, asTup__fro_obj, asTup__tmp, asTup__tmpk, asTup__tmpd, asTup__loc, contL__fro_int, contL__fro_str, contL__fro_bl, contL__fro_tup, contL__fro_row, contL__fro_lst, contL__fro_non, contL__fro_mach, contL__fro_obj, contL__tmp, contL__tmpk, contL__tmpd, contK__fro_int, contK__fro_str, contK__fro_bl, contK__fro_tup, contK__fro_row, contK__fro_lst, contK__fro_non, contK__fro_mach, contK__fro_obj, contK__tmp, contK__tmpk, contK__tmpd, contL__loc, lvL__own, lvL__pin, lvL__fro, lvL__k, lvL__d, contK__loc, kOf, g_rule_steps1, b_rule_steps1, h1, datE, hd, hk1, hk2]
theorem ev_rule_steps {r : Rl} {S : Wd} (hS : AlOk S) (hr : RlOk S r) {s : RSt} (hf : Fit1 r s) {c : Nat} (hc : c ∈ S) : F_rule_steps [dRl r, .str S, dSt1 s, .str [c]] = some (val1 r S s c) := by
  have h1 := ev_all_behind hS hr.nbh
  obtain ⟨_, _, _, hlen, h4, _⟩ := allB_ok hS.len hr.nbh
  have h := forR_acc (g := g_rule_steps1) (m := b_rule_steps1) (enc := dB) (fun acc => [.fro (dRl r), .fro (.str S), .none, .fro (.str [c]), .own acc, .none, .fro (dB s.1), .fro (dB s.2), .none, .none]) (F := fun k => if decide (bhst r k c = s.2) = true then [encRO ((bstp r s.1 c, k), outB r s.1 k c)] else []) (N := 100) (allB r S) [] (fun k hk acc hz =>
    rule_step_b hS hr hf hc (hlen k hk) (by rw [LIM_val]; omega)) (by
    have := flat_le (f := fun k => if decide (bhst r k c = s.2) = true then [encRO ((bstp r s.1 c, k), outB r s.1 k c)] else []) (l := allB r S) (n := 1) (fun k _ => by split <;> simp)
    rw [List.length_nil]
    omega)
  rw [flatMap_ite, List.nil_append] at h
  have e : (ruleSteps r S s c).map encRO = ((allB r S).filter fun k => decide (bhst r k c = s.2)).map fun k => encRO ((bstp r s.1 c, k), outB r s.1 k c) := by unfold ruleSteps; rw [List.map_map]; rfl
  rw [← e] at h
  unfold F_rule_steps m_rule_steps val1
  generalize (ruleSteps r S s c).map encRO = zs at *
  simp [mW, noPin, wipeL, restL, mDNew, List.foldr_cons, List.foldr_nil, List.all_cons, List.all_nil, runF, runP, startL, startP, outD, frz1, mSeq, mNx, mRet, mIfS, mSet, mAsg, mPar', mApp, mExt, mPop, mSetIx, mAug, mFor, mT, mAnd, mOr, mNot, mAndV, mOrV, mNotV, mIf, mB0, mB1, mB2, mBN, mNil, mCons, mF, mVar, mC, mTup, mLst, mSl, mNo, mSo, mMeth, mEnum, mZip, mRng1, mRng2, inRng_3, inRng_4, inRng_6, mSeq1, mTT, opB, opI, opAdd, opIx, opLen, opTuple, opList, opInt, opMin, opAllAny, opJoin, opSl, opDict, opKGet, mGet2, opNeg, opMach, opSounds, opHist, mCh, inE, ninE, eqE, neE, isMach, callF, callP, pu1, pu2, puN, iCmp, frosOf, put, pin_fro, pin_non, pin_own, gN, gNil', gCons', gTup', lstOf, setL, ownOf, isLoc, locIs, mElt, mInn, mLcG, cT, cPos, Option.bind_some, Option.bind_none, Option.map_some, Option.map_none, List.getElem?_cons_zero, List.getElem?_cons_succ, List.set_cons_zero, List.set_cons_succ, List.map_cons, List.map_nil, List.length_cons, List.length_nil, List.cons_append, List.nil_append, List.replicate_succ, List.replicate_zero, asInt__fro_int, asInt__fro_str, asInt__fro_bl, asInt__fro_tup, asInt__fro_row, asInt__fro_lst, asInt__fro_non, asInt__fro_mach, asInt__fro_obj, asInt__tmp, asInt__tmpk, asInt__tmpd, asInt__loc, asStr__fro_int, asStr__fro_str, asStr__fro_bl, asStr__fro_tup, asStr__fro_row, asStr__fro_lst, asStr__fro_non, asStr__fro_mach, asStr__fro_obj, asStr__tmp, asStr__tmpk, asStr__tmpd, asStr__loc, asBl__fro_int, asBl__fro_str, asBl__fro_bl, asBl__fro_tup, asBl__fro_row, asBl__fro_lst, asBl__fro_non, asBl__fro_mach, asBl__fro_obj, asBl__tmp, asBl__tmpk, asBl__tmpd, asBl__loc, asTup__fro_int, asTup__fro_str, asTup__fro_bl, asTup__fro_tup, asTup__fro_row, asTup__fro_lst, asTup__fro_non, asTup__fro_mach, asTup__fro_obj, asTup__tmp, asTup__tmpk, asTup__tmpd, asTup__loc, contL__fro_int, contL__fro_str, contL__fro_bl, contL__fro_tup, contL__fro_row, contL__fro_lst, contL__fro_non, contL__fro_mach, contL__fro_obj, contL__tmp, contL__tmpk, contL__tmpd, contK__fro_int, contK__fro_str, contK__fro_bl, contK__fro_tup, contK__fro_row, contK__fro_lst, contK__fro_non, contK__fro_mach, contK__fro_obj, contK__tmp, contK__tmpk, contK__tmpd, contL__loc, lvL__own, lvL__pin, lvL__fro, lvL__k, lvL__d, contK__loc, kOf, dSt1, h1, h]
theorem ev_is_rule_end {r : Rl} (hr : r.bh.length ≤ 2) {s : RSt} : F_is_rule_end [dRl r, dSt1 s] = some (.bl (decide (s.2 = bend r))) := by
  have h1 := ev_behind_end (r := r) (by omega)
  have hd := deq_dB s.2 (bend r)
  have hk1 := cok_dB s.2
  have hk2 := cok_dB (bend r)
  unfold F_is_rule_end m_is_rule_end dSt1
  unfold dB at *
  simp [mW, noPin, wipeL, restL, mDNew, List.foldr_cons, List.foldr_nil, List.all_cons, List.all_nil, runF, runP, startL, startP, outD, frz1, mSeq, mNx, mRet, mIfS, mSet, mAsg, mPar', mApp, mExt, mPop, mSetIx, mAug, mFor, mT, mAnd, mOr, mNot, mAndV, mOrV, mNotV, mIf, mB0, mB1, mB2, mBN, mNil, mCons, mF, mVar, mC, mTup, mLst, mSl, mNo, mSo, mMeth, mEnum, mZip, mRng1, mRng2, inRng_3, inRng_4, inRng_6, mSeq1, mTT, opB, opI, opAdd, opIx, opLen, opTuple, opList, opInt, opMin, opAllAny, opJoin, opSl, opDict, opKGet, mGet2, opNeg, opMach, opSounds, opHist, mCh, inE, ninE, eqE, neE, isMach, callF, callP, pu1, pu2, puN, iCmp, frosOf, put, pin_fro, pin_non, pin_own, gN, gNil', gCons', gTup', lstOf, setL, ownOf, isLoc, locIs, mElt, mInn, mLcG, cT, cPos, Option.bind_some, Option.bind_none, Option.map_some, Option.map_none, List.getElem?_cons_zero, List.getElem?_cons_succ, List.set_cons_zero, List.set_cons_succ, List.map_cons, List.map_nil, List.length_cons, List.length_nil, List.cons_append, List.nil_append, List.replicate_succ, List.replicate_zero, asInt__fro_int, asInt__fro_str, asInt__fro_bl, asInt__fro_tup, asInt__fro_row, asInt__fro_lst, asInt__fro_non, asInt__fro_mach, asInt__fro_obj, asInt__tmp, asInt__tmpk, asInt__tmpd, asInt__loc, asStr__fro_int, asStr__fro_str, asStr__fro_bl, asStr__fro_tup, asStr__fro_row, asStr__fro_lst, asStr__fro_non, asStr__fro_mach, asStr__fro_obj, asStr__tmp, asStr__tmpk, asStr__tmpd, asStr__loc, asBl__fro_int, asBl__fro_str, asBl__fro_bl, asBl__fro_tup, asBl__fro_row, asBl__fro_lst, asBl__fro_non, asBl__fro_mach, asBl__fro_obj, asBl__tmp, asBl__tmpk, asBl__tmpd, asBl__loc, asTup__fro_int, asTup__fro_str, asTup__fro_bl, asTup__fro_tup, asTup__fro_row, asTup__fro_lst, asTup__fro_non, asTup__fro_mach, asTup__fro_obj, asTup__tmp, asTup__tmpk, asTup__tmpd, asTup__loc, contL__fro_int, contL__fro_str, contL__fro_bl, contL__fro_tup, contL__fro_row, contL__fro_lst, contL__fro_non, contL__fro_mach, contL__fro_obj, contL__tmp, contL__tmpk, contL__tmpd, contK__fro_int, contK__fro_str, contK__fro_bl, contK__fro_tup, contK__fro_row, contK__fro_lst, contK__fro_non, contK__fro_mach, contK__fro_obj, contK__tmp, contK__tmpk, contK__tmpd, contL__loc, lvL__own, lvL__pin, lvL__fro, lvL__k, lvL__d, contK__loc, kOf, h1, at2_1, datE, hd, hk1, hk2]
end SS

/-! machines: their methods -/
namespace SS
open PySem PySem.Spec PyProof.Rows L2

structure MaOk (S : Wd) (h : List Rl) : Prop where
  al : AlOk S
  hi : HiOk S h
theorem AlOk.s35 {S : Wd} (h : AlOk S) : 35 ∉ S := fun z => (h.ch _ z).2 rfl
theorem MaOk.sl {S : Wd} {h : List Rl} (m : MaOk S h) : SlOk S h := ⟨m.al.len, m.hi.rl⟩
abbrev dMa (S : Wd) (h : List Rl) : D := .mach (.str S) (dHi h)
def isEndT (h : List Rl) (st : List RSt) : Bool := (h.zip st).all fun p => decide (p.2.2 = bend p.1)
theorem isEndT_iff : ∀ {h : List Rl} {st : List RSt}, st.length = h.length → (isEndT h st = true ↔ st.map (·.2) = h.map bend)
  | [], [], _ => by simp [isEndT]
  | r :: h, s :: st, e => by
    have ih := isEndT_iff (h := h) (st := st) (by simpa using e)
    unfold isEndT at ih ⊢
    rw [List.zip_cons_cons, List.all_cons, Bool.and_eq_true, ih]
    simp
  | [], _ :: _, e => by simp at e
  | _ :: _, [], e => by simp at e
theorem all_id (l : List Bool) : l.all id = l.all fun b => b := rfl
theorem ev_is_end {S : Wd} {h : List Rl} (hm : MaOk S h) {st : List RSt} : F_Machine_is_end [dMa S h, dSt st] = some (.bl (isEndT h st)) := by
  have h4 := hm.hi.len
  have hz : (h.zip st).length ≤ 4 := by rw [List.length_zip]; omega
  have hc := lcG_map (vs := [2, 3]) (g := g_Machine_is_end1) (me := e_Machine_is_end1) (L := [.fro (dMa S h), .fro (dSt st), .none, .none]) (enc := fun p : Rl × RSt => .row [dRl p.1, dSt1 p.2]) (f := fun p => .bl (decide (p.2.2 = bend p.1))) rfl (h.zip st) [] (fun p hp => by
    have hr := hm.hi.rl p.1 (List.of_mem_zip (a := p.1) (b := p.2) hp).1
    have he := ev_is_rule_end (r := p.1) hr.nbh (s := p.2)
    simp [mW, noPin, wipeL, restL, mDNew, List.foldr_cons, List.foldr_nil, List.all_cons, List.all_nil, runF, runP, startL, startP, outD, frz1, mSeq, mNx, mRet, mIfS, mSet, mAsg, mPar', mApp, mExt, mPop, mSetIx, mAug, mFor, mT, mAnd, mOr, mNot, mAndV, mOrV, mNotV, mIf, mB0, mB1, mB2, mBN, mNil, mCons, mF, mVar, mC, mTup, mLst, mSl, mNo, mSo, mMeth, mEnum, mZip, mRng1, mRng2, inRng_3, inRng_4, inRng_6, mSeq1, mTT, opB, opI, opAdd, opIx, opLen, opTuple, opList, opInt, opMin, opAllAny, opJoin, opSl, opDict, opKGet, mGet2, opNeg, opMach, opSounds, opHist, mCh, inE, ninE, eqE, neE, isMach, callF, callP, pu1, pu2, puN, iCmp, frosOf, put, pin_fro, pin_non, pin_own, gN, gNil', gCons', gTup', lstOf, setL, ownOf, isLoc, locIs, mElt, mInn, mLcG, cT, cPos, Option.bind_some, Option.bind_none, Option.map_some, Option.map_none, List.getElem?_cons_zero, List.getElem?_cons_succ, List.set_cons_zero, List.set_cons_succ, List.map_cons, List.map_nil, List.length_cons, List.length_nil, List.cons_append, List.nil_append, List.replicate_succ, List.replicate_zero, asInt__fro_int, asInt__fro_str, asInt__fro_bl, asInt__fro_tup, asInt__fro_row, asInt__fro_lst, asInt__fro_non, asInt__fro_mach, asInt__fro_obj, asInt__tmp, asInt__tmpk, asInt__tmpd, asInt__loc, asStr__fro_int, asStr__fro_str, asStr__fro_bl, asStr__fro_tup, asStr__fro_row, asStr__fro_lst, asStr__fro_non, asStr__fro_mach, asStr__fro_obj, asStr__tmp, asStr__tmpk, asStr__tmpd, asStr__loc, asBl__fro_int, asBl__fro_str, asBl__fro_bl, asBl__fro_tup, asBl__fro_row, asBl__fro_lst, asBl__fro_non, asBl__fro_mach, asBl__fro_obj, asBl__tmp, asBl__tmpk, asBl__tmpd, asBl__loc, asTup__fro_int, asTup__fro_str, asTup__fro_bl, asTup__fro_tup, asTup__fro_row, asTup__fro_lst, asTup__fro_non, asTup__fro_mach, asTup__fro_obj, asTup__tmp, asTup__tmpk, asTup__tmpd, asTup__loc, contL__fro_int, contL__fro_str, contL__fro_bl, contL__fro_tup, contL__fro_row, contL__fro_lst, contL__fro_non, contL__fro_mach, contL__fro_obj, contL__tmp, contL__tmpk, contL__tmpd, contK__fro_int, contK__fro_str, contK__fro_bl, contK__fro_tup, contK__fro_row, contK__fro_lst, contK__fro_non, contK__fro_mach, contK__fro_obj, contK__tmp, contK__tmpk, contK__tmpd, contL__loc, lvL__own, lvL__pin, lvL__fro, lvL__k, lvL__d, contK__loc, kOf, lcE, g_Machine_is_end1, e_Machine_is_end1, he]) (by rw [LIM_val]; simp; omega)
  have hb := blsOf_map ((h.zip st).map fun p => decide (p.2.2 = bend p.1))
  have e1 : ((h.zip st).map fun p => decide (p.2.2 = bend p.1)).map D.bl = (h.zip st).map fun p => D.bl (decide (p.2.2 = bend p.1)) := by rw [List.map_map]; rfl
  rw [e1] at hb
  have e2 : ((h.zip st).map fun p => decide (p.2.2 = bend p.1)).all id = isEndT h st := by unfold isEndT; rw [List.all_map]; rfl
  have e3 := zipD_enc dRl dSt1 h st
  rw [List.nil_append] at hc
  unfold F_Machine_is_end m_Machine_is_end
  generalize (h.zip st).map (fun p => D.bl (decide (p.2.2 = bend p.1))) = zs at *
  generalize (h.zip st).map (fun p => decide (p.2.2 = bend p.1)) = bs at *
  rw [← e2]
  unfold dMa dHi dSt at hc ⊢
  simp [mW, noPin, wipeL, restL, mDNew, List.foldr_cons, List.foldr_nil, List.all_cons, List.all_nil, runF, runP, startL, startP, outD, frz1, mSeq, mNx, mRet, mIfS, mSet, mAsg, mPar', mApp, mExt, mPop, mSetIx, mAug, mFor, mT, mAnd, mOr, mNot, mAndV, mOrV, mNotV, mIf, mB0, mB1, mB2, mBN, mNil, mCons, mF, mVar, mC, mTup, mLst, mSl, mNo, mSo, mMeth, mEnum, mZip, mRng1, mRng2, inRng_3, inRng_4, inRng_6, mSeq1, mTT, opB, opI, opAdd, opIx, opLen, opTuple, opList, opInt, opMin, opAllAny, opJoin, opSl, opDict, opKGet, mGet2, opNeg, opMach, opSounds, opHist, mCh, inE, ninE, eqE, neE, isMach, callF, callP, pu1, pu2, puN, iCmp, frosOf, put, pin_fro, pin_non, pin_own, gN, gNil', gCons', gTup', lstOf, setL, ownOf, isLoc, locIs, mElt, mInn, mLcG, cT, cPos, Option.bind_some, Option.bind_none, Option.map_some, Option.map_none, List.getElem?_cons_zero, List.getElem?_cons_succ, List.set_cons_zero, List.set_cons_succ, List.map_cons, List.map_nil, List.length_cons, List.length_nil, List.cons_append, List.nil_append, List.replicate_succ, List.replicate_zero, asInt__fro_int, asInt__fro_str, asInt__fro_bl, asInt__fro_tup, asInt__fro_row, asInt__fro_lst, asInt__fro_non, asInt__fro_mach, asInt__fro_obj, asInt__tmp, asInt__tmpk, asInt__tmpd, asInt__loc, asStr__fro_int, asStr__fro_str, asStr__fro_bl, asStr__fro_tup, asStr__fro_row, asStr__fro_lst, asStr__fro_non, asStr__fro_mach, asStr__fro_obj, asStr__tmp, asStr__tmpk, asStr__tmpd, asStr__loc, asBl__fro_int, asBl__fro_str, asBl__fro_bl, asBl__fro_tup, asBl__fro_row, asBl__fro_lst, asBl__fro_non, asBl__fro_mach, asBl__fro_obj, asBl__tmp, asBl__tmpk, asBl__tmpd, asBl__loc, asTup__fro_int, asTup__fro_str, asTup__fro_bl, asTup__fro_tup, asTup__fro_row, asTup__fro_lst, asTup__fro_non, asTup__fro_mach, asTup__fro_obj, asTup__tmp, asTup__tmpk, asTup__tmpd, asTup__loc, contL__fro_int, contL__fro_str, contL__fro_bl, contL__fro_tup, contL__fro_row, contL__fro_lst, contL__fro_non, contL__fro_mach, contL__fro_obj, contL__tmp, contL__tmpk, contL__tmpd, contK__fro_int, contK__fro_str, contK__fro_bl, contK__fro_tup, contK__fro_row, contK__fro_lst, contK__fro_non, contK__fro_mach, contK__fro_obj, contK__tmp, contK__tmpk, contK__tmpd, contL__loc, lvL__own, lvL__pin, lvL__fro, lvL__k, lvL__d, contK__loc, kOf, e3, hc, hb]
/-! ### the beginning -/
noncomputable def startRow (S : Wd) (found : List (List RSt)) (r : Rl) : List (List RSt) := found.flatMap fun st => (allB r S).map fun e => st ++ [(bst r, e)]
noncomputable def startsT (S : Wd) (h : List Rl) : List (List RSt) := h.foldl (startRow S) [[]]
theorem startRow_len {S : Wd} (hS : S.length ≤ 6) {r : Rl} (hr : r.bh.length ≤ 2) (found : List (List RSt)) : (startRow S found r).length ≤ found.length * 4 := flat_le fun st _ => by
  rw [List.length_map]; exact (allB_ok hS hr).2.2.2.2.1
theorem ev_starts {S : Wd} {h : List Rl} (hm : MaOk S h) : F_Machine_starts [dMa S h] = some (.lst ((startsT S h).map dSt)) := by
  have h4 := hm.hi.len
  have hS := hm.al
  obtain ⟨hf, _⟩ := forR_fold (g := g_Machine_starts2) (m := b_Machine_starts1) dRl (fun found : List (List RSt) => [.fro (dMa S h), .own (found.map dSt), .none, .none, .none]) (startRow S)
    (fun rs found => (∀ r ∈ rs, r ∈ h) ∧ found.length * 4 ^ rs.length ≤ 256 ∧ ∀ st ∈ found, st.length + rs.length ≤ 4)
    (fun r rs found ⟨p1, p2, p3⟩ => by
      have hr := hm.hi.rl r (p1 r (by simp))
      have h1 := ev_rule_starts hS hr.nbh hr.nbe
      have hl := startRow_len hS.len hr.nbh found
      have hpos : 1 ≤ 4 ^ rs.length := Nat.one_le_pow _ _ (by decide)
      have hl2 : found.length * 4 * 4 ^ rs.length ≤ 256 := by rw [List.length_cons, Nat.pow_succ] at p2; rw [Nat.mul_assoc, Nat.mul_comm 4]; exact p2
      have hl3 : found.length * 4 ≤ 256 := Nat.le_trans (Nat.le_mul_of_pos_right _ hpos) hl2
      have hfl := lcG_flat (vs := [3, 4]) (g := g_Machine_starts1) (mb := mInn [4] i_Machine_starts1 h_Machine_starts1 mTT (mElt e_Machine_starts1)) (L := [.fro (dMa S h), .fro (.lst (found.map dSt)), .fro (dRl r), .none, .none]) (enc := dSt) (F := fun st => (allB r S).map fun e => dSt (st ++ [(bst r, e)])) rfl found [] (fun st hst acc hacc => by
        have hst4 := p3 st hst
        have hz : st.length + 1 ≤ LIM := by rw [LIM_val]; omega
        rw [List.length_map] at hacc
        refine lcI_inn (L1 := [.fro (dMa S h), .fro (.lst (found.map dSt)), .fro (dRl r), .fro (dSt st), .none]) (L2 := [.fro (dMa S h), .fro (.lst (found.map dSt)), .fro (dRl r), .fro (dSt st), .none]) (enc := fun e => dSt1 (bst r, e)) (f := fun e => dSt (st ++ [(bst r, e)])) ?_ ?_ ?_ ?_ hacc rfl
        · simp [mW, noPin, wipeL, restL, mDNew, List.foldr_cons, List.foldr_nil, List.all_cons, List.all_nil, runF, runP, startL, startP, outD, frz1, mSeq, mNx, mRet, mIfS, mSet, mAsg, mPar', mApp, mExt, mPop, mSetIx, mAug, mFor, mT, mAnd, mOr, mNot, mAndV, mOrV, mNotV, mIf, mB0, mB1, mB2, mBN, mNil, mCons, mF, mVar, mC, mTup, mLst, mSl, mNo, mSo, mMeth, mEnum, mZip, mRng1, mRng2, inRng_3, inRng_4, inRng_6, mSeq1, mTT, opB, opI, opAdd, opIx, opLen, opTuple, opList, opInt, opMin, opAllAny, opJoin, opSl, opDict, opKGet, mGet2, opNeg, opMach, opSounds, opHist, mCh, inE, ninE, eqE, neE, isMach, callF, callP, pu1, pu2, puN, iCmp, frosOf, put, pin_fro, pin_non, pin_own, gN, gNil', gCons', gTup', lstOf, setL, ownOf, isLoc, locIs, mElt, mInn, mLcG, cT, cPos, Option.bind_some, Option.bind_none, Option.map_some, Option.map_none, List.getElem?_cons_zero, List.getElem?_cons_succ, List.set_cons_zero, List.set_cons_succ, List.map_cons, List.map_nil, List.length_cons, List.length_nil, List.cons_append, List.nil_append, List.replicate_succ, List.replicate_zero, asInt__fro_int, asInt__fro_str, asInt__fro_bl, asInt__fro_tup, asInt__fro_row, asInt__fro_lst, asInt__fro_non, asInt__fro_mach, asInt__fro_obj, asInt__tmp, asInt__tmpk, asInt__tmpd, asInt__loc, asStr__fro_int, asStr__fro_str, asStr__fro_bl, asStr__fro_tup, asStr__fro_row, asStr__fro_lst, asStr__fro_non, asStr__fro_mach, asStr__fro_obj, asStr__tmp, asStr__tmpk, asStr__tmpd, asStr__loc, asBl__fro_int, asBl__fro_str, asBl__fro_bl, asBl__fro_tup, asBl__fro_row, asBl__fro_lst, asBl__fro_non, asBl__fro_mach, asBl__fro_obj, asBl__tmp, asBl__tmpk, asBl__tmpd, asBl__loc, asTup__fro_int, asTup__fro_str, asTup__fro_bl, asTup__fro_tup, asTup__fro_row, asTup__fro_lst, asTup__fro_non, asTup__fro_mach, asTup__fro_obj, asTup__tmp, asTup__tmpk, asTup__tmpd, asTup__loc, contL__fro_int, contL__fro_str, contL__fro_bl, contL__fro_tup, contL__fro_row, contL__fro_lst, contL__fro_non, contL__fro_mach, contL__fro_obj, contL__tmp, contL__tmpk, contL__tmpd, contK__fro_int, contK__fro_str, contK__fro_bl, contK__fro_tup, contK__fro_row, contK__fro_lst, contK__fro_non, contK__fro_mach, contK__fro_obj, contK__tmp, contK__tmpk, contK__tmpd, contL__loc, lvL__own, lvL__pin, lvL__fro, lvL__k, lvL__d, contK__loc, kOf, g_Machine_starts1]
        · simp [mW, noPin, wipeL, restL, mDNew, List.foldr_cons, List.foldr_nil, List.all_cons, List.all_nil, runF, runP, startL, startP, outD, frz1, mSeq, mNx, mRet, mIfS, mSet, mAsg, mPar', mApp, mExt, mPop, mSetIx, mAug, mFor, mT, mAnd, mOr, mNot, mAndV, mOrV, mNotV, mIf, mB0, mB1, mB2, mBN, mNil, mCons, mF, mVar, mC, mTup, mLst, mSl, mNo, mSo, mMeth, mEnum, mZip, mRng1, mRng2, inRng_3, inRng_4, inRng_6, mSeq1, mTT, opB, opI, opAdd, opIx, opLen, opTuple, opList, opInt, opMin, opAllAny, opJoin, opSl, opDict, opKGet, mGet2, opNeg, opMach, opSounds, opHist, mCh, inE, ninE, eqE, neE, isMach, callF, callP, pu1, pu2, puN, iCmp, frosOf, put, pin_fro, pin_non, pin_own, gN, gNil', gCons', gTup', lstOf, setL, ownOf, isLoc, locIs, mElt, mInn, mLcG, cT, cPos, Option.bind_some, Option.bind_none, Option.map_some, Option.map_none, List.getElem?_cons_zero, List.getElem?_cons_succ, List.set_cons_zero, List.set_cons_succ, List.map_cons, List.map_nil, List.length_cons, List.length_nil, List.cons_append, List.nil_append, List.replicate_succ, List.replicate_zero, asInt__fro_int, asInt__fro_str, asInt__fro_bl, asInt__fro_tup, asInt__fro_row, asInt__fro_lst, asInt__fro_non, asInt__fro_mach, asInt__fro_obj, asInt__tmp, asInt__tmpk, asInt__tmpd, asInt__loc, asStr__fro_int, asStr__fro_str, asStr__fro_bl, asStr__fro_tup, asStr__fro_row, asStr__fro_lst, asStr__fro_non, asStr__fro_mach, asStr__fro_obj, asStr__tmp, asStr__tmpk, asStr__tmpd, asStr__loc, asBl__fro_int, asBl__fro_str, asBl__fro_bl, asBl__fro_tup, asBl__fro_row, asBl__fro_lst, asBl__fro_non, asBl__fro_mach, asBl__fro_obj, asBl__tmp, asBl__tmpk, asBl__tmpd, asBl__loc, asTup__fro_int, asTup__fro_str, asTup__fro_bl, asTup__fro_tup, asTup__fro_row, asTup__fro_lst, asTup__fro_non, asTup__fro_mach, asTup__fro_obj, asTup__tmp, asTup__tmpk, asTup__tmpd, asTup__loc, contL__fro_int, contL__fro_str, contL__fro_bl, contL__fro_tup, contL__fro_row, contL__fro_lst, contL__fro_non, contL__fro_mach, contL__fro_obj, contL__tmp, contL__tmpk, contL__tmpd, contK__fro_int, contK__fro_str, contK__fro_bl, contK__fro_tup, contK__fro_row, contK__fro_lst, contK__fro_non, contK__fro_mach, contK__fro_obj, contK__tmp, contK__tmpk, contK__tmpd, contL__loc, lvL__own, lvL__pin, lvL__fro, lvL__k, lvL__d, contK__loc, kOf, i_Machine_starts1, h1]
        · rfl
        · intro e _
          simp [↓asStr_dB, ↓asInt_dB, ↓asBl_dB, ↓asTup_dB, ↓contL_dB, ↓asStr_dSt1, ↓asInt_dSt1, ↓asBl_dSt1, ↓asTup_dSt1, ↓contL_dSt1, ↓asStr_dSt, ↓asInt_dSt, ↓asBl_dSt, ↓asTup_dSt, ↓contL_dSt, ↓asStr_dSl, ↓asInt_dSl, ↓asBl_dSl, ↓asTup_dSl, ↓contL_dSl, ↓asStr_dCh, ↓asInt_dCh, ↓asBl_dCh, ↓asTup_dCh, ↓contL_dCh, ↓asStr_dRl, ↓asInt_dRl, ↓asBl_dRl, ↓asTup_dRl, ↓contL_dRl, ↓asStr_dHi, ↓asInt_dHi, ↓asBl_dHi, ↓asTup_dHi, ↓contL_dHi, ↓asStr_encP, ↓asInt_encP, ↓asBl_encP, ↓asTup_encP, ↓contL_encP, ↓asStr_encRO, ↓asInt_encRO, ↓asBl_encRO, ↓asTup_encRO, ↓contL_encRO, ↓asStr_encSO, ↓asInt_encSO, ↓asBl_encSO, ↓asTup_encSO, ↓contL_encSO, mW, noPin, wipeL, restL, mDNew, List.foldr_cons, List.foldr_nil, List.all_cons, List.all_nil, runF, runP, startL, startP, outD, frz1, mSeq, mNx, mRet, mIfS, mSet, mAsg, mPar', mApp, mExt, mPop, mSetIx, mAug, mFor, mT, mAnd, mOr, mNot, mAndV, mOrV, mNotV, mIf, mB0, mB1, mB2, mBN, mNil, mCons, mF, mVar, mC, mTup, mLst, mSl, mNo, mSo, mMeth, mEnum, mZip, mRng1, mRng2, inRng_3, inRng_4, inRng_6, mSeq1, mTT, opB, opI, opAdd, opIx, opLen, opTuple, opList, opInt, opMin, opAllAny, opJoin, opSl, opDict, opKGet, mGet2, opNeg, opMach, opSounds, opHist, mCh, inE, ninE, eqE, neE, isMach, callF, callP, pu1, pu2, puN, iCmp, frosOf, put, pin_fro, pin_non, pin_own, gN, gNil', gCons', gTup', lstOf, setL, ownOf, isLoc, locIs, mElt, mInn, mLcG, cT, cPos, Option.bind_some, Option.bind_none, Option.map_some, Option.map_none, List.getElem?_cons_zero, List.getElem?_cons_succ, List.set_cons_zero, List.set_cons_succ, List.map_cons, List.map_nil, List.length_cons, List.length_nil, List.cons_append, List.nil_append, List.replicate_succ, List.replicate_zero, asInt__fro_int, asInt__fro_str, asInt__fro_bl, asInt__fro_tup, asInt__fro_row, asInt__fro_lst, asInt__fro_non, asInt__fro_mach, asInt__fro_obj, asInt__tmp, asInt__tmpk, asInt__tmpd, asInt__loc, asStr__fro_int, asStr__fro_str, asStr__fro_bl, asStr__fro_tup, asStr__fro_row, asStr__fro_lst, asStr__fro_non, asStr__fro_mach, asStr__fro_obj, asStr__tmp, asStr__tmpk, asStr__tmpd, asStr__loc, asBl__fro_int, asBl__fro_str, asBl__fro_bl, asBl__fro_tup, asBl__fro_row, asBl__fro_lst, asBl__fro_non, asBl__fro_mach, asBl__fro_obj, asBl__tmp, asBl__tmpk, asBl__tmpd, asBl__loc, asTup__fro_int, asTup__fro_str, asTup__fro_bl, asTup__fro_tup, asTup__fro_row, asTup__fro_lst, asTup__fro_non, asTup__fro_mach, asTup__fro_obj, asTup__tmp, asTup__tmpk, asTup__tmpd, asTup__loc, contL__fro_int, contL__fro_str, contL__fro_bl, contL__fro_tup, contL__fro_row, contL__fro_lst, contL__fro_non, contL__fro_mach, contL__fro_obj, contL__tmp, contL__tmpk, contL__tmpd, contK__fro_int, contK__fro_str, contK__fro_bl, contK__fro_tup, contK__fro_row, contK__fro_lst, contK__fro_non, contK__fro_mach, contK__fro_obj, contK__tmp, contK__tmpk, contK__tmpd, contL__loc, lvL__own, lvL__pin, lvL__fro, lvL__k, lvL__d, contK__loc, kOf, lcE, h_Machine_starts1, e_Machine_starts1, hz]
          simp [dSt]) (by
        have e : found.flatMap (fun st => (allB r S).map fun e => dSt (st ++ [(bst r, e)])) = (startRow S found r).map dSt := by
          unfold startRow
          rw [List.map_flatMap]
          congr 1
          funext st
          rw [List.map_map]
          rfl
        rw [e, List.length_map, LIM_val, List.length_nil]
        omega)
      have e : found.flatMap (fun st => (allB r S).map fun e => dSt (st ++ [(bst r, e)])) = (startRow S found r).map dSt := by
        unfold startRow
        rw [List.map_flatMap]
        congr 1
        funext st
        rw [List.map_map]
        rfl
      rw [e, List.nil_append] at hfl
      refine ⟨?_, fun q hq => p1 q (by simp [hq]), Nat.le_trans (Nat.mul_le_mul_right _ hl) hl2, fun st hst => ?_⟩
      · generalize (startRow S found r).map dSt = ys at *
        simp [mW, noPin, wipeL, restL, mDNew, List.foldr_cons, List.foldr_nil, List.all_cons, List.all_nil, runF, runP, startL, startP, outD, frz1, mSeq, mNx, mRet, mIfS, mSet, mAsg, mPar', mApp, mExt, mPop, mSetIx, mAug, mFor, mT, mAnd, mOr, mNot, mAndV, mOrV, mNotV, mIf, mB0, mB1, mB2, mBN, mNil, mCons, mF, mVar, mC, mTup, mLst, mSl, mNo, mSo, mMeth, mEnum, mZip, mRng1, mRng2, inRng_3, inRng_4, inRng_6, mSeq1, mTT, opB, opI, opAdd, opIx, opLen, opTuple, opList, opInt, opMin, opAllAny, opJoin, opSl, opDict, opKGet, mGet2, opNeg, opMach, opSounds, opHist, mCh, inE, ninE, eqE, neE, isMach, callF, callP, pu1, pu2, puN, iCmp, frosOf, put, pin_fro, pin_non, pin_own, gN, gNil', gCons', gTup', lstOf, setL, ownOf, isLoc, locIs, mElt, mInn, mLcG, cT, cPos, Option.bind_some, Option.bind_none, Option.map_some, Option.map_none, List.getElem?_cons_zero, List.getElem?_cons_succ, List.set_cons_zero, List.set_cons_succ, List.map_cons, List.map_nil, List.length_cons, List.length_nil, List.cons_append, List.nil_append, List.replicate_succ, List.replicate_zero, asInt__fro_int, asInt__fro_str, asInt__fro_bl, asInt__fro_tup, asInt__fro_row, asInt__fro_lst, asInt__fro_non, asInt__fro_mach, asInt__fro_obj, asInt__tmp, asInt__tmpk, asInt__tmpd, asInt__loc, asStr__fro_int, asStr__fro_str, asStr__fro_bl, asStr__fro_tup, asStr__fro_row, asStr__fro_lst, asStr__fro_non, asStr__fro_mach, asStr__fro_obj, asStr__tmp, asStr__tmpk, asStr__tmpd, asStr__loc, asBl__fro_int, asBl__fro_str, asBl__fro_bl, asBl__fro_tup, asBl__fro_row, asBl__fro_lst, asBl__fro_non, asBl__fro_mach, asBl__fro_obj, asBl__tmp, asBl__tmpk, asBl__tmpd, asBl__loc, asTup__fro_int, asTup__fro_str, asTup__fro_bl, asTup__fro_tup, asTup__fro_row, asTup__fro_lst, asTup__fro_non, asTup__fro_mach, asTup__fro_obj, asTup__tmp, asTup__tmpk, asTup__tmpd, asTup__loc, contL__fro_int, contL__fro_str, contL__fro_bl, contL__fro_tup, contL__fro_row, contL__fro_lst, contL__fro_non, contL__fro_mach, contL__fro_obj, contL__tmp, contL__tmpk, contL__tmpd, contK__fro_int, contK__fro_str, contK__fro_bl, contK__fro_tup, contK__fro_row, contK__fro_lst, contK__fro_non, contK__fro_mach, contK__fro_obj, contK__tmp, contK__tmpk, contK__tmpd, contL__loc, lvL__own, lvL__pin, lvL__fro, lvL__k, lvL__d, contK__loc, kOf, g_Machine_starts2, b_Machine_starts1, hfl]
      · unfold startRow at hst
        obtain ⟨st0, h5, h6⟩ := List.mem_flatMap.mp hst
        obtain ⟨e, _, rfl⟩ := List.mem_map.mp h6
        have := p3 st0 h5
        rw [List.length_append, List.length_singleton]
        rw [List.length_cons] at this
        omega) h [[]] ⟨fun r hr => hr, by
      have : 4 ^ h.length ≤ 4 ^ 4 := Nat.pow_le_pow_right (by decide) h4
      rw [List.length_singleton]; omega, fun st hst => by rw [List.mem_singleton.mp hst, List.length_nil]; omega⟩
  have e : h.foldl (startRow S) [[]] = startsT S h := rfl
  rw [e] at hf
  have e0 : ([[]] : List (List RSt)).map dSt = [.tup []] := rfl
  rw [e0] at hf
  unfold F_Machine_starts m_Machine_starts
  generalize (startsT S h).map dSt = ys at *
  unfold dMa dHi at *
  simp [mW, noPin, wipeL, restL, mDNew, List.foldr_cons, List.foldr_nil, List.all_cons, List.all_nil, runF, runP, startL, startP, outD, frz1, mSeq, mNx, mRet, mIfS, mSet, mAsg, mPar', mApp, mExt, mPop, mSetIx, mAug, mFor, mT, mAnd, mOr, mNot, mAndV, mOrV, mNotV, mIf, mB0, mB1, mB2, mBN, mNil, mCons, mF, mVar, mC, mTup, mLst, mSl, mNo, mSo, mMeth, mEnum, mZip, mRng1, mRng2, inRng_3, inRng_4, inRng_6, mSeq1, mTT, opB, opI, opAdd, opIx, opLen, opTuple, opList, opInt, opMin, opAllAny, opJoin, opSl, opDict, opKGet, mGet2, opNeg, opMach, opSounds, opHist, mCh, inE, ninE, eqE, neE, isMach, callF, callP, pu1, pu2, puN, iCmp, frosOf, put, pin_fro, pin_non, pin_own, gN, gNil', gCons', gTup', lstOf, setL, ownOf, isLoc, locIs, mElt, mInn, mLcG, cT, cPos, Option.bind_some, Option.bind_none, Option.map_some, Option.map_none, List.getElem?_cons_zero, List.getElem?_cons_succ, List.set_cons_zero, List.set_cons_succ, List.map_cons, List.map_nil, List.length_cons, List.length_nil, List.cons_append, List.nil_append, List.replicate_succ, List.replicate_zero, asInt__fro_int, asInt__fro_str, asInt__fro_bl, asInt__fro_tup, asInt__fro_row, asInt__fro_lst, asInt__fro_non, asInt__fro_mach, asInt__fro_obj, asInt__tmp, asInt__tmpk, asInt__tmpd, asInt__loc, asStr__fro_int, asStr__fro_str, asStr__fro_bl, asStr__fro_tup, asStr__fro_row, asStr__fro_lst, asStr__fro_non, asStr__fro_mach, asStr__fro_obj, asStr__tmp, asStr__tmpk, asStr__tmpd, asStr__loc, asBl__fro_int, asBl__fro_str, asBl__fro_bl, asBl__fro_tup, asBl__fro_row, asBl__fro_lst, asBl__fro_non, asBl__fro_mach, asBl__fro_obj, asBl__tmp, asBl__tmpk, asBl__tmpd, asBl__loc, asTup__fro_int, asTup__fro_str, asTup__fro_bl, asTup__fro_tup, asTup__fro_row, asTup__fro_lst, asTup__fro_non, asTup__fro_mach, asTup__fro_obj, asTup__tmp, asTup__tmpk, asTup__tmpd, asTup__loc, contL__fro_int, contL__fro_str, contL__fro_bl, contL__fro_tup, contL__fro_row, contL__fro_lst, contL__fro_non, contL__fro_mach, contL__fro_obj, contL__tmp, contL__tmpk, contL__tmpd, contK__fro_int, contK__fro_str, contK__fro_bl, contK__fro_tup, contK__fro_row, contK__fro_lst, contK__fro_non, contK__fro_mach, contK__fro_obj, contK__tmp, contK__tmpk, contK__tmpd, contL__loc, lvL__own, lvL__pin, lvL__fro, lvL__k, lvL__d, contK__loc, kOf, hf]
theorem startRow_mem {S : Wd} : ∀ {h : List Rl} {found : List (List RSt)} {st : List RSt}, st ∈ h.foldl (startRow S) found ↔ ∃ s0 ∈ found, ∃ s1, st = s0 ++ s1 ∧ s1.map (·.1) = h.map bst ∧ InB S h s1
  | [], found, st => by
    rw [List.foldl_nil]
    constructor
    · intro hs; exact ⟨st, hs, [], by simp, rfl, trivial⟩
    · rintro ⟨s0, h0, s1, rfl, h1, h2⟩
      have : s1 = [] := by cases s1 with
        | nil => rfl
        | cons x l => exact h2.elim
      rw [this, List.append_nil]
      exact h0
  | r :: h, found, st => by
    rw [List.foldl_cons, startRow_mem (h := h)]
    constructor
    · rintro ⟨s0, h0, s1, rfl, h1, h2⟩
      unfold startRow at h0
      obtain ⟨t0, h3, h4⟩ := List.mem_flatMap.mp h0
      obtain ⟨e, he, rfl⟩ := List.mem_map.mp h4
      exact ⟨t0, h3, (bst r, e) :: s1, by simp, by simp [h1], he, h2⟩
    · rintro ⟨t0, h3, s1, rfl, h1, h2⟩
      cases s1 with
      | nil => exact h2.elim
      | cons s s1 =>
        simp only [List.map_cons, List.cons.injEq] at h1
        refine ⟨t0 ++ [s], ?_, s1, by simp, h1.2, h2.2⟩
        unfold startRow
        exact List.mem_flatMap.mpr ⟨t0, h3, List.mem_map.mpr ⟨s.2, h2.1, by rw [← h1.1]⟩⟩
theorem startsT_mem {S : Wd} {h : List Rl} {st : List RSt} : st ∈ startsT S h ↔ st.map (·.1) = h.map bst ∧ InB S h st := by
  unfold startsT
  rw [startRow_mem]
  constructor
  · rintro ⟨s0, h0, s1, rfl, h1, h2⟩
    rw [List.mem_singleton.mp h0]
    exact ⟨h1, h2⟩
  · rintro ⟨h1, h2⟩
    exact ⟨[], by simp, st, rfl, h1, h2⟩
def BeL : List Rl → List RSt → Prop
  | [], [] => True
  | r :: h, s :: st => s.1.length = r.be.length ∧ BeL h st
  | _, _ => False
theorem Fits.of {S : Wd} : ∀ {h : List Rl} {st : List RSt}, SlOk S h → InB S h st → BeL h st → Fits h st
  | [], [], _, _, _ => trivial
  | r :: h, s :: st, ok, hin, hb => ⟨⟨hb.1, (allB_ok ok.S6 (ok.rl r (by simp)).nbh).2.2.2.1 _ hin.1⟩, Fits.of ok.tail hin.2 hb.2⟩
  | [], _ :: _, _, hin, _ => hin.elim
  | _ :: _, [], _, hin, _ => hin.elim
theorem BeL.start : ∀ {h : List Rl} {st : List RSt}, st.map (·.1) = h.map bst → BeL h st
  | [], [], _ => trivial
  | r :: h, s :: st, e => by
    simp only [List.map_cons, List.cons.injEq] at e
    exact ⟨by rw [e.1, bst_len], BeL.start e.2⟩
  | [], _ :: _, e => by simp at e
  | _ :: _, [], e => by simp at e
theorem fwW_len (r : Rl) : ∀ (w : Wd) (a : List Bool), a.length = r.be.length → (fwW r a w).length = r.be.length
  | [], _, h => h
  | c :: w, a, _ => fwW_len r w _ (bstp_len r a c)
theorem BeL.tr : ∀ {h : List Rl} {s s' : List RSt} {w o : Wd}, BeL h s → Tr h s w s' o → BeL h s'
  | [], [], [], _, _, _, _ => trivial
  | r :: h, s :: st, s' :: st', w, o, b, ⟨t1, _, t3⟩ => ⟨by rw [t1]; exact fwW_len r w _ b.1, BeL.tr b.2 t3⟩
/-! ### steps -/
theorem ev_rule_step {S : Wd} {h : List Rl} (hm : MaOk S h) {k : Nat} {r : Rl} (hr : h[k]? = some r) {s : RSt} (hs : Fit1 r s) {c : Nat} (hc : c ∈ S) : F_Machine_rule_step [dMa S h, .int k, dSt1 s, .str [c]] = some (val1 r S s c) := by
  have h1 := ev_rule_steps hm.al (hm.hi.rl r (List.mem_of_getElem? hr)) hs hc
  have hM : memoR (.str S) (dHi h) (key1 k s c) (val1 r S s c) := ⟨S, h, rfl, rfl, hm.al, hm.hi, c, hc, .inl ⟨k, r, s, hr, hs, rfl, rfl⟩⟩
  refine runF_rt (L := List.replicate 5 .none) (ev := .fro (val1 r S s c)) rfl ?_ rfl
  show m_Machine_rule_step [.fro (dMa S h), .fro (.int k), .fro (dSt1 s), .fro (.str [c]), .none] = _
  have e1 : mSet 4 (mTup (mCons (mF (mVar 1)) (mCons (mF (mVar 2)) (mCons (mF (mVar 3)) mNil)))) [.fro (dMa S h), .fro (.int k), .fro (dSt1 s), .fro (.str [c]), .none] = some (.nx, [.fro (dMa S h), .fro (.int k), .fro (dSt1 s), .fro (.str [c]), .fro (key1 k s c)]) := by
    simp [mW, noPin, wipeL, restL, mDNew, List.foldr_cons, List.foldr_nil, List.all_cons, List.all_nil, runF, runP, startL, startP, outD, frz1, mSeq, mNx, mRet, mIfS, mSet, mAsg, mPar', mApp, mExt, mPop, mSetIx, mAug, mFor, mT, mAnd, mOr, mNot, mAndV, mOrV, mNotV, mIf, mB0, mB1, mB2, mBN, mNil, mCons, mF, mVar, mC, mTup, mLst, mSl, mNo, mSo, mMeth, mEnum, mZip, mRng1, mRng2, inRng_3, inRng_4, inRng_6, mSeq1, mTT, opB, opI, opAdd, opIx, opLen, opTuple, opList, opInt, opMin, opAllAny, opJoin, opSl, opDict, opKGet, mGet2, opNeg, opMach, opSounds, opHist, mCh, inE, ninE, eqE, neE, isMach, callF, callP, pu1, pu2, puN, iCmp, frosOf, put, pin_fro, pin_non, pin_own, gN, gNil', gCons', gTup', lstOf, setL, ownOf, isLoc, locIs, mElt, mInn, mLcG, cT, cPos, Option.bind_some, Option.bind_none, Option.map_some, Option.map_none, List.getElem?_cons_zero, List.getElem?_cons_succ, List.set_cons_zero, List.set_cons_succ, List.map_cons, List.map_nil, List.length_cons, List.length_nil, List.cons_append, List.nil_append, List.replicate_succ, List.replicate_zero, asInt__fro_int, asInt__fro_str, asInt__fro_bl, asInt__fro_tup, asInt__fro_row, asInt__fro_lst, asInt__fro_non, asInt__fro_mach, asInt__fro_obj, asInt__tmp, asInt__tmpk, asInt__tmpd, asInt__loc, asStr__fro_int, asStr__fro_str, asStr__fro_bl, asStr__fro_tup, asStr__fro_row, asStr__fro_lst, asStr__fro_non, asStr__fro_mach, asStr__fro_obj, asStr__tmp, asStr__tmpk, asStr__tmpd, asStr__loc, asBl__fro_int, asBl__fro_str, asBl__fro_bl, asBl__fro_tup, asBl__fro_row, asBl__fro_lst, asBl__fro_non, asBl__fro_mach, asBl__fro_obj, asBl__tmp, asBl__tmpk, asBl__tmpd, asBl__loc, asTup__fro_int, asTup__fro_str, asTup__fro_bl, asTup__fro_tup, asTup__fro_row, asTup__fro_lst, asTup__fro_non, asTup__fro_mach, asTup__fro_obj, asTup__tmp, asTup__tmpk, asTup__tmpd, asTup__loc, contL__fro_int, contL__fro_str, contL__fro_bl, contL__fro_tup, contL__fro_row, contL__fro_lst, contL__fro_non, contL__fro_mach, contL__fro_obj, contL__tmp, contL__tmpk, contL__tmpd, contK__fro_int, contK__fro_str, contK__fro_bl, contK__fro_tup, contK__fro_row, contK__fro_lst, contK__fro_non, contK__fro_mach, contK__fro_obj, contK__tmp, contK__tmpk, contK__tmpd, contL__loc, lvL__own, lvL__pin, lvL__fro, lvL__k, lvL__d, contK__loc, kOf, key1]
  have hk : (h.map dRl)[k]? = some (dRl r) := by rw [List.getElem?_map, hr]; rfl
  have e2 : mF (mBN (callF F_rule_steps) (mCons (mF (mB2 (pu2 opIx) (mB1 (pu1 opHist) (mVar 0)) (mVar 1))) (mCons (mF (mB1 (pu1 opSounds) (mVar 0))) (mCons (mF (mVar 2)) (mCons (mF (mVar 3)) mNil))))) [.fro (dMa S h), .fro (.int k), .fro (dSt1 s), .fro (.str [c]), .fro (key1 k s c)] = some (.fro (val1 r S s c), [.fro (dMa S h), .fro (.int k), .fro (dSt1 s), .fro (.str [c]), .fro (key1 k s c)]) := by
    simp [mW, noPin, wipeL, restL, mDNew, List.foldr_cons, List.foldr_nil, List.all_cons, List.all_nil, runF, runP, startL, startP, outD, frz1, mSeq, mNx, mRet, mIfS, mSet, mAsg, mPar', mApp, mExt, mPop, mSetIx, mAug, mFor, mT, mAnd, mOr, mNot, mAndV, mOrV, mNotV, mIf, mB0, mB1, mB2, mBN, mNil, mCons, mF, mVar, mC, mTup, mLst, mSl, mNo, mSo, mMeth, mEnum, mZip, mRng1, mRng2, inRng_3, inRng_4, inRng_6, mSeq1, mTT, opB, opI, opAdd, opIx, opLen, opTuple, opList, opInt, opMin, opAllAny, opJoin, opSl, opDict, opKGet, mGet2, opNeg, opMach, opSounds, opHist, mCh, inE, ninE, eqE, neE, isMach, callF, callP, pu1, pu2, puN, iCmp, frosOf, put, pin_fro, pin_non, pin_own, gN, gNil', gCons', gTup', lstOf, setL, ownOf, isLoc, locIs, mElt, mInn, mLcG, cT, cPos, Option.bind_some, Option.bind_none, Option.map_some, Option.map_none, List.getElem?_cons_zero, List.getElem?_cons_succ, List.set_cons_zero, List.set_cons_succ, List.map_cons, List.map_nil, List.length_cons, List.length_nil, List.cons_append, List.nil_append, List.replicate_succ, List.replicate_zero, asInt__fro_int, asInt__fro_str, asInt__fro_bl, asInt__fro_tup, asInt__fro_row, asInt__fro_lst, asInt__fro_non, asInt__fro_mach, asInt__fro_obj, asInt__tmp, asInt__tmpk, asInt__tmpd, asInt__loc, asStr__fro_int, asStr__fro_str, asStr__fro_bl, asStr__fro_tup, asStr__fro_row, asStr__fro_lst, asStr__fro_non, asStr__fro_mach, asStr__fro_obj, asStr__tmp, asStr__tmpk, asStr__tmpd, asStr__loc, asBl__fro_int, asBl__fro_str, asBl__fro_bl, asBl__fro_tup, asBl__fro_row, asBl__fro_lst, asBl__fro_non, asBl__fro_mach, asBl__fro_obj, asBl__tmp, asBl__tmpk, asBl__tmpd, asBl__loc, asTup__fro_int, asTup__fro_str, asTup__fro_bl, asTup__fro_tup, asTup__fro_row, asTup__fro_lst, asTup__fro_non, asTup__fro_mach, asTup__fro_obj, asTup__tmp, asTup__tmpk, asTup__tmpd, asTup__loc, contL__fro_int, contL__fro_str, contL__fro_bl, contL__fro_tup, contL__fro_row, contL__fro_lst, contL__fro_non, contL__fro_mach, contL__fro_obj, contL__tmp, contL__tmpk, contL__tmpd, contK__fro_int, contK__fro_str, contK__fro_bl, contK__fro_tup, contK__fro_row, contK__fro_lst, contK__fro_non, contK__fro_mach, contK__fro_obj, contK__tmp, contK__tmpk, contK__tmpd, contL__loc, lvL__own, lvL__pin, lvL__fro, lvL__k, lvL__d, contK__loc, kOf, dMa, dHi, atI0, hk, h1]
  unfold m_Machine_rule_step
  rw [mSeq_nx e1]
  unfold mMemo
  simp only [List.getElem?_cons_zero, List.getElem?_cons_succ, mNx, Option.bind_some, e2]
  rw [if_pos ⟨hM, rfl, rfl, rfl, by simp, by simp⟩]
  rfl
end SS

/-! machines: all ways along a word -/
namespace SS

def lst {α : Type} (l : List (List α)) : List α := l.getLast?.getD []
theorem lst_snoc {α : Type} (l : List (List α)) (x : List α) : lst (l ++ [x]) = x := by simp [lst]
theorem lst_lastOf {α : Type} : ∀ (l : List (List α)) (s : List α), lst (s :: l) = lastOf s l
  | [], s => rfl
  | x :: l, s => by
    have := lst_lastOf l x
    rw [lastOf, ← this]
    unfold lst
    rw [List.getLast?_cons_cons]
abbrev Wy := List (List RSt) × List Wd
noncomputable def rowStep (h : List Rl) (S : Wd) (rows : List Wy) (c : Nat) : List Wy := rows.flatMap fun p => (stepsT h S (lst p.1) c).map fun q => (p.1 ++ [q.1], p.2 ++ [q.2])
noncomputable def row0 (h : List Rl) (S : Wd) : List Wy := (startsT S h).map fun s => ([s], [])
noncomputable def rowsT (h : List Rl) (S : Wd) (w : Wd) : List Wy := w.foldl (rowStep h S) (row0 h S)
theorem stepsT_mem {S : Wd} {h : List Rl} (ok : SlOk S h) {st : List RSt} (hin : InB S h st) {c : Nat} (hc : c ∈ S) (q : List RSt × Wd) : q ∈ stepsT h S st c ↔ Tr h st [c] q.1 q.2 ∧ InB S h q.1 :=
  stepsG_mem ok hin (fun x hx => by rw [List.mem_singleton.mp hx]; exact hc) q
theorem stepsT_nodup {S : Wd} {h : List Rl} (ok : SlOk S h) {st : List RSt} (hin : InB S h st) {c : Nat} (hc : c ∈ S) : ((stepsT h S st c).map (·.1)).Nodup ∧ (stepsT h S st c).length ≤ 4 ^ h.length :=
  stepsG_nodup ok hin fun x hx => by rw [List.mem_singleton.mp hx]; exact hc
theorem rowsG_mem {S : Wd} {h : List Rl} (ok : SlOk S h) : ∀ {w : Wd} {rows : List Wy}, (∀ c ∈ w, c ∈ S) → (∀ p ∈ rows, InB S h (lst p.1)) → ∀ p : Wy, p ∈ w.foldl (rowStep h S) rows ↔ ∃ p0 ∈ rows, ∃ way outs, p = (p0.1 ++ way, p0.2 ++ outs) ∧ Path h (lst p0.1) w way outs ∧ ∀ x ∈ way, InB S h x
  | [], rows, _, _, p => by
    rw [List.foldl_nil]
    constructor
    · intro hp; exact ⟨p, hp, [], [], by simp, trivial, by simp⟩
    · rintro ⟨p0, h0, way, outs, rfl, h1, _⟩
      have := Path.len h1
      have e1 : way = [] := List.length_eq_zero_iff.mp this.1
      have e2 : outs = [] := List.length_eq_zero_iff.mp this.2
      subst e1 e2
      rw [List.append_nil, List.append_nil]
      exact h0
  | c :: w, rows, hw, hr, p => by
    have hc := hw c (by simp)
    have hr2 : ∀ p ∈ rowStep h S rows c, InB S h (lst p.1) := fun p hp => by
      unfold rowStep at hp
      obtain ⟨p0, h0, h1⟩ := List.mem_flatMap.mp hp
      obtain ⟨q, hq, rfl⟩ := List.mem_map.mp h1
      rw [lst_snoc]
      exact ((stepsT_mem ok (hr p0 h0) hc q).mp hq).2
    rw [List.foldl_cons, rowsG_mem ok (fun x hx => hw x (by simp [hx])) hr2]
    constructor
    · rintro ⟨p1, h1, way, outs, rfl, h2, h3⟩
      unfold rowStep at h1
      obtain ⟨p0, h0, h4⟩ := List.mem_flatMap.mp h1
      obtain ⟨q, hq, rfl⟩ := List.mem_map.mp h4
      obtain ⟨t1, t2⟩ := (stepsT_mem ok (hr p0 h0) hc q).mp hq
      rw [lst_snoc] at h2
      exact ⟨p0, h0, q.1 :: way, q.2 :: outs, by simp, ⟨t1, h2⟩, fun x hx => by
        rcases List.mem_cons.mp hx with rfl | hx
        · exact t2
        · exact h3 x hx⟩
    · rintro ⟨p0, h0, way, outs, rfl, h2, h3⟩
      cases way with
      | nil => cases outs <;> exact h2.elim
      | cons x way => cases outs with
        | nil => exact h2.elim
        | cons o outs =>
          obtain ⟨t1, t2⟩ := h2
          refine ⟨(p0.1 ++ [x], p0.2 ++ [o]), ?_, way, outs, by simp, by rw [lst_snoc]; exact t2, fun y hy => h3 y (by simp [hy])⟩
          unfold rowStep
          exact List.mem_flatMap.mpr ⟨p0, h0, List.mem_map.mpr ⟨(x, o), (stepsT_mem ok (hr p0 h0) hc _).mpr ⟨t1, h3 x (by simp)⟩, rfl⟩⟩
/-- a way along a word -/
def WayOk (h : List Rl) (S : Wd) (w : Wd) (p : Wy) : Prop := ∃ s way, p.1 = s :: way ∧ s.map (·.1) = h.map bst ∧ InB S h s ∧ Path h s w way p.2 ∧ ∀ x ∈ way, InB S h x
theorem rowsT_mem {S : Wd} {h : List Rl} (ok : SlOk S h) {w : Wd} (hw : ∀ c ∈ w, c ∈ S) (p : Wy) : p ∈ rowsT h S w ↔ WayOk h S w p := by
  unfold rowsT
  rw [rowsG_mem ok hw fun p hp => by
    obtain ⟨s, hs, rfl⟩ := List.mem_map.mp hp
    exact (startsT_mem.mp hs).2]
  constructor
  · rintro ⟨p0, h0, way, outs, rfl, h1, h2⟩
    obtain ⟨s, hs, rfl⟩ := List.mem_map.mp h0
    obtain ⟨h3, h4⟩ := startsT_mem.mp hs
    exact ⟨s, way, rfl, h3, h4, h1, h2⟩
  · rintro ⟨s, way, h0, h1, h2, h3, h4⟩
    exact ⟨([s], []), List.mem_map.mpr ⟨s, startsT_mem.mpr ⟨h1, h2⟩, rfl⟩, way, p.2, Prod.ext h0 rfl, h3, h4⟩
theorem nodup_of_map {α β : Type} {f : α → β} : ∀ {l : List α}, (l.map f).Nodup → l.Nodup
  | [], _ => by simp
  | x :: l, h => by
    rw [List.map_cons, List.nodup_cons] at h
    rw [List.nodup_cons]
    exact ⟨fun hx => h.1 (List.mem_map.mpr ⟨x, hx, rfl⟩), nodup_of_map h.2⟩
theorem nodup_map_on {α β : Type} {f : α → β} {l : List α} (h : l.Nodup) (inj : ∀ x ∈ l, ∀ y ∈ l, f x = f y → x = y) : (l.map f).Nodup :=
  List.pairwise_map.mpr (h.imp_of_mem fun {x y} hx hy hne e => hne (inj x hx y hy e))
theorem rowStep_nodup {S : Wd} {h : List Rl} (ok : SlOk S h) {rows : List Wy} (hn : rows.Nodup) (hr : ∀ p ∈ rows, InB S h (lst p.1)) {c : Nat} (hc : c ∈ S) : (rowStep h S rows c).Nodup := by
  unfold rowStep
  refine List.pairwise_flatMap.mpr ⟨fun p hp => ?_, hn.imp fun {p p'} hne x hx y hy e => ?_⟩
  · refine nodup_map_on (nodup_of_map (stepsT_nodup ok (hr p hp) hc).1) fun a _ b _ e => ?_
    simp only [Prod.mk.injEq] at e
    have e1 := List.append_cancel_left e.1
    have e2 := List.append_cancel_left e.2
    exact Prod.ext (by simpa using e1) (by simpa using e2)
  · subst e
    obtain ⟨a, _, rfl⟩ := List.mem_map.mp hx
    obtain ⟨b, _, e⟩ := List.mem_map.mp hy
    simp only [Prod.mk.injEq] at e
    exact hne (Prod.ext (List.append_inj_left' e.1 rfl).symm (List.append_inj_left' e.2 rfl).symm)
theorem startRow_nodup {S : Wd} (hS : S.length ≤ 6) {r : Rl} (hr : r.bh.length ≤ 2) {found : List (List RSt)} (hn : found.Nodup) : (startRow S found r).Nodup := by
  unfold startRow
  refine List.pairwise_flatMap.mpr ⟨fun p hp => ?_, hn.imp fun {p p'} hne x hx y hy e => ?_⟩
  · refine nodup_map_on (allB_ok hS hr).1 fun a _ b _ e => ?_
    have e1 := List.append_cancel_left e
    simpa using e1
  · subst e
    obtain ⟨a, _, rfl⟩ := List.mem_map.mp hx
    obtain ⟨b, _, e⟩ := List.mem_map.mp hy
    exact hne (List.append_inj_left' e rfl).symm
theorem startsT_nodup {S : Wd} : ∀ {h : List Rl} {found : List (List RSt)}, SlOk S h → found.Nodup → (h.foldl (startRow S) found).Nodup
  | [], _, _, hn => hn
  | r :: h, found, ok, hn => by
    rw [List.foldl_cons]
    exact startsT_nodup ok.tail (startRow_nodup ok.S6 (ok.rl r (by simp)).nbh hn)
theorem row0_ok {S : Wd} {h : List Rl} (ok : SlOk S h) : (row0 h S).Nodup ∧ ∀ p ∈ row0 h S, InB S h (lst p.1) := by
  refine ⟨nodup_map_on (startsT_nodup ok (by simp)) fun a _ b _ e => by simpa using e, fun p hp => ?_⟩
  obtain ⟨s, hs, rfl⟩ := List.mem_map.mp hp
  exact (startsT_mem.mp hs).2
theorem WayOk.last {S : Wd} {h : List Rl} {w : Wd} {p : Wy} (x : WayOk h S w p) : InB S h (lst p.1) := by
  obtain ⟨s, way, e, _, h1, _, h2⟩ := x
  rw [e, lst_lastOf]
  have go : ∀ (way : List (List RSt)) (s : List RSt), InB S h s → (∀ x ∈ way, InB S h x) → InB S h (lastOf s way) := by
    intro way
    induction way with
    | nil => exact fun s hs _ => hs
    | cons y way ih => exact fun s _ hy => ih y (hy y (by simp)) fun z hz => hy z (by simp [hz])
  exact go way s h1 h2
theorem rowsT_snoc (h : List Rl) (S : Wd) (w : Wd) (c : Nat) : rowsT h S (w ++ [c]) = rowStep h S (rowsT h S w) c := by
  unfold rowsT
  rw [List.foldl_append]
  rfl
theorem rowsG_nodup {S : Wd} {h : List Rl} (ok : SlOk S h) : ∀ {w : Wd} {rows : List Wy}, (∀ c ∈ w, c ∈ S) → rows.Nodup → (∀ p ∈ rows, InB S h (lst p.1)) → (w.foldl (rowStep h S) rows).Nodup
  | [], _, _, hn, _ => hn
  | c :: w, rows, hw, hn, hr => by
    have hc := hw c (by simp)
    rw [List.foldl_cons]
    refine rowsG_nodup ok (fun x hx => hw x (by simp [hx])) (rowStep_nodup ok hn hr hc) fun p hp => ?_
    unfold rowStep at hp
    obtain ⟨p0, h0, h1⟩ := List.mem_flatMap.mp hp
    obtain ⟨q, hq, rfl⟩ := List.mem_map.mp h1
    rw [lst_snoc]
    exact ((stepsT_mem ok (hr p0 h0) hc q).mp hq).2
theorem rowsT_nodup {S : Wd} {h : List Rl} (ok : SlOk S h) {w : Wd} (hw : ∀ c ∈ w, c ∈ S) : (rowsT h S w).Nodup := rowsG_nodup ok hw (row0_ok ok).1 (row0_ok ok).2
theorem InB.len {S : Wd} : ∀ {h : List Rl} {s : List RSt}, InB S h s → s.length = h.length
  | [], [], _ => rfl
  | _ :: h, _ :: s, f => by rw [List.length_cons, List.length_cons, InB.len f.2]
  | [], _ :: _, f => f.elim
  | _ :: _, [], f => f.elim
theorem WayOk.same {S : Wd} {h : List Rl} {w : Wd} {p q : Wy} (x : WayOk h S w p) (y : WayOk h S w q) (e : (lst p.1).map (·.2) = (lst q.1).map (·.2)) : p = q := by
  obtain ⟨s, way, e1, e2, h1, h2, _⟩ := x
  obtain ⟨t, way2, f1, f2, g1, g2, _⟩ := y
  rw [e1, f1, lst_lastOf, lst_lastOf] at e
  obtain ⟨i1, i2, i3⟩ := Path.same h1.len g1.len h2 g2 (e2.trans f2.symm) e
  subst i1 i2
  exact Prod.ext (e1.trans f1.symm) i3
noncomputable def allE (S : Wd) : List Rl → List (List (List Bool))
  | [] => [[]]
  | r :: h => (allB r S).flatMap fun e => (allE S h).map (e :: ·)
theorem mem_allE {S : Wd} : ∀ {h : List Rl} {es : List (List Bool)}, InE S h es → es ∈ allE S h
  | [], [], _ => by simp [allE]
  | r :: h, e :: es, f => by
    rw [allE, List.mem_flatMap]
    exact ⟨e, f.1, List.mem_map.mpr ⟨es, mem_allE f.2, rfl⟩⟩
  | [], _ :: _, f => f.elim
  | _ :: _, [], f => f.elim
theorem allE_len {S : Wd} : ∀ {h : List Rl}, SlOk S h → (allE S h).length ≤ 4 ^ h.length
  | [], _ => by simp [allE]
  | r :: h, ok => by
    have h1 := allE_len ok.tail
    have h3 := flat_le (f := fun e => (allE S h).map (e :: ·)) (n := 4 ^ h.length) (l := allB r S) fun x _ => by rw [List.length_map]; exact h1
    have h4 := Nat.mul_le_mul_right (4 ^ h.length) (allB_ok ok.S6 (ok.rl r (by simp)).nbh).2.2.2.2.1
    rw [allE, List.length_cons, Nat.pow_succ, Nat.mul_comm _ 4]
    exact Nat.le_trans h3 h4
theorem rowsT_len {S : Wd} {h : List Rl} (ok : SlOk S h) {w : Wd} (hw : ∀ c ∈ w, c ∈ S) : (rowsT h S w).length ≤ 4 ^ h.length := by
  have hn := nodup_map_on (f := fun p : Wy => (lst p.1).map (·.2)) (rowsT_nodup ok hw) fun x hx y hy e => WayOk.same ((rowsT_mem ok hw x).mp hx) ((rowsT_mem ok hw y).mp hy) e
  have := nodup_sub hn (K := allE S h) fun z hz => by
    obtain ⟨p, hp, rfl⟩ := List.mem_map.mp hz
    exact mem_allE ((rowsT_mem ok hw p).mp hp).last.inE
  rw [List.length_map] at this
  exact Nat.le_trans this (allE_len ok)
theorem only_one {α : Type} {l : List α} {p : α} (hn : l.Nodup) (hp : p ∈ l) (h : ∀ q ∈ l, q = p) : l = [p] := by
  match l, hn with
  | [x], _ => rw [h x (by simp)]
  | [], _ => simp at hp
  | x :: y :: l, hn =>
    have e1 := h x (by simp)
    have e2 := h y (by simp)
    rw [e1, e2] at hn
    simp at hn
theorem rows_one {S : Wd} {h : List Rl} (ok : SlOk S h) {w : Wd} (hw : ∀ c ∈ w, c ∈ S) : ∃ p : Wy, (rowsT h S w).filter (fun p => isEndT h (lst p.1)) = [p] ∧ WayOk h S w p ∧ (lst p.1).map (·.2) = h.map bend := by
  obtain ⟨s, s', o, t1, t2, t3, t4, t5, _⟩ := Tr.ex (as := h.map bst) (es := h.map bend) ok hw (by simp) (InE.ends ok)
  obtain ⟨way, outs, p1, p2, p3⟩ := Path.ex ok hw t1 t5
  have hk : WayOk h S w (s :: way, outs) := ⟨s, way, rfl, t2, t4, p1, p3⟩
  have hl : (lst (s :: way)).map (·.2) = h.map bend := by rw [lst_lastOf, p2, t3]
  refine ⟨(s :: way, outs), only_one ((rowsT_nodup ok hw).filter _) (List.mem_filter.mpr ⟨(rowsT_mem ok hw _).mpr hk, ?_⟩) (fun q hq => ?_), hk, hl⟩
  · exact (isEndT_iff hk.last.len).mpr hl
  · obtain ⟨h1, h2⟩ := List.mem_filter.mp hq
    have hq1 := (rowsT_mem ok hw q).mp h1
    have h3 := (isEndT_iff hq1.last.len).mp h2
    exact WayOk.same hq1 hk (h3.trans hl.symm)
end SS

/-! machines: the readings of runs, steps, stands_for -/
namespace SS
open PySem PySem.Spec PyProof.Rows L2

noncomputable def runRow (r : Rl) (S : Wd) (rows : List (RSt × Wd)) (c : Nat) : List (RSt × Wd) := rows.flatMap fun p => (ruleSteps r S p.1 c).map fun q => (q.1, p.2 ++ q.2)
theorem ruleRun_fold (r : Rl) (S : Wd) : ∀ (w : Wd) (rows : List (RSt × Wd)), ruleRun r S w rows = w.foldl (runRow r S) rows
  | [], _ => rfl
  | c :: w, rows => by rw [ruleRun, ruleRun_fold r S w, List.foldl_cons]; rfl
theorem run_in {S : Wd} {h : List Rl} (hm : MaOk S h) {k : Nat} {w : Wd} {rowsD : D} {c : Nat} {s : RSt} {o : Wd} (ho : o.length ≤ 10000) : ∀ (qs : List (RSt × Wd)) (acc : List D), (∀ q ∈ qs, q.2.length ≤ 10000) → acc.length + qs.length ≤ 1000 →
    forR g_Machine_rule_run1 b_Machine_rule_run1 (qs.map encRO) [.fro (dMa S h), .fro (.int k), .none, .fro (.str w), .fro rowsD, .fro (.str [c]), .own acc, .fro (dSt1 s), .fro (.str o), .none, .none] =
      some (.nx, [.fro (dMa S h), .fro (.int k), .none, .fro (.str w), .fro rowsD, .fro (.str [c]), .own (acc ++ qs.map fun q => encRO (q.1, o ++ q.2)), .fro (dSt1 s), .fro (.str o), .none, .none]) := fun qs acc hq hl => by
  have := forR_acc (g := g_Machine_rule_run1) (m := b_Machine_rule_run1) (enc := encRO) (fun acc => [.fro (dMa S h), .fro (.int k), .none, .fro (.str w), .fro rowsD, .fro (.str [c]), .own acc, .fro (dSt1 s), .fro (.str o), .none, .none]) (F := fun q => [encRO (q.1, o ++ q.2)]) (N := 1000) qs acc (fun q hqq acc hz => by
    have h1 := hq q hqq
    have hz1 : acc.length < LIM := by rw [LIM_val]; simp at hz; omega
    have hz2 : o.length + q.2.length ≤ LIM := by rw [LIM_val]; omega
    unfold encRO
    simp [mW, noPin, wipeL, restL, mDNew, List.foldr_cons, List.foldr_nil, List.all_cons, List.all_nil, runF, runP, startL, startP, outD, frz1, mSeq, mNx, mRet, mIfS, mSet, mAsg, mPar', mApp, mExt, mPop, mSetIx, mAug, mFor, mT, mAnd, mOr, mNot, mAndV, mOrV, mNotV, mIf, mB0, mB1, mB2, mBN, mNil, mCons, mF, mVar, mC, mTup, mLst, mSl, mNo, mSo, mMeth, mEnum, mZip, mRng1, mRng2, inRng_3, inRng_4, inRng_6, mSeq1, mTT, opB, opI, opAdd, opIx, opLen, opTuple, opList, opInt, opMin, opAllAny, opJoin, opSl, opDict, opKGet, mGet2, opNeg, opMach, opSounds, opHist, mCh, inE, ninE, eqE, neE, isMach, callF, callP, pu1, pu2, puN, iCmp, frosOf, put, pin_fro, pin_non, pin_own, gN, gNil', gCons', gTup', lstOf, setL, ownOf, isLoc, locIs, mElt, mInn, mLcG, cT, cPos, Option.bind_some, Option.bind_none, Option.map_some, Option.map_none, List.getElem?_cons_zero, List.getElem?_cons_succ, List.set_cons_zero, List.set_cons_succ, List.map_cons, List.map_nil, List.length_cons, List.length_nil, List.cons_append, List.nil_append, List.replicate_succ, List.replicate_zero, asInt__fro_int, asInt__fro_str, asInt__fro_bl, asInt__fro_tup, asInt__fro_row, asInt__fro_lst, asInt__fro_non, asInt__fro_mach, asInt__fro_obj, asInt__tmp, asInt__tmpk, asInt__tmpd, asInt__loc, asStr__fro_int, asStr__fro_str, asStr__fro_bl, asStr__fro_tup, asStr__fro_row, asStr__fro_lst, asStr__fro_non, asStr__fro_mach, asStr__fro_obj, asStr__tmp, asStr__tmpk, asStr__tmpd, asStr__loc, asBl__fro_int, asBl__fro_str, asBl__fro_bl, asBl__fro_tup, asBl__fro_row, asBl__fro_lst, asBl__fro_non, asBl__fro_mach, asBl__fro_obj, asBl__tmp, asBl__tmpk, asBl__tmpd, asBl__loc, asTup__fro_int, asTup__fro_str, asTup__fro_bl, asTup__fro_tup, asTup__fro_row, asTup__fro_lst, asTup__fro_non, asTup__fro_mach, asTup__fro_obj, asTup__tmp, asTup__tmpk, asTup__tmpd, asTup__loc, contL__fro_int, contL__fro_str, contL__fro_bl, contL__fro_tup, contL__fro_row, contL__fro_lst, contL__fro_non, contL__fro_mach, contL__fro_obj, contL__tmp, contL__tmpk, contL__tmpd, contK__fro_int, contK__fro_str, contK__fro_bl, contK__fro_tup, contK__fro_row, contK__fro_lst, contK__fro_non, contK__fro_mach, contK__fro_obj, contK__tmp, contK__tmpk, contK__tmpd, contL__loc, lvL__own, lvL__pin, lvL__fro, lvL__k, lvL__d, contK__loc, kOf, g_Machine_rule_run1, b_Machine_rule_run1, hz1, hz2]) (by rw [← List.map_eq_flatMap, List.length_map]; exact hl)
  rw [← List.map_eq_flatMap] at this
  exact this
theorem run_row {S : Wd} {h : List Rl} (hm : MaOk S h) {k : Nat} {r : Rl} (hr : h[k]? = some r) {w : Wd} {c : Nat} (hc : c ∈ S) {rows : List (RSt × Wd)} (hrows : ∀ p ∈ rows, Fit1 r p.1 ∧ p.1.2 ∈ allB r S ∧ p.2.length ≤ 10000) (hl : (runRow r S rows c).length ≤ 1000) :
    (g_Machine_rule_run3 (.str [c]) [.fro (dMa S h), .fro (.int k), .none, .fro (.str w), .own (rows.map encRO), .none, .none, .none, .none, .none, .none]).bind b_Machine_rule_run3 =
      some (.nx, [.fro (dMa S h), .fro (.int k), .none, .fro (.str w), .own ((runRow r S rows c).map encRO), .none, .none, .none, .none, .none, .none]) := by
  have hrl := hm.hi.rl r (List.mem_of_getElem? hr)
  have hf := forR_acc (g := g_Machine_rule_run2) (m := b_Machine_rule_run2) (enc := encRO) (fun acc => [.fro (dMa S h), .fro (.int k), .none, .fro (.str w), .fro (.lst (rows.map encRO)), .fro (.str [c]), .own acc, .none, .none, .none, .none]) (F := fun p => (ruleSteps r S p.1 c).map fun q => encRO (q.1, p.2 ++ q.2)) (N := 1000) rows [] (fun p hp acc hz => by
    obtain ⟨h1, h2, h3⟩ := hrows p hp
    have hs := ev_rule_step hm hr h1 hc
    rw [List.length_map] at hz
    have hi := run_in hm (k := k) (w := w) (rowsD := .lst (rows.map encRO)) (c := c) (s := p.1) (o := p.2) h3 (ruleSteps r S p.1 c) acc (fun q hq => by
      unfold ruleSteps at hq
      obtain ⟨e, he, rfl⟩ := List.mem_map.mp hq
      have := (outB_ok hrl (a := p.1.1) (e := e) hc).1
      simp only
      omega) hz
    unfold val1 at hs
    have e0 : encRO p = .tup [dSt1 p.1, .str p.2] := rfl
    rw [e0]
    generalize (ruleSteps r S p.1 c).map encRO = zs at *
    generalize (ruleSteps r S p.1 c).map (fun q => encRO (q.1, p.2 ++ q.2)) = ys at *
    simp [mW, noPin, wipeL, restL, mDNew, List.foldr_cons, List.foldr_nil, List.all_cons, List.all_nil, runF, runP, startL, startP, outD, frz1, mSeq, mNx, mRet, mIfS, mSet, mAsg, mPar', mApp, mExt, mPop, mSetIx, mAug, mFor, mT, mAnd, mOr, mNot, mAndV, mOrV, mNotV, mIf, mB0, mB1, mB2, mBN, mNil, mCons, mF, mVar, mC, mTup, mLst, mSl, mNo, mSo, mMeth, mEnum, mZip, mRng1, mRng2, inRng_3, inRng_4, inRng_6, mSeq1, mTT, opB, opI, opAdd, opIx, opLen, opTuple, opList, opInt, opMin, opAllAny, opJoin, opSl, opDict, opKGet, mGet2, opNeg, opMach, opSounds, opHist, mCh, inE, ninE, eqE, neE, isMach, callF, callP, pu1, pu2, puN, iCmp, frosOf, put, pin_fro, pin_non, pin_own, gN, gNil', gCons', gTup', lstOf, setL, ownOf, isLoc, locIs, mElt, mInn, mLcG, cT, cPos, Option.bind_some, Option.bind_none, Option.map_some, Option.map_none, List.getElem?_cons_zero, List.getElem?_cons_succ, List.set_cons_zero, List.set_cons_succ, List.map_cons, List.map_nil, List.length_cons, List.length_nil, List.cons_append, List.nil_append, List.replicate_succ, List.replicate_zero, asInt__fro_int, asInt__fro_str, asInt__fro_bl, asInt__fro_tup, asInt__fro_row, asInt__fro_lst, asInt__fro_non, asInt__fro_mach, asInt__fro_obj, asInt__tmp, asInt__tmpk, asInt__tmpd, asInt__loc, asStr__fro_int, asStr__fro_str, asStr__fro_bl, asStr__fro_tup, asStr__fro_row, asStr__fro_lst, asStr__fro_non, asStr__fro_mach, asStr__fro_obj, asStr__tmp, asStr__tmpk, asStr__tmpd, asStr__loc, asBl__fro_int, asBl__fro_str, asBl__fro_bl, asBl__fro_tup, asBl__fro_row, asBl__fro_lst, asBl__fro_non, asBl__fro_mach, asBl__fro_obj, asBl__tmp, asBl__tmpk, asBl__tmpd, asBl__loc, asTup__fro_int, asTup__fro_str, asTup__fro_bl, asTup__fro_tup, asTup__fro_row, asTup__fro_lst, asTup__fro_non, asTup__fro_mach, asTup__fro_obj, asTup__tmp, asTup__tmpk, asTup__tmpd, asTup__loc, contL__fro_int, contL__fro_str, contL__fro_bl, contL__fro_tup, contL__fro_row, contL__fro_lst, contL__fro_non, contL__fro_mach, contL__fro_obj, contL__tmp, contL__tmpk, contL__tmpd, contK__fro_int, contK__fro_str, contK__fro_bl, contK__fro_tup, contK__fro_row, contK__fro_lst, contK__fro_non, contK__fro_mach, contK__fro_obj, contK__tmp, contK__tmpk, contK__tmpd, contL__loc, lvL__own, lvL__pin, lvL__fro, lvL__k, lvL__d, contK__loc, kOf, g_Machine_rule_run2, b_Machine_rule_run2, hs, hi]) (by
    have e : rows.flatMap (fun p => (ruleSteps r S p.1 c).map fun q => encRO (q.1, p.2 ++ q.2)) = (runRow r S rows c).map encRO := by
      unfold runRow
      rw [List.map_flatMap]
      congr 1
      funext p
      rw [List.map_map]
      rfl
    rw [e, List.length_map, List.length_nil]
    omega)
  have e : rows.flatMap (fun p => (ruleSteps r S p.1 c).map fun q => encRO (q.1, p.2 ++ q.2)) = (runRow r S rows c).map encRO := by
    unfold runRow
    rw [List.map_flatMap]
    congr 1
    funext p
    rw [List.map_map]
    rfl
  rw [e, List.nil_append] at hf
  generalize (runRow r S rows c).map encRO = ys at *
  simp [mW, noPin, wipeL, restL, mDNew, List.foldr_cons, List.foldr_nil, List.all_cons, List.all_nil, runF, runP, startL, startP, outD, frz1, mSeq, mNx, mRet, mIfS, mSet, mAsg, mPar', mApp, mExt, mPop, mSetIx, mAug, mFor, mT, mAnd, mOr, mNot, mAndV, mOrV, mNotV, mIf, mB0, mB1, mB2, mBN, mNil, mCons, mF, mVar, mC, mTup, mLst, mSl, mNo, mSo, mMeth, mEnum, mZip, mRng1, mRng2, inRng_3, inRng_4, inRng_6, mSeq1, mTT, opB, opI, opAdd, opIx, opLen, opTuple, opList, opInt, opMin, opAllAny, opJoin, opSl, opDict, opKGet, mGet2, opNeg, opMach, opSounds, opHist, mCh, inE, ninE, eqE, neE, isMach, callF, callP, pu1, pu2, puN, iCmp, frosOf, put, pin_fro, pin_non, pin_own, gN, gNil', gCons', gTup', lstOf, setL, ownOf, isLoc, locIs, mElt, mInn, mLcG, cT, cPos, Option.bind_some, Option.bind_none, Option.map_some, Option.map_none, List.getElem?_cons_zero, List.getElem?_cons_succ, List.set_cons_zero, List.set_cons_succ, List.map_cons, List.map_nil, List.length_cons, List.length_nil, List.cons_append, List.nil_append, List.replicate_succ, List.replicate_zero, asInt__fro_int, asInt__fro_str, asInt__fro_bl, asInt__fro_tup, asInt__fro_row, asInt__fro_lst, asInt__fro_non, asInt__fro_mach, asInt__fro_obj, asInt__tmp, asInt__tmpk, asInt__tmpd, asInt__loc, asStr__fro_int, asStr__fro_str, asStr__fro_bl, asStr__fro_tup, asStr__fro_row, asStr__fro_lst, asStr__fro_non, asStr__fro_mach, asStr__fro_obj, asStr__tmp, asStr__tmpk, asStr__tmpd, asStr__loc, asBl__fro_int, asBl__fro_str, asBl__fro_bl, asBl__fro_tup, asBl__fro_row, asBl__fro_lst, asBl__fro_non, asBl__fro_mach, asBl__fro_obj, asBl__tmp, asBl__tmpk, asBl__tmpd, asBl__loc, asTup__fro_int, asTup__fro_str, asTup__fro_bl, asTup__fro_tup, asTup__fro_row, asTup__fro_lst, asTup__fro_non, asTup__fro_mach, asTup__fro_obj, asTup__tmp, asTup__tmpk, asTup__tmpd, asTup__loc, contL__fro_int, contL__fro_str, contL__fro_bl, contL__fro_tup, contL__fro_row, contL__fro_lst, contL__fro_non, contL__fro_mach, contL__fro_obj, contL__tmp, contL__tmpk, contL__tmpd, contK__fro_int, contK__fro_str, contK__fro_bl, contK__fro_tup, contK__fro_row, contK__fro_lst, contK__fro_non, contK__fro_mach, contK__fro_obj, contK__tmp, contK__tmpk, contK__tmpd, contL__loc, lvL__own, lvL__pin, lvL__fro, lvL__k, lvL__d, contK__loc, kOf, g_Machine_rule_run3, b_Machine_rule_run3, hf]
theorem ev_rule_run {S : Wd} {h : List Rl} (hm : MaOk S h) {k : Nat} {r : Rl} (hr : h[k]? = some r) {s : RSt} (hs : Fit1 r s) (hin : s.2 ∈ allB r S) {w : Wd} (hw : ∀ c ∈ w, c ∈ S) (hl : w.length ≤ 4096) : F_Machine_rule_run [dMa S h, .int k, dSt1 s, .str w] = some (.lst ((ruleRun r S w [(s, [])]).map encRO)) := by
  have hrl := hm.hi.rl r (List.mem_of_getElem? hr)
  have hS6 := hm.al.len
  obtain ⟨hf, _⟩ := forR_fold (g := g_Machine_rule_run3) (m := b_Machine_rule_run3) (fun c : Nat => D.str [c]) (fun rows : List (RSt × Wd) => [.fro (dMa S h), .fro (.int k), .none, .fro (.str w), .own (rows.map encRO), .none, .none, .none, .none, .none, .none]) (runRow r S)
    (fun rest rows => ∃ done, done ++ rest = w ∧ rows = ruleRun r S done [(s, [])])
    (fun c rest rows ⟨done, e1, e2⟩ => by
      have hd : ∀ x ∈ done ++ [c], x ∈ S := fun x hx => hw x (by
        rw [← e1]
        rcases List.mem_append.mp hx with z | z
        · exact List.mem_append_left _ z
        · rw [List.mem_singleton.mp z]; exact List.mem_append_right _ (by simp))
      have hd0 : ∀ x ∈ done, x ∈ S := fun x hx => hd x (by simp [hx])
      have hdl : done.length ≤ 4096 := by have := congrArg List.length e1; rw [List.length_append] at this; omega
      have e3 : ruleRun r S (done ++ [c]) [(s, [])] = runRow r S rows c := by rw [e2, ruleRun_fold, ruleRun_fold, List.foldl_append]; rfl
      refine ⟨run_row hm hr (hd c (by simp)) (fun p hp => ?_) ?_, done ++ [c], by rw [← e1]; simp, e3.symm⟩
      · rw [e2] at hp
        obtain ⟨m1, m2, m3, m4⟩ := (ruleRun_mem hS6 hrl.nbh hin hd0 p).mp hp
        refine ⟨⟨by rw [m3]; exact fwW_len r done _ hs.1, (allB_ok hS6 hrl.nbh).2.2.2.1 _ m1⟩, m1, ?_⟩
        rw [m4]
        have := (outW_ok hrl (e := p.1.2) (a := s.1) hd0).1
        omega
      · rw [← e3]
        have := ruleRun_len hS6 hrl.nbh hin hd
        omega) w [(s, [])] ⟨[], rfl, rfl⟩
  rw [← ruleRun_fold] at hf
  have e0 : ([(s, [])] : List (RSt × Wd)).map encRO = [.tup [dSt1 s, .str []]] := rfl
  rw [e0] at hf
  have hrw : rows w = w.map fun c => D.str [c] := rfl
  unfold F_Machine_rule_run m_Machine_rule_run
  generalize (ruleRun r S w [(s, [])]).map encRO = ys at *
  simp [mW, noPin, wipeL, restL, mDNew, List.foldr_cons, List.foldr_nil, List.all_cons, List.all_nil, runF, runP, startL, startP, outD, frz1, mSeq, mNx, mRet, mIfS, mSet, mAsg, mPar', mApp, mExt, mPop, mSetIx, mAug, mFor, mT, mAnd, mOr, mNot, mAndV, mOrV, mNotV, mIf, mB0, mB1, mB2, mBN, mNil, mCons, mF, mVar, mC, mTup, mLst, mSl, mNo, mSo, mMeth, mEnum, mZip, mRng1, mRng2, inRng_3, inRng_4, inRng_6, mSeq1, mTT, opB, opI, opAdd, opIx, opLen, opTuple, opList, opInt, opMin, opAllAny, opJoin, opSl, opDict, opKGet, mGet2, opNeg, opMach, opSounds, opHist, mCh, inE, ninE, eqE, neE, isMach, callF, callP, pu1, pu2, puN, iCmp, frosOf, put, pin_fro, pin_non, pin_own, gN, gNil', gCons', gTup', lstOf, setL, ownOf, isLoc, locIs, mElt, mInn, mLcG, cT, cPos, Option.bind_some, Option.bind_none, Option.map_some, Option.map_none, List.getElem?_cons_zero, List.getElem?_cons_succ, List.set_cons_zero, List.set_cons_succ, List.map_cons, List.map_nil, List.length_cons, List.length_nil, List.cons_append, List.nil_append, List.replicate_succ, List.replicate_zero, asInt__fro_int, asInt__fro_str, asInt__fro_bl, asInt__fro_tup, asInt__fro_row, asInt__fro_lst, asInt__fro_non, asInt__fro_mach, asInt__fro_obj, asInt__tmp, asInt__tmpk, asInt__tmpd, asInt__loc, asStr__fro_int, asStr__fro_str, asStr__fro_bl, asStr__fro_tup, asStr__fro_row, asStr__fro_lst, asStr__fro_non, asStr__fro_mach, asStr__fro_obj, asStr__tmp, asStr__tmpk, asStr__tmpd, asStr__loc, asBl__fro_int, asBl__fro_str, asBl__fro_bl, asBl__fro_tup, asBl__fro_row, asBl__fro_lst, asBl__fro_non, asBl__fro_mach, asBl__fro_obj, asBl__tmp, asBl__tmpk, asBl__tmpd, asBl__loc, asTup__fro_int, asTup__fro_str, asTup__fro_bl, asTup__fro_tup, asTup__fro_row, asTup__fro_lst, asTup__fro_non, asTup__fro_mach, asTup__fro_obj, asTup__tmp, asTup__tmpk, asTup__tmpd, asTup__loc, contL__fro_int, contL__fro_str, contL__fro_bl, contL__fro_tup, contL__fro_row, contL__fro_lst, contL__fro_non, contL__fro_mach, contL__fro_obj, contL__tmp, contL__tmpk, contL__tmpd, contK__fro_int, contK__fro_str, contK__fro_bl, contK__fro_tup, contK__fro_row, contK__fro_lst, contK__fro_non, contK__fro_mach, contK__fro_obj, contK__tmp, contK__tmpk, contK__tmpd, contL__loc, lvL__own, lvL__pin, lvL__fro, lvL__k, lvL__d, contK__loc, kOf, hrw, hf]
/-! ### steps -/
theorem steps_in {S : Wd} {h : List Rl} {k : Nat} {x1 x3 rowsD : D} {d : List RSt} {o : Wd} (hd : d.length ≤ 10) : ∀ (qs : List (RSt × Wd)) (acc : List D), acc.length + qs.length ≤ 1000 →
    forR g_Machine_steps1 b_Machine_steps1 (qs.map encRO) [.fro (dMa S h), .fro x1, .none, .fro x3, .fro rowsD, .fro (.int k), .own acc, .fro (dSt d), .fro (.str o), .none, .none] =
      some (.nx, [.fro (dMa S h), .fro x1, .none, .fro x3, .fro rowsD, .fro (.int k), .own (acc ++ qs.map fun q => encSO (d ++ [q.1], q.2)), .fro (dSt d), .fro (.str o), .none, .none]) := fun qs acc hl => by
  have := forR_acc (g := g_Machine_steps1) (m := b_Machine_steps1) (enc := encRO) (fun acc => [.fro (dMa S h), .fro x1, .none, .fro x3, .fro rowsD, .fro (.int k), .own acc, .fro (dSt d), .fro (.str o), .none, .none]) (F := fun q => [encSO (d ++ [q.1], q.2)]) (N := 1000) qs acc (fun q hqq acc hz => by
    have hz1 : acc.length < LIM := by rw [LIM_val]; simp at hz; omega
    have hz2 : d.length + 1 ≤ LIM := by rw [LIM_val]; omega
    unfold encRO encSO
    simp [↓asStr_dB, ↓asInt_dB, ↓asBl_dB, ↓asTup_dB, ↓contL_dB, ↓asStr_dSt1, ↓asInt_dSt1, ↓asBl_dSt1, ↓asTup_dSt1, ↓contL_dSt1, ↓asStr_dSt, ↓asInt_dSt, ↓asBl_dSt, ↓asTup_dSt, ↓contL_dSt, ↓asStr_dSl, ↓asInt_dSl, ↓asBl_dSl, ↓asTup_dSl, ↓contL_dSl, ↓asStr_dCh, ↓asInt_dCh, ↓asBl_dCh, ↓asTup_dCh, ↓contL_dCh, ↓asStr_dRl, ↓asInt_dRl, ↓asBl_dRl, ↓asTup_dRl, ↓contL_dRl, ↓asStr_dHi, ↓asInt_dHi, ↓asBl_dHi, ↓asTup_dHi, ↓contL_dHi, ↓asStr_encP, ↓asInt_encP, ↓asBl_encP, ↓asTup_encP, ↓contL_encP, ↓asStr_encRO, ↓asInt_encRO, ↓asBl_encRO, ↓asTup_encRO, ↓contL_encRO, ↓asStr_encSO, ↓asInt_encSO, ↓asBl_encSO, ↓asTup_encSO, ↓contL_encSO, mW, noPin, wipeL, restL, mDNew, List.foldr_cons, List.foldr_nil, List.all_cons, List.all_nil, runF, runP, startL, startP, outD, frz1, mSeq, mNx, mRet, mIfS, mSet, mAsg, mPar', mApp, mExt, mPop, mSetIx, mAug, mFor, mT, mAnd, mOr, mNot, mAndV, mOrV, mNotV, mIf, mB0, mB1, mB2, mBN, mNil, mCons, mF, mVar, mC, mTup, mLst, mSl, mNo, mSo, mMeth, mEnum, mZip, mRng1, mRng2, inRng_3, inRng_4, inRng_6, mSeq1, mTT, opB, opI, opAdd, opIx, opLen, opTuple, opList, opInt, opMin, opAllAny, opJoin, opSl, opDict, opKGet, mGet2, opNeg, opMach, opSounds, opHist, mCh, inE, ninE, eqE, neE, isMach, callF, callP, pu1, pu2, puN, iCmp, frosOf, put, pin_fro, pin_non, pin_own, gN, gNil', gCons', gTup', lstOf, setL, ownOf, isLoc, locIs, mElt, mInn, mLcG, cT, cPos, Option.bind_some, Option.bind_none, Option.map_some, Option.map_none, List.getElem?_cons_zero, List.getElem?_cons_succ, List.set_cons_zero, List.set_cons_succ, List.map_cons, List.map_nil, List.length_cons, List.length_nil, List.cons_append, List.nil_append, List.replicate_succ, List.replicate_zero, asInt__fro_int, asInt__fro_str, asInt__fro_bl, asInt__fro_tup, asInt__fro_row, asInt__fro_lst, asInt__fro_non, asInt__fro_mach, asInt__fro_obj, asInt__tmp, asInt__tmpk, asInt__tmpd, asInt__loc, asStr__fro_int, asStr__fro_str, asStr__fro_bl, asStr__fro_tup, asStr__fro_row, asStr__fro_lst, asStr__fro_non, asStr__fro_mach, asStr__fro_obj, asStr__tmp, asStr__tmpk, asStr__tmpd, asStr__loc, asBl__fro_int, asBl__fro_str, asBl__fro_bl, asBl__fro_tup, asBl__fro_row, asBl__fro_lst, asBl__fro_non, asBl__fro_mach, asBl__fro_obj, asBl__tmp, asBl__tmpk, asBl__tmpd, asBl__loc, asTup__fro_int, asTup__fro_str, asTup__fro_bl, asTup__fro_tup, asTup__fro_row, asTup__fro_lst, asTup__fro_non, asTup__fro_mach, asTup__fro_obj, asTup__tmp, asTup__tmpk, asTup__tmpd, asTup__loc, contL__fro_int, contL__fro_str, contL__fro_bl, contL__fro_tup, contL__fro_row, contL__fro_lst, contL__fro_non, contL__fro_mach, contL__fro_obj, contL__tmp, contL__tmpk, contL__tmpd, contK__fro_int, contK__fro_str, contK__fro_bl, contK__fro_tup, contK__fro_row, contK__fro_lst, contK__fro_non, contK__fro_mach, contK__fro_obj, contK__tmp, contK__tmpk, contK__tmpd, contL__loc, lvL__own, lvL__pin, lvL__fro, lvL__k, lvL__d, contK__loc, kOf, g_Machine_steps1, b_Machine_steps1, hz1, hz2]
    simp [dSt]) (by rw [← List.map_eq_flatMap, List.length_map]; exact hl)
  rw [← List.map_eq_flatMap] at this
  exact this
noncomputable def sRow (S : Wd) (r : Rl) (s : RSt) (rows : List (List RSt × Wd)) : List (List RSt × Wd) := rows.flatMap fun p => (ruleRun r S p.2 [(s, [])]).map fun q => (p.1 ++ [q.1], q.2)
theorem steps_row {S : Wd} {h : List Rl} (hm : MaOk S h) {k : Nat} {r : Rl} (hr : h[k]? = some r) {st : List RSt} {s : RSt} (hk : st[k]? = some s) (hf : Fit1 r s) (hin : s.2 ∈ allB r S) {x3 : D} {rows : List (List RSt × Wd)} (hrows : ∀ p ∈ rows, p.1.length ≤ 10 ∧ (∀ c ∈ p.2, c ∈ S) ∧ p.2.length ≤ 4096) (hl : (sRow S r s rows).length ≤ 1000) :
    (g_Machine_steps3 (.int k) [.fro (dMa S h), .fro (dSt st), .none, .fro x3, .own (rows.map encSO), .none, .none, .none, .none, .none, .none]).bind b_Machine_steps3 =
      some (.nx, [.fro (dMa S h), .fro (dSt st), .none, .fro x3, .own ((sRow S r s rows).map encSO), .none, .none, .none, .none, .none, .none]) := by
  have e : rows.flatMap (fun p => (ruleRun r S p.2 [(s, [])]).map fun q => encSO (p.1 ++ [q.1], q.2)) = (sRow S r s rows).map encSO := by
    unfold sRow
    rw [List.map_flatMap]
    congr 1
    funext p
    rw [List.map_map]
    rfl
  have h2 : atI (st.map dSt1) (k : Int) = some (dSt1 s) := by rw [atI0, List.getElem?_map, hk]; rfl
  have hfr := forR_acc (g := g_Machine_steps2) (m := b_Machine_steps2) (enc := encSO) (fun acc => [.fro (dMa S h), .fro (dSt st), .none, .fro x3, .fro (.lst (rows.map encSO)), .fro (.int k), .own acc, .none, .none, .none, .none]) (F := fun p => (ruleRun r S p.2 [(s, [])]).map fun q => encSO (p.1 ++ [q.1], q.2)) (N := 1000) rows [] (fun p hp acc hz => by
    obtain ⟨h1, h3, h4⟩ := hrows p hp
    have hs := ev_rule_run hm hr hf hin h3 h4
    rw [List.length_map] at hz
    have hi := steps_in (S := S) (h := h) (k := k) (x1 := dSt st) (x3 := x3) (rowsD := .lst (rows.map encSO)) (d := p.1) (o := p.2) h1 (ruleRun r S p.2 [(s, [])]) acc hz
    have e0 : encSO p = .tup [dSt p.1, .str p.2] := rfl
    rw [e0]
    generalize (ruleRun r S p.2 [(s, [])]).map encRO = zs at *
    generalize (ruleRun r S p.2 [(s, [])]).map (fun q => encSO (p.1 ++ [q.1], q.2)) = ys at *
    simp [↓asStr_dB, ↓asInt_dB, ↓asBl_dB, ↓asTup_dB, ↓contL_dB, ↓asStr_dSt1, ↓asInt_dSt1, ↓asBl_dSt1, ↓asTup_dSt1, ↓contL_dSt1, ↓asStr_dSt, ↓asInt_dSt, ↓asBl_dSt, ↓asTup_dSt, ↓contL_dSt, ↓asStr_dSl, ↓asInt_dSl, ↓asBl_dSl, ↓asTup_dSl, ↓contL_dSl, ↓asStr_dCh, ↓asInt_dCh, ↓asBl_dCh, ↓asTup_dCh, ↓contL_dCh, ↓asStr_dRl, ↓asInt_dRl, ↓asBl_dRl, ↓asTup_dRl, ↓contL_dRl, ↓asStr_dHi, ↓asInt_dHi, ↓asBl_dHi, ↓asTup_dHi, ↓contL_dHi, ↓asStr_encP, ↓asInt_encP, ↓asBl_encP, ↓asTup_encP, ↓contL_encP, ↓asStr_encRO, ↓asInt_encRO, ↓asBl_encRO, ↓asTup_encRO, ↓contL_encRO, ↓asStr_encSO, ↓asInt_encSO, ↓asBl_encSO, ↓asTup_encSO, ↓contL_encSO, mW, noPin, wipeL, restL, mDNew, List.foldr_cons, List.foldr_nil, List.all_cons, List.all_nil, runF, runP, startL, startP, outD, frz1, mSeq, mNx, mRet, mIfS, mSet, mAsg, mPar', mApp, mExt, mPop, mSetIx, mAug, mFor, mT, mAnd, mOr, mNot, mAndV, mOrV, mNotV, mIf, mB0, mB1, mB2, mBN, mNil, mCons, mF, mVar, mC, mTup, mLst, mSl, mNo, mSo, mMeth, mEnum, mZip, mRng1, mRng2, inRng_3, inRng_4, inRng_6, mSeq1, mTT, opB, opI, opAdd, opIx, opLen, opTuple, opList, opInt, opMin, opAllAny, opJoin, opSl, opDict, opKGet, mGet2, opNeg, opMach, opSounds, opHist, mCh, inE, ninE, eqE, neE, isMach, callF, callP, pu1, pu2, puN, iCmp, frosOf, put, pin_fro, pin_non, pin_own, gN, gNil', gCons', gTup', lstOf, setL, ownOf, isLoc, locIs, mElt, mInn, mLcG, cT, cPos, Option.bind_some, Option.bind_none, Option.map_some, Option.map_none, List.getElem?_cons_zero, List.getElem?_cons_succ, List.set_cons_zero, List.set_cons_succ, List.map_cons, List.map_nil, List.length_cons, List.length_nil, List.cons_append, List.nil_append, List.replicate_succ, List.replicate_zero, asInt__fro_int, asInt__fro_str, asInt__fro_bl, asInt__fro_tup, asInt__fro_row, asInt__fro_lst, asInt__fro_non, asInt__fro_mach, asInt__fro_obj, asInt__tmp, asInt__tmpk, asInt__tmpd, asInt__loc, asStr__fro_int, asStr__fro_str, asStr__fro_bl, asStr__fro_tup, asStr__fro_row, asStr__fro_lst, asStr__fro_non, asStr__fro_mach, asStr__fro_obj, asStr__tmp, asStr__tmpk, asStr__tmpd, asStr__loc, asBl__fro_int, asBl__fro_str, asBl__fro_bl, asBl__fro_tup, asBl__fro_row, asBl__fro_lst, asBl__fro_non, asBl__fro_mach, asBl__fro_obj, asBl__tmp, asBl__tmpk, asBl__tmpd, asBl__loc, asTup__fro_int, asTup__fro_str, asTup__fro_bl, asTup__fro_tup, asTup__fro_row, asTup__fro_lst, asTup__fro_non, asTup__fro_mach, asTup__fro_obj, asTup__tmp, asTup__tmpk, asTup__tmpd, asTup__loc, contL__fro_int, contL__fro_str, contL__fro_bl, contL__fro_tup, contL__fro_row, contL__fro_lst, contL__fro_non, contL__fro_mach, contL__fro_obj, contL__tmp, contL__tmpk, contL__tmpd, contK__fro_int, contK__fro_str, contK__fro_bl, contK__fro_tup, contK__fro_row, contK__fro_lst, contK__fro_non, contK__fro_mach, contK__fro_obj, contK__tmp, contK__tmpk, contK__tmpd, contL__loc, lvL__own, lvL__pin, lvL__fro, lvL__k, lvL__d, contK__loc, kOf, g_Machine_steps2, b_Machine_steps2, h2, hs, hi]) (by
    rw [e, List.length_map, List.length_nil]
    omega)
  rw [e, List.nil_append] at hfr
  generalize (sRow S r s rows).map encSO = ys at *
  simp [↓asStr_dB, ↓asInt_dB, ↓asBl_dB, ↓asTup_dB, ↓contL_dB, ↓asStr_dSt1, ↓asInt_dSt1, ↓asBl_dSt1, ↓asTup_dSt1, ↓contL_dSt1, ↓asStr_dSt, ↓asInt_dSt, ↓asBl_dSt, ↓asTup_dSt, ↓contL_dSt, ↓asStr_dSl, ↓asInt_dSl, ↓asBl_dSl, ↓asTup_dSl, ↓contL_dSl, ↓asStr_dCh, ↓asInt_dCh, ↓asBl_dCh, ↓asTup_dCh, ↓contL_dCh, ↓asStr_dRl, ↓asInt_dRl, ↓asBl_dRl, ↓asTup_dRl, ↓contL_dRl, ↓asStr_dHi, ↓asInt_dHi, ↓asBl_dHi, ↓asTup_dHi, ↓contL_dHi, ↓asStr_encP, ↓asInt_encP, ↓asBl_encP, ↓asTup_encP, ↓contL_encP, ↓asStr_encRO, ↓asInt_encRO, ↓asBl_encRO, ↓asTup_encRO, ↓contL_encRO, ↓asStr_encSO, ↓asInt_encSO, ↓asBl_encSO, ↓asTup_encSO, ↓contL_encSO, mW, noPin, wipeL, restL, mDNew, List.foldr_cons, List.foldr_nil, List.all_cons, List.all_nil, runF, runP, startL, startP, outD, frz1, mSeq, mNx, mRet, mIfS, mSet, mAsg, mPar', mApp, mExt, mPop, mSetIx, mAug, mFor, mT, mAnd, mOr, mNot, mAndV, mOrV, mNotV, mIf, mB0, mB1, mB2, mBN, mNil, mCons, mF, mVar, mC, mTup, mLst, mSl, mNo, mSo, mMeth, mEnum, mZip, mRng1, mRng2, inRng_3, inRng_4, inRng_6, mSeq1, mTT, opB, opI, opAdd, opIx, opLen, opTuple, opList, opInt, opMin, opAllAny, opJoin, opSl, opDict, opKGet, mGet2, opNeg, opMach, opSounds, opHist, mCh, inE, ninE, eqE, neE, isMach, callF, callP, pu1, pu2, puN, iCmp, frosOf, put, pin_fro, pin_non, pin_own, gN, gNil', gCons', gTup', lstOf, setL, ownOf, isLoc, locIs, mElt, mInn, mLcG, cT, cPos, Option.bind_some, Option.bind_none, Option.map_some, Option.map_none, List.getElem?_cons_zero, List.getElem?_cons_succ, List.set_cons_zero, List.set_cons_succ, List.map_cons, List.map_nil, List.length_cons, List.length_nil, List.cons_append, List.nil_append, List.replicate_succ, List.replicate_zero, asInt__fro_int, asInt__fro_str, asInt__fro_bl, asInt__fro_tup, asInt__fro_row, asInt__fro_lst, asInt__fro_non, asInt__fro_mach, asInt__fro_obj, asInt__tmp, asInt__tmpk, asInt__tmpd, asInt__loc, asStr__fro_int, asStr__fro_str, asStr__fro_bl, asStr__fro_tup, asStr__fro_row, asStr__fro_lst, asStr__fro_non, asStr__fro_mach, asStr__fro_obj, asStr__tmp, asStr__tmpk, asStr__tmpd, asStr__loc, asBl__fro_int, asBl__fro_str, asBl__fro_bl, asBl__fro_tup, asBl__fro_row, asBl__fro_lst, asBl__fro_non, asBl__fro_mach, asBl__fro_obj, asBl__tmp, asBl__tmpk, asBl__tmpd, asBl__loc, asTup__fro_int, asTup__fro_str, asTup__fro_bl, asTup__fro_tup, asTup__fro_row, asTup__fro_lst, asTup__fro_non, asTup__fro_mach, asTup__fro_obj, asTup__tmp, asTup__tmpk, asTup__tmpd, asTup__loc, contL__fro_int, contL__fro_str, contL__fro_bl, contL__fro_tup, contL__fro_row, contL__fro_lst, contL__fro_non, contL__fro_mach, contL__fro_obj, contL__tmp, contL__tmpk, contL__tmpd, contK__fro_int, contK__fro_str, contK__fro_bl, contK__fro_tup, contK__fro_row, contK__fro_lst, contK__fro_non, contK__fro_mach, contK__fro_obj, contK__tmp, contK__tmpk, contK__tmpd, contL__loc, lvL__own, lvL__pin, lvL__fro, lvL__k, lvL__d, contK__loc, kOf, g_Machine_steps3, b_Machine_steps3, hfr]
theorem steps_loop {S : Wd} {h : List Rl} (hm : MaOk S h) {st : List RSt} {x3 : D} : ∀ (l : List Rl) (ss : List RSt) (k : Nat) (rows : List (List RSt × Wd)), h.drop k = l → st.drop k = ss → Fits l ss → InB S l ss →
    (∀ p ∈ rows, p.1.length + l.length ≤ 4 ∧ (∀ c ∈ p.2, c ∈ S) ∧ p.2.length * 2 ^ l.length ≤ 4096) → rows.length * 4 ^ l.length ≤ 1000 →
    forR g_Machine_steps3 b_Machine_steps3 ((List.range' k l.length).map fun i => .int (i : Nat)) [.fro (dMa S h), .fro (dSt st), .none, .fro x3, .own (rows.map encSO), .none, .none, .none, .none, .none, .none] =
      some (.nx, [.fro (dMa S h), .fro (dSt st), .none, .fro x3, .own ((stepsG S l ss rows).map encSO), .none, .none, .none, .none, .none, .none])
  | [], [], k, rows, _, _, _, _, _, _ => by simp [forR, stepsG]
  | r :: l, s :: ss, k, rows, hd, sd, hf, hin, hrows, hlen => by
    have hr : h[k]? = some r := by rw [← List.head?_drop, hd]; rfl
    have hk : st[k]? = some s := by rw [← List.head?_drop, sd]; rfl
    have hrl := hm.hi.rl r (List.mem_of_getElem? hr)
    have hS6 := hm.al.len
    have hd2 : h.drop (k + 1) = l := by rw [← List.drop_drop, hd]; rfl
    have sd2 : st.drop (k + 1) = ss := by rw [← List.drop_drop, sd]; rfl
    have hrow2 : (sRow S r s rows).length ≤ rows.length * 4 := flat_le fun p hp => by
      rw [List.length_map]
      exact ruleRun_len hS6 hrl.nbh hin.1 (hrows p hp).2.1
    have hpos : 1 ≤ 4 ^ l.length := Nat.one_le_pow _ _ (by decide)
    have hl2 : rows.length * 4 * 4 ^ l.length ≤ 1000 := by rw [List.length_cons, Nat.pow_succ] at hlen; rw [Nat.mul_assoc, Nat.mul_comm 4]; exact hlen
    have hl3 : rows.length * 4 ≤ 1000 := Nat.le_trans (Nat.le_mul_of_pos_right _ hpos) hl2
    have hstep := steps_row hm hr hk hf.1 hin.1 (x3 := x3) (rows := rows) (fun p hp => by
      obtain ⟨p1, p2, p3⟩ := hrows p hp
      refine ⟨by omega, p2, ?_⟩
      exact Nat.le_trans (Nat.le_mul_of_pos_right _ Nat.one_le_two_pow) p3) (by omega)
    rw [List.length_cons, List.range'_succ, List.map_cons, forR_nx hstep]
    rw [stepsG]
    refine steps_loop hm l ss (k + 1) (sRow S r s rows) hd2 sd2 hf.2 hin.2 (fun p hp => ?_) (Nat.le_trans (Nat.mul_le_mul_right _ hrow2) hl2)
    unfold sRow at hp
    obtain ⟨p0, h0, h1⟩ := List.mem_flatMap.mp hp
    obtain ⟨q, hq, rfl⟩ := List.mem_map.mp h1
    obtain ⟨p1, p2, p3⟩ := hrows p0 h0
    obtain ⟨_, _, _, m4⟩ := (ruleRun_mem hS6 hrl.nbh hin.1 p2 q).mp hq
    obtain ⟨o1, o2⟩ := outW_ok hrl (e := q.1.2) (a := s.1) p2
    rw [← m4] at o1 o2
    refine ⟨by rw [List.length_append, List.length_singleton]; rw [List.length_cons] at p1; omega, o2, ?_⟩
    rw [List.length_cons, Nat.pow_succ] at p3
    calc q.2.length * 2 ^ l.length ≤ (2 * p0.2.length) * 2 ^ l.length := Nat.mul_le_mul_right _ o1
      _ = p0.2.length * (2 ^ l.length * 2) := by rw [Nat.mul_comm 2, Nat.mul_assoc, Nat.mul_comm 2]
      _ ≤ 4096 := p3
  | [], _ :: _, _, _, _, _, hf, _, _, _ => hf.elim
  | _ :: _, [], _, _, _, _, hf, _, _, _ => hf.elim
theorem ev_steps {S : Wd} {h : List Rl} (hm : MaOk S h) {st : List RSt} (hf : Fits h st) (hin : InB S h st) {c : Nat} (hc : c ∈ S) : F_Machine_steps [dMa S h, dSt st, .str [c]] = some (val2 h S st c) := by
  have h4 := hm.hi.len
  have h1 := steps_loop hm (st := st) (x3 := key2 st c) h st 0 [([], [c])] rfl rfl hf hin (fun p hp => by
    rw [List.mem_singleton.mp hp]
    refine ⟨by simp; omega, fun x hx => by rw [List.mem_singleton.mp hx]; exact hc, ?_⟩
    have : 2 ^ h.length ≤ 2 ^ 4 := Nat.pow_le_pow_right (by decide) h4
    simp; omega) (by
    have : 4 ^ h.length ≤ 4 ^ 4 := Nat.pow_le_pow_right (by decide) h4
    simp; omega)
  have e0 : ([([], [c])] : List (List RSt × Wd)).map encSO = [.tup [.tup [], .str [c]]] := rfl
  have e1 : stepsG S h st [([], [c])] = stepsT h S st c := rfl
  rw [e0, e1] at h1
  have hM : memoR (.str S) (dHi h) (key2 st c) (val2 h S st c) := ⟨S, h, rfl, rfl, hm.al, hm.hi, c, hc, .inr ⟨st, hf, rfl, rfl⟩⟩
  have hr : inRng (h.length : Nat) := inRng_nat (by omega)
  have hrg : rangeD 0 h.length = (List.range' 0 h.length).map fun i => .int (i : Nat) := by rw [rangeD0, List.range_eq_range']
  refine runF_rt (L := List.replicate 11 .none) (ev := .fro (val2 h S st c)) rfl ?_ rfl
  show m_Machine_steps [.fro (dMa S h), .fro (dSt st), .fro (.str [c]), .none, .none, .none, .none, .none, .none, .none, .none] = _
  have e2 : mSet 3 (mTup (mCons (mF (mVar 1)) (mCons (mF (mVar 2)) mNil))) [.fro (dMa S h), .fro (dSt st), .fro (.str [c]), .none, .none, .none, .none, .none, .none, .none, .none] = some (.nx, [.fro (dMa S h), .fro (dSt st), .fro (.str [c]), .fro (key2 st c), .none, .none, .none, .none, .none, .none, .none]) := by
    simp [mW, noPin, wipeL, restL, mDNew, List.foldr_cons, List.foldr_nil, List.all_cons, List.all_nil, runF, runP, startL, startP, outD, frz1, mSeq, mNx, mRet, mIfS, mSet, mAsg, mPar', mApp, mExt, mPop, mSetIx, mAug, mFor, mT, mAnd, mOr, mNot, mAndV, mOrV, mNotV, mIf, mB0, mB1, mB2, mBN, mNil, mCons, mF, mVar, mC, mTup, mLst, mSl, mNo, mSo, mMeth, mEnum, mZip, mRng1, mRng2, inRng_3, inRng_4, inRng_6, mSeq1, mTT, opB, opI, opAdd, opIx, opLen, opTuple, opList, opInt, opMin, opAllAny, opJoin, opSl, opDict, opKGet, mGet2, opNeg, opMach, opSounds, opHist, mCh, inE, ninE, eqE, neE, isMach, callF, callP, pu1, pu2, puN, iCmp, frosOf, put, pin_fro, pin_non, pin_own, gN, gNil', gCons', gTup', lstOf, setL, ownOf, isLoc, locIs, mElt, mInn, mLcG, cT, cPos, Option.bind_some, Option.bind_none, Option.map_some, Option.map_none, List.getElem?_cons_zero, List.getElem?_cons_succ, List.set_cons_zero, List.set_cons_succ, List.map_cons, List.map_nil, List.length_cons, List.length_nil, List.cons_append, List.nil_append, List.replicate_succ, List.replicate_zero, asInt__fro_int, asInt__fro_str, asInt__fro_bl, asInt__fro_tup, asInt__fro_row, asInt__fro_lst, asInt__fro_non, asInt__fro_mach, asInt__fro_obj, asInt__tmp, asInt__tmpk, asInt__tmpd, asInt__loc, asStr__fro_int, asStr__fro_str, asStr__fro_bl, asStr__fro_tup, asStr__fro_row, asStr__fro_lst, asStr__fro_non, asStr__fro_mach, asStr__fro_obj, asStr__tmp, asStr__tmpk, asStr__tmpd, asStr__loc, asBl__fro_int, asBl__fro_str, asBl__fro_bl, asBl__fro_tup, asBl__fro_row, asBl__fro_lst, asBl__fro_non, asBl__fro_mach, asBl__fro_obj, asBl__tmp, asBl__tmpk, asBl__tmpd, asBl__loc, asTup__fro_int, asTup__fro_str, asTup__fro_bl, asTup__fro_tup, asTup__fro_row, asTup__fro_lst, asTup__fro_non, asTup__fro_mach, asTup__fro_obj, asTup__tmp, asTup__tmpk, asTup__tmpd, asTup__loc, contL__fro_int, contL__fro_str, contL__fro_bl, contL__fro_tup, contL__fro_row, contL__fro_lst, contL__fro_non, contL__fro_mach, contL__fro_obj, contL__tmp, contL__tmpk, contL__tmpd, contK__fro_int, contK__fro_str, contK__fro_bl, contK__fro_tup, contK__fro_row, contK__fro_lst, contK__fro_non, contK__fro_mach, contK__fro_obj, contK__tmp, contK__tmpk, contK__tmpd, contL__loc, lvL__own, lvL__pin, lvL__fro, lvL__k, lvL__d, contK__loc, kOf, key2]
  have e5 : (mSeq (mW [2] (mSet 4 (mLst (mCons (mF (mTup (mCons (mF (mTup mNil)) (mCons (mF (mVar 2)) mNil)))) mNil))))
  (mSeq (mW [1, 5, 6, 7, 8, 9, 10] (mFor (mRng1 (mCons (mBN (puN opLen) (mCons (mB1 (pu1 opHist) (mVar 0)) mNil)) mNil)) g_Machine_steps3 b_Machine_steps3))
  mNx)) [.fro (dMa S h), .fro (dSt st), .fro (.str [c]), .fro (key2 st c), .none, .none, .none, .none, .none, .none, .none] = some (.nx, [.fro (dMa S h), .none, .none, .fro (key2 st c), .own ((stepsT h S st c).map encSO), .none, .none, .none, .none, .none, .none]) := by
    generalize (stepsT h S st c).map encSO = ys at *
    unfold dMa dHi at *
    simp [mW, noPin, wipeL, restL, mDNew, List.foldr_cons, List.foldr_nil, List.all_cons, List.all_nil, runF, runP, startL, startP, outD, frz1, mSeq, mNx, mRet, mIfS, mSet, mAsg, mPar', mApp, mExt, mPop, mSetIx, mAug, mFor, mT, mAnd, mOr, mNot, mAndV, mOrV, mNotV, mIf, mB0, mB1, mB2, mBN, mNil, mCons, mF, mVar, mC, mTup, mLst, mSl, mNo, mSo, mMeth, mEnum, mZip, mRng1, mRng2, inRng_3, inRng_4, inRng_6, mSeq1, mTT, opB, opI, opAdd, opIx, opLen, opTuple, opList, opInt, opMin, opAllAny, opJoin, opSl, opDict, opKGet, mGet2, opNeg, opMach, opSounds, opHist, mCh, inE, ninE, eqE, neE, isMach, callF, callP, pu1, pu2, puN, iCmp, frosOf, put, pin_fro, pin_non, pin_own, gN, gNil', gCons', gTup', lstOf, setL, ownOf, isLoc, locIs, mElt, mInn, mLcG, cT, cPos, Option.bind_some, Option.bind_none, Option.map_some, Option.map_none, List.getElem?_cons_zero, List.getElem?_cons_succ, List.set_cons_zero, List.set_cons_succ, List.map_cons, List.map_nil, List.length_cons, List.length_nil, List.cons_append, List.nil_append, List.replicate_succ, List.replicate_zero, asInt__fro_int, asInt__fro_str, asInt__fro_bl, asInt__fro_tup, asInt__fro_row, asInt__fro_lst, asInt__fro_non, asInt__fro_mach, asInt__fro_obj, asInt__tmp, asInt__tmpk, asInt__tmpd, asInt__loc, asStr__fro_int, asStr__fro_str, asStr__fro_bl, asStr__fro_tup, asStr__fro_row, asStr__fro_lst, asStr__fro_non, asStr__fro_mach, asStr__fro_obj, asStr__tmp, asStr__tmpk, asStr__tmpd, asStr__loc, asBl__fro_int, asBl__fro_str, asBl__fro_bl, asBl__fro_tup, asBl__fro_row, asBl__fro_lst, asBl__fro_non, asBl__fro_mach, asBl__fro_obj, asBl__tmp, asBl__tmpk, asBl__tmpd, asBl__loc, asTup__fro_int, asTup__fro_str, asTup__fro_bl, asTup__fro_tup, asTup__fro_row, asTup__fro_lst, asTup__fro_non, asTup__fro_mach, asTup__fro_obj, asTup__tmp, asTup__tmpk, asTup__tmpd, asTup__loc, contL__fro_int, contL__fro_str, contL__fro_bl, contL__fro_tup, contL__fro_row, contL__fro_lst, contL__fro_non, contL__fro_mach, contL__fro_obj, contL__tmp, contL__tmpk, contL__tmpd, contK__fro_int, contK__fro_str, contK__fro_bl, contK__fro_tup, contK__fro_row, contK__fro_lst, contK__fro_non, contK__fro_mach, contK__fro_obj, contK__tmp, contK__tmpk, contK__tmpd, contL__loc, lvL__own, lvL__pin, lvL__fro, lvL__k, lvL__d, contK__loc, kOf, hr, hrg, h1]
  have e4 : mF (mVar 4) [.fro (dMa S h), .none, .none, .fro (key2 st c), .own ((stepsT h S st c).map encSO), .none, .none, .none, .none, .none, .none] = some (.fro (val2 h S st c), [.fro (dMa S h), .none, .none, .fro (key2 st c), .fro (val2 h S st c), .none, .none, .none, .none, .none, .none]) := by
    unfold val2
    generalize (stepsT h S st c).map encSO = ys at *
    simp [mW, noPin, wipeL, restL, mDNew, List.foldr_cons, List.foldr_nil, List.all_cons, List.all_nil, runF, runP, startL, startP, outD, frz1, mSeq, mNx, mRet, mIfS, mSet, mAsg, mPar', mApp, mExt, mPop, mSetIx, mAug, mFor, mT, mAnd, mOr, mNot, mAndV, mOrV, mNotV, mIf, mB0, mB1, mB2, mBN, mNil, mCons, mF, mVar, mC, mTup, mLst, mSl, mNo, mSo, mMeth, mEnum, mZip, mRng1, mRng2, inRng_3, inRng_4, inRng_6, mSeq1, mTT, opB, opI, opAdd, opIx, opLen, opTuple, opList, opInt, opMin, opAllAny, opJoin, opSl, opDict, opKGet, mGet2, opNeg, opMach, opSounds, opHist, mCh, inE, ninE, eqE, neE, isMach, callF, callP, pu1, pu2, puN, iCmp, frosOf, put, pin_fro, pin_non, pin_own, gN, gNil', gCons', gTup', lstOf, setL, ownOf, isLoc, locIs, mElt, mInn, mLcG, cT, cPos, Option.bind_some, Option.bind_none, Option.map_some, Option.map_none, List.getElem?_cons_zero, List.getElem?_cons_succ, List.set_cons_zero, List.set_cons_succ, List.map_cons, List.map_nil, List.length_cons, List.length_nil, List.cons_append, List.nil_append, List.replicate_succ, List.replicate_zero, asInt__fro_int, asInt__fro_str, asInt__fro_bl, asInt__fro_tup, asInt__fro_row, asInt__fro_lst, asInt__fro_non, asInt__fro_mach, asInt__fro_obj, asInt__tmp, asInt__tmpk, asInt__tmpd, asInt__loc, asStr__fro_int, asStr__fro_str, asStr__fro_bl, asStr__fro_tup, asStr__fro_row, asStr__fro_lst, asStr__fro_non, asStr__fro_mach, asStr__fro_obj, asStr__tmp, asStr__tmpk, asStr__tmpd, asStr__loc, asBl__fro_int, asBl__fro_str, asBl__fro_bl, asBl__fro_tup, asBl__fro_row, asBl__fro_lst, asBl__fro_non, asBl__fro_mach, asBl__fro_obj, asBl__tmp, asBl__tmpk, asBl__tmpd, asBl__loc, asTup__fro_int, asTup__fro_str, asTup__fro_bl, asTup__fro_tup, asTup__fro_row, asTup__fro_lst, asTup__fro_non, asTup__fro_mach, asTup__fro_obj, asTup__tmp, asTup__tmpk, asTup__tmpd, asTup__loc, contL__fro_int, contL__fro_str, contL__fro_bl, contL__fro_tup, contL__fro_row, contL__fro_lst, contL__fro_non, contL__fro_mach, contL__fro_obj, contL__tmp, contL__tmpk, contL__tmpd, contK__fro_int, contK__fro_str, contK__fro_bl, contK__fro_tup, contK__fro_row, contK__fro_lst, contK__fro_non, contK__fro_mach, contK__fro_obj, contK__tmp, contK__tmpk, contK__tmpd, contL__loc, lvL__own, lvL__pin, lvL__fro, lvL__k, lvL__d, contK__loc, kOf]
  unfold m_Machine_steps
  rw [mSeq_nx e2]
  unfold mMemo
  simp only [List.getElem?_cons_zero, List.getElem?_cons_succ, e5, Option.bind_some, e4]
  rw [if_pos ⟨hM, rfl, rfl, rfl, by simp, by simp⟩]
  rfl
end SS

/-! machines: the reading of stands_for -/
namespace SS
open PySem PySem.Spec PyProof.Rows L2

def encWy (p : Wy) : D := .tup [.lst (p.1.map dSt), .lst (p.2.map D.str)]
theorem last_at {l : List (List RSt)} (h : l ≠ []) : atI (l.map dSt) (-1) = some (dSt (lst l)) := by
  obtain ⟨pre, b, rfl⟩ : ∃ pre b, l = pre ++ [b] := ⟨l.dropLast, l.getLast h, (List.dropLast_concat_getLast h).symm⟩
  rw [List.map_append, lst_snoc]
  exact at_last _ _
theorem sf_in {S : Wd} {h : List Rl} {w : Wd} {c : Nat} {rowsD : D} {way : List (List RSt)} {outs : List Wd} (h1 : way.length ≤ 10000) (h2 : outs.length ≤ 10000) : ∀ (qs : List (List RSt × Wd)) (acc : List D), acc.length + qs.length ≤ 1000 →
    forR g_stands_for2 b_stands_for1 (qs.map encSO) [.fro (dMa S h), .fro (.str w), .fro rowsD, .fro (.str [c]), .none, .own acc, .none, .fro (.lst (way.map dSt)), .fro (.lst (outs.map D.str)), .none, .none, .none] =
      some (.nx, [.fro (dMa S h), .fro (.str w), .fro rowsD, .fro (.str [c]), .none, .own (acc ++ qs.map fun q => encWy (way ++ [q.1], outs ++ [q.2])), .none, .fro (.lst (way.map dSt)), .fro (.lst (outs.map D.str)), .none, .none, .none]) := fun qs acc hl => by
  have := forR_acc (g := g_stands_for2) (m := b_stands_for1) (enc := encSO) (fun acc => [.fro (dMa S h), .fro (.str w), .fro rowsD, .fro (.str [c]), .none, .own acc, .none, .fro (.lst (way.map dSt)), .fro (.lst (outs.map D.str)), .none, .none, .none]) (F := fun q => [encWy (way ++ [q.1], outs ++ [q.2])]) (N := 1000) qs acc (fun q hqq acc hz => by
    have hz1 : acc.length < LIM := by rw [LIM_val]; simp at hz; omega
    have hz2 : way.length + 1 ≤ LIM := by rw [LIM_val]; omega
    have hz3 : outs.length + 1 ≤ LIM := by rw [LIM_val]; omega
    unfold encSO encWy
    simp [↓asStr_dB, ↓asInt_dB, ↓asBl_dB, ↓asTup_dB, ↓contL_dB, ↓asStr_dSt1, ↓asInt_dSt1, ↓asBl_dSt1, ↓asTup_dSt1, ↓contL_dSt1, ↓asStr_dSt, ↓asInt_dSt, ↓asBl_dSt, ↓asTup_dSt, ↓contL_dSt, ↓asStr_dSl, ↓asInt_dSl, ↓asBl_dSl, ↓asTup_dSl, ↓contL_dSl, ↓asStr_dCh, ↓asInt_dCh, ↓asBl_dCh, ↓asTup_dCh, ↓contL_dCh, ↓asStr_dRl, ↓asInt_dRl, ↓asBl_dRl, ↓asTup_dRl, ↓contL_dRl, ↓asStr_dHi, ↓asInt_dHi, ↓asBl_dHi, ↓asTup_dHi, ↓contL_dHi, ↓asStr_encP, ↓asInt_encP, ↓asBl_encP, ↓asTup_encP, ↓contL_encP, ↓asStr_encRO, ↓asInt_encRO, ↓asBl_encRO, ↓asTup_encRO, ↓contL_encRO, ↓asStr_encSO, ↓asInt_encSO, ↓asBl_encSO, ↓asTup_encSO, ↓contL_encSO, mW, noPin, wipeL, restL, mDNew, List.foldr_cons, List.foldr_nil, List.all_cons, List.all_nil, runF, runP, startL, startP, outD, frz1, mSeq, mNx, mRet, mIfS, mSet, mAsg, mPar', mApp, mExt, mPop, mSetIx, mAug, mFor, mT, mAnd, mOr, mNot, mAndV, mOrV, mNotV, mIf, mB0, mB1, mB2, mBN, mNil, mCons, mF, mVar, mC, mTup, mLst, mSl, mNo, mSo, mMeth, mEnum, mZip, mRng1, mRng2, inRng_3, inRng_4, inRng_6, mSeq1, mTT, opB, opI, opAdd, opIx, opLen, opTuple, opList, opInt, opMin, opAllAny, opJoin, opSl, opDict, opKGet, mGet2, opNeg, opMach, opSounds, opHist, mCh, inE, ninE, eqE, neE, isMach, callF, callP, pu1, pu2, puN, iCmp, frosOf, put, pin_fro, pin_non, pin_own, gN, gNil', gCons', gTup', lstOf, setL, ownOf, isLoc, locIs, mElt, mInn, mLcG, cT, cPos, Option.bind_some, Option.bind_none, Option.map_some, Option.map_none, List.getElem?_cons_zero, List.getElem?_cons_succ, List.set_cons_zero, List.set_cons_succ, List.map_cons, List.map_nil, List.length_cons, List.length_nil, List.cons_append, List.nil_append, List.replicate_succ, List.replicate_zero, asInt__fro_int, asInt__fro_str, asInt__fro_bl, asInt__fro_tup, asInt__fro_row, asInt__fro_lst, asInt__fro_non, asInt__fro_mach, asInt__fro_obj, asInt__tmp, asInt__tmpk, asInt__tmpd, asInt__loc, asStr__fro_int, asStr__fro_str, asStr__fro_bl, asStr__fro_tup, asStr__fro_row, asStr__fro_lst, asStr__fro_non, asStr__fro_mach, asStr__fro_obj, asStr__tmp, asStr__tmpk, asStr__tmpd, asStr__loc, asBl__fro_int, asBl__fro_str, asBl__fro_bl, asBl__fro_tup, asBl__fro_row, asBl__fro_lst, asBl__fro_non, asBl__fro_mach, asBl__fro_obj, asBl__tmp, asBl__tmpk, asBl__tmpd, asBl__loc, asTup__fro_int, asTup__fro_str, asTup__fro_bl, asTup__fro_tup, asTup__fro_row, asTup__fro_lst, asTup__fro_non, asTup__fro_mach, asTup__fro_obj, asTup__tmp, asTup__tmpk, asTup__tmpd, asTup__loc, contL__fro_int, contL__fro_str, contL__fro_bl, contL__fro_tup, contL__fro_row, contL__fro_lst, contL__fro_non, contL__fro_mach, contL__fro_obj, contL__tmp, contL__tmpk, contL__tmpd, contK__fro_int, contK__fro_str, contK__fro_bl, contK__fro_tup, contK__fro_row, contK__fro_lst, contK__fro_non, contK__fro_mach, contK__fro_obj, contK__tmp, contK__tmpk, contK__tmpd, contL__loc, lvL__own, lvL__pin, lvL__fro, lvL__k, lvL__d, contK__loc, kOf, g_stands_for2, b_stands_for1, hz1, hz2, hz3]) (by rw [← List.map_eq_flatMap, List.length_map]; exact hl)
  rw [← List.map_eq_flatMap] at this
  exact this
theorem sf_row {S : Wd} {h : List Rl} (hm : MaOk S h) {w : Wd} {c : Nat} (hc : c ∈ S) {rows : List Wy} (hrows : ∀ p ∈ rows, p.1 ≠ [] ∧ Fits h (lst p.1) ∧ InB S h (lst p.1) ∧ p.1.length ≤ 10000 ∧ p.2.length ≤ 10000) (hl : (rowStep h S rows c).length ≤ 1000) :
    (g_stands_for4 (.str [c]) [.fro (dMa S h), .fro (.str w), .own (rows.map encWy), .none, .none, .none, .none, .none, .none, .none, .none, .none]).bind b_stands_for3 =
      some (.nx, [.fro (dMa S h), .fro (.str w), .own ((rowStep h S rows c).map encWy), .none, .none, .none, .none, .none, .none, .none, .none, .none]) := by
  have e : rows.flatMap (fun p => (stepsT h S (lst p.1) c).map fun q => encWy (p.1 ++ [q.1], p.2 ++ [q.2])) = (rowStep h S rows c).map encWy := by
    unfold rowStep
    rw [List.map_flatMap]
    congr 1
    funext p
    rw [List.map_map]
    rfl
  have hfr := forR_acc (g := g_stands_for3) (m := b_stands_for2) (enc := encWy) (fun acc => [.fro (dMa S h), .fro (.str w), .fro (.lst (rows.map encWy)), .fro (.str [c]), .none, .own acc, .none, .none, .none, .none, .none, .none]) (F := fun p => (stepsT h S (lst p.1) c).map fun q => encWy (p.1 ++ [q.1], p.2 ++ [q.2])) (N := 1000) rows [] (fun p hp acc hz => by
    obtain ⟨h1, h2, h3, h4, h5⟩ := hrows p hp
    have hs := ev_steps hm h2 h3 hc
    have hla := last_at h1
    rw [List.length_map] at hz
    have hi := sf_in (S := S) (h := h) (w := w) (c := c) (rowsD := .lst (rows.map encWy)) h4 h5 (stepsT h S (lst p.1) c) acc hz
    unfold val2 at hs
    have e0 : encWy p = .tup [.lst (p.1.map dSt), .lst (p.2.map D.str)] := rfl
    rw [e0]
    generalize (stepsT h S (lst p.1) c).map encSO = zs at *
    generalize (stepsT h S (lst p.1) c).map (fun q => encWy (p.1 ++ [q.1], p.2 ++ [q.2])) = ys at *
    generalize p.1.map dSt = as at *
    generalize p.2.map D.str = bs at *
    simp [↓asStr_dB, ↓asInt_dB, ↓asBl_dB, ↓asTup_dB, ↓contL_dB, ↓asStr_dSt1, ↓asInt_dSt1, ↓asBl_dSt1, ↓asTup_dSt1, ↓contL_dSt1, ↓asStr_dSt, ↓asInt_dSt, ↓asBl_dSt, ↓asTup_dSt, ↓contL_dSt, ↓asStr_dSl, ↓asInt_dSl, ↓asBl_dSl, ↓asTup_dSl, ↓contL_dSl, ↓asStr_dCh, ↓asInt_dCh, ↓asBl_dCh, ↓asTup_dCh, ↓contL_dCh, ↓asStr_dRl, ↓asInt_dRl, ↓asBl_dRl, ↓asTup_dRl, ↓contL_dRl, ↓asStr_dHi, ↓asInt_dHi, ↓asBl_dHi, ↓asTup_dHi, ↓contL_dHi, ↓asStr_encP, ↓asInt_encP, ↓asBl_encP, ↓asTup_encP, ↓contL_encP, ↓asStr_encRO, ↓asInt_encRO, ↓asBl_encRO, ↓asTup_encRO, ↓contL_encRO, ↓asStr_encSO, ↓asInt_encSO, ↓asBl_encSO, ↓asTup_encSO, ↓contL_encSO, mW, noPin, wipeL, restL, mDNew, List.foldr_cons, List.foldr_nil, List.all_cons, List.all_nil, runF, runP, startL, startP, outD, frz1, mSeq, mNx, mRet, mIfS, mSet, mAsg, mPar', mApp, mExt, mPop, mSetIx, mAug, mFor, mT, mAnd, mOr, mNot, mAndV, mOrV, mNotV, mIf, mB0, mB1, mB2, mBN, mNil, mCons, mF, mVar, mC, mTup, mLst, mSl, mNo, mSo, mMeth, mEnum, mZip, mRng1, mRng2, inRng_3, inRng_4, inRng_6, mSeq1, mTT, opB, opI, opAdd, opIx, opLen, opTuple, opList, opInt, opMin, opAllAny, opJoin, opSl, opDict, opKGet, mGet2, opNeg, opMach, opSounds, opHist, mCh, inE, ninE, eqE, neE, isMach, callF, callP, pu1, pu2, puN, iCmp, frosOf, put, pin_fro, pin_non, pin_own, gN, gNil', gCons', gTup', lstOf, setL, ownOf, isLoc, locIs, mElt, mInn, mLcG, cT, cPos, Option.bind_some, Option.bind_none, Option.map_some, Option.map_none, List.getElem?_cons_zero, List.getElem?_cons_succ, List.set_cons_zero, List.set_cons_succ, List.map_cons, List.map_nil, List.length_cons, List.length_nil, List.cons_append, List.nil_append, List.replicate_succ, List.replicate_zero, asInt__fro_int, asInt__fro_str, asInt__fro_bl, asInt__fro_tup, asInt__fro_row, asInt__fro_lst, asInt__fro_non, asInt__fro_mach, asInt__fro_obj, asInt__tmp, asInt__tmpk, asInt__tmpd, asInt__loc, asStr__fro_int, asStr__fro_str, asStr__fro_bl, asStr__fro_tup, asStr__fro_row, asStr__fro_lst, asStr__fro_non, asStr__fro_mach, asStr__fro_obj, asStr__tmp, asStr__tmpk, asStr__tmpd, asStr__loc, asBl__fro_int, asBl__fro_str, asBl__fro_bl, asBl__fro_tup, asBl__fro_row, asBl__fro_lst, asBl__fro_non, asBl__fro_mach, asBl__fro_obj, asBl__tmp, asBl__tmpk, asBl__tmpd, asBl__loc, asTup__fro_int, asTup__fro_str, asTup__fro_bl, asTup__fro_tup, asTup__fro_row, asTup__fro_lst, asTup__fro_non, asTup__fro_mach, asTup__fro_obj, asTup__tmp, asTup__tmpk, asTup__tmpd, asTup__loc, contL__fro_int, contL__fro_str, contL__fro_bl, contL__fro_tup, contL__fro_row, contL__fro_lst, contL__fro_non, contL__fro_mach, contL__fro_obj, contL__tmp, contL__tmpk, contL__tmpd, contK__fro_int, contK__fro_str, contK__fro_bl, contK__fro_tup, contK__fro_row, contK__fro_lst, contK__fro_non, contK__fro_mach, contK__fro_obj, contK__tmp, contK__tmpk, contK__tmpd, contL__loc, lvL__own, lvL__pin, lvL__fro, lvL__k, lvL__d, contK__loc, kOf, g_stands_for3, b_stands_for2, hla, hs, hi]) (by
    rw [e, List.length_map, List.length_nil]
    omega)
  rw [e, List.nil_append] at hfr
  generalize (rowStep h S rows c).map encWy = ys at *
  simp [↓asStr_dB, ↓asInt_dB, ↓asBl_dB, ↓asTup_dB, ↓contL_dB, ↓asStr_dSt1, ↓asInt_dSt1, ↓asBl_dSt1, ↓asTup_dSt1, ↓contL_dSt1, ↓asStr_dSt, ↓asInt_dSt, ↓asBl_dSt, ↓asTup_dSt, ↓contL_dSt, ↓asStr_dSl, ↓asInt_dSl, ↓asBl_dSl, ↓asTup_dSl, ↓contL_dSl, ↓asStr_dCh, ↓asInt_dCh, ↓asBl_dCh, ↓asTup_dCh, ↓contL_dCh, ↓asStr_dRl, ↓asInt_dRl, ↓asBl_dRl, ↓asTup_dRl, ↓contL_dRl, ↓asStr_dHi, ↓asInt_dHi, ↓asBl_dHi, ↓asTup_dHi, ↓contL_dHi, ↓asStr_encP, ↓asInt_encP, ↓asBl_encP, ↓asTup_encP, ↓contL_encP, ↓asStr_encRO, ↓asInt_encRO, ↓asBl_encRO, ↓asTup_encRO, ↓contL_encRO, ↓asStr_encSO, ↓asInt_encSO, ↓asBl_encSO, ↓asTup_encSO, ↓contL_encSO, mW, noPin, wipeL, restL, mDNew, List.foldr_cons, List.foldr_nil, List.all_cons, List.all_nil, runF, runP, startL, startP, outD, frz1, mSeq, mNx, mRet, mIfS, mSet, mAsg, mPar', mApp, mExt, mPop, mSetIx, mAug, mFor, mT, mAnd, mOr, mNot, mAndV, mOrV, mNotV, mIf, mB0, mB1, mB2, mBN, mNil, mCons, mF, mVar, mC, mTup, mLst, mSl, mNo, mSo, mMeth, mEnum, mZip, mRng1, mRng2, inRng_3, inRng_4, inRng_6, mSeq1, mTT, opB, opI, opAdd, opIx, opLen, opTuple, opList, opInt, opMin, opAllAny, opJoin, opSl, opDict, opKGet, mGet2, opNeg, opMach, opSounds, opHist, mCh, inE, ninE, eqE, neE, isMach, callF, callP, pu1, pu2, puN, iCmp, frosOf, put, pin_fro, pin_non, pin_own, gN, gNil', gCons', gTup', lstOf, setL, ownOf, isLoc, locIs, mElt, mInn, mLcG, cT, cPos, Option.bind_some, Option.bind_none, Option.map_some, Option.map_none, List.getElem?_cons_zero, List.getElem?_cons_succ, List.set_cons_zero, List.set_cons_succ, List.map_cons, List.map_nil, List.length_cons, List.length_nil, List.cons_append, List.nil_append, List.replicate_succ, List.replicate_zero, asInt__fro_int, asInt__fro_str, asInt__fro_bl, asInt__fro_tup, asInt__fro_row, asInt__fro_lst, asInt__fro_non, asInt__fro_mach, asInt__fro_obj, asInt__tmp, asInt__tmpk, asInt__tmpd, asInt__loc, asStr__fro_int, asStr__fro_str, asStr__fro_bl, asStr__fro_tup, asStr__fro_row, asStr__fro_lst, asStr__fro_non, asStr__fro_mach, asStr__fro_obj, asStr__tmp, asStr__tmpk, asStr__tmpd, asStr__loc, asBl__fro_int, asBl__fro_str, asBl__fro_bl, asBl__fro_tup, asBl__fro_row, asBl__fro_lst, asBl__fro_non, asBl__fro_mach, asBl__fro_obj, asBl__tmp, asBl__tmpk, asBl__tmpd, asBl__loc, asTup__fro_int, asTup__fro_str, asTup__fro_bl, asTup__fro_tup, asTup__fro_row, asTup__fro_lst, asTup__fro_non, asTup__fro_mach, asTup__fro_obj, asTup__tmp, asTup__tmpk, asTup__tmpd, asTup__loc, contL__fro_int, contL__fro_str, contL__fro_bl, contL__fro_tup, contL__fro_row, contL__fro_lst, contL__fro_non, contL__fro_mach, contL__fro_obj, contL__tmp, contL__tmpk, contL__tmpd, contK__fro_int, contK__fro_str, contK__fro_bl, contK__fro_tup, contK__fro_row, contK__fro_lst, contK__fro_non, contK__fro_mach, contK__fro_obj, contK__tmp, contK__tmpk, contK__tmpd, contL__loc, lvL__own, lvL__pin, lvL__fro, lvL__k, lvL__d, contK__loc, kOf, g_stands_for4, b_stands_for3, hfr]
theorem lastOf_BeL {h : List Rl} : ∀ {w : Wd} {s : List RSt} {way : List (List RSt)} {outs : List Wd}, BeL h s → Path h s w way outs → BeL h (lastOf s way)
  | [], _, [], [], b, _ => b
  | c :: w, s, s' :: way, o :: outs, b, ⟨t, p⟩ => lastOf_BeL (s := s') (way := way) (BeL.tr b t) p
theorem WayOk.row {S : Wd} {h : List Rl} (ok : SlOk S h) {w : Wd} {p : Wy} (x : WayOk h S w p) : p.1 ≠ [] ∧ Fits h (lst p.1) ∧ InB S h (lst p.1) ∧ p.1.length = w.length + 1 ∧ p.2.length = w.length := by
  have hl := x.last
  obtain ⟨s, way, e, e1, h1, h2, h3⟩ := x
  obtain ⟨l1, l2⟩ := Path.len h2
  refine ⟨by rw [e]; simp, Fits.of ok hl ?_, hl, by rw [e, List.length_cons, l1], l2⟩
  rw [e, lst_lastOf]
  exact lastOf_BeL (BeL.start e1) h2
noncomputable def wayT (h : List Rl) (S : Wd) (w : Wd) : Wy := ((rowsT h S w).filter fun p => isEndT h (lst p.1)).headD ([], [])
theorem wayT_ok {S : Wd} {h : List Rl} (ok : SlOk S h) {w : Wd} (hw : ∀ c ∈ w, c ∈ S) : WayOk h S w (wayT h S w) ∧ (lst (wayT h S w).1).map (·.2) = h.map bend := by
  obtain ⟨p, hp, hpw, hpe⟩ := rows_one ok hw
  have e : wayT h S w = p := by unfold wayT; rw [hp]; rfl
  rw [e]
  exact ⟨hpw, hpe⟩
theorem wayT_is {S : Wd} {h : List Rl} (ok : SlOk S h) {w : Wd} (hw : ∀ c ∈ w, c ∈ S) {q : Wy} (hq : WayOk h S w q) (he : (lst q.1).map (·.2) = h.map bend) : wayT h S w = q := (wayT_ok ok hw).1.same hq ((wayT_ok ok hw).2.trans he.symm)
theorem ev_stands_for {S : Wd} {h : List Rl} (hm : MaOk S h) {w : Wd} (hw : ∀ c ∈ w, c ∈ S) (hl : w.length ≤ 1000) : F_stands_for [dMa S h, .str w] = some (encWy (wayT h S w)) := by
  have ok := hm.sl
  have h44 : 4 ^ h.length ≤ 4 ^ 4 := Nat.pow_le_pow_right (by decide) hm.hi.len
  obtain ⟨p, hp, hpw, hpe⟩ := rows_one ok hw
  have ep : wayT h S w = p := by unfold wayT; rw [hp]; rfl
  rw [ep]
  have hst := ev_starts hm
  have h0len : (startsT S h).length ≤ 256 := by
    have := rowsT_len ok (w := []) (by simp)
    unfold rowsT row0 at this
    rw [List.foldl_nil, List.length_map] at this
    omega
  have hc0 := lcG_map (vs := [6]) (g := g_stands_for1) (me := e_stands_for1) (L := [.fro (dMa S h), .fro (.str w), .none, .none, .none, .none, .none, .none, .none, .none, .none, .none]) (enc := dSt) (f := fun s => encWy ([s], [])) rfl (startsT S h) [] (fun s _ => by
    simp [↓asStr_dB, ↓asInt_dB, ↓asBl_dB, ↓asTup_dB, ↓contL_dB, ↓asStr_dSt1, ↓asInt_dSt1, ↓asBl_dSt1, ↓asTup_dSt1, ↓contL_dSt1, ↓asStr_dSt, ↓asInt_dSt, ↓asBl_dSt, ↓asTup_dSt, ↓contL_dSt, ↓asStr_dSl, ↓asInt_dSl, ↓asBl_dSl, ↓asTup_dSl, ↓contL_dSl, ↓asStr_dCh, ↓asInt_dCh, ↓asBl_dCh, ↓asTup_dCh, ↓contL_dCh, ↓asStr_dRl, ↓asInt_dRl, ↓asBl_dRl, ↓asTup_dRl, ↓contL_dRl, ↓asStr_dHi, ↓asInt_dHi, ↓asBl_dHi, ↓asTup_dHi, ↓contL_dHi, ↓asStr_encP, ↓asInt_encP, ↓asBl_encP, ↓asTup_encP, ↓contL_encP, ↓asStr_encRO, ↓asInt_encRO, ↓asBl_encRO, ↓asTup_encRO, ↓contL_encRO, ↓asStr_encSO, ↓asInt_encSO, ↓asBl_encSO, ↓asTup_encSO, ↓contL_encSO, mW, noPin, wipeL, restL, mDNew, List.foldr_cons, List.foldr_nil, List.all_cons, List.all_nil, runF, runP, startL, startP, outD, frz1, mSeq, mNx, mRet, mIfS, mSet, mAsg, mPar', mApp, mExt, mPop, mSetIx, mAug, mFor, mT, mAnd, mOr, mNot, mAndV, mOrV, mNotV, mIf, mB0, mB1, mB2, mBN, mNil, mCons, mF, mVar, mC, mTup, mLst, mSl, mNo, mSo, mMeth, mEnum, mZip, mRng1, mRng2, inRng_3, inRng_4, inRng_6, mSeq1, mTT, opB, opI, opAdd, opIx, opLen, opTuple, opList, opInt, opMin, opAllAny, opJoin, opSl, opDict, opKGet, mGet2, opNeg, opMach, opSounds, opHist, mCh, inE, ninE, eqE, neE, isMach, callF, callP, pu1, pu2, puN, iCmp, frosOf, put, pin_fro, pin_non, pin_own, gN, gNil', gCons', gTup', lstOf, setL, ownOf, isLoc, locIs, mElt, mInn, mLcG, cT, cPos, Option.bind_some, Option.bind_none, Option.map_some, Option.map_none, List.getElem?_cons_zero, List.getElem?_cons_succ, List.set_cons_zero, List.set_cons_succ, List.map_cons, List.map_nil, List.length_cons, List.length_nil, List.cons_append, List.nil_append, List.replicate_succ, List.replicate_zero, asInt__fro_int, asInt__fro_str, asInt__fro_bl, asInt__fro_tup, asInt__fro_row, asInt__fro_lst, asInt__fro_non, asInt__fro_mach, asInt__fro_obj, asInt__tmp, asInt__tmpk, asInt__tmpd, asInt__loc, asStr__fro_int, asStr__fro_str, asStr__fro_bl, asStr__fro_tup, asStr__fro_row, asStr__fro_lst, asStr__fro_non, asStr__fro_mach, asStr__fro_obj, asStr__tmp, asStr__tmpk, asStr__tmpd, asStr__loc, asBl__fro_int, asBl__fro_str, asBl__fro_bl, asBl__fro_tup, asBl__fro_row, asBl__fro_lst, asBl__fro_non, asBl__fro_mach, asBl__fro_obj, asBl__tmp, asBl__tmpk, asBl__tmpd, asBl__loc, asTup__fro_int, asTup__fro_str, asTup__fro_bl, asTup__fro_tup, asTup__fro_row, asTup__fro_lst, asTup__fro_non, asTup__fro_mach, asTup__fro_obj, asTup__tmp, asTup__tmpk, asTup__tmpd, asTup__loc, contL__fro_int, contL__fro_str, contL__fro_bl, contL__fro_tup, contL__fro_row, contL__fro_lst, contL__fro_non, contL__fro_mach, contL__fro_obj, contL__tmp, contL__tmpk, contL__tmpd, contK__fro_int, contK__fro_str, contK__fro_bl, contK__fro_tup, contK__fro_row, contK__fro_lst, contK__fro_non, contK__fro_mach, contK__fro_obj, contK__tmp, contK__tmpk, contK__tmpd, contL__loc, lvL__own, lvL__pin, lvL__fro, lvL__k, lvL__d, contK__loc, kOf, lcE, g_stands_for1, e_stands_for1, encWy]) (by rw [LIM_val]; simp; omega)
  have e0 : (startsT S h).map (fun s => encWy ([s], [])) = (row0 h S).map encWy := by unfold row0; rw [List.map_map]; rfl
  rw [e0, List.nil_append] at hc0
  obtain ⟨hf, _⟩ := forR_fold (g := g_stands_for4) (m := b_stands_for3) (fun c : Nat => D.str [c]) (fun rows : List Wy => [.fro (dMa S h), .fro (.str w), .own (rows.map encWy), .none, .none, .none, .none, .none, .none, .none, .none, .none]) (rowStep h S)
    (fun rest rows => ∃ done, done ++ rest = w ∧ rows = rowsT h S done)
    (fun c rest rows ⟨done, e1, e2⟩ => by
      have hd : ∀ x ∈ done ++ [c], x ∈ S := fun x hx => hw x (by
        rw [← e1]
        rcases List.mem_append.mp hx with z | z
        · exact List.mem_append_left _ z
        · rw [List.mem_singleton.mp z]; exact List.mem_append_right _ (by simp))
      have hd0 : ∀ x ∈ done, x ∈ S := fun x hx => hd x (by simp [hx])
      have hdl : done.length ≤ 1000 := by have := congrArg List.length e1; rw [List.length_append] at this; omega
      have e3 : rowsT h S (done ++ [c]) = rowStep h S rows c := by rw [e2, rowsT_snoc]
      refine ⟨sf_row hm (hd c (by simp)) (fun q hq => ?_) ?_, done ++ [c], by rw [← e1]; simp, e3.symm⟩
      · rw [e2] at hq
        obtain ⟨m1, m2, m3, m4, m5⟩ := WayOk.row ok ((rowsT_mem ok hd0 q).mp hq)
        exact ⟨m1, m2, m3, by omega, by omega⟩
      · rw [← e3]
        have := rowsT_len ok hd
        omega) w (row0 h S) ⟨[], rfl, rfl⟩
  have ef : w.foldl (rowStep h S) (row0 h S) = rowsT h S w := rfl
  rw [ef] at hf
  have hrl := rowsT_len ok hw
  have hc1 := lcG_filt (vs := [9]) (g := g_stands_for5) (tt := t_stands_for1) (me := e_stands_for2) (L := [.fro (dMa S h), .none, .fro (.lst ((rowsT h S w).map encWy)), .none, .none, .none, .none, .none, .none, .none, .none, .none]) (enc := encWy) (f := encWy) (p := fun q => isEndT h (lst q.1)) rfl (rowsT h S w) [] (fun q hq => by
    obtain ⟨m1, m2, m3, m4, m5⟩ := WayOk.row ok ((rowsT_mem ok hw q).mp hq)
    have he := ev_is_end hm (st := lst q.1)
    have hla := last_at m1
    unfold encWy
    generalize q.1.map dSt = as at *
    generalize q.2.map D.str = bs at *
    cases hb : isEndT h (lst q.1) with
    | true =>
      rw [hb] at he
      simp [↓asStr_dB, ↓asInt_dB, ↓asBl_dB, ↓asTup_dB, ↓contL_dB, ↓asStr_dSt1, ↓asInt_dSt1, ↓asBl_dSt1, ↓asTup_dSt1, ↓contL_dSt1, ↓asStr_dSt, ↓asInt_dSt, ↓asBl_dSt, ↓asTup_dSt, ↓contL_dSt, ↓asStr_dSl, ↓asInt_dSl, ↓asBl_dSl, ↓asTup_dSl, ↓contL_dSl, ↓asStr_dCh, ↓asInt_dCh, ↓asBl_dCh, ↓asTup_dCh, ↓contL_dCh, ↓asStr_dRl, ↓asInt_dRl, ↓asBl_dRl, ↓asTup_dRl, ↓contL_dRl, ↓asStr_dHi, ↓asInt_dHi, ↓asBl_dHi, ↓asTup_dHi, ↓contL_dHi, ↓asStr_encP, ↓asInt_encP, ↓asBl_encP, ↓asTup_encP, ↓contL_encP, ↓asStr_encRO, ↓asInt_encRO, ↓asBl_encRO, ↓asTup_encRO, ↓contL_encRO, ↓asStr_encSO, ↓asInt_encSO, ↓asBl_encSO, ↓asTup_encSO, ↓contL_encSO, mW, noPin, wipeL, restL, mDNew, List.foldr_cons, List.foldr_nil, List.all_cons, List.all_nil, runF, runP, startL, startP, outD, frz1, mSeq, mNx, mRet, mIfS, mSet, mAsg, mPar', mApp, mExt, mPop, mSetIx, mAug, mFor, mT, mAnd, mOr, mNot, mAndV, mOrV, mNotV, mIf, mB0, mB1, mB2, mBN, mNil, mCons, mF, mVar, mC, mTup, mLst, mSl, mNo, mSo, mMeth, mEnum, mZip, mRng1, mRng2, inRng_3, inRng_4, inRng_6, mSeq1, mTT, opB, opI, opAdd, opIx, opLen, opTuple, opList, opInt, opMin, opAllAny, opJoin, opSl, opDict, opKGet, mGet2, opNeg, opMach, opSounds, opHist, mCh, inE, ninE, eqE, neE, isMach, callF, callP, pu1, pu2, puN, iCmp, frosOf, put, pin_fro, pin_non, pin_own, gN, gNil', gCons', gTup', lstOf, setL, ownOf, isLoc, locIs, mElt, mInn, mLcG, cT, cPos, Option.bind_some, Option.bind_none, Option.map_some, Option.map_none, List.getElem?_cons_zero, List.getElem?_cons_succ, List.set_cons_zero, List.set_cons_succ, List.map_cons, List.map_nil, List.length_cons, List.length_nil, List.cons_append, List.nil_append, List.replicate_succ, List.replicate_zero, asInt__fro_int, asInt__fro_str, asInt__fro_bl, asInt__fro_tup, asInt__fro_row, asInt__fro_lst, asInt__fro_non, asInt__fro_mach, asInt__fro_obj, asInt__tmp, asInt__tmpk, asInt__tmpd, asInt__loc, asStr__fro_int, asStr__fro_str, asStr__fro_bl, asStr__fro_tup, asStr__fro_row, asStr__fro_lst, asStr__fro_non, asStr__fro_mach, asStr__fro_obj, asStr__tmp, asStr__tmpk, asStr__tmpd, asStr__loc, asBl__fro_int, asBl__fro_str, asBl__fro_bl, asBl__fro_tup, asBl__fro_row, asBl__fro_lst, asBl__fro_non, asBl__fro_mach, asBl__fro_obj, asBl__tmp, asBl__tmpk, asBl__tmpd, asBl__loc, asTup__fro_int, asTup__fro_str, asTup__fro_bl, asTup__fro_tup, asTup__fro_row, asTup__fro_lst, asTup__fro_non, asTup__fro_mach, asTup__fro_obj, asTup__tmp, asTup__tmpk, asTup__tmpd, asTup__loc, contL__fro_int, contL__fro_str, contL__fro_bl, contL__fro_tup, contL__fro_row, contL__fro_lst, contL__fro_non, contL__fro_mach, contL__fro_obj, contL__tmp, contL__tmpk, contL__tmpd, contK__fro_int, contK__fro_str, contK__fro_bl, contK__fro_tup, contK__fro_row, contK__fro_lst, contK__fro_non, contK__fro_mach, contK__fro_obj, contK__tmp, contK__tmpk, contK__tmpd, contL__loc, lvL__own, lvL__pin, lvL__fro, lvL__k, lvL__d, contK__loc, kOf, lcT, g_stands_for5, t_stands_for1, e_stands_for2, at2_0, hla, he]
    | false =>
      rw [hb] at he
      simp [↓asStr_dB, ↓asInt_dB, ↓asBl_dB, ↓asTup_dB, ↓contL_dB, ↓asStr_dSt1, ↓asInt_dSt1, ↓asBl_dSt1, ↓asTup_dSt1, ↓contL_dSt1, ↓asStr_dSt, ↓asInt_dSt, ↓asBl_dSt, ↓asTup_dSt, ↓contL_dSt, ↓asStr_dSl, ↓asInt_dSl, ↓asBl_dSl, ↓asTup_dSl, ↓contL_dSl, ↓asStr_dCh, ↓asInt_dCh, ↓asBl_dCh, ↓asTup_dCh, ↓contL_dCh, ↓asStr_dRl, ↓asInt_dRl, ↓asBl_dRl, ↓asTup_dRl, ↓contL_dRl, ↓asStr_dHi, ↓asInt_dHi, ↓asBl_dHi, ↓asTup_dHi, ↓contL_dHi, ↓asStr_encP, ↓asInt_encP, ↓asBl_encP, ↓asTup_encP, ↓contL_encP, ↓asStr_encRO, ↓asInt_encRO, ↓asBl_encRO, ↓asTup_encRO, ↓contL_encRO, ↓asStr_encSO, ↓asInt_encSO, ↓asBl_encSO, ↓asTup_encSO, ↓contL_encSO, mW, noPin, wipeL, restL, mDNew, List.foldr_cons, List.foldr_nil, List.all_cons, List.all_nil, runF, runP, startL, startP, outD, frz1, mSeq, mNx, mRet, mIfS, mSet, mAsg, mPar', mApp, mExt, mPop, mSetIx, mAug, mFor, mT, mAnd, mOr, mNot, mAndV, mOrV, mNotV, mIf, mB0, mB1, mB2, mBN, mNil, mCons, mF, mVar, mC, mTup, mLst, mSl, mNo, mSo, mMeth, mEnum, mZip, mRng1, mRng2, inRng_3, inRng_4, inRng_6, mSeq1, mTT, opB, opI, opAdd, opIx, opLen, opTuple, opList, opInt, opMin, opAllAny, opJoin, opSl, opDict, opKGet, mGet2, opNeg, opMach, opSounds, opHist, mCh, inE, ninE, eqE, neE, isMach, callF, callP, pu1, pu2, puN, iCmp, frosOf, put, pin_fro, pin_non, pin_own, gN, gNil', gCons', gTup', lstOf, setL, ownOf, isLoc, locIs, mElt, mInn, mLcG, cT, cPos, Option.bind_some, Option.bind_none, Option.map_some, Option.map_none, List.getElem?_cons_zero, List.getElem?_cons_succ, List.set_cons_zero, List.set_cons_succ, List.map_cons, List.map_nil, List.length_cons, List.length_nil, List.cons_append, List.nil_append, List.replicate_succ, List.replicate_zero, asInt__fro_int, asInt__fro_str, asInt__fro_bl, asInt__fro_tup, asInt__fro_row, asInt__fro_lst, asInt__fro_non, asInt__fro_mach, asInt__fro_obj, asInt__tmp, asInt__tmpk, asInt__tmpd, asInt__loc, asStr__fro_int, asStr__fro_str, asStr__fro_bl, asStr__fro_tup, asStr__fro_row, asStr__fro_lst, asStr__fro_non, asStr__fro_mach, asStr__fro_obj, asStr__tmp, asStr__tmpk, asStr__tmpd, asStr__loc, asBl__fro_int, asBl__fro_str, asBl__fro_bl, asBl__fro_tup, asBl__fro_row, asBl__fro_lst, asBl__fro_non, asBl__fro_mach, asBl__fro_obj, asBl__tmp, asBl__tmpk, asBl__tmpd, asBl__loc, asTup__fro_int, asTup__fro_str, asTup__fro_bl, asTup__fro_tup, asTup__fro_row, asTup__fro_lst, asTup__fro_non, asTup__fro_mach, asTup__fro_obj, asTup__tmp, asTup__tmpk, asTup__tmpd, asTup__loc, contL__fro_int, contL__fro_str, contL__fro_bl, contL__fro_tup, contL__fro_row, contL__fro_lst, contL__fro_non, contL__fro_mach, contL__fro_obj, contL__tmp, contL__tmpk, contL__tmpd, contK__fro_int, contK__fro_str, contK__fro_bl, contK__fro_tup, contK__fro_row, contK__fro_lst, contK__fro_non, contK__fro_mach, contK__fro_obj, contK__tmp, contK__tmpk, contK__tmpd, contL__loc, lvL__own, lvL__pin, lvL__fro, lvL__k, lvL__d, contK__loc, kOf, lcT, g_stands_for5, t_stands_for1, e_stands_for2, at2_0, hla, he]) (by rw [LIM_val]; simp; omega)
  rw [hp, List.nil_append] at hc1
  have hrw : rows w = w.map fun c => D.str [c] := rfl
  have a0 : atI [encWy p] 0 = some (encWy p) := rfl
  simp only [List.map_cons, List.map_nil] at hc1
  unfold F_stands_for m_stands_for
  generalize (rowsT h S w).map encWy = ys at *
  generalize (row0 h S).map encWy = zs at *
  generalize (startsT S h).map dSt = us at *
  generalize encWy p = pd at *
  simp [↓asStr_dB, ↓asInt_dB, ↓asBl_dB, ↓asTup_dB, ↓contL_dB, ↓asStr_dSt1, ↓asInt_dSt1, ↓asBl_dSt1, ↓asTup_dSt1, ↓contL_dSt1, ↓asStr_dSt, ↓asInt_dSt, ↓asBl_dSt, ↓asTup_dSt, ↓contL_dSt, ↓asStr_dSl, ↓asInt_dSl, ↓asBl_dSl, ↓asTup_dSl, ↓contL_dSl, ↓asStr_dCh, ↓asInt_dCh, ↓asBl_dCh, ↓asTup_dCh, ↓contL_dCh, ↓asStr_dRl, ↓asInt_dRl, ↓asBl_dRl, ↓asTup_dRl, ↓contL_dRl, ↓asStr_dHi, ↓asInt_dHi, ↓asBl_dHi, ↓asTup_dHi, ↓contL_dHi, ↓asStr_encP, ↓asInt_encP, ↓asBl_encP, ↓asTup_encP, ↓contL_encP, ↓asStr_encRO, ↓asInt_encRO, ↓asBl_encRO, ↓asTup_encRO, ↓contL_encRO, ↓asStr_encSO, ↓asInt_encSO, ↓asBl_encSO, ↓asTup_encSO, ↓contL_encSO, mW, noPin, wipeL, restL, mDNew, List.foldr_cons, List.foldr_nil, List.all_cons, List.all_nil, runF, runP, startL, startP, outD, frz1, mSeq, mNx, mRet, mIfS, mSet, mAsg, mPar', mApp, mExt, mPop, mSetIx, mAug, mFor, mT, mAnd, mOr, mNot, mAndV, mOrV, mNotV, mIf, mB0, mB1, mB2, mBN, mNil, mCons, mF, mVar, mC, mTup, mLst, mSl, mNo, mSo, mMeth, mEnum, mZip, mRng1, mRng2, inRng_3, inRng_4, inRng_6, mSeq1, mTT, opB, opI, opAdd, opIx, opLen, opTuple, opList, opInt, opMin, opAllAny, opJoin, opSl, opDict, opKGet, mGet2, opNeg, opMach, opSounds, opHist, mCh, inE, ninE, eqE, neE, isMach, callF, callP, pu1, pu2, puN, iCmp, frosOf, put, pin_fro, pin_non, pin_own, gN, gNil', gCons', gTup', lstOf, setL, ownOf, isLoc, locIs, mElt, mInn, mLcG, cT, cPos, Option.bind_some, Option.bind_none, Option.map_some, Option.map_none, List.getElem?_cons_zero, List.getElem?_cons_succ, List.set_cons_zero, List.set_cons_succ, List.map_cons, List.map_nil, List.length_cons, List.length_nil, List.cons_append, List.nil_append, List.replicate_succ, List.replicate_zero, asInt__fro_int, asInt__fro_str, asInt__fro_bl, asInt__fro_tup, asInt__fro_row, asInt__fro_lst, asInt__fro_non, asInt__fro_mach, asInt__fro_obj, asInt__tmp, asInt__tmpk, asInt__tmpd, asInt__loc, asStr__fro_int, asStr__fro_str, asStr__fro_bl, asStr__fro_tup, asStr__fro_row, asStr__fro_lst, asStr__fro_non, asStr__fro_mach, asStr__fro_obj, asStr__tmp, asStr__tmpk, asStr__tmpd, asStr__loc, asBl__fro_int, asBl__fro_str, asBl__fro_bl, asBl__fro_tup, asBl__fro_row, asBl__fro_lst, asBl__fro_non, asBl__fro_mach, asBl__fro_obj, asBl__tmp, asBl__tmpk, asBl__tmpd, asBl__loc, asTup__fro_int, asTup__fro_str, asTup__fro_bl, asTup__fro_tup, asTup__fro_row, asTup__fro_lst, asTup__fro_non, asTup__fro_mach, asTup__fro_obj, asTup__tmp, asTup__tmpk, asTup__tmpd, asTup__loc, contL__fro_int, contL__fro_str, contL__fro_bl, contL__fro_tup, contL__fro_row, contL__fro_lst, contL__fro_non, contL__fro_mach, contL__fro_obj, contL__tmp, contL__tmpk, contL__tmpd, contK__fro_int, contK__fro_str, contK__fro_bl, contK__fro_tup, contK__fro_row, contK__fro_lst, contK__fro_non, contK__fro_mach, contK__fro_obj, contK__tmp, contK__tmpk, contK__tmpd, contL__loc, lvL__own, lvL__pin, lvL__fro, lvL__k, lvL__d, contK__loc, kOf, hst, hc0, hrw, hf, hc1, a0]
end SS

/-! what is drawn -/
namespace SS
open PySem PySem.Spec PyProof.Rows L2

theorem strs_of {Q : Wd → Prop} : ∀ {zs : List D}, (∀ y ∈ zs, ∃ x, y = .str x ∧ Q x) → ∃ xs : List Wd, zs = xs.map D.str ∧ ∀ x ∈ xs, Q x
  | [], _ => ⟨[], rfl, by simp⟩
  | y :: zs, h => by
    obtain ⟨x, rfl, hx⟩ := h y (by simp)
    obtain ⟨xs, rfl, hxs⟩ := strs_of (zs := zs) fun z hz => h z (by simp [hz])
    exact ⟨x :: xs, rfl, fun z hz => by
      rcases List.mem_cons.mp hz with e | e
      · subst e; exact hx
      · exact hxs z e⟩
/-- one-letter texts put together -/
theorem chrs_flat {S : Wd} : ∀ {xs : List Wd}, (∀ x ∈ xs, ∃ c ∈ S, x = [c]) → xs.flatten.length = xs.length ∧ (xs.map List.length).sum = xs.length ∧ ∀ c ∈ xs.flatten, c ∈ S
  | [], _ => by simp
  | x :: xs, h => by
    obtain ⟨c, hc, rfl⟩ := h x (by simp)
    obtain ⟨h1, h2, h3⟩ := chrs_flat (xs := xs) fun y hy => h y (by simp [hy])
    refine ⟨by simp [h1] <;> omega, by simp [h2] <;> omega, fun z hz => ?_⟩
    rw [List.flatten_cons, List.singleton_append] at hz
    rcases List.mem_cons.mp hz with e | e
    · subst e; exact hc
    · exact h3 z e
theorem rows_mem {S : Wd} {x : D} (h : x ∈ rows S) : ∃ c ∈ S, x = .str [c] := by
  unfold rows at h
  obtain ⟨c, hc, rfl⟩ := List.mem_map.mp h
  exact ⟨c, hc, rfl⟩
/-- a sound drawn -/
theorem pick {S : Wd} (hS : AlOk S) {v : Int} (h0 : 0 ≤ v) (h1 : v < S.length) : ∃ c ∈ S, atI S v = some c := by
  obtain ⟨n, rfl⟩ : ∃ n : Nat, v = n := ⟨v.toNat, by omega⟩
  have hn : n < S.length := by omega
  exact ⟨S[n], List.getElem_mem hn, by rw [atI0, List.getElem?_eq_getElem hn]⟩
theorem slen {S : Wd} (hS : AlOk S) : 0 < S.length := List.length_pos_iff.mpr hS.ne
theorem lot_ex {S : Wd} (hS : AlOk S) {l : List D} (h : PoolOk l) : ∃ x l', P__law_lot l [.str S] = some (.str x, l') ∧ PoolOk l' ∧ x.length ≤ S.length ∧ ∀ c ∈ x, c ∈ S := by
  have hz : S.length ≤ LIM := Nat.le_trans hS.len (by decide)
  obtain ⟨zs, L2, h1, ⟨l1, hp1, rfl⟩, h3, h4⟩ := lc_ex (vs := [3]) (g := g__law_lot1) (tt := t__law_lot1) (me := e__law_lot1) (fun L => ∃ l, PoolOk l ∧ L = [.pin l, .fro (.str S), .none, .none]) (fun y => ∃ x, y = .str x ∧ ∃ c ∈ S, x = [c]) (rows S) [] [.pin l, .fro (.str S), .none, .none]
    (fun d hd L ⟨l, hp, hL⟩ => by
      subst hL
      obtain ⟨c, hc, rfl⟩ := rows_mem hd
      obtain ⟨v, l', hv, hp', _, _⟩ := draw_ex hp (m := 2) (by decide) (by decide)
      refine ⟨rfl, [.pin l, .fro (.str S), .none, .fro (.str [c])], by simp [mW, noPin, wipeL, restL, mDNew, List.foldr_cons, List.foldr_nil, List.all_cons, List.all_nil, runF, runP, startL, startP, outD, frz1, mSeq, mNx, mRet, mIfS, mSet, mAsg, mPar', mApp, mExt, mPop, mSetIx, mAug, mFor, mT, mAnd, mOr, mNot, mAndV, mOrV, mNotV, mIf, mB0, mB1, mB2, mBN, mNil, mCons, mF, mVar, mC, mTup, mLst, mSl, mNo, mSo, mMeth, mEnum, mZip, mRng1, mRng2, inRng_3, inRng_4, inRng_6, mSeq1, mTT, opB, opI, opAdd, opIx, opLen, opTuple, opList, opInt, opMin, opAllAny, opJoin, opSl, opDict, opKGet, mGet2, opNeg, opMach, opSounds, opHist, mCh, inE, ninE, eqE, neE, isMach, callF, callP, pu1, pu2, puN, iCmp, frosOf, put, pin_fro, pin_non, pin_own, gN, gNil', gCons', gTup', lstOf, setL, ownOf, isLoc, locIs, mElt, mInn, mLcG, cT, cPos, Option.bind_some, Option.bind_none, Option.map_some, Option.map_none, List.getElem?_cons_zero, List.getElem?_cons_succ, List.set_cons_zero, List.set_cons_succ, List.map_cons, List.map_nil, List.length_cons, List.length_nil, List.cons_append, List.nil_append, List.replicate_succ, List.replicate_zero, asInt__fro_int, asInt__fro_str, asInt__fro_bl, asInt__fro_tup, asInt__fro_row, asInt__fro_lst, asInt__fro_non, asInt__fro_mach, asInt__fro_obj, asInt__tmp, asInt__tmpk, asInt__tmpd, asInt__loc, asStr__fro_int, asStr__fro_str, asStr__fro_bl, asStr__fro_tup, asStr__fro_row, asStr__fro_lst, asStr__fro_non, asStr__fro_mach, asStr__fro_obj, asStr__tmp, asStr__tmpk, asStr__tmpd, asStr__loc, asBl__fro_int, asBl__fro_str, asBl__fro_bl, asBl__fro_tup, asBl__fro_row, asBl__fro_lst, asBl__fro_non, asBl__fro_mach, asBl__fro_obj, asBl__tmp, asBl__tmpk, asBl__tmpd, asBl__loc, asTup__fro_int, asTup__fro_str, asTup__fro_bl, asTup__fro_tup, asTup__fro_row, asTup__fro_lst, asTup__fro_non, asTup__fro_mach, asTup__fro_obj, asTup__tmp, asTup__tmpk, asTup__tmpd, asTup__loc, contL__fro_int, contL__fro_str, contL__fro_bl, contL__fro_tup, contL__fro_row, contL__fro_lst, contL__fro_non, contL__fro_mach, contL__fro_obj, contL__tmp, contL__tmpk, contL__tmpd, contK__fro_int, contK__fro_str, contK__fro_bl, contK__fro_tup, contK__fro_row, contK__fro_lst, contK__fro_non, contK__fro_mach, contK__fro_obj, contK__tmp, contK__tmpk, contK__tmpd, contL__loc, lvL__own, lvL__pin, lvL__fro, lvL__k, lvL__d, contK__loc, kOf, g__law_lot1, wipeL], ?_⟩
      by_cases hv0 : v = 0
      · subst hv0
        exact .inr ⟨[.pin l', .fro (.str S), .none, .fro (.str [c])], .str [c], [.pin l', .fro (.str S), .none, .fro (.str [c])], by simp [mW, noPin, wipeL, restL, mDNew, List.foldr_cons, List.foldr_nil, List.all_cons, List.all_nil, runF, runP, startL, startP, outD, frz1, mSeq, mNx, mRet, mIfS, mSet, mAsg, mPar', mApp, mExt, mPop, mSetIx, mAug, mFor, mT, mAnd, mOr, mNot, mAndV, mOrV, mNotV, mIf, mB0, mB1, mB2, mBN, mNil, mCons, mF, mVar, mC, mTup, mLst, mSl, mNo, mSo, mMeth, mEnum, mZip, mRng1, mRng2, inRng_3, inRng_4, inRng_6, mSeq1, mTT, opB, opI, opAdd, opIx, opLen, opTuple, opList, opInt, opMin, opAllAny, opJoin, opSl, opDict, opKGet, mGet2, opNeg, opMach, opSounds, opHist, mCh, inE, ninE, eqE, neE, isMach, callF, callP, pu1, pu2, puN, iCmp, frosOf, put, pin_fro, pin_non, pin_own, gN, gNil', gCons', gTup', lstOf, setL, ownOf, isLoc, locIs, mElt, mInn, mLcG, cT, cPos, Option.bind_some, Option.bind_none, Option.map_some, Option.map_none, List.getElem?_cons_zero, List.getElem?_cons_succ, List.set_cons_zero, List.set_cons_succ, List.map_cons, List.map_nil, List.length_cons, List.length_nil, List.cons_append, List.nil_append, List.replicate_succ, List.replicate_zero, asInt__fro_int, asInt__fro_str, asInt__fro_bl, asInt__fro_tup, asInt__fro_row, asInt__fro_lst, asInt__fro_non, asInt__fro_mach, asInt__fro_obj, asInt__tmp, asInt__tmpk, asInt__tmpd, asInt__loc, asStr__fro_int, asStr__fro_str, asStr__fro_bl, asStr__fro_tup, asStr__fro_row, asStr__fro_lst, asStr__fro_non, asStr__fro_mach, asStr__fro_obj, asStr__tmp, asStr__tmpk, asStr__tmpd, asStr__loc, asBl__fro_int, asBl__fro_str, asBl__fro_bl, asBl__fro_tup, asBl__fro_row, asBl__fro_lst, asBl__fro_non, asBl__fro_mach, asBl__fro_obj, asBl__tmp, asBl__tmpk, asBl__tmpd, asBl__loc, asTup__fro_int, asTup__fro_str, asTup__fro_bl, asTup__fro_tup, asTup__fro_row, asTup__fro_lst, asTup__fro_non, asTup__fro_mach, asTup__fro_obj, asTup__tmp, asTup__tmpk, asTup__tmpd, asTup__loc, contL__fro_int, contL__fro_str, contL__fro_bl, contL__fro_tup, contL__fro_row, contL__fro_lst, contL__fro_non, contL__fro_mach, contL__fro_obj, contL__tmp, contL__tmpk, contL__tmpd, contK__fro_int, contK__fro_str, contK__fro_bl, contK__fro_tup, contK__fro_row, contK__fro_lst, contK__fro_non, contK__fro_mach, contK__fro_obj, contK__tmp, contK__tmpk, contK__tmpd, contL__loc, lvL__own, lvL__pin, lvL__fro, lvL__k, lvL__d, contK__loc, kOf, t__law_lot1, hv, datE, cok_int, deq_int], by simp [mW, noPin, wipeL, restL, mDNew, List.foldr_cons, List.foldr_nil, List.all_cons, List.all_nil, runF, runP, startL, startP, outD, frz1, mSeq, mNx, mRet, mIfS, mSet, mAsg, mPar', mApp, mExt, mPop, mSetIx, mAug, mFor, mT, mAnd, mOr, mNot, mAndV, mOrV, mNotV, mIf, mB0, mB1, mB2, mBN, mNil, mCons, mF, mVar, mC, mTup, mLst, mSl, mNo, mSo, mMeth, mEnum, mZip, mRng1, mRng2, inRng_3, inRng_4, inRng_6, mSeq1, mTT, opB, opI, opAdd, opIx, opLen, opTuple, opList, opInt, opMin, opAllAny, opJoin, opSl, opDict, opKGet, mGet2, opNeg, opMach, opSounds, opHist, mCh, inE, ninE, eqE, neE, isMach, callF, callP, pu1, pu2, puN, iCmp, frosOf, put, pin_fro, pin_non, pin_own, gN, gNil', gCons', gTup', lstOf, setL, ownOf, isLoc, locIs, mElt, mInn, mLcG, cT, cPos, Option.bind_some, Option.bind_none, Option.map_some, Option.map_none, List.getElem?_cons_zero, List.getElem?_cons_succ, List.set_cons_zero, List.set_cons_succ, List.map_cons, List.map_nil, List.length_cons, List.length_nil, List.cons_append, List.nil_append, List.replicate_succ, List.replicate_zero, asInt__fro_int, asInt__fro_str, asInt__fro_bl, asInt__fro_tup, asInt__fro_row, asInt__fro_lst, asInt__fro_non, asInt__fro_mach, asInt__fro_obj, asInt__tmp, asInt__tmpk, asInt__tmpd, asInt__loc, asStr__fro_int, asStr__fro_str, asStr__fro_bl, asStr__fro_tup, asStr__fro_row, asStr__fro_lst, asStr__fro_non, asStr__fro_mach, asStr__fro_obj, asStr__tmp, asStr__tmpk, asStr__tmpd, asStr__loc, asBl__fro_int, asBl__fro_str, asBl__fro_bl, asBl__fro_tup, asBl__fro_row, asBl__fro_lst, asBl__fro_non, asBl__fro_mach, asBl__fro_obj, asBl__tmp, asBl__tmpk, asBl__tmpd, asBl__loc, asTup__fro_int, asTup__fro_str, asTup__fro_bl, asTup__fro_tup, asTup__fro_row, asTup__fro_lst, asTup__fro_non, asTup__fro_mach, asTup__fro_obj, asTup__tmp, asTup__tmpk, asTup__tmpd, asTup__loc, contL__fro_int, contL__fro_str, contL__fro_bl, contL__fro_tup, contL__fro_row, contL__fro_lst, contL__fro_non, contL__fro_mach, contL__fro_obj, contL__tmp, contL__tmpk, contL__tmpd, contK__fro_int, contK__fro_str, contK__fro_bl, contK__fro_tup, contK__fro_row, contK__fro_lst, contK__fro_non, contK__fro_mach, contK__fro_obj, contK__tmp, contK__tmpk, contK__tmpd, contL__loc, lvL__own, lvL__pin, lvL__fro, lvL__k, lvL__d, contK__loc, kOf, e__law_lot1], ⟨_, rfl, c, hc, rfl⟩, l', hp', by simp [restL]⟩
      · exact .inl ⟨[.pin l', .fro (.str S), .none, .fro (.str [c])], by simp [mW, noPin, wipeL, restL, mDNew, List.foldr_cons, List.foldr_nil, List.all_cons, List.all_nil, runF, runP, startL, startP, outD, frz1, mSeq, mNx, mRet, mIfS, mSet, mAsg, mPar', mApp, mExt, mPop, mSetIx, mAug, mFor, mT, mAnd, mOr, mNot, mAndV, mOrV, mNotV, mIf, mB0, mB1, mB2, mBN, mNil, mCons, mF, mVar, mC, mTup, mLst, mSl, mNo, mSo, mMeth, mEnum, mZip, mRng1, mRng2, inRng_3, inRng_4, inRng_6, mSeq1, mTT, opB, opI, opAdd, opIx, opLen, opTuple, opList, opInt, opMin, opAllAny, opJoin, opSl, opDict, opKGet, mGet2, opNeg, opMach, opSounds, opHist, mCh, inE, ninE, eqE, neE, isMach, callF, callP, pu1, pu2, puN, iCmp, frosOf, put, pin_fro, pin_non, pin_own, gN, gNil', gCons', gTup', lstOf, setL, ownOf, isLoc, locIs, mElt, mInn, mLcG, cT, cPos, Option.bind_some, Option.bind_none, Option.map_some, Option.map_none, List.getElem?_cons_zero, List.getElem?_cons_succ, List.set_cons_zero, List.set_cons_succ, List.map_cons, List.map_nil, List.length_cons, List.length_nil, List.cons_append, List.nil_append, List.replicate_succ, List.replicate_zero, asInt__fro_int, asInt__fro_str, asInt__fro_bl, asInt__fro_tup, asInt__fro_row, asInt__fro_lst, asInt__fro_non, asInt__fro_mach, asInt__fro_obj, asInt__tmp, asInt__tmpk, asInt__tmpd, asInt__loc, asStr__fro_int, asStr__fro_str, asStr__fro_bl, asStr__fro_tup, asStr__fro_row, asStr__fro_lst, asStr__fro_non, asStr__fro_mach, asStr__fro_obj, asStr__tmp, asStr__tmpk, asStr__tmpd, asStr__loc, asBl__fro_int, asBl__fro_str, asBl__fro_bl, asBl__fro_tup, asBl__fro_row, asBl__fro_lst, asBl__fro_non, asBl__fro_mach, asBl__fro_obj, asBl__tmp, asBl__tmpk, asBl__tmpd, asBl__loc, asTup__fro_int, asTup__fro_str, asTup__fro_bl, asTup__fro_tup, asTup__fro_row, asTup__fro_lst, asTup__fro_non, asTup__fro_mach, asTup__fro_obj, asTup__tmp, asTup__tmpk, asTup__tmpd, asTup__loc, contL__fro_int, contL__fro_str, contL__fro_bl, contL__fro_tup, contL__fro_row, contL__fro_lst, contL__fro_non, contL__fro_mach, contL__fro_obj, contL__tmp, contL__tmpk, contL__tmpd, contK__fro_int, contK__fro_str, contK__fro_bl, contK__fro_tup, contK__fro_row, contK__fro_lst, contK__fro_non, contK__fro_mach, contK__fro_obj, contK__tmp, contK__tmpk, contK__tmpd, contL__loc, lvL__own, lvL__pin, lvL__fro, lvL__k, lvL__d, contK__loc, kOf, t__law_lot1, hv, hv0, datE, cok_int, deq_int], l', hp', by simp [restL]⟩) ⟨l, h, rfl⟩ (by simpa [rows] using hz)
  obtain ⟨xs, rfl, hxs⟩ := strs_of h3
  rw [List.nil_append] at h1
  rw [List.length_map] at h4
  have hrl : (rows S).length = S.length := by simp [rows]
  obtain ⟨f1, f2, f3⟩ := chrs_flat hxs
  have hst := strsOf_map xs
  have hsum : (xs.map List.length).sum ≤ LIM := by rw [f2]; omega
  have hS3 := hS.len
  by_cases he : xs.flatten = []
  · obtain ⟨v, l', hv, hp', v0, v1⟩ := draw_ex hp1 (m := S.length) (by have := slen hS; omega) (by omega)
    obtain ⟨c, hc, ha⟩ := pick hS v0 v1
    refine ⟨[c], l', ?_, hp', by have := slen hS; simp only [List.length_singleton]; omega, fun x hx => by rw [List.mem_singleton.mp hx]; exact hc⟩
    unfold P__law_lot m__law_lot
    simp [mW, noPin, wipeL, restL, mDNew, List.foldr_cons, List.foldr_nil, List.all_cons, List.all_nil, runF, runP, startL, startP, outD, frz1, mSeq, mNx, mRet, mIfS, mSet, mAsg, mPar', mApp, mExt, mPop, mSetIx, mAug, mFor, mT, mAnd, mOr, mNot, mAndV, mOrV, mNotV, mIf, mB0, mB1, mB2, mBN, mNil, mCons, mF, mVar, mC, mTup, mLst, mSl, mNo, mSo, mMeth, mEnum, mZip, mRng1, mRng2, inRng_3, inRng_4, inRng_6, mSeq1, mTT, opB, opI, opAdd, opIx, opLen, opTuple, opList, opInt, opMin, opAllAny, opJoin, opSl, opDict, opKGet, mGet2, opNeg, opMach, opSounds, opHist, mCh, inE, ninE, eqE, neE, isMach, callF, callP, pu1, pu2, puN, iCmp, frosOf, put, pin_fro, pin_non, pin_own, gN, gNil', gCons', gTup', lstOf, setL, ownOf, isLoc, locIs, mElt, mInn, mLcG, cT, cPos, Option.bind_some, Option.bind_none, Option.map_some, Option.map_none, List.getElem?_cons_zero, List.getElem?_cons_succ, List.set_cons_zero, List.set_cons_succ, List.map_cons, List.map_nil, List.length_cons, List.length_nil, List.cons_append, List.nil_append, List.replicate_succ, List.replicate_zero, asInt__fro_int, asInt__fro_str, asInt__fro_bl, asInt__fro_tup, asInt__fro_row, asInt__fro_lst, asInt__fro_non, asInt__fro_mach, asInt__fro_obj, asInt__tmp, asInt__tmpk, asInt__tmpd, asInt__loc, asStr__fro_int, asStr__fro_str, asStr__fro_bl, asStr__fro_tup, asStr__fro_row, asStr__fro_lst, asStr__fro_non, asStr__fro_mach, asStr__fro_obj, asStr__tmp, asStr__tmpk, asStr__tmpd, asStr__loc, asBl__fro_int, asBl__fro_str, asBl__fro_bl, asBl__fro_tup, asBl__fro_row, asBl__fro_lst, asBl__fro_non, asBl__fro_mach, asBl__fro_obj, asBl__tmp, asBl__tmpk, asBl__tmpd, asBl__loc, asTup__fro_int, asTup__fro_str, asTup__fro_bl, asTup__fro_tup, asTup__fro_row, asTup__fro_lst, asTup__fro_non, asTup__fro_mach, asTup__fro_obj, asTup__tmp, asTup__tmpk, asTup__tmpd, asTup__loc, contL__fro_int, contL__fro_str, contL__fro_bl, contL__fro_tup, contL__fro_row, contL__fro_lst, contL__fro_non, contL__fro_mach, contL__fro_obj, contL__tmp, contL__tmpk, contL__tmpd, contK__fro_int, contK__fro_str, contK__fro_bl, contK__fro_tup, contK__fro_row, contK__fro_lst, contK__fro_non, contK__fro_mach, contK__fro_obj, contK__tmp, contK__tmpk, contK__tmpd, contL__loc, lvL__own, lvL__pin, lvL__fro, lvL__k, lvL__d, contK__loc, kOf, h1, hst, hsum, he, hv, ha, hz]
  · refine ⟨xs.flatten, l1, ?_, hp1, by omega, f3⟩
    unfold P__law_lot m__law_lot
    simp [mW, noPin, wipeL, restL, mDNew, List.foldr_cons, List.foldr_nil, List.all_cons, List.all_nil, runF, runP, startL, startP, outD, frz1, mSeq, mNx, mRet, mIfS, mSet, mAsg, mPar', mApp, mExt, mPop, mSetIx, mAug, mFor, mT, mAnd, mOr, mNot, mAndV, mOrV, mNotV, mIf, mB0, mB1, mB2, mBN, mNil, mCons, mF, mVar, mC, mTup, mLst, mSl, mNo, mSo, mMeth, mEnum, mZip, mRng1, mRng2, inRng_3, inRng_4, inRng_6, mSeq1, mTT, opB, opI, opAdd, opIx, opLen, opTuple, opList, opInt, opMin, opAllAny, opJoin, opSl, opDict, opKGet, mGet2, opNeg, opMach, opSounds, opHist, mCh, inE, ninE, eqE, neE, isMach, callF, callP, pu1, pu2, puN, iCmp, frosOf, put, pin_fro, pin_non, pin_own, gN, gNil', gCons', gTup', lstOf, setL, ownOf, isLoc, locIs, mElt, mInn, mLcG, cT, cPos, Option.bind_some, Option.bind_none, Option.map_some, Option.map_none, List.getElem?_cons_zero, List.getElem?_cons_succ, List.set_cons_zero, List.set_cons_succ, List.map_cons, List.map_nil, List.length_cons, List.length_nil, List.cons_append, List.nil_append, List.replicate_succ, List.replicate_zero, asInt__fro_int, asInt__fro_str, asInt__fro_bl, asInt__fro_tup, asInt__fro_row, asInt__fro_lst, asInt__fro_non, asInt__fro_mach, asInt__fro_obj, asInt__tmp, asInt__tmpk, asInt__tmpd, asInt__loc, asStr__fro_int, asStr__fro_str, asStr__fro_bl, asStr__fro_tup, asStr__fro_row, asStr__fro_lst, asStr__fro_non, asStr__fro_mach, asStr__fro_obj, asStr__tmp, asStr__tmpk, asStr__tmpd, asStr__loc, asBl__fro_int, asBl__fro_str, asBl__fro_bl, asBl__fro_tup, asBl__fro_row, asBl__fro_lst, asBl__fro_non, asBl__fro_mach, asBl__fro_obj, asBl__tmp, asBl__tmpk, asBl__tmpd, asBl__loc, asTup__fro_int, asTup__fro_str, asTup__fro_bl, asTup__fro_tup, asTup__fro_row, asTup__fro_lst, asTup__fro_non, asTup__fro_mach, asTup__fro_obj, asTup__tmp, asTup__tmpk, asTup__tmpd, asTup__loc, contL__fro_int, contL__fro_str, contL__fro_bl, contL__fro_tup, contL__fro_row, contL__fro_lst, contL__fro_non, contL__fro_mach, contL__fro_obj, contL__tmp, contL__tmpk, contL__tmpd, contK__fro_int, contK__fro_str, contK__fro_bl, contK__fro_tup, contK__fro_row, contK__fro_lst, contK__fro_non, contK__fro_mach, contK__fro_obj, contK__tmp, contK__tmpk, contK__tmpd, contL__loc, lvL__own, lvL__pin, lvL__fro, lvL__k, lvL__d, contK__loc, kOf, h1, hst, hsum, he]
theorem word_ex {S : Wd} (hS : AlOk S) {l : List D} (h : PoolOk l) {n : Nat} (hn : n ≤ 100) : ∃ x l', P__law_word l [.str S, .int n] = some (.str x, l') ∧ PoolOk l' ∧ x.length ≤ n ∧ ∀ c ∈ x, c ∈ S := by
  have hz : S.length ≤ LIM := Nat.le_trans hS.len (by decide)
  have hS3 := hS.len
  obtain ⟨v, l0, hv, hp0, v0, v1⟩ := draw_ex h (m := (n : Int) + 1) (by omega) (by omega)
  obtain ⟨m, rfl⟩ : ∃ m : Nat, v = m := ⟨v.toNat, by omega⟩
  obtain ⟨zs, L2, h1, ⟨l1, hp1, rfl⟩, h3, h4⟩ := lc_ex (vs := [3]) (g := g__law_word1) (tt := mTT) (me := e__law_word1) (fun L => ∃ l, PoolOk l ∧ L = [.pin l, .fro (.str S), .fro (.int n), .none]) (fun y => ∃ x, y = .str x ∧ ∃ c ∈ S, x = [c]) (rangeD 0 m) [] [.pin l0, .fro (.str S), .fro (.int n), .none]
    (fun d hd L ⟨l, hp, hL⟩ => by
      subst hL
      rw [rangeD0] at hd
      obtain ⟨i, _, rfl⟩ := List.mem_map.mp hd
      obtain ⟨v, l', hv, hp', w0, w1⟩ := draw_ex hp (m := S.length) (by have := slen hS; omega) (by omega)
      obtain ⟨c, hc, ha⟩ := pick hS w0 w1
      refine ⟨rfl, [.pin l, .fro (.str S), .fro (.int n), .fro (.int i)], by simp [mW, noPin, wipeL, restL, mDNew, List.foldr_cons, List.foldr_nil, List.all_cons, List.all_nil, runF, runP, startL, startP, outD, frz1, mSeq, mNx, mRet, mIfS, mSet, mAsg, mPar', mApp, mExt, mPop, mSetIx, mAug, mFor, mT, mAnd, mOr, mNot, mAndV, mOrV, mNotV, mIf, mB0, mB1, mB2, mBN, mNil, mCons, mF, mVar, mC, mTup, mLst, mSl, mNo, mSo, mMeth, mEnum, mZip, mRng1, mRng2, inRng_3, inRng_4, inRng_6, mSeq1, mTT, opB, opI, opAdd, opIx, opLen, opTuple, opList, opInt, opMin, opAllAny, opJoin, opSl, opDict, opKGet, mGet2, opNeg, opMach, opSounds, opHist, mCh, inE, ninE, eqE, neE, isMach, callF, callP, pu1, pu2, puN, iCmp, frosOf, put, pin_fro, pin_non, pin_own, gN, gNil', gCons', gTup', lstOf, setL, ownOf, isLoc, locIs, mElt, mInn, mLcG, cT, cPos, Option.bind_some, Option.bind_none, Option.map_some, Option.map_none, List.getElem?_cons_zero, List.getElem?_cons_succ, List.set_cons_zero, List.set_cons_succ, List.map_cons, List.map_nil, List.length_cons, List.length_nil, List.cons_append, List.nil_append, List.replicate_succ, List.replicate_zero, asInt__fro_int, asInt__fro_str, asInt__fro_bl, asInt__fro_tup, asInt__fro_row, asInt__fro_lst, asInt__fro_non, asInt__fro_mach, asInt__fro_obj, asInt__tmp, asInt__tmpk, asInt__tmpd, asInt__loc, asStr__fro_int, asStr__fro_str, asStr__fro_bl, asStr__fro_tup, asStr__fro_row, asStr__fro_lst, asStr__fro_non, asStr__fro_mach, asStr__fro_obj, asStr__tmp, asStr__tmpk, asStr__tmpd, asStr__loc, asBl__fro_int, asBl__fro_str, asBl__fro_bl, asBl__fro_tup, asBl__fro_row, asBl__fro_lst, asBl__fro_non, asBl__fro_mach, asBl__fro_obj, asBl__tmp, asBl__tmpk, asBl__tmpd, asBl__loc, asTup__fro_int, asTup__fro_str, asTup__fro_bl, asTup__fro_tup, asTup__fro_row, asTup__fro_lst, asTup__fro_non, asTup__fro_mach, asTup__fro_obj, asTup__tmp, asTup__tmpk, asTup__tmpd, asTup__loc, contL__fro_int, contL__fro_str, contL__fro_bl, contL__fro_tup, contL__fro_row, contL__fro_lst, contL__fro_non, contL__fro_mach, contL__fro_obj, contL__tmp, contL__tmpk, contL__tmpd, contK__fro_int, contK__fro_str, contK__fro_bl, contK__fro_tup, contK__fro_row, contK__fro_lst, contK__fro_non, contK__fro_mach, contK__fro_obj, contK__tmp, contK__tmpk, contK__tmpd, contL__loc, lvL__own, lvL__pin, lvL__fro, lvL__k, lvL__d, contK__loc, kOf, g__law_word1, wipeL], .inr ⟨[.pin l, .fro (.str S), .fro (.int n), .fro (.int i)], .str [c], [.pin l', .fro (.str S), .fro (.int n), .fro (.int i)], rfl, ?_, ⟨_, rfl, c, hc, rfl⟩, l', hp', by simp [restL]⟩⟩
      simp [mW, noPin, wipeL, restL, mDNew, List.foldr_cons, List.foldr_nil, List.all_cons, List.all_nil, runF, runP, startL, startP, outD, frz1, mSeq, mNx, mRet, mIfS, mSet, mAsg, mPar', mApp, mExt, mPop, mSetIx, mAug, mFor, mT, mAnd, mOr, mNot, mAndV, mOrV, mNotV, mIf, mB0, mB1, mB2, mBN, mNil, mCons, mF, mVar, mC, mTup, mLst, mSl, mNo, mSo, mMeth, mEnum, mZip, mRng1, mRng2, inRng_3, inRng_4, inRng_6, mSeq1, mTT, opB, opI, opAdd, opIx, opLen, opTuple, opList, opInt, opMin, opAllAny, opJoin, opSl, opDict, opKGet, mGet2, opNeg, opMach, opSounds, opHist, mCh, inE, ninE, eqE, neE, isMach, callF, callP, pu1, pu2, puN, iCmp, frosOf, put, pin_fro, pin_non, pin_own, gN, gNil', gCons', gTup', lstOf, setL, ownOf, isLoc, locIs, mElt, mInn, mLcG, cT, cPos, Option.bind_some, Option.bind_none, Option.map_some, Option.map_none, List.getElem?_cons_zero, List.getElem?_cons_succ, List.set_cons_zero, List.set_cons_succ, List.map_cons, List.map_nil, List.length_cons, List.length_nil, List.cons_append, List.nil_append, List.replicate_succ, List.replicate_zero, asInt__fro_int, asInt__fro_str, asInt__fro_bl, asInt__fro_tup, asInt__fro_row, asInt__fro_lst, asInt__fro_non, asInt__fro_mach, asInt__fro_obj, asInt__tmp, asInt__tmpk, asInt__tmpd, asInt__loc, asStr__fro_int, asStr__fro_str, asStr__fro_bl, asStr__fro_tup, asStr__fro_row, asStr__fro_lst, asStr__fro_non, asStr__fro_mach, asStr__fro_obj, asStr__tmp, asStr__tmpk, asStr__tmpd, asStr__loc, asBl__fro_int, asBl__fro_str, asBl__fro_bl, asBl__fro_tup, asBl__fro_row, asBl__fro_lst, asBl__fro_non, asBl__fro_mach, asBl__fro_obj, asBl__tmp, asBl__tmpk, asBl__tmpd, asBl__loc, asTup__fro_int, asTup__fro_str, asTup__fro_bl, asTup__fro_tup, asTup__fro_row, asTup__fro_lst, asTup__fro_non, asTup__fro_mach, asTup__fro_obj, asTup__tmp, asTup__tmpk, asTup__tmpd, asTup__loc, contL__fro_int, contL__fro_str, contL__fro_bl, contL__fro_tup, contL__fro_row, contL__fro_lst, contL__fro_non, contL__fro_mach, contL__fro_obj, contL__tmp, contL__tmpk, contL__tmpd, contK__fro_int, contK__fro_str, contK__fro_bl, contK__fro_tup, contK__fro_row, contK__fro_lst, contK__fro_non, contK__fro_mach, contK__fro_obj, contK__tmp, contK__tmpk, contK__tmpd, contL__loc, lvL__own, lvL__pin, lvL__fro, lvL__k, lvL__d, contK__loc, kOf, e__law_word1, hv, ha, hz]) ⟨l0, hp0, rfl⟩ (by rw [rangeD_len]; have : LIM = 16777216 := rfl; simp; omega)
  obtain ⟨xs, rfl, hxs⟩ := strs_of h3
  rw [List.nil_append] at h1
  rw [List.length_map, rangeD_len] at h4
  obtain ⟨f1, f2, f3⟩ := chrs_flat hxs
  have hst := strsOf_map xs
  have hsum : (xs.map List.length).sum ≤ LIM := by have : LIM = 16777216 := rfl; omega
  refine ⟨xs.flatten, l1, ?_, hp1, by omega, f3⟩
  have hr := inRng_nat (n := m) (by omega)
  unfold P__law_word m__law_word
  simp [mW, noPin, wipeL, restL, mDNew, List.foldr_cons, List.foldr_nil, List.all_cons, List.all_nil, runF, runP, startL, startP, outD, frz1, mSeq, mNx, mRet, mIfS, mSet, mAsg, mPar', mApp, mExt, mPop, mSetIx, mAug, mFor, mT, mAnd, mOr, mNot, mAndV, mOrV, mNotV, mIf, mB0, mB1, mB2, mBN, mNil, mCons, mF, mVar, mC, mTup, mLst, mSl, mNo, mSo, mMeth, mEnum, mZip, mRng1, mRng2, inRng_3, inRng_4, inRng_6, mSeq1, mTT, opB, opI, opAdd, opIx, opLen, opTuple, opList, opInt, opMin, opAllAny, opJoin, opSl, opDict, opKGet, mGet2, opNeg, opMach, opSounds, opHist, mCh, inE, ninE, eqE, neE, isMach, callF, callP, pu1, pu2, puN, iCmp, frosOf, put, pin_fro, pin_non, pin_own, gN, gNil', gCons', gTup', lstOf, setL, ownOf, isLoc, locIs, mElt, mInn, mLcG, cT, cPos, Option.bind_some, Option.bind_none, Option.map_some, Option.map_none, List.getElem?_cons_zero, List.getElem?_cons_succ, List.set_cons_zero, List.set_cons_succ, List.map_cons, List.map_nil, List.length_cons, List.length_nil, List.cons_append, List.nil_append, List.replicate_succ, List.replicate_zero, asInt__fro_int, asInt__fro_str, asInt__fro_bl, asInt__fro_tup, asInt__fro_row, asInt__fro_lst, asInt__fro_non, asInt__fro_mach, asInt__fro_obj, asInt__tmp, asInt__tmpk, asInt__tmpd, asInt__loc, asStr__fro_int, asStr__fro_str, asStr__fro_bl, asStr__fro_tup, asStr__fro_row, asStr__fro_lst, asStr__fro_non, asStr__fro_mach, asStr__fro_obj, asStr__tmp, asStr__tmpk, asStr__tmpd, asStr__loc, asBl__fro_int, asBl__fro_str, asBl__fro_bl, asBl__fro_tup, asBl__fro_row, asBl__fro_lst, asBl__fro_non, asBl__fro_mach, asBl__fro_obj, asBl__tmp, asBl__tmpk, asBl__tmpd, asBl__loc, asTup__fro_int, asTup__fro_str, asTup__fro_bl, asTup__fro_tup, asTup__fro_row, asTup__fro_lst, asTup__fro_non, asTup__fro_mach, asTup__fro_obj, asTup__tmp, asTup__tmpk, asTup__tmpd, asTup__loc, contL__fro_int, contL__fro_str, contL__fro_bl, contL__fro_tup, contL__fro_row, contL__fro_lst, contL__fro_non, contL__fro_mach, contL__fro_obj, contL__tmp, contL__tmpk, contL__tmpd, contK__fro_int, contK__fro_str, contK__fro_bl, contK__fro_tup, contK__fro_row, contK__fro_lst, contK__fro_non, contK__fro_mach, contK__fro_obj, contK__tmp, contK__tmpk, contK__tmpd, contL__loc, lvL__own, lvL__pin, lvL__fro, lvL__k, lvL__d, contK__loc, kOf, hv, hr, h1, hst, hsum]
theorem at5n {v : Int} (h0 : 0 ≤ v) (h1 : v < 5) : ∃ n : Nat, n ≤ 2 ∧ atI [D.int 0, .int 0, .int 1, .int 1, .int 2] v = some (.int n) := by
  have : v = 0 ∨ v = 1 ∨ v = 2 ∨ v = 3 ∨ v = 4 := by omega
  rcases this with rfl | rfl | rfl | rfl | rfl
  · exact ⟨0, by omega, rfl⟩
  · exact ⟨0, by omega, rfl⟩
  · exact ⟨1, by omega, rfl⟩
  · exact ⟨1, by omega, rfl⟩
  · exact ⟨2, by omega, rfl⟩
theorem set_strs (xs : List Wd) (i : Nat) (x : Wd) : (xs.map D.str).set i (.str x) = (xs.set i x).map D.str := by rw [List.map_set]
theorem set_get {α : Type} {xs : List α} {k i : Nat} {x y : α} (h : (xs.set k y)[i]? = some x) : (x = y ∧ i = k) ∨ xs[i]? = some x := by
  by_cases e : k = i
  · subst e
    left
    have hl : k < xs.length := by
      have := (List.getElem?_eq_some_iff.mp h).1
      rwa [List.length_set] at this
    rw [List.getElem?_set_self hl] at h
    exact ⟨(Option.some.inj h).symm, rfl⟩
  · right
    rwa [List.getElem?_set_ne e] at h
/-- slots: lots, but at one place perhaps the edge -/
def SlotsOk (b : Bool) (xs : List Wd) : Prop := xs.length ≤ 2 ∧ ∀ i x, xs[i]? = some x → LotOk x ∨ (x = [35] ∧ if b = true then i = 0 else i + 1 = xs.length)
theorem slots_ex {S : Wd} (hS : AlOk S) {l : List D} (h : PoolOk l) {e : Int} : ∃ xs l', P__law_slots l [.str S, .int e] = some (dSl xs, l') ∧ PoolOk l' ∧ SlotsOk (decide (e = 0)) xs := by
  obtain ⟨v, l0, hv, hp0, v0, v1⟩ := draw_ex h (m := 5) (by decide) (by decide)
  obtain ⟨m, hm, ha⟩ := at5n v0 v1
  obtain ⟨zs, L2, h1, ⟨l1, hp1, rfl⟩, h3, h4⟩ := lc_ex (vs := [4]) (g := g__law_slots1) (tt := mTT) (me := e__law_slots1) (fun L => ∃ l, PoolOk l ∧ L = [.pin l, .fro (.str S), .fro (.int e), .none, .none]) (fun y => ∃ x, y = .str x ∧ LotOk x) (rangeD 0 m) [] [.pin l0, .fro (.str S), .fro (.int e), .none, .none]
    (fun d hd L ⟨l, hp, hL⟩ => by
      subst hL
      rw [rangeD0] at hd
      obtain ⟨i, _, rfl⟩ := List.mem_map.mp hd
      obtain ⟨x, l', hx, hp', hx3, hx4⟩ := lot_ex hS hp
      refine ⟨rfl, [.pin l, .fro (.str S), .fro (.int e), .none, .fro (.int i)], by simp [mW, noPin, wipeL, restL, mDNew, List.foldr_cons, List.foldr_nil, List.all_cons, List.all_nil, runF, runP, startL, startP, outD, frz1, mSeq, mNx, mRet, mIfS, mSet, mAsg, mPar', mApp, mExt, mPop, mSetIx, mAug, mFor, mT, mAnd, mOr, mNot, mAndV, mOrV, mNotV, mIf, mB0, mB1, mB2, mBN, mNil, mCons, mF, mVar, mC, mTup, mLst, mSl, mNo, mSo, mMeth, mEnum, mZip, mRng1, mRng2, inRng_3, inRng_4, inRng_6, mSeq1, mTT, opB, opI, opAdd, opIx, opLen, opTuple, opList, opInt, opMin, opAllAny, opJoin, opSl, opDict, opKGet, mGet2, opNeg, opMach, opSounds, opHist, mCh, inE, ninE, eqE, neE, isMach, callF, callP, pu1, pu2, puN, iCmp, frosOf, put, pin_fro, pin_non, pin_own, gN, gNil', gCons', gTup', lstOf, setL, ownOf, isLoc, locIs, mElt, mInn, mLcG, cT, cPos, Option.bind_some, Option.bind_none, Option.map_some, Option.map_none, List.getElem?_cons_zero, List.getElem?_cons_succ, List.set_cons_zero, List.set_cons_succ, List.map_cons, List.map_nil, List.length_cons, List.length_nil, List.cons_append, List.nil_append, List.replicate_succ, List.replicate_zero, asInt__fro_int, asInt__fro_str, asInt__fro_bl, asInt__fro_tup, asInt__fro_row, asInt__fro_lst, asInt__fro_non, asInt__fro_mach, asInt__fro_obj, asInt__tmp, asInt__tmpk, asInt__tmpd, asInt__loc, asStr__fro_int, asStr__fro_str, asStr__fro_bl, asStr__fro_tup, asStr__fro_row, asStr__fro_lst, asStr__fro_non, asStr__fro_mach, asStr__fro_obj, asStr__tmp, asStr__tmpk, asStr__tmpd, asStr__loc, asBl__fro_int, asBl__fro_str, asBl__fro_bl, asBl__fro_tup, asBl__fro_row, asBl__fro_lst, asBl__fro_non, asBl__fro_mach, asBl__fro_obj, asBl__tmp, asBl__tmpk, asBl__tmpd, asBl__loc, asTup__fro_int, asTup__fro_str, asTup__fro_bl, asTup__fro_tup, asTup__fro_row, asTup__fro_lst, asTup__fro_non, asTup__fro_mach, asTup__fro_obj, asTup__tmp, asTup__tmpk, asTup__tmpd, asTup__loc, contL__fro_int, contL__fro_str, contL__fro_bl, contL__fro_tup, contL__fro_row, contL__fro_lst, contL__fro_non, contL__fro_mach, contL__fro_obj, contL__tmp, contL__tmpk, contL__tmpd, contK__fro_int, contK__fro_str, contK__fro_bl, contK__fro_tup, contK__fro_row, contK__fro_lst, contK__fro_non, contK__fro_mach, contK__fro_obj, contK__tmp, contK__tmpk, contK__tmpd, contL__loc, lvL__own, lvL__pin, lvL__fro, lvL__k, lvL__d, contK__loc, kOf, g__law_slots1, wipeL], .inr ⟨[.pin l, .fro (.str S), .fro (.int e), .none, .fro (.int i)], .str x, [.pin l', .fro (.str S), .fro (.int e), .none, .fro (.int i)], rfl, ?_, ⟨_, rfl, Nat.le_trans hx3 hS.len, fun z => hS.s35 (hx4 _ z)⟩, l', hp', by simp [restL]⟩⟩
      simp [mW, noPin, wipeL, restL, mDNew, List.foldr_cons, List.foldr_nil, List.all_cons, List.all_nil, runF, runP, startL, startP, outD, frz1, mSeq, mNx, mRet, mIfS, mSet, mAsg, mPar', mApp, mExt, mPop, mSetIx, mAug, mFor, mT, mAnd, mOr, mNot, mAndV, mOrV, mNotV, mIf, mB0, mB1, mB2, mBN, mNil, mCons, mF, mVar, mC, mTup, mLst, mSl, mNo, mSo, mMeth, mEnum, mZip, mRng1, mRng2, inRng_3, inRng_4, inRng_6, mSeq1, mTT, opB, opI, opAdd, opIx, opLen, opTuple, opList, opInt, opMin, opAllAny, opJoin, opSl, opDict, opKGet, mGet2, opNeg, opMach, opSounds, opHist, mCh, inE, ninE, eqE, neE, isMach, callF, callP, pu1, pu2, puN, iCmp, frosOf, put, pin_fro, pin_non, pin_own, gN, gNil', gCons', gTup', lstOf, setL, ownOf, isLoc, locIs, mElt, mInn, mLcG, cT, cPos, Option.bind_some, Option.bind_none, Option.map_some, Option.map_none, List.getElem?_cons_zero, List.getElem?_cons_succ, List.set_cons_zero, List.set_cons_succ, List.map_cons, List.map_nil, List.length_cons, List.length_nil, List.cons_append, List.nil_append, List.replicate_succ, List.replicate_zero, asInt__fro_int, asInt__fro_str, asInt__fro_bl, asInt__fro_tup, asInt__fro_row, asInt__fro_lst, asInt__fro_non, asInt__fro_mach, asInt__fro_obj, asInt__tmp, asInt__tmpk, asInt__tmpd, asInt__loc, asStr__fro_int, asStr__fro_str, asStr__fro_bl, asStr__fro_tup, asStr__fro_row, asStr__fro_lst, asStr__fro_non, asStr__fro_mach, asStr__fro_obj, asStr__tmp, asStr__tmpk, asStr__tmpd, asStr__loc, asBl__fro_int, asBl__fro_str, asBl__fro_bl, asBl__fro_tup, asBl__fro_row, asBl__fro_lst, asBl__fro_non, asBl__fro_mach, asBl__fro_obj, asBl__tmp, asBl__tmpk, asBl__tmpd, asBl__loc, asTup__fro_int, asTup__fro_str, asTup__fro_bl, asTup__fro_tup, asTup__fro_row, asTup__fro_lst, asTup__fro_non, asTup__fro_mach, asTup__fro_obj, asTup__tmp, asTup__tmpk, asTup__tmpd, asTup__loc, contL__fro_int, contL__fro_str, contL__fro_bl, contL__fro_tup, contL__fro_row, contL__fro_lst, contL__fro_non, contL__fro_mach, contL__fro_obj, contL__tmp, contL__tmpk, contL__tmpd, contK__fro_int, contK__fro_str, contK__fro_bl, contK__fro_tup, contK__fro_row, contK__fro_lst, contK__fro_non, contK__fro_mach, contK__fro_obj, contK__tmp, contK__tmpk, contK__tmpd, contL__loc, lvL__own, lvL__pin, lvL__fro, lvL__k, lvL__d, contK__loc, kOf, e__law_slots1, hx]) ⟨l0, hp0, rfl⟩ (by rw [rangeD_len]; have : LIM = 16777216 := rfl; simp; omega)
  obtain ⟨xs, rfl, hxs⟩ := strs_of h3
  rw [List.nil_append] at h1
  rw [List.length_map, rangeD_len] at h4
  have hr := inRng_nat (n := m) (by omega)
  have e1 : (mW [1] (mSet 3 (mLcG [4] (mRng1 (mCons (mB2 (pu2 opIx) (mTup (mCons (mC (.int 0)) (mCons (mC (.int 0)) (mCons (mC (.int 1)) (mCons (mC (.int 1)) (mCons (mC (.int 2)) mNil)))))) (mBN (callP P__law_draw) (mCons (mVar 0) (mCons (mC (.int 5)) mNil)))) mNil)) g__law_slots1 mTT (mElt e__law_slots1)))) [.pin l, .fro (.str S), .fro (.int e), .none, .none] = some (.nx, [.pin l1, .none, .fro (.int e), .own (xs.map D.str), .none]) := by
    simp [mW, noPin, wipeL, restL, mDNew, List.foldr_cons, List.foldr_nil, List.all_cons, List.all_nil, runF, runP, startL, startP, outD, frz1, mSeq, mNx, mRet, mIfS, mSet, mAsg, mPar', mApp, mExt, mPop, mSetIx, mAug, mFor, mT, mAnd, mOr, mNot, mAndV, mOrV, mNotV, mIf, mB0, mB1, mB2, mBN, mNil, mCons, mF, mVar, mC, mTup, mLst, mSl, mNo, mSo, mMeth, mEnum, mZip, mRng1, mRng2, inRng_3, inRng_4, inRng_6, mSeq1, mTT, opB, opI, opAdd, opIx, opLen, opTuple, opList, opInt, opMin, opAllAny, opJoin, opSl, opDict, opKGet, mGet2, opNeg, opMach, opSounds, opHist, mCh, inE, ninE, eqE, neE, isMach, callF, callP, pu1, pu2, puN, iCmp, frosOf, put, pin_fro, pin_non, pin_own, gN, gNil', gCons', gTup', lstOf, setL, ownOf, isLoc, locIs, mElt, mInn, mLcG, cT, cPos, Option.bind_some, Option.bind_none, Option.map_some, Option.map_none, List.getElem?_cons_zero, List.getElem?_cons_succ, List.set_cons_zero, List.set_cons_succ, List.map_cons, List.map_nil, List.length_cons, List.length_nil, List.cons_append, List.nil_append, List.replicate_succ, List.replicate_zero, asInt__fro_int, asInt__fro_str, asInt__fro_bl, asInt__fro_tup, asInt__fro_row, asInt__fro_lst, asInt__fro_non, asInt__fro_mach, asInt__fro_obj, asInt__tmp, asInt__tmpk, asInt__tmpd, asInt__loc, asStr__fro_int, asStr__fro_str, asStr__fro_bl, asStr__fro_tup, asStr__fro_row, asStr__fro_lst, asStr__fro_non, asStr__fro_mach, asStr__fro_obj, asStr__tmp, asStr__tmpk, asStr__tmpd, asStr__loc, asBl__fro_int, asBl__fro_str, asBl__fro_bl, asBl__fro_tup, asBl__fro_row, asBl__fro_lst, asBl__fro_non, asBl__fro_mach, asBl__fro_obj, asBl__tmp, asBl__tmpk, asBl__tmpd, asBl__loc, asTup__fro_int, asTup__fro_str, asTup__fro_bl, asTup__fro_tup, asTup__fro_row, asTup__fro_lst, asTup__fro_non, asTup__fro_mach, asTup__fro_obj, asTup__tmp, asTup__tmpk, asTup__tmpd, asTup__loc, contL__fro_int, contL__fro_str, contL__fro_bl, contL__fro_tup, contL__fro_row, contL__fro_lst, contL__fro_non, contL__fro_mach, contL__fro_obj, contL__tmp, contL__tmpk, contL__tmpd, contK__fro_int, contK__fro_str, contK__fro_bl, contK__fro_tup, contK__fro_row, contK__fro_lst, contK__fro_non, contK__fro_mach, contK__fro_obj, contK__tmp, contK__tmpk, contK__tmpd, contL__loc, lvL__own, lvL__pin, lvL__fro, lvL__k, lvL__d, contK__loc, kOf, hv, ha, hr, h1]
  have fin : ∀ (l2 : List D) (ys : List Wd), (mW [2] (mIfS (mAnd (mT (mB2 (opB (iCmp fun i j => decide (j < i))) (mBN (puN opLen) (mCons (mVar 3) mNil)) (mC (.int 0)))) (mT (mB2 (opB eqE) (mBN (callP P__law_draw) (mCons (mVar 0) (mCons (mC (.int 4)) mNil))) (mC (.int 0))))) (mW [2] (mSetIx 3 (mIf (mT (mB2 (opB eqE) (mVar 2) (mC (.int 0)))) (mC (.int 0)) (mB2 (pu2 (opI (fun i j => .int (i - j)) cT)) (mBN (puN opLen) (mCons (mVar 3) mNil)) (mC (.int 1)))) (mC (.str [35])))) mNx)) [.pin l1, .none, .fro (.int e), .own (xs.map D.str), .none] = some (.nx, [.pin l2, .none, .none, .own (ys.map D.str), .none]) → P__law_slots l [.str S, .int e] = some (dSl ys, l2) := fun l2 ys h2 => by
    refine runP_rt (L := [.pin l2, .none, .none, .own (ys.map D.str), .none]) (ev := .fro (dSl ys)) rfl ?_ rfl rfl
    show m__law_slots [.pin l, .fro (.str S), .fro (.int e), .none, .none] = _
    unfold m__law_slots
    rw [mSeq_nx e1, mSeq_nx h2]
    refine mRet_of ?_
    simp [mW, noPin, wipeL, restL, mDNew, List.foldr_cons, List.foldr_nil, List.all_cons, List.all_nil, runF, runP, startL, startP, outD, frz1, mSeq, mNx, mRet, mIfS, mSet, mAsg, mPar', mApp, mExt, mPop, mSetIx, mAug, mFor, mT, mAnd, mOr, mNot, mAndV, mOrV, mNotV, mIf, mB0, mB1, mB2, mBN, mNil, mCons, mF, mVar, mC, mTup, mLst, mSl, mNo, mSo, mMeth, mEnum, mZip, mRng1, mRng2, inRng_3, inRng_4, inRng_6, mSeq1, mTT, opB, opI, opAdd, opIx, opLen, opTuple, opList, opInt, opMin, opAllAny, opJoin, opSl, opDict, opKGet, mGet2, opNeg, opMach, opSounds, opHist, mCh, inE, ninE, eqE, neE, isMach, callF, callP, pu1, pu2, puN, iCmp, frosOf, put, pin_fro, pin_non, pin_own, gN, gNil', gCons', gTup', lstOf, setL, ownOf, isLoc, locIs, mElt, mInn, mLcG, cT, cPos, Option.bind_some, Option.bind_none, Option.map_some, Option.map_none, List.getElem?_cons_zero, List.getElem?_cons_succ, List.set_cons_zero, List.set_cons_succ, List.map_cons, List.map_nil, List.length_cons, List.length_nil, List.cons_append, List.nil_append, List.replicate_succ, List.replicate_zero, asInt__fro_int, asInt__fro_str, asInt__fro_bl, asInt__fro_tup, asInt__fro_row, asInt__fro_lst, asInt__fro_non, asInt__fro_mach, asInt__fro_obj, asInt__tmp, asInt__tmpk, asInt__tmpd, asInt__loc, asStr__fro_int, asStr__fro_str, asStr__fro_bl, asStr__fro_tup, asStr__fro_row, asStr__fro_lst, asStr__fro_non, asStr__fro_mach, asStr__fro_obj, asStr__tmp, asStr__tmpk, asStr__tmpd, asStr__loc, asBl__fro_int, asBl__fro_str, asBl__fro_bl, asBl__fro_tup, asBl__fro_row, asBl__fro_lst, asBl__fro_non, asBl__fro_mach, asBl__fro_obj, asBl__tmp, asBl__tmpk, asBl__tmpd, asBl__loc, asTup__fro_int, asTup__fro_str, asTup__fro_bl, asTup__fro_tup, asTup__fro_row, asTup__fro_lst, asTup__fro_non, asTup__fro_mach, asTup__fro_obj, asTup__tmp, asTup__tmpk, asTup__tmpd, asTup__loc, contL__fro_int, contL__fro_str, contL__fro_bl, contL__fro_tup, contL__fro_row, contL__fro_lst, contL__fro_non, contL__fro_mach, contL__fro_obj, contL__tmp, contL__tmpk, contL__tmpd, contK__fro_int, contK__fro_str, contK__fro_bl, contK__fro_tup, contK__fro_row, contK__fro_lst, contK__fro_non, contK__fro_mach, contK__fro_obj, contK__tmp, contK__tmpk, contK__tmpd, contL__loc, lvL__own, lvL__pin, lvL__fro, lvL__k, lvL__d, contK__loc, kOf, dSl]
  have hlot : ∀ (b : Bool), SlotsOk b xs := fun b => ⟨by omega, fun i x hx => .inl (hxs x (List.mem_of_getElem? hx))⟩
  by_cases hx0 : 0 < xs.length
  · obtain ⟨w, l2, hw, hp2, w0, w1⟩ := draw_ex hp1 (m := 4) (by decide) (by decide)
    by_cases hw0 : w = 0
    · subst hw0
      by_cases he : e = 0
      · have hi : ixN xs.length 0 = some 0 := by have := ixN0 (n := xs.length) (i := 0) hx0; simpa using this
        refine ⟨xs.set 0 [35], l2, fin _ _ ?_, hp2, by rw [List.length_set]; omega, fun i x hx => ?_⟩
        · rw [← set_strs]
          simp [mW, noPin, wipeL, restL, mDNew, List.foldr_cons, List.foldr_nil, List.all_cons, List.all_nil, runF, runP, startL, startP, outD, frz1, mSeq, mNx, mRet, mIfS, mSet, mAsg, mPar', mApp, mExt, mPop, mSetIx, mAug, mFor, mT, mAnd, mOr, mNot, mAndV, mOrV, mNotV, mIf, mB0, mB1, mB2, mBN, mNil, mCons, mF, mVar, mC, mTup, mLst, mSl, mNo, mSo, mMeth, mEnum, mZip, mRng1, mRng2, inRng_3, inRng_4, inRng_6, mSeq1, mTT, opB, opI, opAdd, opIx, opLen, opTuple, opList, opInt, opMin, opAllAny, opJoin, opSl, opDict, opKGet, mGet2, opNeg, opMach, opSounds, opHist, mCh, inE, ninE, eqE, neE, isMach, callF, callP, pu1, pu2, puN, iCmp, frosOf, put, pin_fro, pin_non, pin_own, gN, gNil', gCons', gTup', lstOf, setL, ownOf, isLoc, locIs, mElt, mInn, mLcG, cT, cPos, Option.bind_some, Option.bind_none, Option.map_some, Option.map_none, List.getElem?_cons_zero, List.getElem?_cons_succ, List.set_cons_zero, List.set_cons_succ, List.map_cons, List.map_nil, List.length_cons, List.length_nil, List.cons_append, List.nil_append, List.replicate_succ, List.replicate_zero, asInt__fro_int, asInt__fro_str, asInt__fro_bl, asInt__fro_tup, asInt__fro_row, asInt__fro_lst, asInt__fro_non, asInt__fro_mach, asInt__fro_obj, asInt__tmp, asInt__tmpk, asInt__tmpd, asInt__loc, asStr__fro_int, asStr__fro_str, asStr__fro_bl, asStr__fro_tup, asStr__fro_row, asStr__fro_lst, asStr__fro_non, asStr__fro_mach, asStr__fro_obj, asStr__tmp, asStr__tmpk, asStr__tmpd, asStr__loc, asBl__fro_int, asBl__fro_str, asBl__fro_bl, asBl__fro_tup, asBl__fro_row, asBl__fro_lst, asBl__fro_non, asBl__fro_mach, asBl__fro_obj, asBl__tmp, asBl__tmpk, asBl__tmpd, asBl__loc, asTup__fro_int, asTup__fro_str, asTup__fro_bl, asTup__fro_tup, asTup__fro_row, asTup__fro_lst, asTup__fro_non, asTup__fro_mach, asTup__fro_obj, asTup__tmp, asTup__tmpk, asTup__tmpd, asTup__loc, contL__fro_int, contL__fro_str, contL__fro_bl, contL__fro_tup, contL__fro_row, contL__fro_lst, contL__fro_non, contL__fro_mach, contL__fro_obj, contL__tmp, contL__tmpk, contL__tmpd, contK__fro_int, contK__fro_str, contK__fro_bl, contK__fro_tup, contK__fro_row, contK__fro_lst, contK__fro_non, contK__fro_mach, contK__fro_obj, contK__tmp, contK__tmpk, contK__tmpd, contL__loc, lvL__own, lvL__pin, lvL__fro, lvL__k, lvL__d, contK__loc, kOf, hx0, hw, he, datE, cok_int, deq_int, hi]
        · rcases set_get hx with ⟨z1, z2⟩ | z
          · exact .inr ⟨z1, by rw [if_pos (decide_eq_true he)]; exact z2⟩
          · exact .inl (hxs x (List.mem_of_getElem? z))
      · have hi : ixN xs.length ((xs.length : Int) - 1) = some (xs.length - 1) := by
          have h5 : (xs.length : Int) - 1 = ((xs.length - 1 : Nat) : Int) := by omega
          rw [h5]
          exact ixN0 (by omega)
        refine ⟨xs.set (xs.length - 1) [35], l2, fin _ _ ?_, hp2, by rw [List.length_set]; omega, fun i x hx => ?_⟩
        · rw [← set_strs]
          simp [mW, noPin, wipeL, restL, mDNew, List.foldr_cons, List.foldr_nil, List.all_cons, List.all_nil, runF, runP, startL, startP, outD, frz1, mSeq, mNx, mRet, mIfS, mSet, mAsg, mPar', mApp, mExt, mPop, mSetIx, mAug, mFor, mT, mAnd, mOr, mNot, mAndV, mOrV, mNotV, mIf, mB0, mB1, mB2, mBN, mNil, mCons, mF, mVar, mC, mTup, mLst, mSl, mNo, mSo, mMeth, mEnum, mZip, mRng1, mRng2, inRng_3, inRng_4, inRng_6, mSeq1, mTT, opB, opI, opAdd, opIx, opLen, opTuple, opList, opInt, opMin, opAllAny, opJoin, opSl, opDict, opKGet, mGet2, opNeg, opMach, opSounds, opHist, mCh, inE, ninE, eqE, neE, isMach, callF, callP, pu1, pu2, puN, iCmp, frosOf, put, pin_fro, pin_non, pin_own, gN, gNil', gCons', gTup', lstOf, setL, ownOf, isLoc, locIs, mElt, mInn, mLcG, cT, cPos, Option.bind_some, Option.bind_none, Option.map_some, Option.map_none, List.getElem?_cons_zero, List.getElem?_cons_succ, List.set_cons_zero, List.set_cons_succ, List.map_cons, List.map_nil, List.length_cons, List.length_nil, List.cons_append, List.nil_append, List.replicate_succ, List.replicate_zero, asInt__fro_int, asInt__fro_str, asInt__fro_bl, asInt__fro_tup, asInt__fro_row, asInt__fro_lst, asInt__fro_non, asInt__fro_mach, asInt__fro_obj, asInt__tmp, asInt__tmpk, asInt__tmpd, asInt__loc, asStr__fro_int, asStr__fro_str, asStr__fro_bl, asStr__fro_tup, asStr__fro_row, asStr__fro_lst, asStr__fro_non, asStr__fro_mach, asStr__fro_obj, asStr__tmp, asStr__tmpk, asStr__tmpd, asStr__loc, asBl__fro_int, asBl__fro_str, asBl__fro_bl, asBl__fro_tup, asBl__fro_row, asBl__fro_lst, asBl__fro_non, asBl__fro_mach, asBl__fro_obj, asBl__tmp, asBl__tmpk, asBl__tmpd, asBl__loc, asTup__fro_int, asTup__fro_str, asTup__fro_bl, asTup__fro_tup, asTup__fro_row, asTup__fro_lst, asTup__fro_non, asTup__fro_mach, asTup__fro_obj, asTup__tmp, asTup__tmpk, asTup__tmpd, asTup__loc, contL__fro_int, contL__fro_str, contL__fro_bl, contL__fro_tup, contL__fro_row, contL__fro_lst, contL__fro_non, contL__fro_mach, contL__fro_obj, contL__tmp, contL__tmpk, contL__tmpd, contK__fro_int, contK__fro_str, contK__fro_bl, contK__fro_tup, contK__fro_row, contK__fro_lst, contK__fro_non, contK__fro_mach, contK__fro_obj, contK__tmp, contK__tmpk, contK__tmpd, contL__loc, lvL__own, lvL__pin, lvL__fro, lvL__k, lvL__d, contK__loc, kOf, hx0, hw, he, datE, cok_int, deq_int, hi]
        · rcases set_get hx with ⟨z1, z2⟩ | z
          · exact .inr ⟨z1, by rw [if_neg (by simpa using he), List.length_set]; omega⟩
          · exact .inl (hxs x (List.mem_of_getElem? z))
    · exact ⟨xs, l2, fin _ _ (by simp [mW, noPin, wipeL, restL, mDNew, List.foldr_cons, List.foldr_nil, List.all_cons, List.all_nil, runF, runP, startL, startP, outD, frz1, mSeq, mNx, mRet, mIfS, mSet, mAsg, mPar', mApp, mExt, mPop, mSetIx, mAug, mFor, mT, mAnd, mOr, mNot, mAndV, mOrV, mNotV, mIf, mB0, mB1, mB2, mBN, mNil, mCons, mF, mVar, mC, mTup, mLst, mSl, mNo, mSo, mMeth, mEnum, mZip, mRng1, mRng2, inRng_3, inRng_4, inRng_6, mSeq1, mTT, opB, opI, opAdd, opIx, opLen, opTuple, opList, opInt, opMin, opAllAny, opJoin, opSl, opDict, opKGet, mGet2, opNeg, opMach, opSounds, opHist, mCh, inE, ninE, eqE, neE, isMach, callF, callP, pu1, pu2, puN, iCmp, frosOf, put, pin_fro, pin_non, pin_own, gN, gNil', gCons', gTup', lstOf, setL, ownOf, isLoc, locIs, mElt, mInn, mLcG, cT, cPos, Option.bind_some, Option.bind_none, Option.map_some, Option.map_none, List.getElem?_cons_zero, List.getElem?_cons_succ, List.set_cons_zero, List.set_cons_succ, List.map_cons, List.map_nil, List.length_cons, List.length_nil, List.cons_append, List.nil_append, List.replicate_succ, List.replicate_zero, asInt__fro_int, asInt__fro_str, asInt__fro_bl, asInt__fro_tup, asInt__fro_row, asInt__fro_lst, asInt__fro_non, asInt__fro_mach, asInt__fro_obj, asInt__tmp, asInt__tmpk, asInt__tmpd, asInt__loc, asStr__fro_int, asStr__fro_str, asStr__fro_bl, asStr__fro_tup, asStr__fro_row, asStr__fro_lst, asStr__fro_non, asStr__fro_mach, asStr__fro_obj, asStr__tmp, asStr__tmpk, asStr__tmpd, asStr__loc, asBl__fro_int, asBl__fro_str, asBl__fro_bl, asBl__fro_tup, asBl__fro_row, asBl__fro_lst, asBl__fro_non, asBl__fro_mach, asBl__fro_obj, asBl__tmp, asBl__tmpk, asBl__tmpd, asBl__loc, asTup__fro_int, asTup__fro_str, asTup__fro_bl, asTup__fro_tup, asTup__fro_row, asTup__fro_lst, asTup__fro_non, asTup__fro_mach, asTup__fro_obj, asTup__tmp, asTup__tmpk, asTup__tmpd, asTup__loc, contL__fro_int, contL__fro_str, contL__fro_bl, contL__fro_tup, contL__fro_row, contL__fro_lst, contL__fro_non, contL__fro_mach, contL__fro_obj, contL__tmp, contL__tmpk, contL__tmpd, contK__fro_int, contK__fro_str, contK__fro_bl, contK__fro_tup, contK__fro_row, contK__fro_lst, contK__fro_non, contK__fro_mach, contK__fro_obj, contK__tmp, contK__tmpk, contK__tmpd, contL__loc, lvL__own, lvL__pin, lvL__fro, lvL__k, lvL__d, contK__loc, kOf, hx0, hw, hw0, datE, cok_int, deq_int]), hp2, hlot _⟩
  · have hx1 : xs = [] := List.length_eq_zero_iff.mp (by omega)
    subst hx1
    exact ⟨[], l1, fin _ _ (by simp [mW, noPin, wipeL, restL, mDNew, List.foldr_cons, List.foldr_nil, List.all_cons, List.all_nil, runF, runP, startL, startP, outD, frz1, mSeq, mNx, mRet, mIfS, mSet, mAsg, mPar', mApp, mExt, mPop, mSetIx, mAug, mFor, mT, mAnd, mOr, mNot, mAndV, mOrV, mNotV, mIf, mB0, mB1, mB2, mBN, mNil, mCons, mF, mVar, mC, mTup, mLst, mSl, mNo, mSo, mMeth, mEnum, mZip, mRng1, mRng2, inRng_3, inRng_4, inRng_6, mSeq1, mTT, opB, opI, opAdd, opIx, opLen, opTuple, opList, opInt, opMin, opAllAny, opJoin, opSl, opDict, opKGet, mGet2, opNeg, opMach, opSounds, opHist, mCh, inE, ninE, eqE, neE, isMach, callF, callP, pu1, pu2, puN, iCmp, frosOf, put, pin_fro, pin_non, pin_own, gN, gNil', gCons', gTup', lstOf, setL, ownOf, isLoc, locIs, mElt, mInn, mLcG, cT, cPos, Option.bind_some, Option.bind_none, Option.map_some, Option.map_none, List.getElem?_cons_zero, List.getElem?_cons_succ, List.set_cons_zero, List.set_cons_succ, List.map_cons, List.map_nil, List.length_cons, List.length_nil, List.cons_append, List.nil_append, List.replicate_succ, List.replicate_zero, asInt__fro_int, asInt__fro_str, asInt__fro_bl, asInt__fro_tup, asInt__fro_row, asInt__fro_lst, asInt__fro_non, asInt__fro_mach, asInt__fro_obj, asInt__tmp, asInt__tmpk, asInt__tmpd, asInt__loc, asStr__fro_int, asStr__fro_str, asStr__fro_bl, asStr__fro_tup, asStr__fro_row, asStr__fro_lst, asStr__fro_non, asStr__fro_mach, asStr__fro_obj, asStr__tmp, asStr__tmpk, asStr__tmpd, asStr__loc, asBl__fro_int, asBl__fro_str, asBl__fro_bl, asBl__fro_tup, asBl__fro_row, asBl__fro_lst, asBl__fro_non, asBl__fro_mach, asBl__fro_obj, asBl__tmp, asBl__tmpk, asBl__tmpd, asBl__loc, asTup__fro_int, asTup__fro_str, asTup__fro_bl, asTup__fro_tup, asTup__fro_row, asTup__fro_lst, asTup__fro_non, asTup__fro_mach, asTup__fro_obj, asTup__tmp, asTup__tmpk, asTup__tmpd, asTup__loc, contL__fro_int, contL__fro_str, contL__fro_bl, contL__fro_tup, contL__fro_row, contL__fro_lst, contL__fro_non, contL__fro_mach, contL__fro_obj, contL__tmp, contL__tmpk, contL__tmpd, contK__fro_int, contK__fro_str, contK__fro_bl, contK__fro_tup, contK__fro_row, contK__fro_lst, contK__fro_non, contK__fro_mach, contK__fro_obj, contK__tmp, contK__tmpk, contK__tmpd, contL__loc, lvL__own, lvL__pin, lvL__fro, lvL__k, lvL__d, contK__loc, kOf]), hp1, by simp, by simp⟩
end SS

/-! rules, histories drawn -/
namespace SS
open PySem PySem.Spec PyProof.Rows L2

def ChOk (S : Wd) (p : Nat × Wd) : Prop := p.1 ∈ S ∧ p.2.length ≤ 2 ∧ ∀ c ∈ p.2, c ∈ S
theorem encs_of {Q : Nat × Wd → Prop} : ∀ {zs : List D}, (∀ y ∈ zs, ∃ x, y = encP x ∧ Q x) → ∃ xs : List (Nat × Wd), zs = xs.map encP ∧ ∀ x ∈ xs, Q x
  | [], _ => ⟨[], rfl, by simp⟩
  | y :: zs, h => by
    obtain ⟨x, rfl, hx⟩ := h y (by simp)
    obtain ⟨xs, rfl, hxs⟩ := encs_of (zs := zs) fun z hz => h z (by simp [hz])
    exact ⟨x :: xs, rfl, fun z hz => by
      rcases List.mem_cons.mp hz with e | e
      · subst e; exact hx
      · exact hxs z e⟩
theorem law_law_ex {S : Wd} (hS : AlOk S) {l : List D} (h : PoolOk l) : ∃ r l', P__law_law l [.str S] = some (dRl r, l') ∧ PoolOk l' ∧ RlOk S r := by
  have hz : S.length ≤ LIM := Nat.le_trans hS.len (by decide)
  have hS3 := hS.len
  have hrl : (rows S).length = S.length := by simp [rows]
  obtain ⟨zs, L2, h1, ⟨l1, hp1, rfl⟩, h3, h4⟩ := lc_ex (vs := [3]) (g := g__law_law1) (tt := t__law_law1) (me := e__law_law1) (fun L => ∃ l, PoolOk l ∧ L = [.pin l, .fro (.str S), .none, .none]) (fun y => ∃ p, y = encP p ∧ ChOk S p) (rows S) [] [.pin l, .fro (.str S), .none, .none]
    (fun d hd L ⟨l, hp, hL⟩ => by
      subst hL
      obtain ⟨c, hc, rfl⟩ := rows_mem hd
      obtain ⟨v, l', hv, hp', _, _⟩ := draw_ex hp (m := 2) (by decide) (by decide)
      refine ⟨rfl, [.pin l, .fro (.str S), .none, .fro (.str [c])], by simp [mW, noPin, wipeL, restL, mDNew, List.foldr_cons, List.foldr_nil, List.all_cons, List.all_nil, runF, runP, startL, startP, outD, frz1, mSeq, mNx, mRet, mIfS, mSet, mAsg, mPar', mApp, mExt, mPop, mSetIx, mAug, mFor, mT, mAnd, mOr, mNot, mAndV, mOrV, mNotV, mIf, mB0, mB1, mB2, mBN, mNil, mCons, mF, mVar, mC, mTup, mLst, mSl, mNo, mSo, mMeth, mEnum, mZip, mRng1, mRng2, inRng_3, inRng_4, inRng_6, mSeq1, mTT, opB, opI, opAdd, opIx, opLen, opTuple, opList, opInt, opMin, opAllAny, opJoin, opSl, opDict, opKGet, mGet2, opNeg, opMach, opSounds, opHist, mCh, inE, ninE, eqE, neE, isMach, callF, callP, pu1, pu2, puN, iCmp, frosOf, put, pin_fro, pin_non, pin_own, gN, gNil', gCons', gTup', lstOf, setL, ownOf, isLoc, locIs, mElt, mInn, mLcG, cT, cPos, Option.bind_some, Option.bind_none, Option.map_some, Option.map_none, List.getElem?_cons_zero, List.getElem?_cons_succ, List.set_cons_zero, List.set_cons_succ, List.map_cons, List.map_nil, List.length_cons, List.length_nil, List.cons_append, List.nil_append, List.replicate_succ, List.replicate_zero, asInt__fro_int, asInt__fro_str, asInt__fro_bl, asInt__fro_tup, asInt__fro_row, asInt__fro_lst, asInt__fro_non, asInt__fro_mach, asInt__fro_obj, asInt__tmp, asInt__tmpk, asInt__tmpd, asInt__loc, asStr__fro_int, asStr__fro_str, asStr__fro_bl, asStr__fro_tup, asStr__fro_row, asStr__fro_lst, asStr__fro_non, asStr__fro_mach, asStr__fro_obj, asStr__tmp, asStr__tmpk, asStr__tmpd, asStr__loc, asBl__fro_int, asBl__fro_str, asBl__fro_bl, asBl__fro_tup, asBl__fro_row, asBl__fro_lst, asBl__fro_non, asBl__fro_mach, asBl__fro_obj, asBl__tmp, asBl__tmpk, asBl__tmpd, asBl__loc, asTup__fro_int, asTup__fro_str, asTup__fro_bl, asTup__fro_tup, asTup__fro_row, asTup__fro_lst, asTup__fro_non, asTup__fro_mach, asTup__fro_obj, asTup__tmp, asTup__tmpk, asTup__tmpd, asTup__loc, contL__fro_int, contL__fro_str, contL__fro_bl, contL__fro_tup, contL__fro_row, contL__fro_lst, contL__fro_non, contL__fro_mach, contL__fro_obj, contL__tmp, contL__tmpk, contL__tmpd, contK__fro_int, contK__fro_str, contK__fro_bl, contK__fro_tup, contK__fro_row, contK__fro_lst, contK__fro_non, contK__fro_mach, contK__fro_obj, contK__tmp, contK__tmpk, contK__tmpd, contL__loc, lvL__own, lvL__pin, lvL__fro, lvL__k, lvL__d, contK__loc, kOf, g__law_law1, wipeL], ?_⟩
      by_cases hv0 : v = 0
      · subst hv0
        obtain ⟨x, l2, hx, hp2, x1, x2⟩ := word_ex hS hp' (n := 2) (by decide)
        have hx' : P__law_word l' [.str S, .int 2] = some (.str x, l2) := hx
        exact .inr ⟨[.pin l', .fro (.str S), .none, .fro (.str [c])], encP (c, x), [.pin l2, .fro (.str S), .none, .fro (.str [c])], by simp [mW, noPin, wipeL, restL, mDNew, List.foldr_cons, List.foldr_nil, List.all_cons, List.all_nil, runF, runP, startL, startP, outD, frz1, mSeq, mNx, mRet, mIfS, mSet, mAsg, mPar', mApp, mExt, mPop, mSetIx, mAug, mFor, mT, mAnd, mOr, mNot, mAndV, mOrV, mNotV, mIf, mB0, mB1, mB2, mBN, mNil, mCons, mF, mVar, mC, mTup, mLst, mSl, mNo, mSo, mMeth, mEnum, mZip, mRng1, mRng2, inRng_3, inRng_4, inRng_6, mSeq1, mTT, opB, opI, opAdd, opIx, opLen, opTuple, opList, opInt, opMin, opAllAny, opJoin, opSl, opDict, opKGet, mGet2, opNeg, opMach, opSounds, opHist, mCh, inE, ninE, eqE, neE, isMach, callF, callP, pu1, pu2, puN, iCmp, frosOf, put, pin_fro, pin_non, pin_own, gN, gNil', gCons', gTup', lstOf, setL, ownOf, isLoc, locIs, mElt, mInn, mLcG, cT, cPos, Option.bind_some, Option.bind_none, Option.map_some, Option.map_none, List.getElem?_cons_zero, List.getElem?_cons_succ, List.set_cons_zero, List.set_cons_succ, List.map_cons, List.map_nil, List.length_cons, List.length_nil, List.cons_append, List.nil_append, List.replicate_succ, List.replicate_zero, asInt__fro_int, asInt__fro_str, asInt__fro_bl, asInt__fro_tup, asInt__fro_row, asInt__fro_lst, asInt__fro_non, asInt__fro_mach, asInt__fro_obj, asInt__tmp, asInt__tmpk, asInt__tmpd, asInt__loc, asStr__fro_int, asStr__fro_str, asStr__fro_bl, asStr__fro_tup, asStr__fro_row, asStr__fro_lst, asStr__fro_non, asStr__fro_mach, asStr__fro_obj, asStr__tmp, asStr__tmpk, asStr__tmpd, asStr__loc, asBl__fro_int, asBl__fro_str, asBl__fro_bl, asBl__fro_tup, asBl__fro_row, asBl__fro_lst, asBl__fro_non, asBl__fro_mach, asBl__fro_obj, asBl__tmp, asBl__tmpk, asBl__tmpd, asBl__loc, asTup__fro_int, asTup__fro_str, asTup__fro_bl, asTup__fro_tup, asTup__fro_row, asTup__fro_lst, asTup__fro_non, asTup__fro_mach, asTup__fro_obj, asTup__tmp, asTup__tmpk, asTup__tmpd, asTup__loc, contL__fro_int, contL__fro_str, contL__fro_bl, contL__fro_tup, contL__fro_row, contL__fro_lst, contL__fro_non, contL__fro_mach, contL__fro_obj, contL__tmp, contL__tmpk, contL__tmpd, contK__fro_int, contK__fro_str, contK__fro_bl, contK__fro_tup, contK__fro_row, contK__fro_lst, contK__fro_non, contK__fro_mach, contK__fro_obj, contK__tmp, contK__tmpk, contK__tmpd, contL__loc, lvL__own, lvL__pin, lvL__fro, lvL__k, lvL__d, contK__loc, kOf, t__law_law1, hv, datE, cok_int, deq_int], by simp [mW, noPin, wipeL, restL, mDNew, List.foldr_cons, List.foldr_nil, List.all_cons, List.all_nil, runF, runP, startL, startP, outD, frz1, mSeq, mNx, mRet, mIfS, mSet, mAsg, mPar', mApp, mExt, mPop, mSetIx, mAug, mFor, mT, mAnd, mOr, mNot, mAndV, mOrV, mNotV, mIf, mB0, mB1, mB2, mBN, mNil, mCons, mF, mVar, mC, mTup, mLst, mSl, mNo, mSo, mMeth, mEnum, mZip, mRng1, mRng2, inRng_3, inRng_4, inRng_6, mSeq1, mTT, opB, opI, opAdd, opIx, opLen, opTuple, opList, opInt, opMin, opAllAny, opJoin, opSl, opDict, opKGet, mGet2, opNeg, opMach, opSounds, opHist, mCh, inE, ninE, eqE, neE, isMach, callF, callP, pu1, pu2, puN, iCmp, frosOf, put, pin_fro, pin_non, pin_own, gN, gNil', gCons', gTup', lstOf, setL, ownOf, isLoc, locIs, mElt, mInn, mLcG, cT, cPos, Option.bind_some, Option.bind_none, Option.map_some, Option.map_none, List.getElem?_cons_zero, List.getElem?_cons_succ, List.set_cons_zero, List.set_cons_succ, List.map_cons, List.map_nil, List.length_cons, List.length_nil, List.cons_append, List.nil_append, List.replicate_succ, List.replicate_zero, asInt__fro_int, asInt__fro_str, asInt__fro_bl, asInt__fro_tup, asInt__fro_row, asInt__fro_lst, asInt__fro_non, asInt__fro_mach, asInt__fro_obj, asInt__tmp, asInt__tmpk, asInt__tmpd, asInt__loc, asStr__fro_int, asStr__fro_str, asStr__fro_bl, asStr__fro_tup, asStr__fro_row, asStr__fro_lst, asStr__fro_non, asStr__fro_mach, asStr__fro_obj, asStr__tmp, asStr__tmpk, asStr__tmpd, asStr__loc, asBl__fro_int, asBl__fro_str, asBl__fro_bl, asBl__fro_tup, asBl__fro_row, asBl__fro_lst, asBl__fro_non, asBl__fro_mach, asBl__fro_obj, asBl__tmp, asBl__tmpk, asBl__tmpd, asBl__loc, asTup__fro_int, asTup__fro_str, asTup__fro_bl, asTup__fro_tup, asTup__fro_row, asTup__fro_lst, asTup__fro_non, asTup__fro_mach, asTup__fro_obj, asTup__tmp, asTup__tmpk, asTup__tmpd, asTup__loc, contL__fro_int, contL__fro_str, contL__fro_bl, contL__fro_tup, contL__fro_row, contL__fro_lst, contL__fro_non, contL__fro_mach, contL__fro_obj, contL__tmp, contL__tmpk, contL__tmpd, contK__fro_int, contK__fro_str, contK__fro_bl, contK__fro_tup, contK__fro_row, contK__fro_lst, contK__fro_non, contK__fro_mach, contK__fro_obj, contK__tmp, contK__tmpk, contK__tmpd, contL__loc, lvL__own, lvL__pin, lvL__fro, lvL__k, lvL__d, contK__loc, kOf, e__law_law1, hx', encP], ⟨_, rfl, hc, x1, x2⟩, l2, hp2, by simp [restL]⟩
      · exact .inl ⟨[.pin l', .fro (.str S), .none, .fro (.str [c])], by simp [mW, noPin, wipeL, restL, mDNew, List.foldr_cons, List.foldr_nil, List.all_cons, List.all_nil, runF, runP, startL, startP, outD, frz1, mSeq, mNx, mRet, mIfS, mSet, mAsg, mPar', mApp, mExt, mPop, mSetIx, mAug, mFor, mT, mAnd, mOr, mNot, mAndV, mOrV, mNotV, mIf, mB0, mB1, mB2, mBN, mNil, mCons, mF, mVar, mC, mTup, mLst, mSl, mNo, mSo, mMeth, mEnum, mZip, mRng1, mRng2, inRng_3, inRng_4, inRng_6, mSeq1, mTT, opB, opI, opAdd, opIx, opLen, opTuple, opList, opInt, opMin, opAllAny, opJoin, opSl, opDict, opKGet, mGet2, opNeg, opMach, opSounds, opHist, mCh, inE, ninE, eqE, neE, isMach, callF, callP, pu1, pu2, puN, iCmp, frosOf, put, pin_fro, pin_non, pin_own, gN, gNil', gCons', gTup', lstOf, setL, ownOf, isLoc, locIs, mElt, mInn, mLcG, cT, cPos, Option.bind_some, Option.bind_none, Option.map_some, Option.map_none, List.getElem?_cons_zero, List.getElem?_cons_succ, List.set_cons_zero, List.set_cons_succ, List.map_cons, List.map_nil, List.length_cons, List.length_nil, List.cons_append, List.nil_append, List.replicate_succ, List.replicate_zero, asInt__fro_int, asInt__fro_str, asInt__fro_bl, asInt__fro_tup, asInt__fro_row, asInt__fro_lst, asInt__fro_non, asInt__fro_mach, asInt__fro_obj, asInt__tmp, asInt__tmpk, asInt__tmpd, asInt__loc, asStr__fro_int, asStr__fro_str, asStr__fro_bl, asStr__fro_tup, asStr__fro_row, asStr__fro_lst, asStr__fro_non, asStr__fro_mach, asStr__fro_obj, asStr__tmp, asStr__tmpk, asStr__tmpd, asStr__loc, asBl__fro_int, asBl__fro_str, asBl__fro_bl, asBl__fro_tup, asBl__fro_row, asBl__fro_lst, asBl__fro_non, asBl__fro_mach, asBl__fro_obj, asBl__tmp, asBl__tmpk, asBl__tmpd, asBl__loc, asTup__fro_int, asTup__fro_str, asTup__fro_bl, asTup__fro_tup, asTup__fro_row, asTup__fro_lst, asTup__fro_non, asTup__fro_mach, asTup__fro_obj, asTup__tmp, asTup__tmpk, asTup__tmpd, asTup__loc, contL__fro_int, contL__fro_str, contL__fro_bl, contL__fro_tup, contL__fro_row, contL__fro_lst, contL__fro_non, contL__fro_mach, contL__fro_obj, contL__tmp, contL__tmpk, contL__tmpd, contK__fro_int, contK__fro_str, contK__fro_bl, contK__fro_tup, contK__fro_row, contK__fro_lst, contK__fro_non, contK__fro_mach, contK__fro_obj, contK__tmp, contK__tmpk, contK__tmpd, contL__loc, lvL__own, lvL__pin, lvL__fro, lvL__k, lvL__d, contK__loc, kOf, t__law_law1, hv, hv0, datE, cok_int, deq_int], l', hp', by simp [restL]⟩) ⟨l, h, rfl⟩ (by simpa [rows] using hz)
  obtain ⟨xs, rfl, hxs⟩ := encs_of h3
  rw [List.nil_append] at h1
  rw [List.length_map, hrl] at h4
  have e1 : mSet 2 (mBN (puN opTuple) (mCons (mLcG [3] (mSeq1 (mF (mVar 1))) g__law_law1 t__law_law1 (mElt e__law_law1)) mNil)) [.pin l, .fro (.str S), .none, .none] = some (.nx, [.pin l1, .fro (.str S), .fro (.tup (xs.map encP)), .none]) := by
    simp [mW, noPin, wipeL, restL, mDNew, List.foldr_cons, List.foldr_nil, List.all_cons, List.all_nil, runF, runP, startL, startP, outD, frz1, mSeq, mNx, mRet, mIfS, mSet, mAsg, mPar', mApp, mExt, mPop, mSetIx, mAug, mFor, mT, mAnd, mOr, mNot, mAndV, mOrV, mNotV, mIf, mB0, mB1, mB2, mBN, mNil, mCons, mF, mVar, mC, mTup, mLst, mSl, mNo, mSo, mMeth, mEnum, mZip, mRng1, mRng2, inRng_3, inRng_4, inRng_6, mSeq1, mTT, opB, opI, opAdd, opIx, opLen, opTuple, opList, opInt, opMin, opAllAny, opJoin, opSl, opDict, opKGet, mGet2, opNeg, opMach, opSounds, opHist, mCh, inE, ninE, eqE, neE, isMach, callF, callP, pu1, pu2, puN, iCmp, frosOf, put, pin_fro, pin_non, pin_own, gN, gNil', gCons', gTup', lstOf, setL, ownOf, isLoc, locIs, mElt, mInn, mLcG, cT, cPos, Option.bind_some, Option.bind_none, Option.map_some, Option.map_none, List.getElem?_cons_zero, List.getElem?_cons_succ, List.set_cons_zero, List.set_cons_succ, List.map_cons, List.map_nil, List.length_cons, List.length_nil, List.cons_append, List.nil_append, List.replicate_succ, List.replicate_zero, asInt__fro_int, asInt__fro_str, asInt__fro_bl, asInt__fro_tup, asInt__fro_row, asInt__fro_lst, asInt__fro_non, asInt__fro_mach, asInt__fro_obj, asInt__tmp, asInt__tmpk, asInt__tmpd, asInt__loc, asStr__fro_int, asStr__fro_str, asStr__fro_bl, asStr__fro_tup, asStr__fro_row, asStr__fro_lst, asStr__fro_non, asStr__fro_mach, asStr__fro_obj, asStr__tmp, asStr__tmpk, asStr__tmpd, asStr__loc, asBl__fro_int, asBl__fro_str, asBl__fro_bl, asBl__fro_tup, asBl__fro_row, asBl__fro_lst, asBl__fro_non, asBl__fro_mach, asBl__fro_obj, asBl__tmp, asBl__tmpk, asBl__tmpd, asBl__loc, asTup__fro_int, asTup__fro_str, asTup__fro_bl, asTup__fro_tup, asTup__fro_row, asTup__fro_lst, asTup__fro_non, asTup__fro_mach, asTup__fro_obj, asTup__tmp, asTup__tmpk, asTup__tmpd, asTup__loc, contL__fro_int, contL__fro_str, contL__fro_bl, contL__fro_tup, contL__fro_row, contL__fro_lst, contL__fro_non, contL__fro_mach, contL__fro_obj, contL__tmp, contL__tmpk, contL__tmpd, contK__fro_int, contK__fro_str, contK__fro_bl, contK__fro_tup, contK__fro_row, contK__fro_lst, contK__fro_non, contK__fro_mach, contK__fro_obj, contK__tmp, contK__tmpk, contK__tmpd, contL__loc, lvL__own, lvL__pin, lvL__fro, lvL__k, lvL__d, contK__loc, kOf, h1]
  have fin : ∀ (l2 : List D) (ys : List (Nat × Wd)), PoolOk l2 → ys.length ≤ 6 → (∀ p ∈ ys, ChOk S p) → (mIfS (mT (mB2 (opB eqE) (mBN (puN opLen) (mCons (mVar 2) mNil)) (mC (.int 0)))) (mSet 2 (mTup (mCons (mF (mTup (mCons (mF (mB2 (pu2 opIx) (mVar 1) (mC (.int 0)))) (mCons (mF (mBN (callP P__law_word) (mCons (mVar 0) (mCons (mF (mVar 1)) (mCons (mC (.int 2)) mNil))))) mNil)))) mNil))) mNx) [.pin l1, .fro (.str S), .fro (.tup (xs.map encP)), .none] = some (.nx, [.pin l2, .fro (.str S), .fro (.tup (ys.map encP)), .none]) →
      ∃ r l', P__law_law l [.str S] = some (dRl r, l') ∧ PoolOk l' ∧ RlOk S r := fun l2 ys hp2 hy1 hy2 h2 => by
    obtain ⟨be, l3, hb, hp3, b1, b2⟩ := slots_ex hS hp2 (e := 0)
    obtain ⟨bh, l4, hb', hp4, c1, c2⟩ := slots_ex hS hp3 (e := 1)
    refine ⟨⟨ys, be, bh⟩, l4, ?_, hp4, ⟨hy1, hy2, b1, c1, fun i x hx => by simpa using b2 i x hx, fun i x hx => by simpa using c2 i x hx⟩⟩
    refine runP_rt (L := [.pin l4, .fro (.str S), .fro (.tup (ys.map encP)), .none]) (ev := .fro (dRl ⟨ys, be, bh⟩)) rfl ?_ rfl rfl
    show m__law_law [.pin l, .fro (.str S), .none, .none] = _
    unfold m__law_law
    rw [mSeq_nx e1, mSeq_nx h2]
    refine mRet_of ?_
    simp [mW, noPin, wipeL, restL, mDNew, List.foldr_cons, List.foldr_nil, List.all_cons, List.all_nil, runF, runP, startL, startP, outD, frz1, mSeq, mNx, mRet, mIfS, mSet, mAsg, mPar', mApp, mExt, mPop, mSetIx, mAug, mFor, mT, mAnd, mOr, mNot, mAndV, mOrV, mNotV, mIf, mB0, mB1, mB2, mBN, mNil, mCons, mF, mVar, mC, mTup, mLst, mSl, mNo, mSo, mMeth, mEnum, mZip, mRng1, mRng2, inRng_3, inRng_4, inRng_6, mSeq1, mTT, opB, opI, opAdd, opIx, opLen, opTuple, opList, opInt, opMin, opAllAny, opJoin, opSl, opDict, opKGet, mGet2, opNeg, opMach, opSounds, opHist, mCh, inE, ninE, eqE, neE, isMach, callF, callP, pu1, pu2, puN, iCmp, frosOf, put, pin_fro, pin_non, pin_own, gN, gNil', gCons', gTup', lstOf, setL, ownOf, isLoc, locIs, mElt, mInn, mLcG, cT, cPos, Option.bind_some, Option.bind_none, Option.map_some, Option.map_none, List.getElem?_cons_zero, List.getElem?_cons_succ, List.set_cons_zero, List.set_cons_succ, List.map_cons, List.map_nil, List.length_cons, List.length_nil, List.cons_append, List.nil_append, List.replicate_succ, List.replicate_zero, asInt__fro_int, asInt__fro_str, asInt__fro_bl, asInt__fro_tup, asInt__fro_row, asInt__fro_lst, asInt__fro_non, asInt__fro_mach, asInt__fro_obj, asInt__tmp, asInt__tmpk, asInt__tmpd, asInt__loc, asStr__fro_int, asStr__fro_str, asStr__fro_bl, asStr__fro_tup, asStr__fro_row, asStr__fro_lst, asStr__fro_non, asStr__fro_mach, asStr__fro_obj, asStr__tmp, asStr__tmpk, asStr__tmpd, asStr__loc, asBl__fro_int, asBl__fro_str, asBl__fro_bl, asBl__fro_tup, asBl__fro_row, asBl__fro_lst, asBl__fro_non, asBl__fro_mach, asBl__fro_obj, asBl__tmp, asBl__tmpk, asBl__tmpd, asBl__loc, asTup__fro_int, asTup__fro_str, asTup__fro_bl, asTup__fro_tup, asTup__fro_row, asTup__fro_lst, asTup__fro_non, asTup__fro_mach, asTup__fro_obj, asTup__tmp, asTup__tmpk, asTup__tmpd, asTup__loc, contL__fro_int, contL__fro_str, contL__fro_bl, contL__fro_tup, contL__fro_row, contL__fro_lst, contL__fro_non, contL__fro_mach, contL__fro_obj, contL__tmp, contL__tmpk, contL__tmpd, contK__fro_int, contK__fro_str, contK__fro_bl, contK__fro_tup, contK__fro_row, contK__fro_lst, contK__fro_non, contK__fro_mach, contK__fro_obj, contK__tmp, contK__tmpk, contK__tmpd, contL__loc, lvL__own, lvL__pin, lvL__fro, lvL__k, lvL__d, contK__loc, kOf, hb, hb', dRl, dCh]
  by_cases hx0 : xs.length = 0
  · have hx1 : xs = [] := List.length_eq_zero_iff.mp hx0
    subst hx1
    obtain ⟨x, l2, hx, hp2, x1, x2⟩ := word_ex hS hp1 (n := 2) (by decide)
    have hx' : P__law_word l1 [.str S, .int 2] = some (.str x, l2) := hx
    obtain ⟨c, hc, ha⟩ := pick hS (v := 0) (by omega) (by have := slen hS; omega)
    refine fin l2 [(c, x)] hp2 (by simp) (fun p hp => by rw [List.mem_singleton.mp hp]; exact ⟨hc, x1, x2⟩) ?_
    simp [mW, noPin, wipeL, restL, mDNew, List.foldr_cons, List.foldr_nil, List.all_cons, List.all_nil, runF, runP, startL, startP, outD, frz1, mSeq, mNx, mRet, mIfS, mSet, mAsg, mPar', mApp, mExt, mPop, mSetIx, mAug, mFor, mT, mAnd, mOr, mNot, mAndV, mOrV, mNotV, mIf, mB0, mB1, mB2, mBN, mNil, mCons, mF, mVar, mC, mTup, mLst, mSl, mNo, mSo, mMeth, mEnum, mZip, mRng1, mRng2, inRng_3, inRng_4, inRng_6, mSeq1, mTT, opB, opI, opAdd, opIx, opLen, opTuple, opList, opInt, opMin, opAllAny, opJoin, opSl, opDict, opKGet, mGet2, opNeg, opMach, opSounds, opHist, mCh, inE, ninE, eqE, neE, isMach, callF, callP, pu1, pu2, puN, iCmp, frosOf, put, pin_fro, pin_non, pin_own, gN, gNil', gCons', gTup', lstOf, setL, ownOf, isLoc, locIs, mElt, mInn, mLcG, cT, cPos, Option.bind_some, Option.bind_none, Option.map_some, Option.map_none, List.getElem?_cons_zero, List.getElem?_cons_succ, List.set_cons_zero, List.set_cons_succ, List.map_cons, List.map_nil, List.length_cons, List.length_nil, List.cons_append, List.nil_append, List.replicate_succ, List.replicate_zero, asInt__fro_int, asInt__fro_str, asInt__fro_bl, asInt__fro_tup, asInt__fro_row, asInt__fro_lst, asInt__fro_non, asInt__fro_mach, asInt__fro_obj, asInt__tmp, asInt__tmpk, asInt__tmpd, asInt__loc, asStr__fro_int, asStr__fro_str, asStr__fro_bl, asStr__fro_tup, asStr__fro_row, asStr__fro_lst, asStr__fro_non, asStr__fro_mach, asStr__fro_obj, asStr__tmp, asStr__tmpk, asStr__tmpd, asStr__loc, asBl__fro_int, asBl__fro_str, asBl__fro_bl, asBl__fro_tup, asBl__fro_row, asBl__fro_lst, asBl__fro_non, asBl__fro_mach, asBl__fro_obj, asBl__tmp, asBl__tmpk, asBl__tmpd, asBl__loc, asTup__fro_int, asTup__fro_str, asTup__fro_bl, asTup__fro_tup, asTup__fro_row, asTup__fro_lst, asTup__fro_non, asTup__fro_mach, asTup__fro_obj, asTup__tmp, asTup__tmpk, asTup__tmpd, asTup__loc, contL__fro_int, contL__fro_str, contL__fro_bl, contL__fro_tup, contL__fro_row, contL__fro_lst, contL__fro_non, contL__fro_mach, contL__fro_obj, contL__tmp, contL__tmpk, contL__tmpd, contK__fro_int, contK__fro_str, contK__fro_bl, contK__fro_tup, contK__fro_row, contK__fro_lst, contK__fro_non, contK__fro_mach, contK__fro_obj, contK__tmp, contK__tmpk, contK__tmpd, contL__loc, lvL__own, lvL__pin, lvL__fro, lvL__k, lvL__d, contK__loc, kOf, hx', ha, hz, datE, cok_int, deq_int, encP]
  · refine fin l1 xs hp1 (by omega) hxs ?_
    have hx2 : ¬ (xs.length : Int) = 0 := by omega
    have hx3 : ¬ xs = [] := fun z => hx0 (by rw [z]; rfl)
    simp [mW, noPin, wipeL, restL, mDNew, List.foldr_cons, List.foldr_nil, List.all_cons, List.all_nil, runF, runP, startL, startP, outD, frz1, mSeq, mNx, mRet, mIfS, mSet, mAsg, mPar', mApp, mExt, mPop, mSetIx, mAug, mFor, mT, mAnd, mOr, mNot, mAndV, mOrV, mNotV, mIf, mB0, mB1, mB2, mBN, mNil, mCons, mF, mVar, mC, mTup, mLst, mSl, mNo, mSo, mMeth, mEnum, mZip, mRng1, mRng2, inRng_3, inRng_4, inRng_6, mSeq1, mTT, opB, opI, opAdd, opIx, opLen, opTuple, opList, opInt, opMin, opAllAny, opJoin, opSl, opDict, opKGet, mGet2, opNeg, opMach, opSounds, opHist, mCh, inE, ninE, eqE, neE, isMach, callF, callP, pu1, pu2, puN, iCmp, frosOf, put, pin_fro, pin_non, pin_own, gN, gNil', gCons', gTup', lstOf, setL, ownOf, isLoc, locIs, mElt, mInn, mLcG, cT, cPos, Option.bind_some, Option.bind_none, Option.map_some, Option.map_none, List.getElem?_cons_zero, List.getElem?_cons_succ, List.set_cons_zero, List.set_cons_succ, List.map_cons, List.map_nil, List.length_cons, List.length_nil, List.cons_append, List.nil_append, List.replicate_succ, List.replicate_zero, asInt__fro_int, asInt__fro_str, asInt__fro_bl, asInt__fro_tup, asInt__fro_row, asInt__fro_lst, asInt__fro_non, asInt__fro_mach, asInt__fro_obj, asInt__tmp, asInt__tmpk, asInt__tmpd, asInt__loc, asStr__fro_int, asStr__fro_str, asStr__fro_bl, asStr__fro_tup, asStr__fro_row, asStr__fro_lst, asStr__fro_non, asStr__fro_mach, asStr__fro_obj, asStr__tmp, asStr__tmpk, asStr__tmpd, asStr__loc, asBl__fro_int, asBl__fro_str, asBl__fro_bl, asBl__fro_tup, asBl__fro_row, asBl__fro_lst, asBl__fro_non, asBl__fro_mach, asBl__fro_obj, asBl__tmp, asBl__tmpk, asBl__tmpd, asBl__loc, asTup__fro_int, asTup__fro_str, asTup__fro_bl, asTup__fro_tup, asTup__fro_row, asTup__fro_lst, asTup__fro_non, asTup__fro_mach, asTup__fro_obj, asTup__tmp, asTup__tmpk, asTup__tmpd, asTup__loc, contL__fro_int, contL__fro_str, contL__fro_bl, contL__fro_tup, contL__fro_row, contL__fro_lst, contL__fro_non, contL__fro_mach, contL__fro_obj, contL__tmp, contL__tmpk, contL__tmpd, contK__fro_int, contK__fro_str, contK__fro_bl, contK__fro_tup, contK__fro_row, contK__fro_lst, contK__fro_non, contK__fro_mach, contK__fro_obj, contK__tmp, contK__tmpk, contK__tmpd, contL__loc, lvL__own, lvL__pin, lvL__fro, lvL__k, lvL__d, contK__loc, kOf, hx2, hx3, datE, cok_int, deq_int]
def bare (r : Rl) : Rl := ⟨r.ch, [], []⟩
theorem bare_ok {S : Wd} {r : Rl} (h : RlOk S r) : RlOk S (bare r) := ⟨h.nch, h.key, by simp [bare], by simp [bare], by simp [bare], by simp [bare]⟩
def slotN (r : Rl) : Nat := r.be.length + r.bh.length
theorem hist_step {S : Wd} (hS : AlOk S) {l : List D} (h : PoolOk l) {i m n : Nat} {x2 : D} {pre : List Rl} (hp : pre.length ≤ 1000) : ∃ r l', RlOk S r ∧ PoolOk l' ∧
    (g__law_history1 (.int i) [.pin l, .fro (.str S), .fro x2, .none, .fro (dHi pre), .fro (.int n), .none]).bind b__law_history1 =
      some (.nx, [.pin l', .fro (.str S), .fro x2, .none, .fro (dHi (pre ++ [if n + slotN r < 5 then r else bare r])), .fro (.int (n + slotN r : Nat)), .none]) := by
  obtain ⟨r, l', hr, hp', ho⟩ := law_law_ex hS h
  have hz : pre.length + 1 ≤ LIM := by rw [LIM_val]; omega
  refine ⟨r, l', ho, hp', ?_⟩
  have e0 : dRl r = .tup [dCh r.ch, dSl r.be, dSl r.bh] := rfl
  have e1 : (n : Int) + r.be.length + r.bh.length = ((n + slotN r : Nat) : Int) := by unfold slotN; omega
  by_cases c : n + slotN r < 5
  · have c2 : (n : Int) + r.be.length + r.bh.length < 5 := by rw [e1]; omega
    rw [if_pos c]
    unfold dHi
    rw [List.map_append, List.map_cons, List.map_nil, e0, ← e1]
    rw [e0] at hr
    simp [↓asStr_dB, ↓asInt_dB, ↓asBl_dB, ↓asTup_dB, ↓contL_dB, ↓asStr_dSt1, ↓asInt_dSt1, ↓asBl_dSt1, ↓asTup_dSt1, ↓contL_dSt1, ↓asStr_dSt, ↓asInt_dSt, ↓asBl_dSt, ↓asTup_dSt, ↓contL_dSt, ↓asStr_dSl, ↓asInt_dSl, ↓asBl_dSl, ↓asTup_dSl, ↓contL_dSl, ↓asStr_dCh, ↓asInt_dCh, ↓asBl_dCh, ↓asTup_dCh, ↓contL_dCh, ↓asStr_dRl, ↓asInt_dRl, ↓asBl_dRl, ↓asTup_dRl, ↓contL_dRl, ↓asStr_dHi, ↓asInt_dHi, ↓asBl_dHi, ↓asTup_dHi, ↓contL_dHi, ↓asStr_encP, ↓asInt_encP, ↓asBl_encP, ↓asTup_encP, ↓contL_encP, ↓asStr_encRO, ↓asInt_encRO, ↓asBl_encRO, ↓asTup_encRO, ↓contL_encRO, ↓asStr_encSO, ↓asInt_encSO, ↓asBl_encSO, ↓asTup_encSO, ↓contL_encSO, mW, noPin, wipeL, restL, mDNew, List.foldr_cons, List.foldr_nil, List.all_cons, List.all_nil, runF, runP, startL, startP, outD, frz1, mSeq, mNx, mRet, mIfS, mSet, mAsg, mPar', mApp, mExt, mPop, mSetIx, mAug, mFor, mT, mAnd, mOr, mNot, mAndV, mOrV, mNotV, mIf, mB0, mB1, mB2, mBN, mNil, mCons, mF, mVar, mC, mTup, mLst, mSl, mNo, mSo, mMeth, mEnum, mZip, mRng1, mRng2, inRng_3, inRng_4, inRng_6, mSeq1, mTT, opB, opI, opAdd, opIx, opLen, opTuple, opList, opInt, opMin, opAllAny, opJoin, opSl, opDict, opKGet, mGet2, opNeg, opMach, opSounds, opHist, mCh, inE, ninE, eqE, neE, isMach, callF, callP, pu1, pu2, puN, iCmp, frosOf, put, pin_fro, pin_non, pin_own, gN, gNil', gCons', gTup', lstOf, setL, ownOf, isLoc, locIs, mElt, mInn, mLcG, cT, cPos, Option.bind_some, Option.bind_none, Option.map_some, Option.map_none, List.getElem?_cons_zero, List.getElem?_cons_succ, List.set_cons_zero, List.set_cons_succ, List.map_cons, List.map_nil, List.length_cons, List.length_nil, List.cons_append, List.nil_append, List.replicate_succ, List.replicate_zero, asInt__fro_int, asInt__fro_str, asInt__fro_bl, asInt__fro_tup, asInt__fro_row, asInt__fro_lst, asInt__fro_non, asInt__fro_mach, asInt__fro_obj, asInt__tmp, asInt__tmpk, asInt__tmpd, asInt__loc, asStr__fro_int, asStr__fro_str, asStr__fro_bl, asStr__fro_tup, asStr__fro_row, asStr__fro_lst, asStr__fro_non, asStr__fro_mach, asStr__fro_obj, asStr__tmp, asStr__tmpk, asStr__tmpd, asStr__loc, asBl__fro_int, asBl__fro_str, asBl__fro_bl, asBl__fro_tup, asBl__fro_row, asBl__fro_lst, asBl__fro_non, asBl__fro_mach, asBl__fro_obj, asBl__tmp, asBl__tmpk, asBl__tmpd, asBl__loc, asTup__fro_int, asTup__fro_str, asTup__fro_bl, asTup__fro_tup, asTup__fro_row, asTup__fro_lst, asTup__fro_non, asTup__fro_mach, asTup__fro_obj, asTup__tmp, asTup__tmpk, asTup__tmpd, asTup__loc, contL__fro_int, contL__fro_str, contL__fro_bl, contL__fro_tup, contL__fro_row, contL__fro_lst, contL__fro_non, contL__fro_mach, contL__fro_obj, contL__tmp, contL__tmpk, contL__tmpd, contK__fro_int, contK__fro_str, contK__fro_bl, contK__fro_tup, contK__fro_row, contK__fro_lst, contK__fro_non, contK__fro_mach, contK__fro_obj, contK__tmp, contK__tmpk, contK__tmpd, contL__loc, lvL__own, lvL__pin, lvL__fro, lvL__k, lvL__d, contK__loc, kOf, g__law_history1, b__law_history1, hr, at3_0, at3_1, at3_2, c2, hz]
  · have c2 : ¬ (n : Int) + r.be.length + r.bh.length < 5 := by rw [e1]; omega
    rw [if_neg c]
    have e2 : dRl (bare r) = .tup [dCh r.ch, .tup [], .tup []] := rfl
    unfold dHi
    rw [List.map_append, List.map_cons, List.map_nil, e2, ← e1]
    rw [e0] at hr
    simp [↓asStr_dB, ↓asInt_dB, ↓asBl_dB, ↓asTup_dB, ↓contL_dB, ↓asStr_dSt1, ↓asInt_dSt1, ↓asBl_dSt1, ↓asTup_dSt1, ↓contL_dSt1, ↓asStr_dSt, ↓asInt_dSt, ↓asBl_dSt, ↓asTup_dSt, ↓contL_dSt, ↓asStr_dSl, ↓asInt_dSl, ↓asBl_dSl, ↓asTup_dSl, ↓contL_dSl, ↓asStr_dCh, ↓asInt_dCh, ↓asBl_dCh, ↓asTup_dCh, ↓contL_dCh, ↓asStr_dRl, ↓asInt_dRl, ↓asBl_dRl, ↓asTup_dRl, ↓contL_dRl, ↓asStr_dHi, ↓asInt_dHi, ↓asBl_dHi, ↓asTup_dHi, ↓contL_dHi, ↓asStr_encP, ↓asInt_encP, ↓asBl_encP, ↓asTup_encP, ↓contL_encP, ↓asStr_encRO, ↓asInt_encRO, ↓asBl_encRO, ↓asTup_encRO, ↓contL_encRO, ↓asStr_encSO, ↓asInt_encSO, ↓asBl_encSO, ↓asTup_encSO, ↓contL_encSO, mW, noPin, wipeL, restL, mDNew, List.foldr_cons, List.foldr_nil, List.all_cons, List.all_nil, runF, runP, startL, startP, outD, frz1, mSeq, mNx, mRet, mIfS, mSet, mAsg, mPar', mApp, mExt, mPop, mSetIx, mAug, mFor, mT, mAnd, mOr, mNot, mAndV, mOrV, mNotV, mIf, mB0, mB1, mB2, mBN, mNil, mCons, mF, mVar, mC, mTup, mLst, mSl, mNo, mSo, mMeth, mEnum, mZip, mRng1, mRng2, inRng_3, inRng_4, inRng_6, mSeq1, mTT, opB, opI, opAdd, opIx, opLen, opTuple, opList, opInt, opMin, opAllAny, opJoin, opSl, opDict, opKGet, mGet2, opNeg, opMach, opSounds, opHist, mCh, inE, ninE, eqE, neE, isMach, callF, callP, pu1, pu2, puN, iCmp, frosOf, put, pin_fro, pin_non, pin_own, gN, gNil', gCons', gTup', lstOf, setL, ownOf, isLoc, locIs, mElt, mInn, mLcG, cT, cPos, Option.bind_some, Option.bind_none, Option.map_some, Option.map_none, List.getElem?_cons_zero, List.getElem?_cons_succ, List.set_cons_zero, List.set_cons_succ, List.map_cons, List.map_nil, List.length_cons, List.length_nil, List.cons_append, List.nil_append, List.replicate_succ, List.replicate_zero, asInt__fro_int, asInt__fro_str, asInt__fro_bl, asInt__fro_tup, asInt__fro_row, asInt__fro_lst, asInt__fro_non, asInt__fro_mach, asInt__fro_obj, asInt__tmp, asInt__tmpk, asInt__tmpd, asInt__loc, asStr__fro_int, asStr__fro_str, asStr__fro_bl, asStr__fro_tup, asStr__fro_row, asStr__fro_lst, asStr__fro_non, asStr__fro_mach, asStr__fro_obj, asStr__tmp, asStr__tmpk, asStr__tmpd, asStr__loc, asBl__fro_int, asBl__fro_str, asBl__fro_bl, asBl__fro_tup, asBl__fro_row, asBl__fro_lst, asBl__fro_non, asBl__fro_mach, asBl__fro_obj, asBl__tmp, asBl__tmpk, asBl__tmpd, asBl__loc, asTup__fro_int, asTup__fro_str, asTup__fro_bl, asTup__fro_tup, asTup__fro_row, asTup__fro_lst, asTup__fro_non, asTup__fro_mach, asTup__fro_obj, asTup__tmp, asTup__tmpk, asTup__tmpd, asTup__loc, contL__fro_int, contL__fro_str, contL__fro_bl, contL__fro_tup, contL__fro_row, contL__fro_lst, contL__fro_non, contL__fro_mach, contL__fro_obj, contL__tmp, contL__tmpk, contL__tmpd, contK__fro_int, contK__fro_str, contK__fro_bl, contK__fro_tup, contK__fro_row, contK__fro_lst, contK__fro_non, contK__fro_mach, contK__fro_obj, contK__tmp, contK__tmpk, contK__tmpd, contL__loc, lvL__own, lvL__pin, lvL__fro, lvL__k, lvL__d, contK__loc, kOf, g__law_history1, b__law_history1, hr, at3_0, at3_1, at3_2, c2, hz]
def slotsN (h : List Rl) : Nat := (h.map slotN).sum
theorem history_ex {S : Wd} (hS : AlOk S) {l : List D} (h : PoolOk l) {n : Nat} (hn : n ≤ 4) : ∃ hs l', P__law_history l [.str S, .int n] = some (dHi hs, l') ∧ PoolOk l' ∧ HiOk S hs ∧ hs.length ≤ n ∧ slotsN hs ≤ 4 := by
  obtain ⟨v, l0, hv, hp0, v0, v1⟩ := draw_ex h (m := (n : Int) + 1) (by omega) (by omega)
  obtain ⟨m, rfl⟩ : ∃ m : Nat, v = m := ⟨v.toNat, by omega⟩
  obtain ⟨L2, h1, hs, l2, k, hL, hp2, hl, ho, hk⟩ := forR_inv0 (g := g__law_history1) (m := b__law_history1) (rangeD 0 m) (fun i L => ∃ (hs : List Rl) (l : List D) (k : Nat), L = [.pin l, .fro (.str S), .fro (.int n), .none, .fro (dHi hs), .fro (.int k), .none] ∧ PoolOk l ∧ hs.length = i ∧ (∀ r ∈ hs, RlOk S r) ∧ slotsN hs ≤ 4 ∧ slotsN hs ≤ k)
    (fun i hi L ⟨hs, l, k, hL, hp, hl, ho, hk⟩ => by
      subst hL
      rw [rangeD_len] at hi
      have e : (rangeD 0 m)[i]'(by rw [rangeD_len]; exact hi) = .int (i : Nat) := by simp [rangeD]
      obtain ⟨r, l', hr, hp', hst⟩ := hist_step hS hp (i := i) (m := m) (n := k) (x2 := .int n) (pre := hs) (by omega)
      refine ⟨_, by rw [e]; exact hst, hs ++ [if k + slotN r < 5 then r else bare r], l', k + slotN r, rfl, hp', by simp [hl], fun q hq => ?_, ?_⟩
      · rcases List.mem_append.mp hq with z | z
        · exact ho q z
        · rw [List.mem_singleton.mp z]
          split
          · exact hr
          · exact bare_ok hr
      · unfold slotsN at hk ⊢
        rw [List.map_append, List.sum_append, List.map_cons, List.map_nil, List.sum_cons, List.sum_nil]
        split
        · omega
        · have : slotN (bare r) = 0 := rfl
          omega) (L := [.pin l0, .fro (.str S), .fro (.int n), .none, .fro (dHi []), .fro (.int 0), .none]) ⟨[], l0, 0, rfl, hp0, rfl, by simp, by simp [slotsN], by simp [slotsN]⟩
  subst hL
  rw [rangeD_len] at hl
  refine ⟨hs, l2, ?_, hp2, ⟨by omega, ho⟩, by omega, hk.1⟩
  have hr := inRng_nat (n := m) (by omega)
  have e0 : dHi [] = .tup [] := rfl
  rw [e0] at h1
  unfold P__law_history m__law_history
  generalize dHi hs = zs at *
  simp [mW, noPin, wipeL, restL, mDNew, List.foldr_cons, List.foldr_nil, List.all_cons, List.all_nil, runF, runP, startL, startP, outD, frz1, mSeq, mNx, mRet, mIfS, mSet, mAsg, mPar', mApp, mExt, mPop, mSetIx, mAug, mFor, mT, mAnd, mOr, mNot, mAndV, mOrV, mNotV, mIf, mB0, mB1, mB2, mBN, mNil, mCons, mF, mVar, mC, mTup, mLst, mSl, mNo, mSo, mMeth, mEnum, mZip, mRng1, mRng2, inRng_3, inRng_4, inRng_6, mSeq1, mTT, opB, opI, opAdd, opIx, opLen, opTuple, opList, opInt, opMin, opAllAny, opJoin, opSl, opDict, opKGet, mGet2, opNeg, opMach, opSounds, opHist, mCh, inE, ninE, eqE, neE, isMach, callF, callP, pu1, pu2, puN, iCmp, frosOf, put, pin_fro, pin_non, pin_own, gN, gNil', gCons', gTup', lstOf, setL, ownOf, isLoc, locIs, mElt, mInn, mLcG, cT, cPos, Option.bind_some, Option.bind_none, Option.map_some, Option.map_none, List.getElem?_cons_zero, List.getElem?_cons_succ, List.set_cons_zero, List.set_cons_succ, List.map_cons, List.map_nil, List.length_cons, List.length_nil, List.cons_append, List.nil_append, List.replicate_succ, List.replicate_zero, asInt__fro_int, asInt__fro_str, asInt__fro_bl, asInt__fro_tup, asInt__fro_row, asInt__fro_lst, asInt__fro_non, asInt__fro_mach, asInt__fro_obj, asInt__tmp, asInt__tmpk, asInt__tmpd, asInt__loc, asStr__fro_int, asStr__fro_str, asStr__fro_bl, asStr__fro_tup, asStr__fro_row, asStr__fro_lst, asStr__fro_non, asStr__fro_mach, asStr__fro_obj, asStr__tmp, asStr__tmpk, asStr__tmpd, asStr__loc, asBl__fro_int, asBl__fro_str, asBl__fro_bl, asBl__fro_tup, asBl__fro_row, asBl__fro_lst, asBl__fro_non, asBl__fro_mach, asBl__fro_obj, asBl__tmp, asBl__tmpk, asBl__tmpd, asBl__loc, asTup__fro_int, asTup__fro_str, asTup__fro_bl, asTup__fro_tup, asTup__fro_row, asTup__fro_lst, asTup__fro_non, asTup__fro_mach, asTup__fro_obj, asTup__tmp, asTup__tmpk, asTup__tmpd, asTup__loc, contL__fro_int, contL__fro_str, contL__fro_bl, contL__fro_tup, contL__fro_row, contL__fro_lst, contL__fro_non, contL__fro_mach, contL__fro_obj, contL__tmp, contL__tmpk, contL__tmpd, contK__fro_int, contK__fro_str, contK__fro_bl, contK__fro_tup, contK__fro_row, contK__fro_lst, contK__fro_non, contK__fro_mach, contK__fro_obj, contK__tmp, contK__tmpk, contK__tmpd, contL__loc, lvL__own, lvL__pin, lvL__fro, lvL__k, lvL__d, contK__loc, kOf, hv, hr, h1]
end SS

/-! k46's law, in plain terms -/
namespace SS
open PySem PySem.Spec PyProof.Rows L2

theorem Tr.take {h2 : List Rl} : ∀ {h : List Rl} {s s' : List RSt} {w o : Wd}, Tr (h ++ h2) s w s' o → ∃ o1, Tr h (s.take h.length) w (s'.take h.length) o1
  | [], s, s', w, o, _ => ⟨w, by rw [List.length_nil, List.take_zero, List.take_zero]; exact (rfl : w = w)⟩
  | r :: h, s :: st, s' :: st', w, o, ⟨a, b, c⟩ => by
    obtain ⟨o1, t⟩ := Tr.take c
    exact ⟨o1, a, b, t⟩
theorem Path.take {h h2 : List Rl} : ∀ {w : Wd} {s : List RSt} {way : List (List RSt)} {outs : List Wd}, Path (h ++ h2) s w way outs → ∃ outs1, Path h (s.take h.length) w (way.map (·.take h.length)) outs1
  | [], _, [], [], _ => ⟨[], trivial⟩
  | c :: w, s, s' :: way, o :: outs, ⟨t, p⟩ => by
    obtain ⟨o1, t1⟩ := Tr.take t
    obtain ⟨outs1, p1⟩ := Path.take p
    exact ⟨o1 :: outs1, t1, p1⟩
theorem InB.take {S : Wd} {h2 : List Rl} : ∀ {h : List Rl} {s : List RSt}, InB S (h ++ h2) s → InB S h (s.take h.length)
  | [], s, _ => by rw [List.length_nil, List.take_zero]; trivial
  | r :: h, s :: st, f => ⟨f.1, InB.take f.2⟩
  | _ :: _, [], f => f.elim
theorem lst_map {α β : Type} {f : List α → List β} (l : List (List α)) (h : l ≠ []) : lst (l.map f) = f (lst l) := by
  obtain ⟨pre, b, rfl⟩ : ∃ pre b, l = pre ++ [b] := ⟨l.dropLast, l.getLast h, (List.dropLast_concat_getLast h).symm⟩
  rw [List.map_append, List.map_cons, List.map_nil, lst_snoc, lst_snoc]
theorem SlOk.left {S : Wd} {h h2 : List Rl} (x : SlOk S (h ++ h2)) : SlOk S h := ⟨x.S6, fun q hq => x.rl q (List.mem_append_left _ hq)⟩
theorem wayT_take {S : Wd} {h h2 : List Rl} (ok : SlOk S (h ++ h2)) {w : Wd} (hw : ∀ c ∈ w, c ∈ S) : (wayT (h ++ h2) S w).1.map (·.take h.length) = (wayT h S w).1 := by
  obtain ⟨hk, he⟩ := wayT_ok ok hw
  have hne := (hk.row ok).1
  obtain ⟨s, way, e, e1, h1, h2', h3⟩ := hk
  obtain ⟨outs1, p1⟩ := Path.take h2'
  have hq : WayOk h S w ((wayT (h ++ h2) S w).1.map (·.take h.length), outs1) := by
    refine ⟨s.take h.length, way.map (·.take h.length), by rw [e]; rfl, ?_, InB.take h1, p1, fun x hx => ?_⟩
    · rw [List.map_take, e1, List.map_append, List.take_left' (by simp)]
    · obtain ⟨y, hy, rfl⟩ := List.mem_map.mp hx
      exact InB.take (h3 y hy)
  have hl : (lst ((wayT (h ++ h2) S w).1.map (·.take h.length))).map (·.2) = h.map bend := by
    rw [lst_map _ hne, List.map_take, he, List.map_append, List.take_left' (by simp)]
  exact (congrArg (·.1) (wayT_is ok.left hw hq hl)).symm
theorem wayT_len {S : Wd} {h : List Rl} (ok : SlOk S h) {w : Wd} (hw : ∀ c ∈ w, c ∈ S) : (wayT h S w).1.length = w.length + 1 := ((wayT_ok ok hw).1.row ok).2.2.2.1
theorem wayT_led {S : Wd} (hS : AlOk S) {h : List Rl} (ok : SlOk S h) {w : Wd} (hw : ∀ c ∈ w, c ∈ S) : (wayT h S w).2.flatten = ledT h w := by
  obtain ⟨⟨s, way, e, e1, h1, h2, h3⟩, he⟩ := wayT_ok ok hw
  have t := Path.tr h1.len h2
  rw [e, lst_lastOf] at he
  exact Tr.led hS.s35 ok hw t e1 he
/-! one rule -/
def stand1 (r : Rl) (a e : List Bool) (w : Wd) (i : Nat) : List RSt := [(fwW r a (w.take i), bkW r e (w.drop i))]
theorem path1 {r : Rl} : ∀ {w : Wd} {s : RSt} {way : List (List RSt)} {outs : List Wd} {e : List Bool}, Path [r] [s] w way outs → (lastOf [s] way).map (·.2) = [e] → [s] :: way = (List.range (w.length + 1)).map (stand1 r s.1 e w)
  | [], s, [], [], e, _, he => by
    have : s.2 = e := by simpa [lastOf] using he
    subst this
    rfl
  | c :: w, s, [t] :: way, o :: outs, e, ⟨⟨t1, t2, _⟩, p⟩, he => by
    have ih := path1 p (e := e) he
    rw [List.length_cons, List.range_succ_eq_map, List.map_cons, List.map_map]
    have ht : t.2 = bkW r e w := by
      rw [List.range_succ_eq_map, List.map_cons] at ih
      have := (List.cons.inj ih).1
      unfold stand1 at this
      simp only [List.take_zero, List.drop_zero] at this
      exact congrArg (·.2) (List.cons.inj this).1
    congr 1
    · unfold stand1
      rw [List.take_zero, List.drop_zero]
      exact congrArg (fun x => [x]) (Prod.ext rfl (by rw [t2, ht]; rfl))
    · rw [ih]
      refine List.map_congr_left fun i _ => ?_
      unfold stand1
      rw [t1]
      rfl
  | c :: w, s, [] :: way, outs, e, p, _ => by
    cases outs with
    | nil => exact p.elim
    | cons o outs => exact p.1.elim
  | c :: w, s, (t :: t2 :: l) :: way, outs, e, p, _ => by
    cases outs with
    | nil => exact p.elim
    | cons o outs => exact p.1.2.2.elim
theorem wayT_one {S : Wd} {r : Rl} (ok : SlOk S [r]) {w : Wd} (hw : ∀ c ∈ w, c ∈ S) : (wayT [r] S w).1 = (List.range (w.length + 1)).map (stand1 r (bst r) (bend r) w) := by
  obtain ⟨⟨s, way, e, e1, h1, h2, h3⟩, he⟩ := wayT_ok ok hw
  match s, h1 with
  | [s], h1 =>
    rw [e, lst_lastOf] at he
    have := path1 h2 (e := bend r) (by simpa using he)
    rw [e, this]
    have : s.1 = bst r := by simpa using e1
    rw [this]
theorem before_same {S : Wd} {r : Rl} (ok : SlOk S [r]) {u v : Wd} (hu : ∀ c ∈ u, c ∈ S) (hv : ∀ c ∈ v, c ∈ S) : ((wayT [r] S (u ++ v)).1.map fun st => (st.headD ([], [])).1).take (u.length + 1) = (List.range (u.length + 1)).map fun i => fwW r (bst r) (u.take i) := by
  have hw : ∀ c ∈ u ++ v, c ∈ S := fun c hc => (List.mem_append.mp hc).elim (hu c) (hv c)
  rw [wayT_one ok hw, List.map_map, ← List.map_take, List.take_range]
  have : min (u.length + 1) ((u ++ v).length + 1) = u.length + 1 := by rw [List.length_append]; omega
  rw [this]
  refine List.map_congr_left fun i hi => ?_
  have := List.mem_range.mp hi
  show fwW r (bst r) ((u ++ v).take i) = _
  rw [List.take_append_of_le_length (by omega)]
theorem behind_same {S : Wd} {r : Rl} (ok : SlOk S [r]) {u v : Wd} (hu : ∀ c ∈ u, c ∈ S) (hv : ∀ c ∈ v, c ∈ S) : ((wayT [r] S (u ++ v)).1.map fun st => (st.headD ([], [])).2).drop u.length = (List.range (v.length + 1)).map fun i => bkW r (bend r) (v.drop i) := by
  have hw : ∀ c ∈ u ++ v, c ∈ S := fun c hc => (List.mem_append.mp hc).elim (hu c) (hv c)
  rw [wayT_one ok hw, List.map_map]
  have e : (u ++ v).length + 1 = u.length + (v.length + 1) := by rw [List.length_append]; omega
  rw [e, List.range_add, List.map_append, List.drop_left' (by simp), List.map_map]
  refine List.map_congr_left fun i _ => ?_
  show bkW r (bend r) ((u ++ v).drop (u.length + i)) = _
  rw [← List.drop_drop, List.drop_left' rfl]
end SS

/-! k46's law -/
namespace SS
open PySem PySem.Spec PyProof.Rows L2

theorem cut_take' {α : Type} (a : List α) (n : Nat) : cutG a none (some (n : Int)) = a.take n := by
  unfold cutG
  simp only [HT.sIx_nat, HT.sIx_none]
  simp
theorem cut_drop' {α : Type} (a : List α) (n : Nat) : cutG a (some (n : Int)) none = a.drop n := by
  unfold cutG
  simp only [HT.sIx_nat, HT.sIx_none]
  by_cases h : n ≤ a.length
  · rw [Nat.min_eq_left h, List.take_of_length_le (by rw [List.length_drop]; omega)]
  · rw [Nat.min_eq_right (by omega), List.drop_length, List.drop_eq_nil_of_le (by omega)]
    simp
/-- what is drawn -/
structure KOk (S : Wd) (one two : List Rl) : Prop where
  al : AlOk S
  h1 : HiOk S one
  h2 : HiOk S two
  l1 : one.length ≤ 1
  l2 : two.length ≤ 1
section
variable {S : Wd} {one two : List Rl} (k : KOk S one two)
include k
theorem KOk.m1 : MaOk S one := ⟨k.al, k.h1⟩
theorem KOk.hb : HiOk S (one ++ two) := ⟨by have := k.l1; have := k.l2; rw [List.length_append]; omega, fun r hr => (List.mem_append.mp hr).elim (k.h1.rl r) (k.h2.rl r)⟩
theorem KOk.m2 : MaOk S (one ++ two) := ⟨k.al, k.hb⟩
end
noncomputable def tabF (S : Wd) (one : List Rl) (w : Wd) : D := .lst ((wayT one S w).1.map dSt)
abbrev lK (l : List D) (ws : List D) (S : Wd) (one two : List Rl) (kvs : List (Wd × D)) : Loc :=
  [.none, .own l, .none, .own ws, .ownk kvs, .none, .none, .none, .fro (dHi one), .fro (dHi two), .fro (dMa S one), .fro (dMa S (one ++ two)), .none, .none, .none, .none, .none, .none]
theorem cok_sts (l : List (List RSt)) : cok (.lst (l.map dSt)) = true := (fine_lst (fine_map fun p _ => fine_dSt p)).cok
theorem flat_sum (l : List Wd) : (l.map List.length).sum = l.flatten.length := by rw [List.length_flatten]
theorem law_step {S : Wd} {one two : List Rl} (k : KOk S one two) {l ws : List D} {w : Wd} (hw : ∀ c ∈ w, c ∈ S) (hl : w.length ≤ 8) {kvs : List (Wd × D)} (hk : kvs.length ≤ 100) :
    (g_law3 (.str w) (lK l ws S one two kvs)).bind b_law1 = some (.nx, lK l ws S one two (putS kvs w (tabF S one w))) := by
  have e1 := ev_stands_for k.m2 hw (by omega)
  have e2 := ev_stands_for k.m1 hw (by omega)
  have ln := wayT_len k.m2.sl hw
  have tk := wayT_take (h := one) (h2 := two) k.m2.sl hw
  have d1 := wayT_led k.al k.m2.sl hw
  have d2 := wayT_led k.al k.m1.sl hw
  have r1 := Room2.of k.hb hw (by omega)
  have r2 := Room2.of k.h1 hw (by omega)
  have v1 := ev_led k.al r1
  have v2 := ev_led k.al r2
  have z1 : (List.map List.length (wayT (one ++ two) S w).2).sum ≤ LIM := by rw [flat_sum, d1]; exact Nat.le_trans (led_ok r1).1 (by decide)
  have z2 : (List.map List.length (wayT one S w).2).sum ≤ LIM := by rw [flat_sum, d2]; exact Nat.le_trans (led_ok r2).1 (by decide)
  have zl : w.length ≤ LIM := by rw [LIM_val]; omega
  have zk : kvs.length < LIM := by rw [LIM_val]; omega
  have zh : one.length + two.length ≤ LIM := by have := k.l1; have := k.l2; rw [LIM_val]; omega
  have s1 := strsOf_map (wayT (one ++ two) S w).2
  have s2 := strsOf_map (wayT one S w).2
  have hL : ((wayT (one ++ two) S w).1.map dSt).length = w.length + 1 := by rw [List.length_map, ln]
  have hc := lcG_map (vs := [17]) (g := g_law2) (me := e_law2) (L := [.none, .own l, .none, .own ws, .ownk kvs, .fro (.str w), .none, .none, .fro (dHi one), .fro (dHi two), .fro (dMa S one), .fro (dMa S (one ++ two)), .none, .fro (.lst ((wayT (one ++ two) S w).1.map dSt)), .fro (.lst ((wayT (one ++ two) S w).2.map D.str)), .fro (.lst ((wayT one S w).1.map dSt)), .fro (.lst ((wayT one S w).2.map D.str)), .none]) (enc := dSt) (f := fun st => dSt (st.take one.length)) rfl (wayT (one ++ two) S w).1 [] (fun st _ => by
    have hct := cut_take' (st.map dSt1) one.length
    simp [↓asStr_dB, ↓asInt_dB, ↓asBl_dB, ↓asTup_dB, ↓contL_dB, ↓asStr_dSt1, ↓asInt_dSt1, ↓asBl_dSt1, ↓asTup_dSt1, ↓contL_dSt1, ↓asStr_dSt, ↓asInt_dSt, ↓asBl_dSt, ↓asTup_dSt, ↓contL_dSt, ↓asStr_dSl, ↓asInt_dSl, ↓asBl_dSl, ↓asTup_dSl, ↓contL_dSl, ↓asStr_dCh, ↓asInt_dCh, ↓asBl_dCh, ↓asTup_dCh, ↓contL_dCh, ↓asStr_dRl, ↓asInt_dRl, ↓asBl_dRl, ↓asTup_dRl, ↓contL_dRl, ↓asStr_dHi, ↓asInt_dHi, ↓asBl_dHi, ↓asTup_dHi, ↓contL_dHi, ↓asStr_encP, ↓asInt_encP, ↓asBl_encP, ↓asTup_encP, ↓contL_encP, ↓asStr_encRO, ↓asInt_encRO, ↓asBl_encRO, ↓asTup_encRO, ↓contL_encRO, ↓asStr_encSO, ↓asInt_encSO, ↓asBl_encSO, ↓asTup_encSO, ↓contL_encSO, mW, noPin, wipeL, restL, mDNew, List.foldr_cons, List.foldr_nil, List.all_cons, List.all_nil, runF, runP, startL, startP, outD, frz1, mSeq, mNx, mRet, mIfS, mSet, mAsg, mPar', mApp, mExt, mPop, mSetIx, mAug, mFor, mT, mAnd, mOr, mNot, mAndV, mOrV, mNotV, mIf, mB0, mB1, mB2, mBN, mNil, mCons, mF, mVar, mC, mTup, mLst, mSl, mNo, mSo, mMeth, mEnum, mZip, mRng1, mRng2, inRng_3, inRng_4, inRng_6, mSeq1, mTT, opB, opI, opAdd, opIx, opLen, opTuple, opList, opInt, opMin, opAllAny, opJoin, opSl, opDict, opKGet, mGet2, opNeg, opMach, opSounds, opHist, mCh, inE, ninE, eqE, neE, isMach, callF, callP, pu1, pu2, puN, iCmp, frosOf, put, pin_fro, pin_non, pin_own, gN, gNil', gCons', gTup', lstOf, setL, ownOf, isLoc, locIs, mElt, mInn, mLcG, cT, cPos, Option.bind_some, Option.bind_none, Option.map_some, Option.map_none, List.getElem?_cons_zero, List.getElem?_cons_succ, List.set_cons_zero, List.set_cons_succ, List.map_cons, List.map_nil, List.length_cons, List.length_nil, List.cons_append, List.nil_append, List.replicate_succ, List.replicate_zero, asInt__fro_int, asInt__fro_str, asInt__fro_bl, asInt__fro_tup, asInt__fro_row, asInt__fro_lst, asInt__fro_non, asInt__fro_mach, asInt__fro_obj, asInt__tmp, asInt__tmpk, asInt__tmpd, asInt__loc, asStr__fro_int, asStr__fro_str, asStr__fro_bl, asStr__fro_tup, asStr__fro_row, asStr__fro_lst, asStr__fro_non, asStr__fro_mach, asStr__fro_obj, asStr__tmp, asStr__tmpk, asStr__tmpd, asStr__loc, asBl__fro_int, asBl__fro_str, asBl__fro_bl, asBl__fro_tup, asBl__fro_row, asBl__fro_lst, asBl__fro_non, asBl__fro_mach, asBl__fro_obj, asBl__tmp, asBl__tmpk, asBl__tmpd, asBl__loc, asTup__fro_int, asTup__fro_str, asTup__fro_bl, asTup__fro_tup, asTup__fro_row, asTup__fro_lst, asTup__fro_non, asTup__fro_mach, asTup__fro_obj, asTup__tmp, asTup__tmpk, asTup__tmpd, asTup__loc, contL__fro_int, contL__fro_str, contL__fro_bl, contL__fro_tup, contL__fro_row, contL__fro_lst, contL__fro_non, contL__fro_mach, contL__fro_obj, contL__tmp, contL__tmpk, contL__tmpd, contK__fro_int, contK__fro_str, contK__fro_bl, contK__fro_tup, contK__fro_row, contK__fro_lst, contK__fro_non, contK__fro_mach, contK__fro_obj, contK__tmp, contK__tmpk, contK__tmpd, contL__loc, lvL__own, lvL__pin, lvL__fro, lvL__k, lvL__d, contK__loc, kOf, lcE, g_law2, e_law2, hct]
    simp [dSt]) (by rw [ln, LIM_val, List.length_nil]; omega)
  have et : (wayT (one ++ two) S w).1.map (fun st => dSt (st.take one.length)) = (wayT one S w).1.map dSt := by rw [← tk, List.map_map]; rfl
  rw [et, List.nil_append] at hc
  have hq : deq (.lst ((wayT one S w).1.map dSt)) (.lst ((wayT one S w).1.map dSt)) = true := by rw [deq_lst, deqs_map deq_dSt]; simp
  have hcok := cok_sts (wayT one S w).1
  unfold tabF
  unfold encWy at e1 e2
  rw [← d1] at v1
  rw [← d2] at v2
  have eh : dHi (one ++ two) = .tup (one.map dRl ++ two.map dRl) := by unfold dHi; rw [List.map_append]
  have eL : lK l ws S one two kvs = [.none, .own l, .none, .own ws, .ownk kvs, .none, .none, .none, .fro (dHi one), .fro (dHi two), .fro (dMa S one), .fro (dMa S (one ++ two)), .none, .none, .none, .none, .none, .none] := rfl
  have eL2 : ∀ kk, lK l ws S one two kk = [.none, .own l, .none, .own ws, .ownk kk, .none, .none, .none, .fro (dHi one), .fro (dHi two), .fro (dMa S one), .fro (dMa S (one ++ two)), .none, .none, .none, .none, .none, .none] := fun _ => rfl
  rw [eL2, eL2]
  rw [eh] at v1
  generalize (wayT (one ++ two) S w).1.map dSt = as at *
  generalize (wayT one S w).1.map dSt = bs at *
  generalize (wayT (one ++ two) S w).2 = cs at *
  generalize (wayT one S w).2 = ds at *
  generalize cs.map D.str = cs' at *
  generalize ds.map D.str = ds' at *
  generalize dMa S (one ++ two) = mb at *
  generalize dMa S one = ma at *
  have hL2 : (as.length : Int) = (w.length : Int) + 1 := by omega
  simp [↓asStr_dB, ↓asInt_dB, ↓asBl_dB, ↓asTup_dB, ↓contL_dB, ↓asStr_dSt1, ↓asInt_dSt1, ↓asBl_dSt1, ↓asTup_dSt1, ↓contL_dSt1, ↓asStr_dSt, ↓asInt_dSt, ↓asBl_dSt, ↓asTup_dSt, ↓contL_dSt, ↓asStr_dSl, ↓asInt_dSl, ↓asBl_dSl, ↓asTup_dSl, ↓contL_dSl, ↓asStr_dCh, ↓asInt_dCh, ↓asBl_dCh, ↓asTup_dCh, ↓contL_dCh, ↓asStr_dRl, ↓asInt_dRl, ↓asBl_dRl, ↓asTup_dRl, ↓contL_dRl, ↓asStr_dHi, ↓asInt_dHi, ↓asBl_dHi, ↓asTup_dHi, ↓contL_dHi, ↓asStr_encP, ↓asInt_encP, ↓asBl_encP, ↓asTup_encP, ↓contL_encP, ↓asStr_encRO, ↓asInt_encRO, ↓asBl_encRO, ↓asTup_encRO, ↓contL_encRO, ↓asStr_encSO, ↓asInt_encSO, ↓asBl_encSO, ↓asTup_encSO, ↓contL_encSO, mW, noPin, wipeL, restL, mDNew, List.foldr_cons, List.foldr_nil, List.all_cons, List.all_nil, runF, runP, startL, startP, outD, frz1, mSeq, mNx, mRet, mIfS, mSet, mAsg, mPar', mApp, mExt, mPop, mSetIx, mAug, mFor, mT, mAnd, mOr, mNot, mAndV, mOrV, mNotV, mIf, mB0, mB1, mB2, mBN, mNil, mCons, mF, mVar, mC, mTup, mLst, mSl, mNo, mSo, mMeth, mEnum, mZip, mRng1, mRng2, inRng_3, inRng_4, inRng_6, mSeq1, mTT, opB, opI, opAdd, opIx, opLen, opTuple, opList, opInt, opMin, opAllAny, opJoin, opSl, opDict, opKGet, mGet2, opNeg, opMach, opSounds, opHist, mCh, inE, ninE, eqE, neE, isMach, callF, callP, pu1, pu2, puN, iCmp, frosOf, put, pin_fro, pin_non, pin_own, gN, gNil', gCons', gTup', lstOf, setL, ownOf, isLoc, locIs, mElt, mInn, mLcG, cT, cPos, Option.bind_some, Option.bind_none, Option.map_some, Option.map_none, List.getElem?_cons_zero, List.getElem?_cons_succ, List.set_cons_zero, List.set_cons_succ, List.map_cons, List.map_nil, List.length_cons, List.length_nil, List.cons_append, List.nil_append, List.replicate_succ, List.replicate_zero, asInt__fro_int, asInt__fro_str, asInt__fro_bl, asInt__fro_tup, asInt__fro_row, asInt__fro_lst, asInt__fro_non, asInt__fro_mach, asInt__fro_obj, asInt__tmp, asInt__tmpk, asInt__tmpd, asInt__loc, asStr__fro_int, asStr__fro_str, asStr__fro_bl, asStr__fro_tup, asStr__fro_row, asStr__fro_lst, asStr__fro_non, asStr__fro_mach, asStr__fro_obj, asStr__tmp, asStr__tmpk, asStr__tmpd, asStr__loc, asBl__fro_int, asBl__fro_str, asBl__fro_bl, asBl__fro_tup, asBl__fro_row, asBl__fro_lst, asBl__fro_non, asBl__fro_mach, asBl__fro_obj, asBl__tmp, asBl__tmpk, asBl__tmpd, asBl__loc, asTup__fro_int, asTup__fro_str, asTup__fro_bl, asTup__fro_tup, asTup__fro_row, asTup__fro_lst, asTup__fro_non, asTup__fro_mach, asTup__fro_obj, asTup__tmp, asTup__tmpk, asTup__tmpd, asTup__loc, contL__fro_int, contL__fro_str, contL__fro_bl, contL__fro_tup, contL__fro_row, contL__fro_lst, contL__fro_non, contL__fro_mach, contL__fro_obj, contL__tmp, contL__tmpk, contL__tmpd, contK__fro_int, contK__fro_str, contK__fro_bl, contK__fro_tup, contK__fro_row, contK__fro_lst, contK__fro_non, contK__fro_mach, contK__fro_obj, contK__tmp, contK__tmpk, contK__tmpd, contL__loc, lvL__own, lvL__pin, lvL__fro, lvL__k, lvL__d, contK__loc, kOf, g_law3, b_law1, mDPut, e1, e2, hL2, datE, deq_int, cok_int, hc, hq, hcok, s1, s2, z1, z2, v1, v2, zl, zk, zh]
end SS

/-! k46's law, joined -/
namespace SS
open PySem PySem.Spec PyProof.Rows L2

theorem getS_fold (F : Wd → D) : ∀ (ws : List Wd) (kvs : List (Wd × D)) (w : Wd), (∀ d, getS kvs w = some d → d = F w) → (w ∈ ws ∨ (getS kvs w).isSome = true) → getS (ws.foldl (fun kk x => putS kk x (F x)) kvs) w = some (F w)
  | [], kvs, w, h, hw => by
    rcases hw with z | z
    · simp at z
    · cases hg : getS kvs w with
      | none => rw [hg] at z; cases z
      | some d => rw [List.foldl_nil, hg, h d hg]
  | x :: ws, kvs, w, h, hw => by
    rw [List.foldl_cons]
    refine getS_fold F ws _ w (fun d hd => ?_) ?_
    · rw [getS_put] at hd
      split at hd
      · rename_i e
        subst e
        cases hd
        rfl
      · exact h d hd
    · rw [getS_put]
      split
      · exact .inr rfl
      · rename_i hne
        rcases hw with z | z
        · rcases List.mem_cons.mp z with z | z
          · exact absurd z.symm hne
          · exact .inl z
        · exact .inr z
theorem putS_len (kvs : List (Wd × D)) (w : Wd) (d : D) : (putS kvs w d).length ≤ kvs.length + 1 := by
  unfold putS
  split
  · rw [List.length_map]; omega
  · rw [List.length_append]; simp
theorem headD_dB (s : List RSt) (h : s.length = 1) : ∃ x, s = [x] := by
  match s, h with
  | [x], _ => exact ⟨x, rfl⟩
theorem way_one {S : Wd} {r : Rl} (ok : SlOk S [r]) {w : Wd} (hw : ∀ c ∈ w, c ∈ S) : ∀ st ∈ (wayT [r] S w).1, ∃ x, st = [x] := fun st hst => by
  rw [wayT_one ok hw] at hst
  obtain ⟨i, _, rfl⟩ := List.mem_map.mp hst
  exact ⟨_, rfl⟩
theorem list4 {α : Type} {l : List α} (h : l.length = 4) : ∃ a b c d, l = [a, b, c, d] := by
  match l, h with
  | [a, b, c, d], _ => exact ⟨a, b, c, d, rfl⟩
theorem lists_eq (l : List (List Bool)) : deq (.lst (l.map dB)) (.lst (l.map dB)) = true ∧ cok (.lst (l.map dB)) = true := ⟨by rw [deq_lst, deqs_map deq_dB]; simp, (fine_lst (fine_map fun p _ => fine_dB p)).cok⟩
theorem sounds_ex {l : List D} (h : PoolOk l) : ∃ S l' v, P__law_draw l [.int 3] = some (.int v, l') ∧ PoolOk l' ∧ AlOk S ∧ atI [D.str [97, 98], .str [97, 98, 99], .str [97]] v = some (.str S) := by
  obtain ⟨v, l', hv, hp, v0, v1⟩ := draw_ex h (m := 3) (by decide) (by decide)
  have : v = 0 ∨ v = 1 ∨ v = 2 := by omega
  rcases this with rfl | rfl | rfl
  · exact ⟨[97, 98], l', 0, hv, hp, ⟨by decide, by decide, by decide⟩, rfl⟩
  · exact ⟨[97, 98, 99], l', 1, hv, hp, ⟨by decide, by decide, by decide⟩, rfl⟩
  · exact ⟨[97], l', 2, hv, hp, ⟨by decide, by decide, by decide⟩, rfl⟩
theorem mSeq_step {m1 m2 : SM} {L L1 : Loc} {R : Option (Out × Loc)} (h : m1 L = some (.nx, L1)) (h2 : m2 L1 = R) : mSeq m1 m2 L = R := (mSeq_nx h).trans h2
theorem ex_step {m1 m2 : SM} {L L1 : Loc} {o : Out} (h : m1 L = some (.nx, L1)) (h2 : ∃ L2, m2 L1 = some (o, L2)) : ∃ L2, mSeq m1 m2 L = some (o, L2) := by
  obtain ⟨L2, h2⟩ := h2
  exact ⟨L2, (mSeq_nx h).trans h2⟩
theorem ex_rt {m1 m2 : SM} {L L1 : Loc} {ev : EV} (h : m1 L = some (.rt ev, L1)) : ∃ L2, mSeq m1 m2 L = some (.rt ev, L2) := ⟨_, mSeq_rt h⟩
theorem lc_exT {vs : List Nat} {g : GM} {me : EM} (P : Loc → Prop) (Q : D → Prop) : ∀ (ds acc : List D) (L : Loc),
    (∀ d ∈ ds, ∀ L, P L → noPin vs L = true ∧ ∃ L1 y L3, g d (wipeL vs L) = some L1 ∧ me L1 = some (.fro y, L3) ∧ Q y ∧ P (restL vs L L3)) →
    P L → acc.length + ds.length ≤ LIM → ∃ zs L2, lcG vs g mTT (mElt me) ds acc L = some (acc ++ zs, L2) ∧ P L2 ∧ (∀ y ∈ zs, Q y) ∧ zs.length = ds.length
  | [], acc, L, _, hP, _ => ⟨[], L, by simp [lcG], hP, by simp, by simp⟩
  | d :: ds, acc, L, h, hP, hl => by
    obtain ⟨hn, L1, y, L3, h1, h4, h5, h6⟩ := h d (by simp) L hP
    simp only [List.length_cons] at hl
    obtain ⟨zs, L4, i1, i2, i3, i4⟩ := lc_exT P Q ds (acc ++ [y]) _ (fun x hx => h x (by simp [hx])) h6 (by simp; omega)
    refine ⟨y :: zs, L4, ?_, i2, ?_, by simp; omega⟩
    · have hlt : acc.length < LIM := by omega
      unfold lcG
      simp only [hn, if_true, h1, Option.bind_some, mElt, h4, hlt, i1]
      simp
    · intro z hz
      rcases List.mem_cons.mp hz with e | e
      · subst e; exact h5
      · exact i3 z e
theorem law_plain (ns : List Int) (hn : ns.length ≤ 63) : ∃ L2, m_law (lawL 18 ns) = some (.rt (.fro (.bl true)), L2) := by
  have hp0 : PoolOk [.lst (ns.map D.int), .int 0, .int 0, .int 0, .int (saltL ns)] := ⟨⟨ns, 0, 0, 0, saltL ns, rfl, by omega, hn⟩⟩
  obtain ⟨S, l1, v, hv, hp1, hS, hat⟩ := sounds_ex hp0
  obtain ⟨one, l2, hh1, hp2, ho1, n1, _⟩ := history_ex hS hp1 (n := 1) (by decide)
  obtain ⟨two, l3, hh2, hp3, ho2, n2, _⟩ := history_ex hS hp2 (n := 1) (by decide)
  have k : KOk S one two := ⟨hS, ho1, ho2, n1, n2⟩
  obtain ⟨zs, L4, hw1, ⟨l4, hp4, rfl⟩, hw3, hw4⟩ := lc_exT (vs := [12]) (g := g_law1) (me := e_law1) (fun L => ∃ l, PoolOk l ∧ L = [.none, .own l, .fro (.str S), .none, .none, .none, .none, .none, .fro (dHi one), .fro (dHi two), .fro (dMa S one), .fro (dMa S (one ++ two)), .none, .none, .none, .none, .none, .none]) (fun y => ∃ x, y = .str x ∧ (x.length ≤ 4 ∧ ∀ c ∈ x, c ∈ S)) (rangeD 0 4) [] [.none, .own l3, .fro (.str S), .none, .none, .none, .none, .none, .fro (dHi one), .fro (dHi two), .fro (dMa S one), .fro (dMa S (one ++ two)), .none, .none, .none, .none, .none, .none]
    (fun d hd L ⟨l, hp, hL⟩ => by
      subst hL
      rw [rangeD0] at hd
      obtain ⟨i, _, rfl⟩ := List.mem_map.mp hd
      obtain ⟨x, l', hx, hp', hx1, hx2⟩ := word_ex hS hp (n := 4) (by decide)
      have hx : P__law_word l [.str S, .int 4] = some (.str x, l') := hx
      refine ⟨rfl, [.none, .own l, .fro (.str S), .none, .none, .none, .none, .none, .fro (dHi one), .fro (dHi two), .fro (dMa S one), .fro (dMa S (one ++ two)), .fro (.int i), .none, .none, .none, .none, .none], .str x, [.none, .own l', .fro (.str S), .none, .none, .none, .none, .none, .fro (dHi one), .fro (dHi two), .fro (dMa S one), .fro (dMa S (one ++ two)), .fro (.int i), .none, .none, .none, .none, .none], by simp [mW, noPin, wipeL, restL, mDNew, List.foldr_cons, List.foldr_nil, List.all_cons, List.all_nil, runF, runP, startL, startP, outD, frz1, mSeq, mNx, mRet, mIfS, mSet, mAsg, mPar', mApp, mExt, mPop, mSetIx, mAug, mFor, mT, mAnd, mOr, mNot, mAndV, mOrV, mNotV, mIf, mB0, mB1, mB2, mBN, mNil, mCons, mF, mVar, mC, mTup, mLst, mSl, mNo, mSo, mMeth, mEnum, mZip, mRng1, mRng2, inRng_3, inRng_4, inRng_6, mSeq1, mTT, opB, opI, opAdd, opIx, opLen, opTuple, opList, opInt, opMin, opAllAny, opJoin, opSl, opDict, opKGet, mGet2, opNeg, opMach, opSounds, opHist, mCh, inE, ninE, eqE, neE, isMach, callF, callP, pu1, pu2, puN, iCmp, frosOf, put, pin_fro, pin_non, pin_own, gN, gNil', gCons', gTup', lstOf, setL, ownOf, isLoc, locIs, mElt, mInn, mLcG, cT, cPos, Option.bind_some, Option.bind_none, Option.map_some, Option.map_none, List.getElem?_cons_zero, List.getElem?_cons_succ, List.set_cons_zero, List.set_cons_succ, List.map_cons, List.map_nil, List.length_cons, List.length_nil, List.cons_append, List.nil_append, List.replicate_succ, List.replicate_zero, asInt__fro_int, asInt__fro_str, asInt__fro_bl, asInt__fro_tup, asInt__fro_row, asInt__fro_lst, asInt__fro_non, asInt__fro_mach, asInt__fro_obj, asInt__tmp, asInt__tmpk, asInt__tmpd, asInt__loc, asStr__fro_int, asStr__fro_str, asStr__fro_bl, asStr__fro_tup, asStr__fro_row, asStr__fro_lst, asStr__fro_non, asStr__fro_mach, asStr__fro_obj, asStr__tmp, asStr__tmpk, asStr__tmpd, asStr__loc, asBl__fro_int, asBl__fro_str, asBl__fro_bl, asBl__fro_tup, asBl__fro_row, asBl__fro_lst, asBl__fro_non, asBl__fro_mach, asBl__fro_obj, asBl__tmp, asBl__tmpk, asBl__tmpd, asBl__loc, asTup__fro_int, asTup__fro_str, asTup__fro_bl, asTup__fro_tup, asTup__fro_row, asTup__fro_lst, asTup__fro_non, asTup__fro_mach, asTup__fro_obj, asTup__tmp, asTup__tmpk, asTup__tmpd, asTup__loc, contL__fro_int, contL__fro_str, contL__fro_bl, contL__fro_tup, contL__fro_row, contL__fro_lst, contL__fro_non, contL__fro_mach, contL__fro_obj, contL__tmp, contL__tmpk, contL__tmpd, contK__fro_int, contK__fro_str, contK__fro_bl, contK__fro_tup, contK__fro_row, contK__fro_lst, contK__fro_non, contK__fro_mach, contK__fro_obj, contK__tmp, contK__tmpk, contK__tmpd, contL__loc, lvL__own, lvL__pin, lvL__fro, lvL__k, lvL__d, contK__loc, kOf, g_law1], ?_, ⟨x, rfl, hx1, hx2⟩, l', hp', by simp [mW, noPin, wipeL, restL, mDNew, List.foldr_cons, List.foldr_nil, List.all_cons, List.all_nil, runF, runP, startL, startP, outD, frz1, mSeq, mNx, mRet, mIfS, mSet, mAsg, mPar', mApp, mExt, mPop, mSetIx, mAug, mFor, mT, mAnd, mOr, mNot, mAndV, mOrV, mNotV, mIf, mB0, mB1, mB2, mBN, mNil, mCons, mF, mVar, mC, mTup, mLst, mSl, mNo, mSo, mMeth, mEnum, mZip, mRng1, mRng2, inRng_3, inRng_4, inRng_6, mSeq1, mTT, opB, opI, opAdd, opIx, opLen, opTuple, opList, opInt, opMin, opAllAny, opJoin, opSl, opDict, opKGet, mGet2, opNeg, opMach, opSounds, opHist, mCh, inE, ninE, eqE, neE, isMach, callF, callP, pu1, pu2, puN, iCmp, frosOf, put, pin_fro, pin_non, pin_own, gN, gNil', gCons', gTup', lstOf, setL, ownOf, isLoc, locIs, mElt, mInn, mLcG, cT, cPos, Option.bind_some, Option.bind_none, Option.map_some, Option.map_none, List.getElem?_cons_zero, List.getElem?_cons_succ, List.set_cons_zero, List.set_cons_succ, List.map_cons, List.map_nil, List.length_cons, List.length_nil, List.cons_append, List.nil_append, List.replicate_succ, List.replicate_zero, asInt__fro_int, asInt__fro_str, asInt__fro_bl, asInt__fro_tup, asInt__fro_row, asInt__fro_lst, asInt__fro_non, asInt__fro_mach, asInt__fro_obj, asInt__tmp, asInt__tmpk, asInt__tmpd, asInt__loc, asStr__fro_int, asStr__fro_str, asStr__fro_bl, asStr__fro_tup, asStr__fro_row, asStr__fro_lst, asStr__fro_non, asStr__fro_mach, asStr__fro_obj, asStr__tmp, asStr__tmpk, asStr__tmpd, asStr__loc, asBl__fro_int, asBl__fro_str, asBl__fro_bl, asBl__fro_tup, asBl__fro_row, asBl__fro_lst, asBl__fro_non, asBl__fro_mach, asBl__fro_obj, asBl__tmp, asBl__tmpk, asBl__tmpd, asBl__loc, asTup__fro_int, asTup__fro_str, asTup__fro_bl, asTup__fro_tup, asTup__fro_row, asTup__fro_lst, asTup__fro_non, asTup__fro_mach, asTup__fro_obj, asTup__tmp, asTup__tmpk, asTup__tmpd, asTup__loc, contL__fro_int, contL__fro_str, contL__fro_bl, contL__fro_tup, contL__fro_row, contL__fro_lst, contL__fro_non, contL__fro_mach, contL__fro_obj, contL__tmp, contL__tmpk, contL__tmpd, contK__fro_int, contK__fro_str, contK__fro_bl, contK__fro_tup, contK__fro_row, contK__fro_lst, contK__fro_non, contK__fro_mach, contK__fro_obj, contK__tmp, contK__tmpk, contK__tmpd, contL__loc, lvL__own, lvL__pin, lvL__fro, lvL__k, lvL__d, contK__loc, kOf]⟩
      simp [mW, noPin, wipeL, restL, mDNew, List.foldr_cons, List.foldr_nil, List.all_cons, List.all_nil, runF, runP, startL, startP, outD, frz1, mSeq, mNx, mRet, mIfS, mSet, mAsg, mPar', mApp, mExt, mPop, mSetIx, mAug, mFor, mT, mAnd, mOr, mNot, mAndV, mOrV, mNotV, mIf, mB0, mB1, mB2, mBN, mNil, mCons, mF, mVar, mC, mTup, mLst, mSl, mNo, mSo, mMeth, mEnum, mZip, mRng1, mRng2, inRng_3, inRng_4, inRng_6, mSeq1, mTT, opB, opI, opAdd, opIx, opLen, opTuple, opList, opInt, opMin, opAllAny, opJoin, opSl, opDict, opKGet, mGet2, opNeg, opMach, opSounds, opHist, mCh, inE, ninE, eqE, neE, isMach, callF, callP, pu1, pu2, puN, iCmp, frosOf, put, pin_fro, pin_non, pin_own, gN, gNil', gCons', gTup', lstOf, setL, ownOf, isLoc, locIs, mElt, mInn, mLcG, cT, cPos, Option.bind_some, Option.bind_none, Option.map_some, Option.map_none, List.getElem?_cons_zero, List.getElem?_cons_succ, List.set_cons_zero, List.set_cons_succ, List.map_cons, List.map_nil, List.length_cons, List.length_nil, List.cons_append, List.nil_append, List.replicate_succ, List.replicate_zero, asInt__fro_int, asInt__fro_str, asInt__fro_bl, asInt__fro_tup, asInt__fro_row, asInt__fro_lst, asInt__fro_non, asInt__fro_mach, asInt__fro_obj, asInt__tmp, asInt__tmpk, asInt__tmpd, asInt__loc, asStr__fro_int, asStr__fro_str, asStr__fro_bl, asStr__fro_tup, asStr__fro_row, asStr__fro_lst, asStr__fro_non, asStr__fro_mach, asStr__fro_obj, asStr__tmp, asStr__tmpk, asStr__tmpd, asStr__loc, asBl__fro_int, asBl__fro_str, asBl__fro_bl, asBl__fro_tup, asBl__fro_row, asBl__fro_lst, asBl__fro_non, asBl__fro_mach, asBl__fro_obj, asBl__tmp, asBl__tmpk, asBl__tmpd, asBl__loc, asTup__fro_int, asTup__fro_str, asTup__fro_bl, asTup__fro_tup, asTup__fro_row, asTup__fro_lst, asTup__fro_non, asTup__fro_mach, asTup__fro_obj, asTup__tmp, asTup__tmpk, asTup__tmpd, asTup__loc, contL__fro_int, contL__fro_str, contL__fro_bl, contL__fro_tup, contL__fro_row, contL__fro_lst, contL__fro_non, contL__fro_mach, contL__fro_obj, contL__tmp, contL__tmpk, contL__tmpd, contK__fro_int, contK__fro_str, contK__fro_bl, contK__fro_tup, contK__fro_row, contK__fro_lst, contK__fro_non, contK__fro_mach, contK__fro_obj, contK__tmp, contK__tmpk, contK__tmpd, contL__loc, lvL__own, lvL__pin, lvL__fro, lvL__k, lvL__d, contK__loc, kOf, e_law1, hx]) ⟨l3, hp3, rfl⟩ (by rw [rangeD_len, LIM_val]; simp)
  obtain ⟨xs, rfl, hxs⟩ := strs_of hw3
  rw [List.length_map, rangeD_len] at hw4
  obtain ⟨a, b, c, d, rfl⟩ := list4 hw4
  have hx : ∀ x ∈ [a, b, c, d], x.length ≤ 4 ∧ ∀ z ∈ x, z ∈ S := hxs
  obtain ⟨la, ha⟩ := hx a (by simp)
  obtain ⟨lb, hb⟩ := hx b (by simp)
  obtain ⟨lc, hc⟩ := hx c (by simp)
  obtain ⟨ld, hd⟩ := hx d (by simp)
  have app : ∀ {u v : Wd}, (∀ z ∈ u, z ∈ S) → (∀ z ∈ v, z ∈ S) → ∀ z ∈ u ++ v, z ∈ S := fun h1 h2 z hz => (List.mem_append.mp hz).elim (h1 z) (h2 z)
  have hws : ∀ w ∈ [a, b, c, d, a ++ b, c ++ b, a ++ d], w.length ≤ 8 ∧ ∀ z ∈ w, z ∈ S := fun w hw => by
    simp only [List.mem_cons, List.not_mem_nil, or_false] at hw
    rcases hw with rfl | rfl | rfl | rfl | rfl | rfl | rfl
    · exact ⟨by omega, ha⟩
    · exact ⟨by omega, hb⟩
    · exact ⟨by omega, hc⟩
    · exact ⟨by omega, hd⟩
    · exact ⟨by rw [List.length_append]; omega, app ha hb⟩
    · exact ⟨by rw [List.length_append]; omega, app hc hb⟩
    · exact ⟨by rw [List.length_append]; omega, app ha hd⟩
  obtain ⟨hf, _⟩ := forR_fold (g := g_law3) (m := b_law1) D.str (lK l4 ([a, b, c, d].map D.str) S one two) (fun kk x => putS kk x (tabF S one x)) (fun rest kk => (∀ w ∈ rest, w.length ≤ 8 ∧ ∀ z ∈ w, z ∈ S) ∧ kk.length + rest.length ≤ 50)
    (fun w rest kk ⟨p1, p2⟩ => by
      rw [List.length_cons] at p2
      obtain ⟨q1, q2⟩ := p1 w (by simp)
      refine ⟨law_step k q2 q1 (by omega), fun x hx => p1 x (by simp [hx]), ?_⟩
      have := putS_len kk w (tabF S one w)
      omega) [a, b, c, d, a ++ b, c ++ b, a ++ d] [] ⟨hws, by simp⟩
  have hg : ∀ w ∈ [a, b, c, d, a ++ b, c ++ b, a ++ d], getS ([a, b, c, d, a ++ b, c ++ b, a ++ d].foldl (fun kk x => putS kk x (tabF S one x)) []) w = some (tabF S one w) := fun w hw => getS_fold _ _ [] w (fun d hd => by cases hd) (.inl hw)
  have g1 := hg (a ++ b) (by simp)
  have g2 := hg (a ++ d) (by simp)
  have g3 := hg (c ++ b) (by simp)
  generalize [a, b, c, d, a ++ b, c ++ b, a ++ d].foldl (fun kk x => putS kk x (tabF S one x)) [] = kv at *
  have hr4 : inRng 4 := inRng_4
  have zab : a.length + b.length ≤ LIM := by rw [LIM_val]; omega
  have zcb : c.length + b.length ≤ LIM := by rw [LIM_val]; omega
  have zad : a.length + d.length ≤ LIM := by rw [LIM_val]; omega
  have za : a.length ≤ LIM := by rw [LIM_val]; omega
  have zc : c.length ≤ LIM := by rw [LIM_val]; omega
  have z7 : 4 + 3 ≤ LIM := by rw [LIM_val]; omega
  have zh : one.length + two.length ≤ LIM := by rw [LIM_val]; omega
  have eh : dHi (one ++ two) = .tup (one.map dRl ++ two.map dRl) := by unfold dHi; rw [List.map_append]
  have at4_0 : ∀ w x y z : D, atI [w, x, y, z] 0 = some w := fun _ _ _ _ => rfl
  have at4_1 : ∀ w x y z : D, atI [w, x, y, z] 1 = some x := fun _ _ _ _ => rfl
  have at4_2 : ∀ w x y z : D, atI [w, x, y, z] 2 = some y := fun _ _ _ _ => rfl
  have at4_3 : ∀ w x y z : D, atI [w, x, y, z] 3 = some z := fun _ _ _ _ => rfl
  rw [List.nil_append] at hw1
  have e1 : lK l4 ([a, b, c, d].map D.str) S one two [] = [.none, .own l4, .none, .own [.str a, .str b, .str c, .str d], .ownk [], .none, .none, .none, .fro (dHi one), .fro (dHi two), .fro (dMa S one), .fro (dMa S (one ++ two)), .none, .none, .none, .none, .none, .none] := rfl
  have e2 : lK l4 ([a, b, c, d].map D.str) S one two kv = [.none, .own l4, .none, .own [.str a, .str b, .str c, .str d], .ownk kv, .none, .none, .none, .fro (dHi one), .fro (dHi two), .fro (dMa S one), .fro (dMa S (one ++ two)), .none, .none, .none, .none, .none, .none] := rfl
  rw [e1, e2] at hf
  have eM : dMa S (one ++ two) = .mach (.str S) (.tup (one.map dRl ++ two.map dRl)) := by rw [← eh]
  rw [eM] at hf hw1
  simp only [List.map_cons, List.map_nil] at hf hw1
  have e0 : lawL 18 ns = [.none, .own [.lst (ns.map D.int), .int 0, .int 0, .int 0, .int (saltL ns)], .none, .none, .none, .none, .none, .none, .none, .none, .none, .none, .none, .none, .none, .none, .none, .none] := rfl
  rw [e0]
  generalize hP0 : [D.lst (ns.map D.int), .int 0, .int 0, .int 0, .int (saltL ns)] = P0 at *
  unfold m_law
  refine ex_step (L1 := [.none, .own l1, .fro (.str S), .none, .none, .none, .none, .none, .none, .none, .none, .none, .none, .none, .none, .none, .none, .none]) (by simp [mW, noPin, wipeL, restL, mDNew, List.foldr_cons, List.foldr_nil, List.all_cons, List.all_nil, runF, runP, startL, startP, outD, frz1, mSeq, mNx, mRet, mIfS, mSet, mAsg, mPar', mApp, mExt, mPop, mSetIx, mAug, mFor, mT, mAnd, mOr, mNot, mAndV, mOrV, mNotV, mIf, mB0, mB1, mB2, mBN, mNil, mCons, mF, mVar, mC, mTup, mLst, mSl, mNo, mSo, mMeth, mEnum, mZip, mRng1, mRng2, inRng_3, inRng_4, inRng_6, mSeq1, mTT, opB, opI, opAdd, opIx, opLen, opTuple, opList, opInt, opMin, opAllAny, opJoin, opSl, opDict, opKGet, mGet2, opNeg, opMach, opSounds, opHist, mCh, inE, ninE, eqE, neE, isMach, callF, callP, pu1, pu2, puN, iCmp, frosOf, put, pin_fro, pin_non, pin_own, gN, gNil', gCons', gTup', lstOf, setL, ownOf, isLoc, locIs, mElt, mInn, mLcG, cT, cPos, Option.bind_some, Option.bind_none, Option.map_some, Option.map_none, List.getElem?_cons_zero, List.getElem?_cons_succ, List.set_cons_zero, List.set_cons_succ, List.map_cons, List.map_nil, List.length_cons, List.length_nil, List.cons_append, List.nil_append, List.replicate_succ, List.replicate_zero, asInt__fro_int, asInt__fro_str, asInt__fro_bl, asInt__fro_tup, asInt__fro_row, asInt__fro_lst, asInt__fro_non, asInt__fro_mach, asInt__fro_obj, asInt__tmp, asInt__tmpk, asInt__tmpd, asInt__loc, asStr__fro_int, asStr__fro_str, asStr__fro_bl, asStr__fro_tup, asStr__fro_row, asStr__fro_lst, asStr__fro_non, asStr__fro_mach, asStr__fro_obj, asStr__tmp, asStr__tmpk, asStr__tmpd, asStr__loc, asBl__fro_int, asBl__fro_str, asBl__fro_bl, asBl__fro_tup, asBl__fro_row, asBl__fro_lst, asBl__fro_non, asBl__fro_mach, asBl__fro_obj, asBl__tmp, asBl__tmpk, asBl__tmpd, asBl__loc, asTup__fro_int, asTup__fro_str, asTup__fro_bl, asTup__fro_tup, asTup__fro_row, asTup__fro_lst, asTup__fro_non, asTup__fro_mach, asTup__fro_obj, asTup__tmp, asTup__tmpk, asTup__tmpd, asTup__loc, contL__fro_int, contL__fro_str, contL__fro_bl, contL__fro_tup, contL__fro_row, contL__fro_lst, contL__fro_non, contL__fro_mach, contL__fro_obj, contL__tmp, contL__tmpk, contL__tmpd, contK__fro_int, contK__fro_str, contK__fro_bl, contK__fro_tup, contK__fro_row, contK__fro_lst, contK__fro_non, contK__fro_mach, contK__fro_obj, contK__tmp, contK__tmpk, contK__tmpd, contL__loc, lvL__own, lvL__pin, lvL__fro, lvL__k, lvL__d, contK__loc, kOf, hv, hat]) ?_
  refine ex_step (L1 := [.none, .own l3, .fro (.str S), .none, .none, .none, .none, .none, .fro (dHi one), .fro (dHi two), .none, .none, .none, .none, .none, .none, .none, .none]) (by
    have hh1 : P__law_history l1 [.str S, .int 1] = some (dHi one, l2) := hh1
    have hh2 : P__law_history l2 [.str S, .int 1] = some (dHi two, l3) := hh2
    simp [mW, noPin, wipeL, restL, mDNew, List.foldr_cons, List.foldr_nil, List.all_cons, List.all_nil, runF, runP, startL, startP, outD, frz1, mSeq, mNx, mRet, mIfS, mSet, mAsg, mPar', mApp, mExt, mPop, mSetIx, mAug, mFor, mT, mAnd, mOr, mNot, mAndV, mOrV, mNotV, mIf, mB0, mB1, mB2, mBN, mNil, mCons, mF, mVar, mC, mTup, mLst, mSl, mNo, mSo, mMeth, mEnum, mZip, mRng1, mRng2, inRng_3, inRng_4, inRng_6, mSeq1, mTT, opB, opI, opAdd, opIx, opLen, opTuple, opList, opInt, opMin, opAllAny, opJoin, opSl, opDict, opKGet, mGet2, opNeg, opMach, opSounds, opHist, mCh, inE, ninE, eqE, neE, isMach, callF, callP, pu1, pu2, puN, iCmp, frosOf, put, pin_fro, pin_non, pin_own, gN, gNil', gCons', gTup', lstOf, setL, ownOf, isLoc, locIs, mElt, mInn, mLcG, cT, cPos, Option.bind_some, Option.bind_none, Option.map_some, Option.map_none, List.getElem?_cons_zero, List.getElem?_cons_succ, List.set_cons_zero, List.set_cons_succ, List.map_cons, List.map_nil, List.length_cons, List.length_nil, List.cons_append, List.nil_append, List.replicate_succ, List.replicate_zero, asInt__fro_int, asInt__fro_str, asInt__fro_bl, asInt__fro_tup, asInt__fro_row, asInt__fro_lst, asInt__fro_non, asInt__fro_mach, asInt__fro_obj, asInt__tmp, asInt__tmpk, asInt__tmpd, asInt__loc, asStr__fro_int, asStr__fro_str, asStr__fro_bl, asStr__fro_tup, asStr__fro_row, asStr__fro_lst, asStr__fro_non, asStr__fro_mach, asStr__fro_obj, asStr__tmp, asStr__tmpk, asStr__tmpd, asStr__loc, asBl__fro_int, asBl__fro_str, asBl__fro_bl, asBl__fro_tup, asBl__fro_row, asBl__fro_lst, asBl__fro_non, asBl__fro_mach, asBl__fro_obj, asBl__tmp, asBl__tmpk, asBl__tmpd, asBl__loc, asTup__fro_int, asTup__fro_str, asTup__fro_bl, asTup__fro_tup, asTup__fro_row, asTup__fro_lst, asTup__fro_non, asTup__fro_mach, asTup__fro_obj, asTup__tmp, asTup__tmpk, asTup__tmpd, asTup__loc, contL__fro_int, contL__fro_str, contL__fro_bl, contL__fro_tup, contL__fro_row, contL__fro_lst, contL__fro_non, contL__fro_mach, contL__fro_obj, contL__tmp, contL__tmpk, contL__tmpd, contK__fro_int, contK__fro_str, contK__fro_bl, contK__fro_tup, contK__fro_row, contK__fro_lst, contK__fro_non, contK__fro_mach, contK__fro_obj, contK__tmp, contK__tmpk, contK__tmpd, contL__loc, lvL__own, lvL__pin, lvL__fro, lvL__k, lvL__d, contK__loc, kOf, hh1, hh2]) ?_
  refine ex_step (L1 := [.none, .own l3, .fro (.str S), .none, .none, .none, .none, .none, .fro (dHi one), .fro (dHi two), .fro (dMa S one), .fro (.mach (.str S) (.tup (one.map dRl ++ two.map dRl))), .none, .none, .none, .none, .none, .none]) (by simp [↓asStr_dB, ↓asInt_dB, ↓asBl_dB, ↓asTup_dB, ↓contL_dB, ↓asStr_dSt1, ↓asInt_dSt1, ↓asBl_dSt1, ↓asTup_dSt1, ↓contL_dSt1, ↓asStr_dSt, ↓asInt_dSt, ↓asBl_dSt, ↓asTup_dSt, ↓contL_dSt, ↓asStr_dSl, ↓asInt_dSl, ↓asBl_dSl, ↓asTup_dSl, ↓contL_dSl, ↓asStr_dCh, ↓asInt_dCh, ↓asBl_dCh, ↓asTup_dCh, ↓contL_dCh, ↓asStr_dRl, ↓asInt_dRl, ↓asBl_dRl, ↓asTup_dRl, ↓contL_dRl, ↓asStr_dHi, ↓asInt_dHi, ↓asBl_dHi, ↓asTup_dHi, ↓contL_dHi, ↓asStr_encP, ↓asInt_encP, ↓asBl_encP, ↓asTup_encP, ↓contL_encP, ↓asStr_encRO, ↓asInt_encRO, ↓asBl_encRO, ↓asTup_encRO, ↓contL_encRO, ↓asStr_encSO, ↓asInt_encSO, ↓asBl_encSO, ↓asTup_encSO, ↓contL_encSO, mW, noPin, wipeL, restL, mDNew, List.foldr_cons, List.foldr_nil, List.all_cons, List.all_nil, runF, runP, startL, startP, outD, frz1, mSeq, mNx, mRet, mIfS, mSet, mAsg, mPar', mApp, mExt, mPop, mSetIx, mAug, mFor, mT, mAnd, mOr, mNot, mAndV, mOrV, mNotV, mIf, mB0, mB1, mB2, mBN, mNil, mCons, mF, mVar, mC, mTup, mLst, mSl, mNo, mSo, mMeth, mEnum, mZip, mRng1, mRng2, inRng_3, inRng_4, inRng_6, mSeq1, mTT, opB, opI, opAdd, opIx, opLen, opTuple, opList, opInt, opMin, opAllAny, opJoin, opSl, opDict, opKGet, mGet2, opNeg, opMach, opSounds, opHist, mCh, inE, ninE, eqE, neE, isMach, callF, callP, pu1, pu2, puN, iCmp, frosOf, put, pin_fro, pin_non, pin_own, gN, gNil', gCons', gTup', lstOf, setL, ownOf, isLoc, locIs, mElt, mInn, mLcG, cT, cPos, Option.bind_some, Option.bind_none, Option.map_some, Option.map_none, List.getElem?_cons_zero, List.getElem?_cons_succ, List.set_cons_zero, List.set_cons_succ, List.map_cons, List.map_nil, List.length_cons, List.length_nil, List.cons_append, List.nil_append, List.replicate_succ, List.replicate_zero, asInt__fro_int, asInt__fro_str, asInt__fro_bl, asInt__fro_tup, asInt__fro_row, asInt__fro_lst, asInt__fro_non, asInt__fro_mach, asInt__fro_obj, asInt__tmp, asInt__tmpk, asInt__tmpd, asInt__loc, asStr__fro_int, asStr__fro_str, asStr__fro_bl, asStr__fro_tup, asStr__fro_row, asStr__fro_lst, asStr__fro_non, asStr__fro_mach, asStr__fro_obj, asStr__tmp, asStr__tmpk, asStr__tmpd, asStr__loc, asBl__fro_int, asBl__fro_str, asBl__fro_bl, asBl__fro_tup, asBl__fro_row, asBl__fro_lst, asBl__fro_non, asBl__fro_mach, asBl__fro_obj, asBl__tmp, asBl__tmpk, asBl__tmpd, asBl__loc, asTup__fro_int, asTup__fro_str, asTup__fro_bl, asTup__fro_tup, asTup__fro_row, asTup__fro_lst, asTup__fro_non, asTup__fro_mach, asTup__fro_obj, asTup__tmp, asTup__tmpk, asTup__tmpd, asTup__loc, contL__fro_int, contL__fro_str, contL__fro_bl, contL__fro_tup, contL__fro_row, contL__fro_lst, contL__fro_non, contL__fro_mach, contL__fro_obj, contL__tmp, contL__tmpk, contL__tmpd, contK__fro_int, contK__fro_str, contK__fro_bl, contK__fro_tup, contK__fro_row, contK__fro_lst, contK__fro_non, contK__fro_mach, contK__fro_obj, contK__tmp, contK__tmpk, contK__tmpd, contL__loc, lvL__own, lvL__pin, lvL__fro, lvL__k, lvL__d, contK__loc, kOf, zh]) ?_
  refine ex_step (L1 := [.none, .own l4, .none, .own [.str a, .str b, .str c, .str d], .none, .none, .none, .none, .fro (dHi one), .fro (dHi two), .fro (dMa S one), .fro (.mach (.str S) (.tup (one.map dRl ++ two.map dRl))), .none, .none, .none, .none, .none, .none]) (by
    have hr4 : (inRng 4) = True := by simp [hr4]
    simp [mW, noPin, wipeL, restL, mDNew, List.foldr_cons, List.foldr_nil, List.all_cons, List.all_nil, runF, runP, startL, startP, outD, frz1, mSeq, mNx, mRet, mIfS, mSet, mAsg, mPar', mApp, mExt, mPop, mSetIx, mAug, mFor, mT, mAnd, mOr, mNot, mAndV, mOrV, mNotV, mIf, mB0, mB1, mB2, mBN, mNil, mCons, mF, mVar, mC, mTup, mLst, mSl, mNo, mSo, mMeth, mEnum, mZip, mRng1, mRng2, inRng_3, inRng_4, inRng_6, mSeq1, mTT, opB, opI, opAdd, opIx, opLen, opTuple, opList, opInt, opMin, opAllAny, opJoin, opSl, opDict, opKGet, mGet2, opNeg, opMach, opSounds, opHist, mCh, inE, ninE, eqE, neE, isMach, callF, callP, pu1, pu2, puN, iCmp, frosOf, put, pin_fro, pin_non, pin_own, gN, gNil', gCons', gTup', lstOf, setL, ownOf, isLoc, locIs, mElt, mInn, mLcG, cT, cPos, Option.bind_some, Option.bind_none, Option.map_some, Option.map_none, List.getElem?_cons_zero, List.getElem?_cons_succ, List.set_cons_zero, List.set_cons_succ, List.map_cons, List.map_nil, List.length_cons, List.length_nil, List.cons_append, List.nil_append, List.replicate_succ, List.replicate_zero, asInt__fro_int, asInt__fro_str, asInt__fro_bl, asInt__fro_tup, asInt__fro_row, asInt__fro_lst, asInt__fro_non, asInt__fro_mach, asInt__fro_obj, asInt__tmp, asInt__tmpk, asInt__tmpd, asInt__loc, asStr__fro_int, asStr__fro_str, asStr__fro_bl, asStr__fro_tup, asStr__fro_row, asStr__fro_lst, asStr__fro_non, asStr__fro_mach, asStr__fro_obj, asStr__tmp, asStr__tmpk, asStr__tmpd, asStr__loc, asBl__fro_int, asBl__fro_str, asBl__fro_bl, asBl__fro_tup, asBl__fro_row, asBl__fro_lst, asBl__fro_non, asBl__fro_mach, asBl__fro_obj, asBl__tmp, asBl__tmpk, asBl__tmpd, asBl__loc, asTup__fro_int, asTup__fro_str, asTup__fro_bl, asTup__fro_tup, asTup__fro_row, asTup__fro_lst, asTup__fro_non, asTup__fro_mach, asTup__fro_obj, asTup__tmp, asTup__tmpk, asTup__tmpd, asTup__loc, contL__fro_int, contL__fro_str, contL__fro_bl, contL__fro_tup, contL__fro_row, contL__fro_lst, contL__fro_non, contL__fro_mach, contL__fro_obj, contL__tmp, contL__tmpk, contL__tmpd, contK__fro_int, contK__fro_str, contK__fro_bl, contK__fro_tup, contK__fro_row, contK__fro_lst, contK__fro_non, contK__fro_mach, contK__fro_obj, contK__tmp, contK__tmpk, contK__tmpd, contL__loc, lvL__own, lvL__pin, lvL__fro, lvL__k, lvL__d, contK__loc, kOf, hr4, hw1]) ?_
  refine ex_step (L1 := [.none, .own l4, .none, .own [.str a, .str b, .str c, .str d], .ownk [], .none, .none, .none, .fro (dHi one), .fro (dHi two), .fro (dMa S one), .fro (.mach (.str S) (.tup (one.map dRl ++ two.map dRl))), .none, .none, .none, .none, .none, .none]) (by simp [mW, noPin, wipeL, restL, mDNew, List.foldr_cons, List.foldr_nil, List.all_cons, List.all_nil, runF, runP, startL, startP, outD, frz1, mSeq, mNx, mRet, mIfS, mSet, mAsg, mPar', mApp, mExt, mPop, mSetIx, mAug, mFor, mT, mAnd, mOr, mNot, mAndV, mOrV, mNotV, mIf, mB0, mB1, mB2, mBN, mNil, mCons, mF, mVar, mC, mTup, mLst, mSl, mNo, mSo, mMeth, mEnum, mZip, mRng1, mRng2, inRng_3, inRng_4, inRng_6, mSeq1, mTT, opB, opI, opAdd, opIx, opLen, opTuple, opList, opInt, opMin, opAllAny, opJoin, opSl, opDict, opKGet, mGet2, opNeg, opMach, opSounds, opHist, mCh, inE, ninE, eqE, neE, isMach, callF, callP, pu1, pu2, puN, iCmp, frosOf, put, pin_fro, pin_non, pin_own, gN, gNil', gCons', gTup', lstOf, setL, ownOf, isLoc, locIs, mElt, mInn, mLcG, cT, cPos, Option.bind_some, Option.bind_none, Option.map_some, Option.map_none, List.getElem?_cons_zero, List.getElem?_cons_succ, List.set_cons_zero, List.set_cons_succ, List.map_cons, List.map_nil, List.length_cons, List.length_nil, List.cons_append, List.nil_append, List.replicate_succ, List.replicate_zero, asInt__fro_int, asInt__fro_str, asInt__fro_bl, asInt__fro_tup, asInt__fro_row, asInt__fro_lst, asInt__fro_non, asInt__fro_mach, asInt__fro_obj, asInt__tmp, asInt__tmpk, asInt__tmpd, asInt__loc, asStr__fro_int, asStr__fro_str, asStr__fro_bl, asStr__fro_tup, asStr__fro_row, asStr__fro_lst, asStr__fro_non, asStr__fro_mach, asStr__fro_obj, asStr__tmp, asStr__tmpk, asStr__tmpd, asStr__loc, asBl__fro_int, asBl__fro_str, asBl__fro_bl, asBl__fro_tup, asBl__fro_row, asBl__fro_lst, asBl__fro_non, asBl__fro_mach, asBl__fro_obj, asBl__tmp, asBl__tmpk, asBl__tmpd, asBl__loc, asTup__fro_int, asTup__fro_str, asTup__fro_bl, asTup__fro_tup, asTup__fro_row, asTup__fro_lst, asTup__fro_non, asTup__fro_mach, asTup__fro_obj, asTup__tmp, asTup__tmpk, asTup__tmpd, asTup__loc, contL__fro_int, contL__fro_str, contL__fro_bl, contL__fro_tup, contL__fro_row, contL__fro_lst, contL__fro_non, contL__fro_mach, contL__fro_obj, contL__tmp, contL__tmpk, contL__tmpd, contK__fro_int, contK__fro_str, contK__fro_bl, contK__fro_tup, contK__fro_row, contK__fro_lst, contK__fro_non, contK__fro_mach, contK__fro_obj, contK__tmp, contK__tmpk, contK__tmpd, contL__loc, lvL__own, lvL__pin, lvL__fro, lvL__k, lvL__d, contK__loc, kOf]) ?_
  refine ex_step (L1 := [.none, .own l4, .none, .own [.str a, .str b, .str c, .str d], .ownk kv, .none, .none, .none, .fro (dHi one), .none, .none, .none, .none, .none, .none, .none, .none, .none]) (by simp [mW, noPin, wipeL, restL, mDNew, List.foldr_cons, List.foldr_nil, List.all_cons, List.all_nil, runF, runP, startL, startP, outD, frz1, mSeq, mNx, mRet, mIfS, mSet, mAsg, mPar', mApp, mExt, mPop, mSetIx, mAug, mFor, mT, mAnd, mOr, mNot, mAndV, mOrV, mNotV, mIf, mB0, mB1, mB2, mBN, mNil, mCons, mF, mVar, mC, mTup, mLst, mSl, mNo, mSo, mMeth, mEnum, mZip, mRng1, mRng2, inRng_3, inRng_4, inRng_6, mSeq1, mTT, opB, opI, opAdd, opIx, opLen, opTuple, opList, opInt, opMin, opAllAny, opJoin, opSl, opDict, opKGet, mGet2, opNeg, opMach, opSounds, opHist, mCh, inE, ninE, eqE, neE, isMach, callF, callP, pu1, pu2, puN, iCmp, frosOf, put, pin_fro, pin_non, pin_own, gN, gNil', gCons', gTup', lstOf, setL, ownOf, isLoc, locIs, mElt, mInn, mLcG, cT, cPos, Option.bind_some, Option.bind_none, Option.map_some, Option.map_none, List.getElem?_cons_zero, List.getElem?_cons_succ, List.set_cons_zero, List.set_cons_succ, List.map_cons, List.map_nil, List.length_cons, List.length_nil, List.cons_append, List.nil_append, List.replicate_succ, List.replicate_zero, asInt__fro_int, asInt__fro_str, asInt__fro_bl, asInt__fro_tup, asInt__fro_row, asInt__fro_lst, asInt__fro_non, asInt__fro_mach, asInt__fro_obj, asInt__tmp, asInt__tmpk, asInt__tmpd, asInt__loc, asStr__fro_int, asStr__fro_str, asStr__fro_bl, asStr__fro_tup, asStr__fro_row, asStr__fro_lst, asStr__fro_non, asStr__fro_mach, asStr__fro_obj, asStr__tmp, asStr__tmpk, asStr__tmpd, asStr__loc, asBl__fro_int, asBl__fro_str, asBl__fro_bl, asBl__fro_tup, asBl__fro_row, asBl__fro_lst, asBl__fro_non, asBl__fro_mach, asBl__fro_obj, asBl__tmp, asBl__tmpk, asBl__tmpd, asBl__loc, asTup__fro_int, asTup__fro_str, asTup__fro_bl, asTup__fro_tup, asTup__fro_row, asTup__fro_lst, asTup__fro_non, asTup__fro_mach, asTup__fro_obj, asTup__tmp, asTup__tmpk, asTup__tmpd, asTup__loc, contL__fro_int, contL__fro_str, contL__fro_bl, contL__fro_tup, contL__fro_row, contL__fro_lst, contL__fro_non, contL__fro_mach, contL__fro_obj, contL__tmp, contL__tmpk, contL__tmpd, contK__fro_int, contK__fro_str, contK__fro_bl, contK__fro_tup, contK__fro_row, contK__fro_lst, contK__fro_non, contK__fro_mach, contK__fro_obj, contK__tmp, contK__tmpk, contK__tmpd, contL__loc, lvL__own, lvL__pin, lvL__fro, lvL__k, lvL__d, contK__loc, kOf, hf, at4_0, at4_1, at4_2, at4_3, zab, zcb, zad, z7]) ?_
  match one, n1 with
  | [], _ =>
    have eo : dHi [] = .tup [] := rfl
    rw [eo]
    exact ex_rt (L1 := [.none, .own l4, .none, .own [.str a, .str b, .str c, .str d], .ownk kv, .none, .none, .none, .fro (.tup []), .none, .none, .none, .none, .none, .none, .none, .none, .none]) (by simp [mW, noPin, wipeL, restL, mDNew, List.foldr_cons, List.foldr_nil, List.all_cons, List.all_nil, runF, runP, startL, startP, outD, frz1, mSeq, mNx, mRet, mIfS, mSet, mAsg, mPar', mApp, mExt, mPop, mSetIx, mAug, mFor, mT, mAnd, mOr, mNot, mAndV, mOrV, mNotV, mIf, mB0, mB1, mB2, mBN, mNil, mCons, mF, mVar, mC, mTup, mLst, mSl, mNo, mSo, mMeth, mEnum, mZip, mRng1, mRng2, inRng_3, inRng_4, inRng_6, mSeq1, mTT, opB, opI, opAdd, opIx, opLen, opTuple, opList, opInt, opMin, opAllAny, opJoin, opSl, opDict, opKGet, mGet2, opNeg, opMach, opSounds, opHist, mCh, inE, ninE, eqE, neE, isMach, callF, callP, pu1, pu2, puN, iCmp, frosOf, put, pin_fro, pin_non, pin_own, gN, gNil', gCons', gTup', lstOf, setL, ownOf, isLoc, locIs, mElt, mInn, mLcG, cT, cPos, Option.bind_some, Option.bind_none, Option.map_some, Option.map_none, List.getElem?_cons_zero, List.getElem?_cons_succ, List.set_cons_zero, List.set_cons_succ, List.map_cons, List.map_nil, List.length_cons, List.length_nil, List.cons_append, List.nil_append, List.replicate_succ, List.replicate_zero, asInt__fro_int, asInt__fro_str, asInt__fro_bl, asInt__fro_tup, asInt__fro_row, asInt__fro_lst, asInt__fro_non, asInt__fro_mach, asInt__fro_obj, asInt__tmp, asInt__tmpk, asInt__tmpd, asInt__loc, asStr__fro_int, asStr__fro_str, asStr__fro_bl, asStr__fro_tup, asStr__fro_row, asStr__fro_lst, asStr__fro_non, asStr__fro_mach, asStr__fro_obj, asStr__tmp, asStr__tmpk, asStr__tmpd, asStr__loc, asBl__fro_int, asBl__fro_str, asBl__fro_bl, asBl__fro_tup, asBl__fro_row, asBl__fro_lst, asBl__fro_non, asBl__fro_mach, asBl__fro_obj, asBl__tmp, asBl__tmpk, asBl__tmpd, asBl__loc, asTup__fro_int, asTup__fro_str, asTup__fro_bl, asTup__fro_tup, asTup__fro_row, asTup__fro_lst, asTup__fro_non, asTup__fro_mach, asTup__fro_obj, asTup__tmp, asTup__tmpk, asTup__tmpd, asTup__loc, contL__fro_int, contL__fro_str, contL__fro_bl, contL__fro_tup, contL__fro_row, contL__fro_lst, contL__fro_non, contL__fro_mach, contL__fro_obj, contL__tmp, contL__tmpk, contL__tmpd, contK__fro_int, contK__fro_str, contK__fro_bl, contK__fro_tup, contK__fro_row, contK__fro_lst, contK__fro_non, contK__fro_mach, contK__fro_obj, contK__tmp, contK__tmpk, contK__tmpd, contL__loc, lvL__own, lvL__pin, lvL__fro, lvL__k, lvL__d, contK__loc, kOf, datE, deq_int, cok_int])
  | [r], _ =>
    refine ex_step (L1 := [.none, .own l4, .none, .own [.str a, .str b, .str c, .str d], .ownk kv, .none, .none, .none, .none, .none, .none, .none, .none, .none, .none, .none, .none, .none]) (by simp [↓asStr_dB, ↓asInt_dB, ↓asBl_dB, ↓asTup_dB, ↓contL_dB, ↓asStr_dSt1, ↓asInt_dSt1, ↓asBl_dSt1, ↓asTup_dSt1, ↓contL_dSt1, ↓asStr_dSt, ↓asInt_dSt, ↓asBl_dSt, ↓asTup_dSt, ↓contL_dSt, ↓asStr_dSl, ↓asInt_dSl, ↓asBl_dSl, ↓asTup_dSl, ↓contL_dSl, ↓asStr_dCh, ↓asInt_dCh, ↓asBl_dCh, ↓asTup_dCh, ↓contL_dCh, ↓asStr_dRl, ↓asInt_dRl, ↓asBl_dRl, ↓asTup_dRl, ↓contL_dRl, ↓asStr_dHi, ↓asInt_dHi, ↓asBl_dHi, ↓asTup_dHi, ↓contL_dHi, ↓asStr_encP, ↓asInt_encP, ↓asBl_encP, ↓asTup_encP, ↓contL_encP, ↓asStr_encRO, ↓asInt_encRO, ↓asBl_encRO, ↓asTup_encRO, ↓contL_encRO, ↓asStr_encSO, ↓asInt_encSO, ↓asBl_encSO, ↓asTup_encSO, ↓contL_encSO, mW, noPin, wipeL, restL, mDNew, List.foldr_cons, List.foldr_nil, List.all_cons, List.all_nil, runF, runP, startL, startP, outD, frz1, mSeq, mNx, mRet, mIfS, mSet, mAsg, mPar', mApp, mExt, mPop, mSetIx, mAug, mFor, mT, mAnd, mOr, mNot, mAndV, mOrV, mNotV, mIf, mB0, mB1, mB2, mBN, mNil, mCons, mF, mVar, mC, mTup, mLst, mSl, mNo, mSo, mMeth, mEnum, mZip, mRng1, mRng2, inRng_3, inRng_4, inRng_6, mSeq1, mTT, opB, opI, opAdd, opIx, opLen, opTuple, opList, opInt, opMin, opAllAny, opJoin, opSl, opDict, opKGet, mGet2, opNeg, opMach, opSounds, opHist, mCh, inE, ninE, eqE, neE, isMach, callF, callP, pu1, pu2, puN, iCmp, frosOf, put, pin_fro, pin_non, pin_own, gN, gNil', gCons', gTup', lstOf, setL, ownOf, isLoc, locIs, mElt, mInn, mLcG, cT, cPos, Option.bind_some, Option.bind_none, Option.map_some, Option.map_none, List.getElem?_cons_zero, List.getElem?_cons_succ, List.set_cons_zero, List.set_cons_succ, List.map_cons, List.map_nil, List.length_cons, List.length_nil, List.cons_append, List.nil_append, List.replicate_succ, List.replicate_zero, asInt__fro_int, asInt__fro_str, asInt__fro_bl, asInt__fro_tup, asInt__fro_row, asInt__fro_lst, asInt__fro_non, asInt__fro_mach, asInt__fro_obj, asInt__tmp, asInt__tmpk, asInt__tmpd, asInt__loc, asStr__fro_int, asStr__fro_str, asStr__fro_bl, asStr__fro_tup, asStr__fro_row, asStr__fro_lst, asStr__fro_non, asStr__fro_mach, asStr__fro_obj, asStr__tmp, asStr__tmpk, asStr__tmpd, asStr__loc, asBl__fro_int, asBl__fro_str, asBl__fro_bl, asBl__fro_tup, asBl__fro_row, asBl__fro_lst, asBl__fro_non, asBl__fro_mach, asBl__fro_obj, asBl__tmp, asBl__tmpk, asBl__tmpd, asBl__loc, asTup__fro_int, asTup__fro_str, asTup__fro_bl, asTup__fro_tup, asTup__fro_row, asTup__fro_lst, asTup__fro_non, asTup__fro_mach, asTup__fro_obj, asTup__tmp, asTup__tmpk, asTup__tmpd, asTup__loc, contL__fro_int, contL__fro_str, contL__fro_bl, contL__fro_tup, contL__fro_row, contL__fro_lst, contL__fro_non, contL__fro_mach, contL__fro_obj, contL__tmp, contL__tmpk, contL__tmpd, contK__fro_int, contK__fro_str, contK__fro_bl, contK__fro_tup, contK__fro_row, contK__fro_lst, contK__fro_non, contK__fro_mach, contK__fro_obj, contK__tmp, contK__tmpk, contK__tmpd, contL__loc, lvL__own, lvL__pin, lvL__fro, lvL__k, lvL__d, contK__loc, kOf, datE, deq_int, cok_int]) ?_
    have ok : SlOk S [r] := k.m1.sl
    have wl : ∀ {w : Wd}, (∀ z ∈ w, z ∈ S) → w.length ≤ 8 → ((wayT [r] S w).1.length ≤ LIM) := fun hw hl => by rw [wayT_len ok hw, LIM_val]; omega
    have pb : ∀ {w : Wd} {g : GM} {me : EM} {j6 j7 : LV}, (∀ z ∈ w, z ∈ S) → w.length ≤ 8 → (∀ x : RSt, lcE [17] g me [.none, .own l4, .none, .own [.str a, .str b, .str c, .str d], .ownk kv, .none, j6, j7, .none, .none, .none, .none, .none, .none, .none, .none, .none, .none] (dSt [x]) = some (.fro (dB x.1), [.none, .own l4, .none, .own [.str a, .str b, .str c, .str d], .ownk kv, .none, j6, j7, .none, .none, .none, .none, .none, .none, .none, .none, .none, .none])) →
        lcG [17] g mTT (mElt me) ((wayT [r] S w).1.map dSt) [] [.none, .own l4, .none, .own [.str a, .str b, .str c, .str d], .ownk kv, .none, j6, j7, .none, .none, .none, .none, .none, .none, .none, .none, .none, .none] =
          some (((wayT [r] S w).1.map fun st => (st.headD ([], [])).1).map dB, [.none, .own l4, .none, .own [.str a, .str b, .str c, .str d], .ownk kv, .none, j6, j7, .none, .none, .none, .none, .none, .none, .none, .none, .none, .none]) := fun {w g me j6 j7} hw hl h => by
      have := lcG_map (enc := dSt) (f := fun st => dB (st.headD ([], [])).1) rfl (wayT [r] S w).1 [] (fun st hst => by
        obtain ⟨x, rfl⟩ := way_one ok hw st hst
        exact h x) (by have := wl hw hl; simpa using this)
      rw [this, List.map_map]
      rfl
    have pe : ∀ {w : Wd} {g : GM} {me : EM} {j6 j7 : LV}, (∀ z ∈ w, z ∈ S) → w.length ≤ 8 → (∀ x : RSt, lcE [17] g me [.none, .own l4, .none, .own [.str a, .str b, .str c, .str d], .ownk kv, .none, j6, j7, .none, .none, .none, .none, .none, .none, .none, .none, .none, .none] (dSt [x]) = some (.fro (dB x.2), [.none, .own l4, .none, .own [.str a, .str b, .str c, .str d], .ownk kv, .none, j6, j7, .none, .none, .none, .none, .none, .none, .none, .none, .none, .none])) →
        lcG [17] g mTT (mElt me) ((wayT [r] S w).1.map dSt) [] [.none, .own l4, .none, .own [.str a, .str b, .str c, .str d], .ownk kv, .none, j6, j7, .none, .none, .none, .none, .none, .none, .none, .none, .none, .none] =
          some (((wayT [r] S w).1.map fun st => (st.headD ([], [])).2).map dB, [.none, .own l4, .none, .own [.str a, .str b, .str c, .str d], .ownk kv, .none, j6, j7, .none, .none, .none, .none, .none, .none, .none, .none, .none, .none]) := fun {w g me j6 j7} hw hl h => by
      have := lcG_map (enc := dSt) (f := fun st => dB (st.headD ([], [])).2) rfl (wayT [r] S w).1 [] (fun st hst => by
        obtain ⟨x, rfl⟩ := way_one ok hw st hst
        exact h x) (by have := wl hw hl; simpa using this)
      rw [this, List.map_map]
      rfl
    have lab : (a ++ b).length ≤ 8 := by rw [List.length_append]; omega
    have lad : (a ++ d).length ≤ 8 := by rw [List.length_append]; omega
    have lcb : (c ++ b).length ≤ 8 := by rw [List.length_append]; omega
    have t1 : tabF S [r] (a ++ b) = .lst ((wayT [r] S (a ++ b)).1.map dSt) := rfl
    have t2 : tabF S [r] (a ++ d) = .lst ((wayT [r] S (a ++ d)).1.map dSt) := rfl
    have t3 : tabF S [r] (c ++ b) = .lst ((wayT [r] S (c ++ b)).1.map dSt) := rfl
    rw [t1] at g1
    rw [t2] at g2
    rw [t3] at g3
    have b1 := before_same ok ha hb
    have b2 := before_same ok ha hd
    have b3 := behind_same ok ha hb
    have b4 := behind_same ok hc hb
    have u1 := lists_eq ((List.range (a.length + 1)).map fun i => fwW r (bst r) (a.take i))
    have u2 := lists_eq ((List.range (b.length + 1)).map fun i => bkW r (bend r) (b.drop i))
    have q1 := pb (w := a ++ b) (g := g_law4) (me := e_law3) (j6 := .none) (j7 := .none) (app ha hb) lab fun x => by simp [↓asStr_dB, ↓asInt_dB, ↓asBl_dB, ↓asTup_dB, ↓contL_dB, ↓asStr_dSt1, ↓asInt_dSt1, ↓asBl_dSt1, ↓asTup_dSt1, ↓contL_dSt1, ↓asStr_dSt, ↓asInt_dSt, ↓asBl_dSt, ↓asTup_dSt, ↓contL_dSt, ↓asStr_dSl, ↓asInt_dSl, ↓asBl_dSl, ↓asTup_dSl, ↓contL_dSl, ↓asStr_dCh, ↓asInt_dCh, ↓asBl_dCh, ↓asTup_dCh, ↓contL_dCh, ↓asStr_dRl, ↓asInt_dRl, ↓asBl_dRl, ↓asTup_dRl, ↓contL_dRl, ↓asStr_dHi, ↓asInt_dHi, ↓asBl_dHi, ↓asTup_dHi, ↓contL_dHi, ↓asStr_encP, ↓asInt_encP, ↓asBl_encP, ↓asTup_encP, ↓contL_encP, ↓asStr_encRO, ↓asInt_encRO, ↓asBl_encRO, ↓asTup_encRO, ↓contL_encRO, ↓asStr_encSO, ↓asInt_encSO, ↓asBl_encSO, ↓asTup_encSO, ↓contL_encSO, mW, noPin, wipeL, restL, mDNew, List.foldr_cons, List.foldr_nil, List.all_cons, List.all_nil, runF, runP, startL, startP, outD, frz1, mSeq, mNx, mRet, mIfS, mSet, mAsg, mPar', mApp, mExt, mPop, mSetIx, mAug, mFor, mT, mAnd, mOr, mNot, mAndV, mOrV, mNotV, mIf, mB0, mB1, mB2, mBN, mNil, mCons, mF, mVar, mC, mTup, mLst, mSl, mNo, mSo, mMeth, mEnum, mZip, mRng1, mRng2, inRng_3, inRng_4, inRng_6, mSeq1, mTT, opB, opI, opAdd, opIx, opLen, opTuple, opList, opInt, opMin, opAllAny, opJoin, opSl, opDict, opKGet, mGet2, opNeg, opMach, opSounds, opHist, mCh, inE, ninE, eqE, neE, isMach, callF, callP, pu1, pu2, puN, iCmp, frosOf, put, pin_fro, pin_non, pin_own, gN, gNil', gCons', gTup', lstOf, setL, ownOf, isLoc, locIs, mElt, mInn, mLcG, cT, cPos, Option.bind_some, Option.bind_none, Option.map_some, Option.map_none, List.getElem?_cons_zero, List.getElem?_cons_succ, List.set_cons_zero, List.set_cons_succ, List.map_cons, List.map_nil, List.length_cons, List.length_nil, List.cons_append, List.nil_append, List.replicate_succ, List.replicate_zero, asInt__fro_int, asInt__fro_str, asInt__fro_bl, asInt__fro_tup, asInt__fro_row, asInt__fro_lst, asInt__fro_non, asInt__fro_mach, asInt__fro_obj, asInt__tmp, asInt__tmpk, asInt__tmpd, asInt__loc, asStr__fro_int, asStr__fro_str, asStr__fro_bl, asStr__fro_tup, asStr__fro_row, asStr__fro_lst, asStr__fro_non, asStr__fro_mach, asStr__fro_obj, asStr__tmp, asStr__tmpk, asStr__tmpd, asStr__loc, asBl__fro_int, asBl__fro_str, asBl__fro_bl, asBl__fro_tup, asBl__fro_row, asBl__fro_lst, asBl__fro_non, asBl__fro_mach, asBl__fro_obj, asBl__tmp, asBl__tmpk, asBl__tmpd, asBl__loc, asTup__fro_int, asTup__fro_str, asTup__fro_bl, asTup__fro_tup, asTup__fro_row, asTup__fro_lst, asTup__fro_non, asTup__fro_mach, asTup__fro_obj, asTup__tmp, asTup__tmpk, asTup__tmpd, asTup__loc, contL__fro_int, contL__fro_str, contL__fro_bl, contL__fro_tup, contL__fro_row, contL__fro_lst, contL__fro_non, contL__fro_mach, contL__fro_obj, contL__tmp, contL__tmpk, contL__tmpd, contK__fro_int, contK__fro_str, contK__fro_bl, contK__fro_tup, contK__fro_row, contK__fro_lst, contK__fro_non, contK__fro_mach, contK__fro_obj, contK__tmp, contK__tmpk, contK__tmpd, contL__loc, lvL__own, lvL__pin, lvL__fro, lvL__k, lvL__d, contK__loc, kOf, lcE, g_law4, e_law3, dSt, at2_0]; rfl
    have q2 := pb (w := a ++ d) (g := g_law5) (me := e_law4) (j6 := .own (((List.range (a.length + 1)).map fun i => fwW r (bst r) (a.take i)).map dB)) (j7 := .none) (app ha hd) lad fun x => by simp [↓asStr_dB, ↓asInt_dB, ↓asBl_dB, ↓asTup_dB, ↓contL_dB, ↓asStr_dSt1, ↓asInt_dSt1, ↓asBl_dSt1, ↓asTup_dSt1, ↓contL_dSt1, ↓asStr_dSt, ↓asInt_dSt, ↓asBl_dSt, ↓asTup_dSt, ↓contL_dSt, ↓asStr_dSl, ↓asInt_dSl, ↓asBl_dSl, ↓asTup_dSl, ↓contL_dSl, ↓asStr_dCh, ↓asInt_dCh, ↓asBl_dCh, ↓asTup_dCh, ↓contL_dCh, ↓asStr_dRl, ↓asInt_dRl, ↓asBl_dRl, ↓asTup_dRl, ↓contL_dRl, ↓asStr_dHi, ↓asInt_dHi, ↓asBl_dHi, ↓asTup_dHi, ↓contL_dHi, ↓asStr_encP, ↓asInt_encP, ↓asBl_encP, ↓asTup_encP, ↓contL_encP, ↓asStr_encRO, ↓asInt_encRO, ↓asBl_encRO, ↓asTup_encRO, ↓contL_encRO, ↓asStr_encSO, ↓asInt_encSO, ↓asBl_encSO, ↓asTup_encSO, ↓contL_encSO, mW, noPin, wipeL, restL, mDNew, List.foldr_cons, List.foldr_nil, List.all_cons, List.all_nil, runF, runP, startL, startP, outD, frz1, mSeq, mNx, mRet, mIfS, mSet, mAsg, mPar', mApp, mExt, mPop, mSetIx, mAug, mFor, mT, mAnd, mOr, mNot, mAndV, mOrV, mNotV, mIf, mB0, mB1, mB2, mBN, mNil, mCons, mF, mVar, mC, mTup, mLst, mSl, mNo, mSo, mMeth, mEnum, mZip, mRng1, mRng2, inRng_3, inRng_4, inRng_6, mSeq1, mTT, opB, opI, opAdd, opIx, opLen, opTuple, opList, opInt, opMin, opAllAny, opJoin, opSl, opDict, opKGet, mGet2, opNeg, opMach, opSounds, opHist, mCh, inE, ninE, eqE, neE, isMach, callF, callP, pu1, pu2, puN, iCmp, frosOf, put, pin_fro, pin_non, pin_own, gN, gNil', gCons', gTup', lstOf, setL, ownOf, isLoc, locIs, mElt, mInn, mLcG, cT, cPos, Option.bind_some, Option.bind_none, Option.map_some, Option.map_none, List.getElem?_cons_zero, List.getElem?_cons_succ, List.set_cons_zero, List.set_cons_succ, List.map_cons, List.map_nil, List.length_cons, List.length_nil, List.cons_append, List.nil_append, List.replicate_succ, List.replicate_zero, asInt__fro_int, asInt__fro_str, asInt__fro_bl, asInt__fro_tup, asInt__fro_row, asInt__fro_lst, asInt__fro_non, asInt__fro_mach, asInt__fro_obj, asInt__tmp, asInt__tmpk, asInt__tmpd, asInt__loc, asStr__fro_int, asStr__fro_str, asStr__fro_bl, asStr__fro_tup, asStr__fro_row, asStr__fro_lst, asStr__fro_non, asStr__fro_mach, asStr__fro_obj, asStr__tmp, asStr__tmpk, asStr__tmpd, asStr__loc, asBl__fro_int, asBl__fro_str, asBl__fro_bl, asBl__fro_tup, asBl__fro_row, asBl__fro_lst, asBl__fro_non, asBl__fro_mach, asBl__fro_obj, asBl__tmp, asBl__tmpk, asBl__tmpd, asBl__loc, asTup__fro_int, asTup__fro_str, asTup__fro_bl, asTup__fro_tup, asTup__fro_row, asTup__fro_lst, asTup__fro_non, asTup__fro_mach, asTup__fro_obj, asTup__tmp, asTup__tmpk, asTup__tmpd, asTup__loc, contL__fro_int, contL__fro_str, contL__fro_bl, contL__fro_tup, contL__fro_row, contL__fro_lst, contL__fro_non, contL__fro_mach, contL__fro_obj, contL__tmp, contL__tmpk, contL__tmpd, contK__fro_int, contK__fro_str, contK__fro_bl, contK__fro_tup, contK__fro_row, contK__fro_lst, contK__fro_non, contK__fro_mach, contK__fro_obj, contK__tmp, contK__tmpk, contK__tmpd, contL__loc, lvL__own, lvL__pin, lvL__fro, lvL__k, lvL__d, contK__loc, kOf, lcE, g_law5, e_law4, dSt, at2_0]; rfl
    have q3 := pe (w := a ++ b) (g := g_law6) (me := e_law5) (j6 := .none) (j7 := .none) (app ha hb) lab fun x => by simp [↓asStr_dB, ↓asInt_dB, ↓asBl_dB, ↓asTup_dB, ↓contL_dB, ↓asStr_dSt1, ↓asInt_dSt1, ↓asBl_dSt1, ↓asTup_dSt1, ↓contL_dSt1, ↓asStr_dSt, ↓asInt_dSt, ↓asBl_dSt, ↓asTup_dSt, ↓contL_dSt, ↓asStr_dSl, ↓asInt_dSl, ↓asBl_dSl, ↓asTup_dSl, ↓contL_dSl, ↓asStr_dCh, ↓asInt_dCh, ↓asBl_dCh, ↓asTup_dCh, ↓contL_dCh, ↓asStr_dRl, ↓asInt_dRl, ↓asBl_dRl, ↓asTup_dRl, ↓contL_dRl, ↓asStr_dHi, ↓asInt_dHi, ↓asBl_dHi, ↓asTup_dHi, ↓contL_dHi, ↓asStr_encP, ↓asInt_encP, ↓asBl_encP, ↓asTup_encP, ↓contL_encP, ↓asStr_encRO, ↓asInt_encRO, ↓asBl_encRO, ↓asTup_encRO, ↓contL_encRO, ↓asStr_encSO, ↓asInt_encSO, ↓asBl_encSO, ↓asTup_encSO, ↓contL_encSO, mW, noPin, wipeL, restL, mDNew, List.foldr_cons, List.foldr_nil, List.all_cons, List.all_nil, runF, runP, startL, startP, outD, frz1, mSeq, mNx, mRet, mIfS, mSet, mAsg, mPar', mApp, mExt, mPop, mSetIx, mAug, mFor, mT, mAnd, mOr, mNot, mAndV, mOrV, mNotV, mIf, mB0, mB1, mB2, mBN, mNil, mCons, mF, mVar, mC, mTup, mLst, mSl, mNo, mSo, mMeth, mEnum, mZip, mRng1, mRng2, inRng_3, inRng_4, inRng_6, mSeq1, mTT, opB, opI, opAdd, opIx, opLen, opTuple, opList, opInt, opMin, opAllAny, opJoin, opSl, opDict, opKGet, mGet2, opNeg, opMach, opSounds, opHist, mCh, inE, ninE, eqE, neE, isMach, callF, callP, pu1, pu2, puN, iCmp, frosOf, put, pin_fro, pin_non, pin_own, gN, gNil', gCons', gTup', lstOf, setL, ownOf, isLoc, locIs, mElt, mInn, mLcG, cT, cPos, Option.bind_some, Option.bind_none, Option.map_some, Option.map_none, List.getElem?_cons_zero, List.getElem?_cons_succ, List.set_cons_zero, List.set_cons_succ, List.map_cons, List.map_nil, List.length_cons, List.length_nil, List.cons_append, List.nil_append, List.replicate_succ, List.replicate_zero, asInt__fro_int, asInt__fro_str, asInt__fro_bl, asInt__fro_tup, asInt__fro_row, asInt__fro_lst, asInt__fro_non, asInt__fro_mach, asInt__fro_obj, asInt__tmp, asInt__tmpk, asInt__tmpd, asInt__loc, asStr__fro_int, asStr__fro_str, asStr__fro_bl, asStr__fro_tup, asStr__fro_row, asStr__fro_lst, asStr__fro_non, asStr__fro_mach, asStr__fro_obj, asStr__tmp, asStr__tmpk, asStr__tmpd, asStr__loc, asBl__fro_int, asBl__fro_str, asBl__fro_bl, asBl__fro_tup, asBl__fro_row, asBl__fro_lst, asBl__fro_non, asBl__fro_mach, asBl__fro_obj, asBl__tmp, asBl__tmpk, asBl__tmpd, asBl__loc, asTup__fro_int, asTup__fro_str, asTup__fro_bl, asTup__fro_tup, asTup__fro_row, asTup__fro_lst, asTup__fro_non, asTup__fro_mach, asTup__fro_obj, asTup__tmp, asTup__tmpk, asTup__tmpd, asTup__loc, contL__fro_int, contL__fro_str, contL__fro_bl, contL__fro_tup, contL__fro_row, contL__fro_lst, contL__fro_non, contL__fro_mach, contL__fro_obj, contL__tmp, contL__tmpk, contL__tmpd, contK__fro_int, contK__fro_str, contK__fro_bl, contK__fro_tup, contK__fro_row, contK__fro_lst, contK__fro_non, contK__fro_mach, contK__fro_obj, contK__tmp, contK__tmpk, contK__tmpd, contL__loc, lvL__own, lvL__pin, lvL__fro, lvL__k, lvL__d, contK__loc, kOf, lcE, g_law6, e_law5, dSt, at2_1, at2_0]; rfl
    have q4 := pe (w := c ++ b) (g := g_law7) (me := e_law6) (j6 := .none) (j7 := .own (((List.range (b.length + 1)).map fun i => bkW r (bend r) (b.drop i)).map dB)) (app hc hb) lcb fun x => by simp [↓asStr_dB, ↓asInt_dB, ↓asBl_dB, ↓asTup_dB, ↓contL_dB, ↓asStr_dSt1, ↓asInt_dSt1, ↓asBl_dSt1, ↓asTup_dSt1, ↓contL_dSt1, ↓asStr_dSt, ↓asInt_dSt, ↓asBl_dSt, ↓asTup_dSt, ↓contL_dSt, ↓asStr_dSl, ↓asInt_dSl, ↓asBl_dSl, ↓asTup_dSl, ↓contL_dSl, ↓asStr_dCh, ↓asInt_dCh, ↓asBl_dCh, ↓asTup_dCh, ↓contL_dCh, ↓asStr_dRl, ↓asInt_dRl, ↓asBl_dRl, ↓asTup_dRl, ↓contL_dRl, ↓asStr_dHi, ↓asInt_dHi, ↓asBl_dHi, ↓asTup_dHi, ↓contL_dHi, ↓asStr_encP, ↓asInt_encP, ↓asBl_encP, ↓asTup_encP, ↓contL_encP, ↓asStr_encRO, ↓asInt_encRO, ↓asBl_encRO, ↓asTup_encRO, ↓contL_encRO, ↓asStr_encSO, ↓asInt_encSO, ↓asBl_encSO, ↓asTup_encSO, ↓contL_encSO, mW, noPin, wipeL, restL, mDNew, List.foldr_cons, List.foldr_nil, List.all_cons, List.all_nil, runF, runP, startL, startP, outD, frz1, mSeq, mNx, mRet, mIfS, mSet, mAsg, mPar', mApp, mExt, mPop, mSetIx, mAug, mFor, mT, mAnd, mOr, mNot, mAndV, mOrV, mNotV, mIf, mB0, mB1, mB2, mBN, mNil, mCons, mF, mVar, mC, mTup, mLst, mSl, mNo, mSo, mMeth, mEnum, mZip, mRng1, mRng2, inRng_3, inRng_4, inRng_6, mSeq1, mTT, opB, opI, opAdd, opIx, opLen, opTuple, opList, opInt, opMin, opAllAny, opJoin, opSl, opDict, opKGet, mGet2, opNeg, opMach, opSounds, opHist, mCh, inE, ninE, eqE, neE, isMach, callF, callP, pu1, pu2, puN, iCmp, frosOf, put, pin_fro, pin_non, pin_own, gN, gNil', gCons', gTup', lstOf, setL, ownOf, isLoc, locIs, mElt, mInn, mLcG, cT, cPos, Option.bind_some, Option.bind_none, Option.map_some, Option.map_none, List.getElem?_cons_zero, List.getElem?_cons_succ, List.set_cons_zero, List.set_cons_succ, List.map_cons, List.map_nil, List.length_cons, List.length_nil, List.cons_append, List.nil_append, List.replicate_succ, List.replicate_zero, asInt__fro_int, asInt__fro_str, asInt__fro_bl, asInt__fro_tup, asInt__fro_row, asInt__fro_lst, asInt__fro_non, asInt__fro_mach, asInt__fro_obj, asInt__tmp, asInt__tmpk, asInt__tmpd, asInt__loc, asStr__fro_int, asStr__fro_str, asStr__fro_bl, asStr__fro_tup, asStr__fro_row, asStr__fro_lst, asStr__fro_non, asStr__fro_mach, asStr__fro_obj, asStr__tmp, asStr__tmpk, asStr__tmpd, asStr__loc, asBl__fro_int, asBl__fro_str, asBl__fro_bl, asBl__fro_tup, asBl__fro_row, asBl__fro_lst, asBl__fro_non, asBl__fro_mach, asBl__fro_obj, asBl__tmp, asBl__tmpk, asBl__tmpd, asBl__loc, asTup__fro_int, asTup__fro_str, asTup__fro_bl, asTup__fro_tup, asTup__fro_row, asTup__fro_lst, asTup__fro_non, asTup__fro_mach, asTup__fro_obj, asTup__tmp, asTup__tmpk, asTup__tmpd, asTup__loc, contL__fro_int, contL__fro_str, contL__fro_bl, contL__fro_tup, contL__fro_row, contL__fro_lst, contL__fro_non, contL__fro_mach, contL__fro_obj, contL__tmp, contL__tmpk, contL__tmpd, contK__fro_int, contK__fro_str, contK__fro_bl, contK__fro_tup, contK__fro_row, contK__fro_lst, contK__fro_non, contK__fro_mach, contK__fro_obj, contK__tmp, contK__tmpk, contK__tmpd, contL__loc, lvL__own, lvL__pin, lvL__fro, lvL__k, lvL__d, contK__loc, kOf, lcE, g_law7, e_law6, dSt, at2_1, at2_0]; rfl
    have c1 : cutG (((wayT [r] S (a ++ b)).1.map fun st => (st.headD ([], [])).1).map dB) none (some ((a.length : Int) + 1)) = ((List.range (a.length + 1)).map fun i => fwW r (bst r) (a.take i)).map dB := by
      have e : (a.length : Int) + 1 = ((a.length + 1 : Nat) : Int) := by omega
      rw [e, cut_take', ← List.map_take, b1]
    have c2 : cutG (((wayT [r] S (a ++ d)).1.map fun st => (st.headD ([], [])).1).map dB) none (some ((a.length : Int) + 1)) = ((List.range (a.length + 1)).map fun i => fwW r (bst r) (a.take i)).map dB := by
      have e : (a.length : Int) + 1 = ((a.length + 1 : Nat) : Int) := by omega
      rw [e, cut_take', ← List.map_take, b2]
    have c3 : cutG (((wayT [r] S (a ++ b)).1.map fun st => (st.headD ([], [])).2).map dB) (some (a.length : Int)) none = ((List.range (b.length + 1)).map fun i => bkW r (bend r) (b.drop i)).map dB := by
      rw [cut_drop', ← List.map_drop, b3]
    have c4 : cutG (((wayT [r] S (c ++ b)).1.map fun st => (st.headD ([], [])).2).map dB) (some (c.length : Int)) none = ((List.range (b.length + 1)).map fun i => bkW r (bend r) (b.drop i)).map dB := by
      rw [cut_drop', ← List.map_drop, b4]
    generalize ((List.range (a.length + 1)).map fun i => fwW r (bst r) (a.take i)).map dB = bf at *
    generalize ((List.range (b.length + 1)).map fun i => bkW r (bend r) (b.drop i)).map dB = bh at *
    generalize (wayT [r] S (a ++ b)).1.map dSt = w1 at *
    generalize (wayT [r] S (a ++ d)).1.map dSt = w2 at *
    generalize (wayT [r] S (c ++ b)).1.map dSt = w3 at *
    generalize ((wayT [r] S (a ++ b)).1.map fun st => (st.headD ([], [])).1).map dB = x1 at *
    generalize ((wayT [r] S (a ++ d)).1.map fun st => (st.headD ([], [])).1).map dB = x2 at *
    generalize ((wayT [r] S (a ++ b)).1.map fun st => (st.headD ([], [])).2).map dB = x3 at *
    generalize ((wayT [r] S (c ++ b)).1.map fun st => (st.headD ([], [])).2).map dB = x4 at *
    refine ex_step (L1 := [.none, .own l4, .none, .own [.str a, .str b, .str c, .str d], .ownk kv, .none, .own bf, .none, .none, .none, .none, .none, .none, .none, .none, .none, .none, .none]) (by simp [↓asStr_dB, ↓asInt_dB, ↓asBl_dB, ↓asTup_dB, ↓contL_dB, ↓asStr_dSt1, ↓asInt_dSt1, ↓asBl_dSt1, ↓asTup_dSt1, ↓contL_dSt1, ↓asStr_dSt, ↓asInt_dSt, ↓asBl_dSt, ↓asTup_dSt, ↓contL_dSt, ↓asStr_dSl, ↓asInt_dSl, ↓asBl_dSl, ↓asTup_dSl, ↓contL_dSl, ↓asStr_dCh, ↓asInt_dCh, ↓asBl_dCh, ↓asTup_dCh, ↓contL_dCh, ↓asStr_dRl, ↓asInt_dRl, ↓asBl_dRl, ↓asTup_dRl, ↓contL_dRl, ↓asStr_dHi, ↓asInt_dHi, ↓asBl_dHi, ↓asTup_dHi, ↓contL_dHi, ↓asStr_encP, ↓asInt_encP, ↓asBl_encP, ↓asTup_encP, ↓contL_encP, ↓asStr_encRO, ↓asInt_encRO, ↓asBl_encRO, ↓asTup_encRO, ↓contL_encRO, ↓asStr_encSO, ↓asInt_encSO, ↓asBl_encSO, ↓asTup_encSO, ↓contL_encSO, mW, noPin, wipeL, restL, mDNew, List.foldr_cons, List.foldr_nil, List.all_cons, List.all_nil, runF, runP, startL, startP, outD, frz1, mSeq, mNx, mRet, mIfS, mSet, mAsg, mPar', mApp, mExt, mPop, mSetIx, mAug, mFor, mT, mAnd, mOr, mNot, mAndV, mOrV, mNotV, mIf, mB0, mB1, mB2, mBN, mNil, mCons, mF, mVar, mC, mTup, mLst, mSl, mNo, mSo, mMeth, mEnum, mZip, mRng1, mRng2, inRng_3, inRng_4, inRng_6, mSeq1, mTT, opB, opI, opAdd, opIx, opLen, opTuple, opList, opInt, opMin, opAllAny, opJoin, opSl, opDict, opKGet, mGet2, opNeg, opMach, opSounds, opHist, mCh, inE, ninE, eqE, neE, isMach, callF, callP, pu1, pu2, puN, iCmp, frosOf, put, pin_fro, pin_non, pin_own, gN, gNil', gCons', gTup', lstOf, setL, ownOf, isLoc, locIs, mElt, mInn, mLcG, cT, cPos, Option.bind_some, Option.bind_none, Option.map_some, Option.map_none, List.getElem?_cons_zero, List.getElem?_cons_succ, List.set_cons_zero, List.set_cons_succ, List.map_cons, List.map_nil, List.length_cons, List.length_nil, List.cons_append, List.nil_append, List.replicate_succ, List.replicate_zero, asInt__fro_int, asInt__fro_str, asInt__fro_bl, asInt__fro_tup, asInt__fro_row, asInt__fro_lst, asInt__fro_non, asInt__fro_mach, asInt__fro_obj, asInt__tmp, asInt__tmpk, asInt__tmpd, asInt__loc, asStr__fro_int, asStr__fro_str, asStr__fro_bl, asStr__fro_tup, asStr__fro_row, asStr__fro_lst, asStr__fro_non, asStr__fro_mach, asStr__fro_obj, asStr__tmp, asStr__tmpk, asStr__tmpd, asStr__loc, asBl__fro_int, asBl__fro_str, asBl__fro_bl, asBl__fro_tup, asBl__fro_row, asBl__fro_lst, asBl__fro_non, asBl__fro_mach, asBl__fro_obj, asBl__tmp, asBl__tmpk, asBl__tmpd, asBl__loc, asTup__fro_int, asTup__fro_str, asTup__fro_bl, asTup__fro_tup, asTup__fro_row, asTup__fro_lst, asTup__fro_non, asTup__fro_mach, asTup__fro_obj, asTup__tmp, asTup__tmpk, asTup__tmpd, asTup__loc, contL__fro_int, contL__fro_str, contL__fro_bl, contL__fro_tup, contL__fro_row, contL__fro_lst, contL__fro_non, contL__fro_mach, contL__fro_obj, contL__tmp, contL__tmpk, contL__tmpd, contK__fro_int, contK__fro_str, contK__fro_bl, contK__fro_tup, contK__fro_row, contK__fro_lst, contK__fro_non, contK__fro_mach, contK__fro_obj, contK__tmp, contK__tmpk, contK__tmpd, contL__loc, lvL__own, lvL__pin, lvL__fro, lvL__k, lvL__d, contK__loc, kOf, at4_0, at4_1, at4_2, at4_3, zab, za, g1, q1, c1]) ?_
    refine ex_step (L1 := [.none, .own l4, .none, .own [.str a, .str b, .str c, .str d], .ownk kv, .none, .none, .none, .none, .none, .none, .none, .none, .none, .none, .none, .none, .none]) (by simp [↓asStr_dB, ↓asInt_dB, ↓asBl_dB, ↓asTup_dB, ↓contL_dB, ↓asStr_dSt1, ↓asInt_dSt1, ↓asBl_dSt1, ↓asTup_dSt1, ↓contL_dSt1, ↓asStr_dSt, ↓asInt_dSt, ↓asBl_dSt, ↓asTup_dSt, ↓contL_dSt, ↓asStr_dSl, ↓asInt_dSl, ↓asBl_dSl, ↓asTup_dSl, ↓contL_dSl, ↓asStr_dCh, ↓asInt_dCh, ↓asBl_dCh, ↓asTup_dCh, ↓contL_dCh, ↓asStr_dRl, ↓asInt_dRl, ↓asBl_dRl, ↓asTup_dRl, ↓contL_dRl, ↓asStr_dHi, ↓asInt_dHi, ↓asBl_dHi, ↓asTup_dHi, ↓contL_dHi, ↓asStr_encP, ↓asInt_encP, ↓asBl_encP, ↓asTup_encP, ↓contL_encP, ↓asStr_encRO, ↓asInt_encRO, ↓asBl_encRO, ↓asTup_encRO, ↓contL_encRO, ↓asStr_encSO, ↓asInt_encSO, ↓asBl_encSO, ↓asTup_encSO, ↓contL_encSO, mW, noPin, wipeL, restL, mDNew, List.foldr_cons, List.foldr_nil, List.all_cons, List.all_nil, runF, runP, startL, startP, outD, frz1, mSeq, mNx, mRet, mIfS, mSet, mAsg, mPar', mApp, mExt, mPop, mSetIx, mAug, mFor, mT, mAnd, mOr, mNot, mAndV, mOrV, mNotV, mIf, mB0, mB1, mB2, mBN, mNil, mCons, mF, mVar, mC, mTup, mLst, mSl, mNo, mSo, mMeth, mEnum, mZip, mRng1, mRng2, inRng_3, inRng_4, inRng_6, mSeq1, mTT, opB, opI, opAdd, opIx, opLen, opTuple, opList, opInt, opMin, opAllAny, opJoin, opSl, opDict, opKGet, mGet2, opNeg, opMach, opSounds, opHist, mCh, inE, ninE, eqE, neE, isMach, callF, callP, pu1, pu2, puN, iCmp, frosOf, put, pin_fro, pin_non, pin_own, gN, gNil', gCons', gTup', lstOf, setL, ownOf, isLoc, locIs, mElt, mInn, mLcG, cT, cPos, Option.bind_some, Option.bind_none, Option.map_some, Option.map_none, List.getElem?_cons_zero, List.getElem?_cons_succ, List.set_cons_zero, List.set_cons_succ, List.map_cons, List.map_nil, List.length_cons, List.length_nil, List.cons_append, List.nil_append, List.replicate_succ, List.replicate_zero, asInt__fro_int, asInt__fro_str, asInt__fro_bl, asInt__fro_tup, asInt__fro_row, asInt__fro_lst, asInt__fro_non, asInt__fro_mach, asInt__fro_obj, asInt__tmp, asInt__tmpk, asInt__tmpd, asInt__loc, asStr__fro_int, asStr__fro_str, asStr__fro_bl, asStr__fro_tup, asStr__fro_row, asStr__fro_lst, asStr__fro_non, asStr__fro_mach, asStr__fro_obj, asStr__tmp, asStr__tmpk, asStr__tmpd, asStr__loc, asBl__fro_int, asBl__fro_str, asBl__fro_bl, asBl__fro_tup, asBl__fro_row, asBl__fro_lst, asBl__fro_non, asBl__fro_mach, asBl__fro_obj, asBl__tmp, asBl__tmpk, asBl__tmpd, asBl__loc, asTup__fro_int, asTup__fro_str, asTup__fro_bl, asTup__fro_tup, asTup__fro_row, asTup__fro_lst, asTup__fro_non, asTup__fro_mach, asTup__fro_obj, asTup__tmp, asTup__tmpk, asTup__tmpd, asTup__loc, contL__fro_int, contL__fro_str, contL__fro_bl, contL__fro_tup, contL__fro_row, contL__fro_lst, contL__fro_non, contL__fro_mach, contL__fro_obj, contL__tmp, contL__tmpk, contL__tmpd, contK__fro_int, contK__fro_str, contK__fro_bl, contK__fro_tup, contK__fro_row, contK__fro_lst, contK__fro_non, contK__fro_mach, contK__fro_obj, contK__tmp, contK__tmpk, contK__tmpd, contL__loc, lvL__own, lvL__pin, lvL__fro, lvL__k, lvL__d, contK__loc, kOf, at4_0, at4_1, at4_2, at4_3, zad, za, g2, q2, c2, datE, u1.1, u1.2]) ?_
    refine ex_step (L1 := [.none, .own l4, .none, .own [.str a, .str b, .str c, .str d], .ownk kv, .none, .none, .own bh, .none, .none, .none, .none, .none, .none, .none, .none, .none, .none]) (by simp [↓asStr_dB, ↓asInt_dB, ↓asBl_dB, ↓asTup_dB, ↓contL_dB, ↓asStr_dSt1, ↓asInt_dSt1, ↓asBl_dSt1, ↓asTup_dSt1, ↓contL_dSt1, ↓asStr_dSt, ↓asInt_dSt, ↓asBl_dSt, ↓asTup_dSt, ↓contL_dSt, ↓asStr_dSl, ↓asInt_dSl, ↓asBl_dSl, ↓asTup_dSl, ↓contL_dSl, ↓asStr_dCh, ↓asInt_dCh, ↓asBl_dCh, ↓asTup_dCh, ↓contL_dCh, ↓asStr_dRl, ↓asInt_dRl, ↓asBl_dRl, ↓asTup_dRl, ↓contL_dRl, ↓asStr_dHi, ↓asInt_dHi, ↓asBl_dHi, ↓asTup_dHi, ↓contL_dHi, ↓asStr_encP, ↓asInt_encP, ↓asBl_encP, ↓asTup_encP, ↓contL_encP, ↓asStr_encRO, ↓asInt_encRO, ↓asBl_encRO, ↓asTup_encRO, ↓contL_encRO, ↓asStr_encSO, ↓asInt_encSO, ↓asBl_encSO, ↓asTup_encSO, ↓contL_encSO, mW, noPin, wipeL, restL, mDNew, List.foldr_cons, List.foldr_nil, List.all_cons, List.all_nil, runF, runP, startL, startP, outD, frz1, mSeq, mNx, mRet, mIfS, mSet, mAsg, mPar', mApp, mExt, mPop, mSetIx, mAug, mFor, mT, mAnd, mOr, mNot, mAndV, mOrV, mNotV, mIf, mB0, mB1, mB2, mBN, mNil, mCons, mF, mVar, mC, mTup, mLst, mSl, mNo, mSo, mMeth, mEnum, mZip, mRng1, mRng2, inRng_3, inRng_4, inRng_6, mSeq1, mTT, opB, opI, opAdd, opIx, opLen, opTuple, opList, opInt, opMin, opAllAny, opJoin, opSl, opDict, opKGet, mGet2, opNeg, opMach, opSounds, opHist, mCh, inE, ninE, eqE, neE, isMach, callF, callP, pu1, pu2, puN, iCmp, frosOf, put, pin_fro, pin_non, pin_own, gN, gNil', gCons', gTup', lstOf, setL, ownOf, isLoc, locIs, mElt, mInn, mLcG, cT, cPos, Option.bind_some, Option.bind_none, Option.map_some, Option.map_none, List.getElem?_cons_zero, List.getElem?_cons_succ, List.set_cons_zero, List.set_cons_succ, List.map_cons, List.map_nil, List.length_cons, List.length_nil, List.cons_append, List.nil_append, List.replicate_succ, List.replicate_zero, asInt__fro_int, asInt__fro_str, asInt__fro_bl, asInt__fro_tup, asInt__fro_row, asInt__fro_lst, asInt__fro_non, asInt__fro_mach, asInt__fro_obj, asInt__tmp, asInt__tmpk, asInt__tmpd, asInt__loc, asStr__fro_int, asStr__fro_str, asStr__fro_bl, asStr__fro_tup, asStr__fro_row, asStr__fro_lst, asStr__fro_non, asStr__fro_mach, asStr__fro_obj, asStr__tmp, asStr__tmpk, asStr__tmpd, asStr__loc, asBl__fro_int, asBl__fro_str, asBl__fro_bl, asBl__fro_tup, asBl__fro_row, asBl__fro_lst, asBl__fro_non, asBl__fro_mach, asBl__fro_obj, asBl__tmp, asBl__tmpk, asBl__tmpd, asBl__loc, asTup__fro_int, asTup__fro_str, asTup__fro_bl, asTup__fro_tup, asTup__fro_row, asTup__fro_lst, asTup__fro_non, asTup__fro_mach, asTup__fro_obj, asTup__tmp, asTup__tmpk, asTup__tmpd, asTup__loc, contL__fro_int, contL__fro_str, contL__fro_bl, contL__fro_tup, contL__fro_row, contL__fro_lst, contL__fro_non, contL__fro_mach, contL__fro_obj, contL__tmp, contL__tmpk, contL__tmpd, contK__fro_int, contK__fro_str, contK__fro_bl, contK__fro_tup, contK__fro_row, contK__fro_lst, contK__fro_non, contK__fro_mach, contK__fro_obj, contK__tmp, contK__tmpk, contK__tmpd, contL__loc, lvL__own, lvL__pin, lvL__fro, lvL__k, lvL__d, contK__loc, kOf, at4_0, at4_1, at4_2, at4_3, zab, za, g1, q3, c3]) ?_
    exact ⟨[.none, .own l4, .none, .own [.str a, .str b, .str c, .str d], .ownk kv, .none, .none, .own bh, .none, .none, .none, .none, .none, .none, .none, .none, .none, .none], by simp [↓asStr_dB, ↓asInt_dB, ↓asBl_dB, ↓asTup_dB, ↓contL_dB, ↓asStr_dSt1, ↓asInt_dSt1, ↓asBl_dSt1, ↓asTup_dSt1, ↓contL_dSt1, ↓asStr_dSt, ↓asInt_dSt, ↓asBl_dSt, ↓asTup_dSt, ↓contL_dSt, ↓asStr_dSl, ↓asInt_dSl, ↓asBl_dSl, ↓asTup_dSl, ↓contL_dSl, ↓asStr_dCh, ↓asInt_dCh, ↓asBl_dCh, ↓asTup_dCh, ↓contL_dCh, ↓asStr_dRl, ↓asInt_dRl, ↓asBl_dRl, ↓asTup_dRl, ↓contL_dRl, ↓asStr_dHi, ↓asInt_dHi, ↓asBl_dHi, ↓asTup_dHi, ↓contL_dHi, ↓asStr_encP, ↓asInt_encP, ↓asBl_encP, ↓asTup_encP, ↓contL_encP, ↓asStr_encRO, ↓asInt_encRO, ↓asBl_encRO, ↓asTup_encRO, ↓contL_encRO, ↓asStr_encSO, ↓asInt_encSO, ↓asBl_encSO, ↓asTup_encSO, ↓contL_encSO, mW, noPin, wipeL, restL, mDNew, List.foldr_cons, List.foldr_nil, List.all_cons, List.all_nil, runF, runP, startL, startP, outD, frz1, mSeq, mNx, mRet, mIfS, mSet, mAsg, mPar', mApp, mExt, mPop, mSetIx, mAug, mFor, mT, mAnd, mOr, mNot, mAndV, mOrV, mNotV, mIf, mB0, mB1, mB2, mBN, mNil, mCons, mF, mVar, mC, mTup, mLst, mSl, mNo, mSo, mMeth, mEnum, mZip, mRng1, mRng2, inRng_3, inRng_4, inRng_6, mSeq1, mTT, opB, opI, opAdd, opIx, opLen, opTuple, opList, opInt, opMin, opAllAny, opJoin, opSl, opDict, opKGet, mGet2, opNeg, opMach, opSounds, opHist, mCh, inE, ninE, eqE, neE, isMach, callF, callP, pu1, pu2, puN, iCmp, frosOf, put, pin_fro, pin_non, pin_own, gN, gNil', gCons', gTup', lstOf, setL, ownOf, isLoc, locIs, mElt, mInn, mLcG, cT, cPos, Option.bind_some, Option.bind_none, Option.map_some, Option.map_none, List.getElem?_cons_zero, List.getElem?_cons_succ, List.set_cons_zero, List.set_cons_succ, List.map_cons, List.map_nil, List.length_cons, List.length_nil, List.cons_append, List.nil_append, List.replicate_succ, List.replicate_zero, asInt__fro_int, asInt__fro_str, asInt__fro_bl, asInt__fro_tup, asInt__fro_row, asInt__fro_lst, asInt__fro_non, asInt__fro_mach, asInt__fro_obj, asInt__tmp, asInt__tmpk, asInt__tmpd, asInt__loc, asStr__fro_int, asStr__fro_str, asStr__fro_bl, asStr__fro_tup, asStr__fro_row, asStr__fro_lst, asStr__fro_non, asStr__fro_mach, asStr__fro_obj, asStr__tmp, asStr__tmpk, asStr__tmpd, asStr__loc, asBl__fro_int, asBl__fro_str, asBl__fro_bl, asBl__fro_tup, asBl__fro_row, asBl__fro_lst, asBl__fro_non, asBl__fro_mach, asBl__fro_obj, asBl__tmp, asBl__tmpk, asBl__tmpd, asBl__loc, asTup__fro_int, asTup__fro_str, asTup__fro_bl, asTup__fro_tup, asTup__fro_row, asTup__fro_lst, asTup__fro_non, asTup__fro_mach, asTup__fro_obj, asTup__tmp, asTup__tmpk, asTup__tmpd, asTup__loc, contL__fro_int, contL__fro_str, contL__fro_bl, contL__fro_tup, contL__fro_row, contL__fro_lst, contL__fro_non, contL__fro_mach, contL__fro_obj, contL__tmp, contL__tmpk, contL__tmpd, contK__fro_int, contK__fro_str, contK__fro_bl, contK__fro_tup, contK__fro_row, contK__fro_lst, contK__fro_non, contK__fro_mach, contK__fro_obj, contK__tmp, contK__tmpk, contK__tmpd, contL__loc, lvL__own, lvL__pin, lvL__fro, lvL__k, lvL__d, contK__loc, kOf, at4_0, at4_1, at4_2, at4_3, zcb, zc, g3, q4, c4, datE, u2.1, u2.2]⟩
  | _ :: _ :: _, h => simp at h
end SS

/-! the walks -/
namespace SS
open PySem PySem.Spec PyProof.Rows L2
abbrev prg : Program := PySem.Challenge.pw_soundsled_k46_whole_machines_of_longer_h
def top (i : Nat) : Stmt := prg.main.body.getD i (.Pass ⟨0, 0, 0, 0⟩)
def gx (P : Program) (w : World) (K : PySem.W.Frag) : Gx := ⟨P, w, He.ga K "Machine", fun _ => 0, fun _ => [], memoR⟩
structure Tx (K : PySem.W.Frag) (mg : Str → Option Value) where
  d_slots_hold : FuncData
  F_slots_hold : FunD K "slots_hold" "slots_hold" (defArgs (top 3)) (defBody (top 3)) (defScope (top 3)) [] [] (He.fAd K ("slots_hold", none)) d_slots_hold
  g_slots_hold : mg "slots_hold" = some (.ref (He.ga K "slots_hold"))
  d_applies : FuncData
  F_applies : FunD K "applies" "applies" (defArgs (top 4)) (defBody (top 4)) (defScope (top 4)) [] [] (He.fAd K ("applies", none)) d_applies
  g_applies : mg "applies" = some (.ref (He.ga K "applies"))
  d_changed : FuncData
  F_changed : FunD K "changed" "changed" (defArgs (top 5)) (defBody (top 5)) (defScope (top 5)) [] [] (He.fAd K ("changed", none)) d_changed
  g_changed : mg "changed" = some (.ref (He.ga K "changed"))
  d_led : FuncData
  F_led : FunD K "led" "led" (defArgs (top 6)) (defBody (top 6)) (defScope (top 6)) [] [] (He.fAd K ("led", none)) d_led
  g_led : mg "led" = some (.ref (He.ga K "led"))
  d_before_start : FuncData
  F_before_start : FunD K "before_start" "before_start" (defArgs (top 8)) (defBody (top 8)) (defScope (top 8)) [] [] (He.fAd K ("before_start", none)) d_before_start
  g_before_start : mg "before_start" = some (.ref (He.ga K "before_start"))
  d_before_step : FuncData
  F_before_step : FunD K "before_step" "before_step" (defArgs (top 9)) (defBody (top 9)) (defScope (top 9)) [] [] (He.fAd K ("before_step", none)) d_before_step
  g_before_step : mg "before_step" = some (.ref (He.ga K "before_step"))
  d_behind_end : FuncData
  F_behind_end : FunD K "behind_end" "behind_end" (defArgs (top 10)) (defBody (top 10)) (defScope (top 10)) [] [] (He.fAd K ("behind_end", none)) d_behind_end
  g_behind_end : mg "behind_end" = some (.ref (He.ga K "behind_end"))
  d_behind_step : FuncData
  F_behind_step : FunD K "behind_step" "behind_step" (defArgs (top 11)) (defBody (top 11)) (defScope (top 11)) [] [] (He.fAd K ("behind_step", none)) d_behind_step
  g_behind_step : mg "behind_step" = some (.ref (He.ga K "behind_step"))
  d_all_behind : FuncData
  F_all_behind : FunD K "all_behind" "all_behind" (defArgs (top 12)) (defBody (top 12)) (defScope (top 12)) [] [] (He.fAd K ("all_behind", none)) d_all_behind
  g_all_behind : mg "all_behind" = some (.ref (He.ga K "all_behind"))
  d_rule_starts : FuncData
  F_rule_starts : FunD K "rule_starts" "rule_starts" (defArgs (top 13)) (defBody (top 13)) (defScope (top 13)) [] [] (He.fAd K ("rule_starts", none)) d_rule_starts
  g_rule_starts : mg "rule_starts" = some (.ref (He.ga K "rule_starts"))
  d_rule_steps : FuncData
  F_rule_steps : FunD K "rule_steps" "rule_steps" (defArgs (top 14)) (defBody (top 14)) (defScope (top 14)) [] [] (He.fAd K ("rule_steps", none)) d_rule_steps
  g_rule_steps : mg "rule_steps" = some (.ref (He.ga K "rule_steps"))
  d_is_rule_end : FuncData
  F_is_rule_end : FunD K "is_rule_end" "is_rule_end" (defArgs (top 15)) (defBody (top 15)) (defScope (top 15)) [] [] (He.fAd K ("is_rule_end", none)) d_is_rule_end
  g_is_rule_end : mg "is_rule_end" = some (.ref (He.ga K "is_rule_end"))
  d_Machine___init__ : FuncData
  F_Machine___init__ : FunD K "__init__" "Machine.__init__" (defArgs (inClass (top 16) 0)) (defBody (inClass (top 16) 0)) (defScope (inClass (top 16) 0)) [] [] (He.fAd K ("Machine", some "__init__")) d_Machine___init__
  m_Machine___init__ : Meth K (He.ga K "Machine") "__init__" (He.ma K (He.ga K "Machine") "__init__")
  d_Machine_starts : FuncData
  F_Machine_starts : FunD K "starts" "Machine.starts" (defArgs (inClass (top 16) 1)) (defBody (inClass (top 16) 1)) (defScope (inClass (top 16) 1)) [] [] (He.fAd K ("Machine", some "starts")) d_Machine_starts
  m_Machine_starts : Meth K (He.ga K "Machine") "starts" (He.ma K (He.ga K "Machine") "starts")
  d_Machine_rule_run : FuncData
  F_Machine_rule_run : FunD K "rule_run" "Machine.rule_run" (defArgs (inClass (top 16) 2)) (defBody (inClass (top 16) 2)) (defScope (inClass (top 16) 2)) [] [] (He.fAd K ("Machine", some "rule_run")) d_Machine_rule_run
  m_Machine_rule_run : Meth K (He.ga K "Machine") "rule_run" (He.ma K (He.ga K "Machine") "rule_run")
  d_Machine_rule_step : FuncData
  F_Machine_rule_step : FunD K "rule_step" "Machine.rule_step" (defArgs (inClass (top 16) 3)) (defBody (inClass (top 16) 3)) (defScope (inClass (top 16) 3)) [] [] (He.fAd K ("Machine", some "rule_step")) d_Machine_rule_step
  m_Machine_rule_step : Meth K (He.ga K "Machine") "rule_step" (He.ma K (He.ga K "Machine") "rule_step")
  d_Machine_steps : FuncData
  F_Machine_steps : FunD K "steps" "Machine.steps" (defArgs (inClass (top 16) 4)) (defBody (inClass (top 16) 4)) (defScope (inClass (top 16) 4)) [] [] (He.fAd K ("Machine", some "steps")) d_Machine_steps
  m_Machine_steps : Meth K (He.ga K "Machine") "steps" (He.ma K (He.ga K "Machine") "steps")
  d_Machine_is_end : FuncData
  F_Machine_is_end : FunD K "is_end" "Machine.is_end" (defArgs (inClass (top 16) 5)) (defBody (inClass (top 16) 5)) (defScope (inClass (top 16) 5)) [] [] (He.fAd K ("Machine", some "is_end")) d_Machine_is_end
  m_Machine_is_end : Meth K (He.ga K "Machine") "is_end" (He.ma K (He.ga K "Machine") "is_end")
  d_stands_for : FuncData
  F_stands_for : FunD K "stands_for" "stands_for" (defArgs (top 17)) (defBody (top 17)) (defScope (top 17)) [] [] (He.fAd K ("stands_for", none)) d_stands_for
  g_stands_for : mg "stands_for" = some (.ref (He.ga K "stands_for"))
  d__law_pool : FuncData
  F__law_pool : FunD K "_law_pool" "_law_pool" (defArgs (top 19)) (defBody (top 19)) (defScope (top 19)) [] [] (He.fAd K ("_law_pool", none)) d__law_pool
  g__law_pool : mg "_law_pool" = some (.ref (He.ga K "_law_pool"))
  d__law_spread : FuncData
  F__law_spread : FunD K "_law_spread" "_law_spread" (defArgs (top 20)) (defBody (top 20)) (defScope (top 20)) [] [] (He.fAd K ("_law_spread", none)) d__law_spread
  g__law_spread : mg "_law_spread" = some (.ref (He.ga K "_law_spread"))
  d__law_draw : FuncData
  F__law_draw : FunD K "_law_draw" "_law_draw" (defArgs (top 21)) (defBody (top 21)) (defScope (top 21)) [] [] (He.fAd K ("_law_draw", none)) d__law_draw
  g__law_draw : mg "_law_draw" = some (.ref (He.ga K "_law_draw"))
  d__law_lot : FuncData
  F__law_lot : FunD K "_law_lot" "_law_lot" (defArgs (top 22)) (defBody (top 22)) (defScope (top 22)) [] [] (He.fAd K ("_law_lot", none)) d__law_lot
  g__law_lot : mg "_law_lot" = some (.ref (He.ga K "_law_lot"))
  d__law_word : FuncData
  F__law_word : FunD K "_law_word" "_law_word" (defArgs (top 23)) (defBody (top 23)) (defScope (top 23)) [] [] (He.fAd K ("_law_word", none)) d__law_word
  g__law_word : mg "_law_word" = some (.ref (He.ga K "_law_word"))
  d__law_slots : FuncData
  F__law_slots : FunD K "_law_slots" "_law_slots" (defArgs (top 24)) (defBody (top 24)) (defScope (top 24)) [] [] (He.fAd K ("_law_slots", none)) d__law_slots
  g__law_slots : mg "_law_slots" = some (.ref (He.ga K "_law_slots"))
  d__law_law : FuncData
  F__law_law : FunD K "_law_law" "_law_law" (defArgs (top 25)) (defBody (top 25)) (defScope (top 25)) [] [] (He.fAd K ("_law_law", none)) d__law_law
  g__law_law : mg "_law_law" = some (.ref (He.ga K "_law_law"))
  d__law_history : FuncData
  F__law_history : FunD K "_law_history" "_law_history" (defArgs (top 26)) (defBody (top 26)) (defScope (top 26)) [] [] (He.fAd K ("_law_history", none)) d__law_history
  g__law_history : mg "_law_history" = some (.ref (He.ga K "_law_history"))
  d_law : FuncData
  F_law : FunD K "law" "law" (defArgs (top 27)) (defBody (top 27)) (defScope (top 27)) [] [] (He.fAd K ("law", none)) d_law
  g_law : mg "law" = some (.ref (He.ga K "law"))
  g_Machine : mg "Machine" = some (.ref (He.ga K "Machine"))
  c_Machine : Cls K (He.ga K "Machine")
  k_Machine : Mk K (He.ga K "Machine") (He.ma K (He.ga K "Machine") "__init__")
  n_sounds : NoAttr K (He.ga K "Machine") "sounds"
  n_history : NoAttr K (He.ga K "Machine") "history"
  n_known : NoAttr K (He.ga K "Machine") "known"
  t_EDGE : Tok
  e_EDGE : mg "EDGE" = some (.str "#" t_EDGE)
  u_len : mg "len" = none
  u_tuple : mg "tuple" = none
  u_sorted : mg "sorted" = none
  u_dict : mg "dict" = none
  u_int : mg "int" = none
  u_list : mg "list" = none
  u_range : mg "range" = none
  u_zip : mg "zip" = none
  u_enumerate : mg "enumerate" = none
  u_all : mg "all" = none
  u_any : mg "any" = none
  u_min : mg "min" = none
  u_max : mg "max" = none
  u_str : mg "str" = none
  u_isinstance : mg "isinstance" = none
  u_set : mg "set" = none
theorem hu1 {k : Nat} {A : Around} (r : Room k A) : A.units + 1 < cLine := by have := r.un; omega
theorem hu9 {k : Nat} {A : Around} (r : Room k A) : A.units + 9 < cLine := by have := r.un; omega
theorem blk2 {N N2 : List Str} {sc sc2 scope : Scope} {own : List (Str × Nat)} (h1 : N2 = N) (h2 : sc2 = sc) (h : blkC N sc scope own = true) : BlkOk N2 sc2 scope own := by subst h1 h2; exact blkOk_by h
section
variable {P : Program} {w : World} {K : PySem.W.Frag} {mg : Str → Option Value} {base : Heap}
theorem sc_slots_hold : FnScope ["word", "place", "slots", "k", "slot", "at", "here"] ["word", "place", "slots"] (defScope (top 3)) := ⟨rfl, rfl, rfl, by decide +kernel, rfl, by decide +kernel, by decide +kernel⟩
theorem b_slots_hold (T : Tx K mg) : Binds K T.d_slots_hold ["word", "place", "slots"] [] := T.F_slots_hold.bindsN fun _ _ _ _ _ _ us hl => match us, hl with | [_, _, _], _ => rfl
theorem ok_slots_hold (T : Tx K mg) : FnOk P w K mg base CX0 2 (He.fAd K ("slots_hold", none)) T.d_slots_hold ["word", "place", "slots"] (spF (gx P w K) F_slots_hold) :=
  fn_spF T.F_slots_hold sc_slots_hold fun cdv A outer s H E B hr => (dss_cons (ds_wipe (vs := [0, 1, 2, 3, 4, 5, 6]) (ds_for rfl (di_enum (by rfl) T.u_enumerate (pa_cons' (pe_F (dv 2)) pa_nil')) (dg_tup rfl (dgs_cons (dg_name sc_slots_hold.nd (i := 3) rfl (Or.inl rfl)) (dgs_cons (dg_name sc_slots_hold.nd (i := 4) rfl (Or.inl rfl)) dgs_nil))) (dss_cons (ds_wipe (vs := [3]) (ds_set sc_slots_hold.nd (i := 5) rfl (Or.inl rfl) (de_add (dv 1) (dv 3))))
    (dss_cons (ds_wipe (vs := [5]) (ds_set sc_slots_hold.nd (i := 6) rfl (Or.inl rfl) (de_if (dt_chain op_le op_lt iCmp_ok iCmp_ok de_int (dv 5) (de_len (by rfl) T.u_len (pa_cons' (dv 0) pa_nil'))) (de_ix (dv 0) (dv 5)) (de_gstr [35] (by rfl) T.e_EDGE))))
    (dss_one (ds_wipe (vs := [3, 4, 6]) (ds_if (dt_nin hr (dv 6) (dv 4)) (dss_one (ds_ret de_bl)) dss_nil)))))))
    (dss_one (ds_ret de_bl)))
theorem sc_before_start : FnScope ["rule", "slots", "k"] ["rule"] (defScope (top 8)) := ⟨rfl, rfl, rfl, by decide +kernel, rfl, by decide +kernel, by decide +kernel⟩
theorem b_before_start (T : Tx K mg) : Binds K T.d_before_start ["rule"] [] := T.F_before_start.bindsN fun _ _ _ _ _ _ us hl => match us, hl with | [_], _ => rfl
theorem ok_before_start (T : Tx K mg) : FnOk P w K mg base CX0 2 (He.fAd K ("before_start", none)) T.d_before_start ["rule"] (spF (gx P w K) F_before_start) :=
  fn_spF T.F_before_start sc_before_start fun cdv A outer s H E B hr => (dss_cons (ds_wipe (vs := [0]) (ds_set sc_before_start.nd (i := 1) rfl (Or.inr rfl) (de_ix (dv 0) de_int)))
    (dss_one (ds_ret (de_tuple (by rfl) T.u_tuple (pa_cons' (de_lc (by rfl) sc_before_start.nd (di_range1 (by rfl) T.u_range (pa_cons' (de_len (by rfl) T.u_len (pa_cons' (dv 1) pa_nil')) pa_nil')) (blk2 (N := ["rule", "slots", "k"]) (sc := defScope (top 8)) (own := [("k", 2)]) (by rfl) (by rfl) (by decide +kernel)) (fun _ _ _ _ _ => (dg_name sc_before_start.nd (i := 2) rfl (Or.inl rfl))) (fun _ _ _ _ _ => dts_nil) (fun _ _ _ _ _ => (pe_F (de_and (de_eq hr (dv 2) de_int) (de_one (de_eq hr (de_ix (dv 1) de_int) (de_gstr [35] (by rfl) T.e_EDGE)))))) (by decide)) pa_nil')))))
theorem sc_before_step : FnScope ["rule", "known", "sound", "slots", "found", "k"] ["rule", "known", "sound"] (defScope (top 9)) := ⟨rfl, rfl, rfl, by decide +kernel, rfl, by decide +kernel, by decide +kernel⟩
theorem b_before_step (T : Tx K mg) : Binds K T.d_before_step ["rule", "known", "sound"] [] := T.F_before_step.bindsN fun _ _ _ _ _ _ us hl => match us, hl with | [_, _, _], _ => rfl
theorem ok_before_step (T : Tx K mg) : FnOk P w K mg base CX0 2 (He.fAd K ("before_step", none)) T.d_before_step ["rule", "known", "sound"] (spF (gx P w K) F_before_step) :=
  fn_spF T.F_before_step sc_before_step fun cdv A outer s H E B hr => (dss_cons (ds_wipe (vs := [0]) (ds_set sc_before_step.nd (i := 3) rfl (Or.inl rfl) (de_ix (dv 0) de_int)))
    (dss_cons (ds_set sc_before_step.nd (i := 4) rfl (Or.inl rfl) (de_lst pa_nil'))
    (dss_cons (ds_wipe (vs := [1, 2, 3, 5]) (ds_for rfl (di_range1 (by rfl) T.u_range (pa_cons' (de_len (by rfl) T.u_len (pa_cons' (dv 3) pa_nil')) pa_nil')) (dg_name sc_before_step.nd (i := 5) rfl (Or.inl rfl)) (dss_one (ds_wipe (vs := [5]) (ds_app (pv 4) (pe_F (de_and (de_in hr (dv 2) (de_ix (dv 3) (dv 5))) (de_one (de_or (de_eq hr (dv 5) de_int) (de_one (de_ix (dv 1) (de_sub (dv 5) de_int))))))))))))
    (dss_one (ds_ret (de_tuple (by rfl) T.u_tuple (pa_cons' (dv 4) pa_nil')))))))
theorem sc_behind_end : FnScope ["rule", "slots", "k"] ["rule"] (defScope (top 10)) := ⟨rfl, rfl, rfl, by decide +kernel, rfl, by decide +kernel, by decide +kernel⟩
theorem b_behind_end (T : Tx K mg) : Binds K T.d_behind_end ["rule"] [] := T.F_behind_end.bindsN fun _ _ _ _ _ _ us hl => match us, hl with | [_], _ => rfl
theorem ok_behind_end (T : Tx K mg) : FnOk P w K mg base CX0 2 (He.fAd K ("behind_end", none)) T.d_behind_end ["rule"] (spF (gx P w K) F_behind_end) :=
  fn_spF T.F_behind_end sc_behind_end fun cdv A outer s H E B hr => (dss_cons (ds_wipe (vs := [0]) (ds_set sc_behind_end.nd (i := 1) rfl (Or.inr rfl) (de_ix (dv 0) de_int)))
    (dss_one (ds_ret (de_tuple (by rfl) T.u_tuple (pa_cons' (de_lc (by rfl) sc_behind_end.nd (di_range1 (by rfl) T.u_range (pa_cons' (de_len (by rfl) T.u_len (pa_cons' (dv 1) pa_nil')) pa_nil')) (blk2 (N := ["rule", "slots", "k"]) (sc := defScope (top 10)) (own := [("k", 2)]) (by rfl) (by rfl) (by decide +kernel)) (fun _ _ _ _ _ => (dg_name sc_behind_end.nd (i := 2) rfl (Or.inl rfl))) (fun _ _ _ _ _ => dts_nil) (fun _ _ _ _ _ => (pe_F (de_and (de_eq hr (dv 2) (de_sub (de_len (by rfl) T.u_len (pa_cons' (dv 1) pa_nil')) de_int)) (de_one (de_eq hr (de_ix (dv 1) (dv 2)) (de_gstr [35] (by rfl) T.e_EDGE)))))) (by decide)) pa_nil')))))
theorem sc_behind_step : FnScope ["rule", "known", "sound", "slots", "found", "k"] ["rule", "known", "sound"] (defScope (top 11)) := ⟨rfl, rfl, rfl, by decide +kernel, rfl, by decide +kernel, by decide +kernel⟩
theorem b_behind_step (T : Tx K mg) : Binds K T.d_behind_step ["rule", "known", "sound"] [] := T.F_behind_step.bindsN fun _ _ _ _ _ _ us hl => match us, hl with | [_, _, _], _ => rfl
theorem ok_behind_step (T : Tx K mg) : FnOk P w K mg base CX0 2 (He.fAd K ("behind_step", none)) T.d_behind_step ["rule", "known", "sound"] (spF (gx P w K) F_behind_step) :=
  fn_spF T.F_behind_step sc_behind_step fun cdv A outer s H E B hr => (dss_cons (ds_wipe (vs := [0]) (ds_set sc_behind_step.nd (i := 3) rfl (Or.inl rfl) (de_ix (dv 0) de_int)))
    (dss_cons (ds_set sc_behind_step.nd (i := 4) rfl (Or.inl rfl) (de_lst pa_nil'))
    (dss_cons (ds_wipe (vs := [1, 2, 3, 5]) (ds_for rfl (di_range1 (by rfl) T.u_range (pa_cons' (de_len (by rfl) T.u_len (pa_cons' (dv 3) pa_nil')) pa_nil')) (dg_name sc_behind_step.nd (i := 5) rfl (Or.inl rfl)) (dss_one (ds_wipe (vs := [5]) (ds_app (pv 4) (pe_F (de_and (de_in hr (dv 2) (de_ix (dv 3) (dv 5))) (de_one (de_or (de_eq hr (dv 5) (de_sub (de_len (by rfl) T.u_len (pa_cons' (dv 3) pa_nil')) de_int)) (de_one (de_ix (dv 1) (de_add (dv 5) de_int))))))))))))
    (dss_one (ds_ret (de_tuple (by rfl) T.u_tuple (pa_cons' (dv 4) pa_nil')))))))
theorem sc_Machine___init__ : FnScope ["self", "sounds", "history"] ["self", "sounds", "history"] (defScope (inClass (top 16) 0)) := ⟨rfl, rfl, rfl, by decide +kernel, rfl, by decide +kernel, by decide +kernel⟩
theorem b_Machine___init__ (T : Tx K mg) : Binds K T.d_Machine___init__ ["self", "sounds", "history"] [] := T.F_Machine___init__.bindsN fun _ _ _ _ _ _ us hl => match us, hl with | [_, _, _], _ => rfl
theorem ok_Machine___init__ (T : Tx K mg) : FnOk P w K mg base CX0 2 (He.fAd K ("Machine", some "__init__")) T.d_Machine___init__ ["self", "sounds", "history"] (spInit (gx P w K)) :=
  T.F_Machine___init__.ok sc_Machine___init__ (fun vs H Q E h => by obtain ⟨x, dx, v1, v2, rfl, _⟩ := h; rfl) fun cdv A outer s H vs Q E hr h => by
    obtain ⟨t, h1, h2⟩ := init_body (X := (cxOf CX0 P w K mg base ["self", "sounds", "history"] "Machine.__init__" (defScope (inClass (top 16) 0)) (He.fAd K ("Machine", some "__init__")) cdv A outer s H E).nox) (G := gx P w K) rfl rfl T.c_Machine T.n_sounds T.n_history T.n_known (pv 0) (pv 1) (pv 0) (pv 2) (pv 0) rfl rfl rfl (N := ["self", "sounds", "history"]) h
    exact ⟨t, PSs.nox h1, h2⟩
theorem sc__law_pool : FnScope ["script", "salt", "cell"] ["script"] (defScope (top 19)) := ⟨rfl, rfl, rfl, by decide +kernel, rfl, by decide +kernel, by decide +kernel⟩
theorem b__law_pool (T : Tx K mg) : Binds K T.d__law_pool ["script"] [] := T.F__law_pool.bindsN fun _ _ _ _ _ _ us hl => match us, hl with | [_], _ => rfl
theorem sc__law_spread : FnScope ["cell", "blended", "whole_sum", "k"] ["cell"] (defScope (top 20)) := ⟨rfl, rfl, rfl, by decide +kernel, rfl, by decide +kernel, by decide +kernel⟩
theorem b__law_spread (T : Tx K mg) : Binds K T.d__law_spread ["cell"] [] := T.F__law_spread.bindsN fun _ _ _ _ _ _ us hl => match us, hl with | [_], _ => rfl
theorem ok__law_spread (T : Tx K mg) : FnOk P w K mg base CX0 2 (He.fAd K ("_law_spread", none)) T.d__law_spread ["cell"] (spF (gx P w K) F__law_spread) :=
  fn_spF T.F__law_spread sc__law_spread fun cdv A outer s H E B hr => (dss_cons (ds_wipe (vs := [0]) (ds_set sc__law_spread.nd (i := 1) rfl (Or.inl rfl) (de_mod (de_intf (by rfl) T.u_int (pa_cons' (dv 0) pa_nil')) de_int)))
    (dss_cons (ds_set sc__law_spread.nd (i := 2) rfl (Or.inl rfl) de_int)
    (dss_cons (ds_wipe (vs := [1, 3]) (ds_for rfl (di_range1 (by rfl) T.u_range (pa_cons' de_int pa_nil')) (dg_name sc__law_spread.nd (i := 3) rfl (Or.inl rfl)) (dss_cons (ds_wipe (vs := [3]) (ds_set sc__law_spread.nd (i := 1) rfl (Or.inl rfl) (de_mod (de_intf (by rfl) T.u_int (pa_cons' (de_add (de_add (de_mul (dv 1) de_int) de_int) (dv 3)) pa_nil')) de_int)))
    (dss_one (ds_wipe (vs := [3]) (ds_set sc__law_spread.nd (i := 2) rfl (Or.inl rfl) (de_add (de_mul (dv 2) de_int) (dv 1))))))))
    (dss_one (ds_ret (dv 2))))))
theorem sc_applies : FnScope ["rule", "word", "place", "changes", "before", "behind", "one", "_"] ["rule", "word", "place"] (defScope (top 4)) := ⟨rfl, rfl, rfl, by decide +kernel, rfl, by decide +kernel, by decide +kernel⟩
theorem b_applies (T : Tx K mg) : Binds K T.d_applies ["rule", "word", "place"] [] := T.F_applies.bindsN fun _ _ _ _ _ _ us hl => match us, hl with | [_, _, _], _ => rfl
theorem ok_applies (T : Tx K mg) : FnOk P w K mg base CX0 3 (He.fAd K ("applies", none)) T.d_applies ["rule", "word", "place"] (spF (gx P w K) F_applies) :=
  fn_spF T.F_applies sc_applies fun cdv A outer s H E B hr => (dss_cons (ds_wipe (vs := [0]) (ds_asg (pe_F (dv 0)) (dg_tup rfl (dgs_cons (dg_name sc_applies.nd (i := 3) rfl (Or.inl rfl)) (dgs_cons (dg_name sc_applies.nd (i := 4) rfl (Or.inl rfl)) (dgs_cons (dg_name sc_applies.nd (i := 5) rfl (Or.inl rfl)) dgs_nil))))))
    (dss_cons (ds_wipe (vs := [3]) (ds_if (dt_nin hr (de_ix (dv 1) (dv 2)) (de_lc (by rfl) sc_applies.nd (di_seq (pe_F (dv 3))) (blk2 (N := ["rule", "word", "place", "changes", "before", "behind", "one", "_"]) (sc := defScope (top 4)) (own := [("one", 6), ("_", 7)]) (by rfl) (by rfl) (by decide +kernel)) (fun _ _ _ _ _ => (dg_tup rfl (dgs_cons (dg_name sc_applies.nd (i := 6) rfl (Or.inl rfl)) (dgs_cons (dg_name sc_applies.nd (i := 7) rfl (Or.inl rfl)) dgs_nil)))) (fun _ _ _ _ _ => dts_nil) (fun _ _ _ _ _ => (pe_F (dv 6))) (by decide))) (dss_one (ds_ret de_bl)) dss_nil))
    (dss_one (ds_ret (de_and (de_call ((ok_slots_hold T).mono (by decide)) hr (by rfl) T.g_slots_hold T.F_slots_hold.kp (b_slots_hold T) (pa_cons' (pe_F (dv 1)) (pa_cons' (pe_F (de_sub (dv 2) (de_len (by rfl) T.u_len (pa_cons' (dv 4) pa_nil')))) (pa_cons' (pe_F (dv 4)) pa_nil')))) (de_one (de_call ((ok_slots_hold T).mono (by decide)) hr (by rfl) T.g_slots_hold T.F_slots_hold.kp (b_slots_hold T) (pa_cons' (pe_F (dv 1)) (pa_cons' (pe_F (de_add (dv 2) de_int)) (pa_cons' (pe_F (dv 5)) pa_nil'))))))))))
theorem sc_all_behind : FnScope ["rule", "sounds", "found", "left", "known", "sound"] ["rule", "sounds"] (defScope (top 12)) := ⟨rfl, rfl, rfl, by decide +kernel, rfl, by decide +kernel, by decide +kernel⟩
theorem b_all_behind (T : Tx K mg) : Binds K T.d_all_behind ["rule", "sounds"] [] := T.F_all_behind.bindsN fun _ _ _ _ _ _ us hl => match us, hl with | [_, _], _ => rfl
theorem ok_all_behind (T : Tx K mg) : FnOk P w K mg base CX0 3 (He.fAd K ("all_behind", none)) T.d_all_behind ["rule", "sounds"] (spF (gx P w K) F_all_behind) :=
  fn_spF T.F_all_behind sc_all_behind fun cdv A outer s H E B hr => (dss_cons (ds_par rfl sc_all_behind.nd (i := 2) (j := 3) rfl rfl (by decide) rfl rfl (de_lst pa_nil') (de_lst (pa_cons' (pe_F (de_call ((ok_behind_end T).mono (by decide)) hr (by rfl) T.g_behind_end T.F_behind_end.kp (b_behind_end T) (pa_cons' (pe_F (dv 0)) pa_nil'))) pa_nil')) rfl)
    (dss_cons (ds_wipe (vs := [0, 1, 3, 4]) (ds_while (n := fuelN) (dt_gt (de_len (by rfl) T.u_len (pa_cons' (dv 3) pa_nil')) de_int) (dss_cons (ds_set sc_all_behind.nd (i := 4) rfl (Or.inr rfl) (de_popl (pv 3)))
    (dss_one (ds_wipe (vs := [4]) (ds_if (dt_nin hr (dv 4) (dv 2)) (dss_cons (ds_app (pv 2) (pe_F (dv 4)))
    (dss_one (ds_wipe (vs := [4]) (ds_ext (pv 3) (de_lc (by rfl) sc_all_behind.nd (di_seq (pe_F (dv 1))) (blk2 (N := ["rule", "sounds", "found", "left", "known", "sound"]) (sc := defScope (top 12)) (own := [("sound", 5)]) (by rfl) (by rfl) (by decide +kernel)) (fun _ _ _ _ _ => (dg_name sc_all_behind.nd (i := 5) rfl (Or.inl rfl))) (fun _ _ _ _ _ => dts_nil) (fun _ _ _ _ _ => (pe_F (de_call ((ok_behind_step T).mono (by decide)) hr (by rfl) T.g_behind_step T.F_behind_step.kp (b_behind_step T) (pa_cons' (pe_F (dv 0)) (pa_cons' (pe_F (dv 4)) (pa_cons' (pe_F (dv 5)) pa_nil')))))) (by decide)))))) dss_nil))))))
    (dss_one (ds_ret (de_sorted hr (by rfl) T.u_sorted (pa_cons' (dv 2) pa_nil'))))))
theorem sc_is_rule_end : FnScope ["rule", "stand"] ["rule", "stand"] (defScope (top 15)) := ⟨rfl, rfl, rfl, by decide +kernel, rfl, by decide +kernel, by decide +kernel⟩
theorem b_is_rule_end (T : Tx K mg) : Binds K T.d_is_rule_end ["rule", "stand"] [] := T.F_is_rule_end.bindsN fun _ _ _ _ _ _ us hl => match us, hl with | [_, _], _ => rfl
theorem ok_is_rule_end (T : Tx K mg) : FnOk P w K mg base CX0 3 (He.fAd K ("is_rule_end", none)) T.d_is_rule_end ["rule", "stand"] (spF (gx P w K) F_is_rule_end) :=
  fn_spF T.F_is_rule_end sc_is_rule_end fun cdv A outer s H E B hr => (dss_one (ds_ret (de_eq hr (de_ix (dv 1) de_int) (de_call ((ok_behind_end T).mono (by decide)) hr (by rfl) T.g_behind_end T.F_behind_end.kp (b_behind_end T) (pa_cons' (pe_F (dv 0)) pa_nil')))))
theorem sc__law_draw : FnScope ["pool", "many", "value", "cell", "blended"] ["pool", "many"] (defScope (top 21)) := ⟨rfl, rfl, rfl, by decide +kernel, rfl, by decide +kernel, by decide +kernel⟩
theorem b__law_draw (T : Tx K mg) : Binds K T.d__law_draw ["pool", "many"] [] := T.F__law_draw.bindsN fun _ _ _ _ _ _ us hl => match us, hl with | [_, _], _ => rfl
theorem ok__law_draw (T : Tx K mg) : FnOk P w K mg base CX0 3 (He.fAd K ("_law_draw", none)) T.d__law_draw ["pool", "many"] (spP (gx P w K) P__law_draw) :=
  fn_spP T.F__law_draw sc__law_draw fun cdv A outer s H E B hr => (dss_cons (ds_wipe (vs := [3]) (ds_if ((dw_and (dt_le (de_ix (dv 0) de_int) de_int) (dw_and1 (dt_lt (de_ix (dv 0) de_int) (de_len (by rfl) T.u_len (pa_cons' (de_ix (dv 0) de_int) pa_nil')))))).pt (dss_cons (ds_set sc__law_draw.nd (i := 3) rfl (Or.inl rfl) (de_ix (de_ix (dv 0) de_int) (de_ix (dv 0) de_int)))
    (dss_cons (ds_setIx (pv 0) de_int (pe_F (de_add (de_ix (dv 0) de_int) de_int)))
    (dss_cons (ds_setIx (pv 0) de_int (pe_F (dv 3)))
    (dss_one (ds_wipe (vs := [3]) (ds_if (dt_lt (dv 3) de_int) (dss_one (ds_wipe (vs := [3]) (ds_setIx (pv 0) de_int (pe_F (de_call ((ok__law_spread T).mono (by decide)) hr (by rfl) T.g__law_spread T.F__law_spread.kp (b__law_spread T) (pa_cons' (pe_F (dv 3)) pa_nil')))))) dss_nil)))))) dss_nil))
    (dss_cons (ds_setIx (pv 0) de_int (pe_F (de_add (de_ix (dv 0) de_int) de_int)))
    (dss_cons (ds_wipe (vs := [4]) (ds_if (dt_le (de_ix (dv 0) de_int) de_int) (dss_cons (ds_set sc__law_draw.nd (i := 4) rfl (Or.inl rfl) (de_mod (de_intf (by rfl) T.u_int (pa_cons' (de_add (de_add (de_mul (de_ix (dv 0) de_int) de_int) (de_mul (de_ix (dv 0) de_int) de_int)) de_int) pa_nil')) de_int))
    (dss_cons (ds_set sc__law_draw.nd (i := 4) rfl (Or.inl rfl) (de_mod (de_intf (by rfl) T.u_int (pa_cons' (de_add (de_mul (dv 4) de_int) (de_ix (dv 0) de_int)) pa_nil')) de_int))
    (dss_one (ds_ret (de_mod (de_fdiv (dv 4) de_int) (dv 1)))))) dss_nil))
    (dss_cons (ds_set sc__law_draw.nd (i := 2) rfl (Or.inl rfl) (de_mod (de_intf (by rfl) T.u_int (pa_cons' (de_ix (dv 0) de_int) pa_nil')) (dv 1)))
    (dss_cons (ds_wipe (vs := [1]) (ds_setIx (pv 0) de_int (pe_F (de_fdiv (de_ix (dv 0) de_int) (dv 1)))))
    (dss_one (ds_ret (dv 2))))))))
theorem sc_changed : FnScope ["rule", "word", "known", "place", "one"] ["rule", "word"] (defScope (top 5)) := ⟨rfl, rfl, rfl, by decide +kernel, rfl, by decide +kernel, by decide +kernel⟩
theorem b_changed (T : Tx K mg) : Binds K T.d_changed ["rule", "word"] [] := T.F_changed.bindsN fun _ _ _ _ _ _ us hl => match us, hl with | [_, _], _ => rfl
theorem ok_changed (T : Tx K mg) : FnOk P w K mg base CX0 4 (He.fAd K ("changed", none)) T.d_changed ["rule", "word"] (spF (gx P w K) F_changed) :=
  fn_spF T.F_changed sc_changed fun cdv A outer s H E B hr => (dss_cons (ds_set sc_changed.nd (i := 2) rfl (Or.inr rfl) (de_dict (by rfl) (by rfl) T.u_dict (pa_cons' (pe_F (de_ix (dv 0) de_int)) pa_nil')))
    (dss_one (ds_ret (de_join (de_str []) (de_lc (by rfl) sc_changed.nd (di_enum (by rfl) T.u_enumerate (pa_cons' (pe_F (dv 1)) pa_nil')) (blk2 (N := ["rule", "word", "known", "place", "one"]) (sc := defScope (top 5)) (own := [("place", 3), ("one", 4)]) (by rfl) (by rfl) (by decide +kernel)) (fun _ _ _ _ _ => (dg_tup rfl (dgs_cons (dg_name sc_changed.nd (i := 3) rfl (Or.inl rfl)) (dgs_cons (dg_name sc_changed.nd (i := 4) rfl (Or.inl rfl)) dgs_nil)))) (fun _ _ _ _ _ => dts_nil) (fun _ _ _ _ _ => (pe_F (de_if (dt_val (de_call ((ok_applies T).mono (by decide)) hr (by rfl) T.g_applies T.F_applies.kp (b_applies T) (pa_cons' (pe_F (dv 0)) (pa_cons' (pe_F (dv 1)) (pa_cons' (pe_F (dv 3)) pa_nil'))))) (de_kget (hu1 hr) (dv 2) (dv 4)) (dv 4)))) (by decide))))))
theorem sc_rule_starts : FnScope ["rule", "sounds", "known"] ["rule", "sounds"] (defScope (top 13)) := ⟨rfl, rfl, rfl, by decide +kernel, rfl, by decide +kernel, by decide +kernel⟩
theorem b_rule_starts (T : Tx K mg) : Binds K T.d_rule_starts ["rule", "sounds"] [] := T.F_rule_starts.bindsN fun _ _ _ _ _ _ us hl => match us, hl with | [_, _], _ => rfl
theorem ok_rule_starts (T : Tx K mg) : FnOk P w K mg base CX0 4 (He.fAd K ("rule_starts", none)) T.d_rule_starts ["rule", "sounds"] (spF (gx P w K) F_rule_starts) :=
  fn_spF T.F_rule_starts sc_rule_starts fun cdv A outer s H E B hr => (dss_one (ds_ret (de_lc (by rfl) sc_rule_starts.nd (di_seq (pe_F (de_call ((ok_all_behind T).mono (by decide)) hr (by rfl) T.g_all_behind T.F_all_behind.kp (b_all_behind T) (pa_cons' (pe_F (dv 0)) (pa_cons' (pe_F (dv 1)) pa_nil'))))) (blk2 (N := ["rule", "sounds", "known"]) (sc := defScope (top 13)) (own := [("known", 2)]) (by rfl) (by rfl) (by decide +kernel)) (fun _ _ _ _ _ => (dg_name sc_rule_starts.nd (i := 2) rfl (Or.inl rfl))) (fun _ _ _ _ _ => dts_nil) (fun _ _ _ _ _ => (pe_F (de_tup (pa_cons' (pe_F (de_call ((ok_before_start T).mono (by decide)) hr (by rfl) T.g_before_start T.F_before_start.kp (b_before_start T) (pa_cons' (pe_F (dv 0)) pa_nil'))) (pa_cons' (pe_F (dv 2)) pa_nil'))))) (by decide))))
theorem sc_rule_steps : FnScope ["rule", "sounds", "stand", "sound", "found", "known", "before", "behind", "holds", "out"] ["rule", "sounds", "stand", "sound"] (defScope (top 14)) := ⟨rfl, rfl, rfl, by decide +kernel, rfl, by decide +kernel, by decide +kernel⟩
theorem b_rule_steps (T : Tx K mg) : Binds K T.d_rule_steps ["rule", "sounds", "stand", "sound"] [] := T.F_rule_steps.bindsN fun _ _ _ _ _ _ us hl => match us, hl with | [_, _, _, _], _ => rfl
theorem ok_rule_steps (T : Tx K mg) : FnOk P w K mg base CX0 4 (He.fAd K ("rule_steps", none)) T.d_rule_steps ["rule", "sounds", "stand", "sound"] (spF (gx P w K) F_rule_steps) :=
  fn_spF T.F_rule_steps sc_rule_steps fun cdv A outer s H E B hr => (dss_cons (ds_wipe (vs := [2]) (ds_asg (pe_F (dv 2)) (dg_tup rfl (dgs_cons (dg_name sc_rule_steps.nd (i := 6) rfl (Or.inl rfl)) (dgs_cons (dg_name sc_rule_steps.nd (i := 7) rfl (Or.inl rfl)) dgs_nil)))))
    (dss_cons (ds_set sc_rule_steps.nd (i := 4) rfl (Or.inl rfl) (de_lst pa_nil'))
    (dss_cons (ds_wipe (vs := [0, 1, 3, 5, 6, 7, 8, 9]) (ds_for rfl (di_seq (pe_F (de_call ((ok_all_behind T).mono (by decide)) hr (by rfl) T.g_all_behind T.F_all_behind.kp (b_all_behind T) (pa_cons' (pe_F (dv 0)) (pa_cons' (pe_F (dv 1)) pa_nil'))))) (dg_name sc_rule_steps.nd (i := 5) rfl (Or.inl rfl)) (dss_one (ds_wipe (vs := [5, 8, 9]) (ds_if (dt_eq hr (de_call ((ok_behind_step T).mono (by decide)) hr (by rfl) T.g_behind_step T.F_behind_step.kp (b_behind_step T) (pa_cons' (pe_F (dv 0)) (pa_cons' (pe_F (dv 5)) (pa_cons' (pe_F (dv 3)) pa_nil')))) (dv 7)) (dss_cons (ds_set sc_rule_steps.nd (i := 8) rfl (Or.inl rfl) (de_and (de_or (de_eq hr (de_len (by rfl) T.u_len (pa_cons' (de_ix (dv 0) de_int) pa_nil')) de_int) (de_one (de_ix (dv 6) (de_neg de_int)))) (de_one (de_or (de_eq hr (de_len (by rfl) T.u_len (pa_cons' (de_ix (dv 0) de_int) pa_nil')) de_int) (de_one (de_ix (dv 5) de_int))))))
    (dss_cons (ds_wipe (vs := [8]) (ds_set sc_rule_steps.nd (i := 9) rfl (Or.inl rfl) (de_if (dt_val (dv 8)) (de_get2 (hu1 hr) (de_dict (by rfl) (by rfl) T.u_dict (pa_cons' (pe_F (de_ix (dv 0) de_int)) pa_nil')) (dv 3) (pe_F (dv 3)) ⟨rfl, rfl, rfl, rfl⟩) (dv 3))))
    (dss_one (ds_wipe (vs := [5, 9]) (ds_app (pv 4) (pe_F (de_tup (pa_cons' (pe_F (de_tup (pa_cons' (pe_F (de_call ((ok_before_step T).mono (by decide)) hr (by rfl) T.g_before_step T.F_before_step.kp (b_before_step T) (pa_cons' (pe_F (dv 0)) (pa_cons' (pe_F (dv 6)) (pa_cons' (pe_F (dv 3)) pa_nil'))))) (pa_cons' (pe_F (dv 5)) pa_nil')))) (pa_cons' (pe_F (dv 9)) pa_nil'))))))))) dss_nil)))))
    (dss_one (ds_ret (dv 4))))))
theorem sc_Machine_is_end : FnScope ["self", "stand", "rule", "one"] ["self", "stand"] (defScope (inClass (top 16) 5)) := ⟨rfl, rfl, rfl, by decide +kernel, rfl, by decide +kernel, by decide +kernel⟩
theorem b_Machine_is_end (T : Tx K mg) : Binds K T.d_Machine_is_end ["self", "stand"] [] := T.F_Machine_is_end.bindsN fun _ _ _ _ _ _ us hl => match us, hl with | [_, _], _ => rfl
theorem ok_Machine_is_end (T : Tx K mg) : FnOk P w K mg base CX0 4 (He.fAd K ("Machine", some "is_end")) T.d_Machine_is_end ["self", "stand"] (spF (gx P w K) F_Machine_is_end) :=
  fn_spF T.F_Machine_is_end sc_Machine_is_end fun cdv A outer s H E B hr => (dss_one (ds_ret (de_all (by rfl) (by rfl) T.u_all (pa_cons' (de_lc (by rfl) sc_Machine_is_end.nd (di_zip (by rfl) T.u_zip (pa_cons' (pe_F (de_hist T.c_Machine T.n_history (dv 0))) (pa_cons' (pe_F (dv 1)) pa_nil'))) (blk2 (N := ["self", "stand", "rule", "one"]) (sc := defScope (inClass (top 16) 5)) (own := [("rule", 2), ("one", 3)]) (by rfl) (by rfl) (by decide +kernel)) (fun _ _ _ _ _ => (dg_tup rfl (dgs_cons (dg_name sc_Machine_is_end.nd (i := 2) rfl (Or.inl rfl)) (dgs_cons (dg_name sc_Machine_is_end.nd (i := 3) rfl (Or.inl rfl)) dgs_nil)))) (fun _ _ _ _ _ => dts_nil) (fun _ _ _ _ _ => (pe_F (de_call ((ok_is_rule_end T).mono (by decide)) hr (by rfl) T.g_is_rule_end T.F_is_rule_end.kp (b_is_rule_end T) (pa_cons' (pe_F (dv 2)) (pa_cons' (pe_F (dv 3)) pa_nil'))))) (by decide)) pa_nil'))))
theorem sc__law_lot : FnScope ["pool", "sounds", "found", "one"] ["pool", "sounds"] (defScope (top 22)) := ⟨rfl, rfl, rfl, by decide +kernel, rfl, by decide +kernel, by decide +kernel⟩
theorem b__law_lot (T : Tx K mg) : Binds K T.d__law_lot ["pool", "sounds"] [] := T.F__law_lot.bindsN fun _ _ _ _ _ _ us hl => match us, hl with | [_, _], _ => rfl
theorem ok__law_lot (T : Tx K mg) : FnOk P w K mg base CX0 4 (He.fAd K ("_law_lot", none)) T.d__law_lot ["pool", "sounds"] (spP (gx P w K) P__law_lot) :=
  fn_spP T.F__law_lot sc__law_lot fun cdv A outer s H E B hr => (dss_cons (ds_set sc__law_lot.nd (i := 2) rfl (Or.inl rfl) (de_join (de_str []) (de_lc (by rfl) sc__law_lot.nd (di_seq (pe_F (dv 1))) (blk2 (N := ["pool", "sounds", "found", "one"]) (sc := defScope (top 22)) (own := [("one", 3)]) (by rfl) (by rfl) (by decide +kernel)) (fun _ _ _ _ _ => (dg_name sc__law_lot.nd (i := 3) rfl (Or.inl rfl))) (fun _ _ _ _ _ => (dts_one (dt_eq hr (de_callP ((ok__law_draw T).mono (by decide)) hr (by rfl) T.g__law_draw T.F__law_draw.kp (b__law_draw T) (pa_cons' (dv 0) (pa_cons' de_int pa_nil'))) de_int))) (fun _ _ _ _ _ => (pe_F (dv 3))) (by decide))))
    (dss_one (ds_ret (de_if (dt_ne hr (dv 2) (de_str [])) (dv 2) (de_ix (dv 1) (de_callP ((ok__law_draw T).mono (by decide)) hr (by rfl) T.g__law_draw T.F__law_draw.kp (b__law_draw T) (pa_cons' (dv 0) (pa_cons' (pe_F (de_len (by rfl) T.u_len (pa_cons' (dv 1) pa_nil'))) pa_nil'))))))))
theorem sc__law_word : FnScope ["pool", "sounds", "most", "k"] ["pool", "sounds", "most"] (defScope (top 23)) := ⟨rfl, rfl, rfl, by decide +kernel, rfl, by decide +kernel, by decide +kernel⟩
theorem b__law_word (T : Tx K mg) : Binds K T.d__law_word ["pool", "sounds", "most"] [] := T.F__law_word.bindsN fun _ _ _ _ _ _ us hl => match us, hl with | [_, _, _], _ => rfl
theorem ok__law_word (T : Tx K mg) : FnOk P w K mg base CX0 4 (He.fAd K ("_law_word", none)) T.d__law_word ["pool", "sounds", "most"] (spP (gx P w K) P__law_word) :=
  fn_spP T.F__law_word sc__law_word fun cdv A outer s H E B hr => (dss_one (ds_ret (de_join (de_str []) (de_lc (by rfl) sc__law_word.nd (di_range1 (by rfl) T.u_range (pa_cons' (de_callP ((ok__law_draw T).mono (by decide)) hr (by rfl) T.g__law_draw T.F__law_draw.kp (b__law_draw T) (pa_cons' (dv 0) (pa_cons' (pe_F (de_add (dv 2) de_int)) pa_nil'))) pa_nil')) (blk2 (N := ["pool", "sounds", "most", "k"]) (sc := defScope (top 23)) (own := [("k", 3)]) (by rfl) (by rfl) (by decide +kernel)) (fun _ _ _ _ _ => (dg_name sc__law_word.nd (i := 3) rfl (Or.inl rfl))) (fun _ _ _ _ _ => dts_nil) (fun _ _ _ _ _ => (pe_F (de_ix (dv 1) (de_callP ((ok__law_draw T).mono (by decide)) hr (by rfl) T.g__law_draw T.F__law_draw.kp (b__law_draw T) (pa_cons' (dv 0) (pa_cons' (pe_F (de_len (by rfl) T.u_len (pa_cons' (dv 1) pa_nil'))) pa_nil')))))) (by decide)))))
theorem sc_led : FnScope ["history", "word", "rule"] ["history", "word"] (defScope (top 6)) := ⟨rfl, rfl, rfl, by decide +kernel, rfl, by decide +kernel, by decide +kernel⟩
theorem b_led (T : Tx K mg) : Binds K T.d_led ["history", "word"] [] := T.F_led.bindsN fun _ _ _ _ _ _ us hl => match us, hl with | [_, _], _ => rfl
theorem ok_led (T : Tx K mg) : FnOk P w K mg base CX0 5 (He.fAd K ("led", none)) T.d_led ["history", "word"] (spF (gx P w K) F_led) :=
  fn_spF T.F_led sc_led fun cdv A outer s H E B hr => (dss_cons (ds_wipe (vs := [0, 2]) (ds_for rfl (di_seq (pe_F (dv 0))) (dg_name sc_led.nd (i := 2) rfl (Or.inl rfl)) (dss_one (ds_wipe (vs := [2]) (ds_set sc_led.nd (i := 1) rfl (Or.inl rfl) (de_call ((ok_changed T).mono (by decide)) hr (by rfl) T.g_changed T.F_changed.kp (b_changed T) (pa_cons' (pe_F (dv 2)) (pa_cons' (pe_F (dv 1)) pa_nil'))))))))
    (dss_one (ds_ret (dv 1))))
theorem sc_Machine_starts : FnScope ["self", "found", "rule", "stand", "one"] ["self"] (defScope (inClass (top 16) 1)) := ⟨rfl, rfl, rfl, by decide +kernel, rfl, by decide +kernel, by decide +kernel⟩
theorem b_Machine_starts (T : Tx K mg) : Binds K T.d_Machine_starts ["self"] [] := T.F_Machine_starts.bindsN fun _ _ _ _ _ _ us hl => match us, hl with | [_], _ => rfl
theorem ok_Machine_starts (T : Tx K mg) : FnOk P w K mg base CX0 5 (He.fAd K ("Machine", some "starts")) T.d_Machine_starts ["self"] (spF (gx P w K) F_Machine_starts) :=
  fn_spF T.F_Machine_starts sc_Machine_starts fun cdv A outer s H E B hr => (dss_cons (ds_set sc_Machine_starts.nd (i := 1) rfl (Or.inl rfl) (de_lst (pa_cons' (pe_F (de_tup pa_nil')) pa_nil')))
    (dss_cons (ds_wipe (vs := [0, 2]) (ds_for rfl (di_seq (pe_F (de_hist T.c_Machine T.n_history (dv 0)))) (dg_name sc_Machine_starts.nd (i := 2) rfl (Or.inr rfl)) (dss_one (ds_wipe (vs := [2]) (ds_setLc2 rfl sc_Machine_starts.nd (i := 1) rfl rfl (sw_true rfl rfl rfl (by decide +kernel)) (di_seq (pe_F (dv 1))) (blk2 (N := ["self", "found", "rule", "stand", "one"]) (sc := defScope (inClass (top 16) 1)) (own := [("stand", 3), ("one", 4)]) (by rfl) (by rfl) (by decide +kernel)) (vs1 := [4]) (by decide) (fun _ _ _ _ _ => (dg_name sc_Machine_starts.nd (i := 3) rfl (Or.inl rfl))) (fun _ _ _ _ _ => dts_nil) (fun _ _ _ _ _ => (di_seq (pe_F (de_call ((ok_rule_starts T).mono (by decide)) hr (by rfl) T.g_rule_starts T.F_rule_starts.kp (b_rule_starts T) (pa_cons' (pe_F (dv 2)) (pa_cons' (pe_F (de_sounds T.c_Machine T.n_sounds (dv 0))) pa_nil')))))) (fun _ _ _ _ _ => (dg_name sc_Machine_starts.nd (i := 4) rfl (Or.inl rfl))) (fun _ _ _ _ _ => dts_nil) (fun _ _ _ _ _ => (pe_F (de_add (dv 3) (de_tup (pa_cons' (pe_F (dv 4)) pa_nil'))))) (by decide) (by decide))))))
    (dss_one (ds_ret (dv 1)))))
theorem sc_Machine_rule_step : FnScope ["self", "k", "stand", "sound", "key"] ["self", "k", "stand", "sound"] (defScope (inClass (top 16) 3)) := ⟨rfl, rfl, rfl, by decide +kernel, rfl, by decide +kernel, by decide +kernel⟩
theorem b_Machine_rule_step (T : Tx K mg) : Binds K T.d_Machine_rule_step ["self", "k", "stand", "sound"] [] := T.F_Machine_rule_step.bindsN fun _ _ _ _ _ _ us hl => match us, hl with | [_, _, _, _], _ => rfl
theorem ok_Machine_rule_step (T : Tx K mg) : FnOk P w K mg base CX0 5 (He.fAd K ("Machine", some "rule_step")) T.d_Machine_rule_step ["self", "k", "stand", "sound"] (spF (gx P w K) F_Machine_rule_step) :=
  fn_spF T.F_Machine_rule_step sc_Machine_rule_step fun cdv A outer s H E B hr => (dss_cons (ds_set sc_Machine_rule_step.nd (i := 4) rfl (Or.inl rfl) (de_tup (pa_cons' (pe_F (dv 1)) (pa_cons' (pe_F (dv 2)) (pa_cons' (pe_F (dv 3)) pa_nil')))))
    (dss_memo memoOk rfl rfl (hu9 hr) T.c_Machine T.n_known (pv 4) (pv 0) (pv 4) (pv 0) (fun _ _ => rfl) rfl rfl
    (bd_one (ps_kput rfl rfl (hu9 hr) (pe_fld (pv 0) rfl) (pv 4) (pe_F (de_call ((ok_rule_steps T).mono (by decide)) hr (by rfl) T.g_rule_steps T.F_rule_steps.kp (b_rule_steps T) (pa_cons' (pe_F (de_ix (de_hist T.c_Machine T.n_history (dv 0)) (dv 1))) (pa_cons' (pe_F (de_sounds T.c_Machine T.n_sounds (dv 0))) (pa_cons' (pe_F (dv 2)) (pa_cons' (pe_F (dv 3)) pa_nil')))))) rfl))))
theorem sc__law_slots : FnScope ["pool", "sounds", "edge", "found", "k"] ["pool", "sounds", "edge"] (defScope (top 24)) := ⟨rfl, rfl, rfl, by decide +kernel, rfl, by decide +kernel, by decide +kernel⟩
theorem b__law_slots (T : Tx K mg) : Binds K T.d__law_slots ["pool", "sounds", "edge"] [] := T.F__law_slots.bindsN fun _ _ _ _ _ _ us hl => match us, hl with | [_, _, _], _ => rfl
theorem ok__law_slots (T : Tx K mg) : FnOk P w K mg base CX0 5 (He.fAd K ("_law_slots", none)) T.d__law_slots ["pool", "sounds", "edge"] (spP (gx P w K) P__law_slots) :=
  fn_spP T.F__law_slots sc__law_slots fun cdv A outer s H E B hr => (dss_cons (ds_wipe (vs := [1]) (ds_setLc rfl sc__law_slots.nd (i := 3) rfl rfl (sw_true rfl rfl rfl (by decide +kernel)) (di_range1 (by rfl) T.u_range (pa_cons' (de_ix (de_tup (pa_cons' de_int (pa_cons' de_int (pa_cons' de_int (pa_cons' de_int (pa_cons' de_int pa_nil')))))) (de_callP ((ok__law_draw T).mono (by decide)) hr (by rfl) T.g__law_draw T.F__law_draw.kp (b__law_draw T) (pa_cons' (dv 0) (pa_cons' de_int pa_nil')))) pa_nil')) (blk2 (N := ["pool", "sounds", "edge", "found", "k"]) (sc := defScope (top 24)) (own := [("k", 4)]) (by rfl) (by rfl) (by decide +kernel)) (fun _ _ _ _ _ => (dg_name sc__law_slots.nd (i := 4) rfl (Or.inl rfl))) (fun _ _ _ _ _ => dts_nil) (fun _ _ _ _ _ => (pe_F (de_callP ((ok__law_lot T).mono (by decide)) hr (by rfl) T.g__law_lot T.F__law_lot.kp (b__law_lot T) (pa_cons' (dv 0) (pa_cons' (pe_F (dv 1)) pa_nil'))))) (by decide)))
    (dss_cons (ds_wipe (vs := [2]) (ds_if ((dw_and (dt_gt (de_len (by rfl) T.u_len (pa_cons' (dv 3) pa_nil')) de_int) (dw_and1 (dt_eq hr (de_callP ((ok__law_draw T).mono (by decide)) hr (by rfl) T.g__law_draw T.F__law_draw.kp (b__law_draw T) (pa_cons' (dv 0) (pa_cons' de_int pa_nil'))) de_int)))).pt (dss_one (ds_wipe (vs := [2]) (ds_setIx (pv 3) (de_if (dt_eq hr (dv 2) de_int) de_int (de_sub (de_len (by rfl) T.u_len (pa_cons' (dv 3) pa_nil')) de_int)) (de_str [35])))) dss_nil))
    (dss_one (ds_ret (de_tuple (by rfl) T.u_tuple (pa_cons' (dv 3) pa_nil'))))))
theorem sc_Machine_rule_run : FnScope ["self", "k", "stand", "word", "found", "sound", "longer", "here", "out", "after", "more"] ["self", "k", "stand", "word"] (defScope (inClass (top 16) 2)) := ⟨rfl, rfl, rfl, by decide +kernel, rfl, by decide +kernel, by decide +kernel⟩
theorem b_Machine_rule_run (T : Tx K mg) : Binds K T.d_Machine_rule_run ["self", "k", "stand", "word"] [] := T.F_Machine_rule_run.bindsN fun _ _ _ _ _ _ us hl => match us, hl with | [_, _, _, _], _ => rfl
theorem ok_Machine_rule_run (T : Tx K mg) : FnOk P w K mg base CX0 6 (He.fAd K ("Machine", some "rule_run")) T.d_Machine_rule_run ["self", "k", "stand", "word"] (spF (gx P w K) F_Machine_rule_run) :=
  fn_spF T.F_Machine_rule_run sc_Machine_rule_run fun cdv A outer s H E B hr => (dss_cons (ds_wipe (vs := [2]) (ds_set sc_Machine_rule_run.nd (i := 4) rfl (Or.inl rfl) (de_lst (pa_cons' (pe_F (de_tup (pa_cons' (pe_F (dv 2)) (pa_cons' (de_str []) pa_nil')))) pa_nil'))))
    (dss_cons (ds_wipe (vs := [0, 1, 3, 5, 6, 7, 8, 9, 10]) (ds_for rfl (di_seq (pe_F (dv 3))) (dg_name sc_Machine_rule_run.nd (i := 5) rfl (Or.inl rfl)) (dss_cons (ds_set sc_Machine_rule_run.nd (i := 6) rfl (Or.inl rfl) (de_lst pa_nil'))
    (dss_cons (ds_wipe (vs := [4, 5, 7, 8, 9, 10]) (ds_for rfl (di_seq (pe_F (dv 4))) (dg_tup rfl (dgs_cons (dg_name sc_Machine_rule_run.nd (i := 7) rfl (Or.inl rfl)) (dgs_cons (dg_name sc_Machine_rule_run.nd (i := 8) rfl (Or.inl rfl)) dgs_nil))) (dss_one (ds_wipe (vs := [7, 8, 9, 10]) (ds_for rfl (di_seq (pe_F (de_meth (pe_F (dv 0)) T.c_Machine T.m_Machine_rule_step ((ok_Machine_rule_step T).mono (by decide)) hr (b_Machine_rule_step T) (pa_cons' (pe_F (dv 1)) (pa_cons' (pe_F (dv 7)) (pa_cons' (pe_F (dv 5)) pa_nil'))) (mach_ok (by decide +kernel) (by decide +kernel) (by decide +kernel))))) (dg_tup rfl (dgs_cons (dg_name sc_Machine_rule_run.nd (i := 9) rfl (Or.inl rfl)) (dgs_cons (dg_name sc_Machine_rule_run.nd (i := 10) rfl (Or.inl rfl)) dgs_nil))) (dss_one (ds_wipe (vs := [9, 10]) (ds_app (pv 6) (pe_F (de_tup (pa_cons' (pe_F (dv 9)) (pa_cons' (pe_F (de_add (dv 8) (dv 10))) pa_nil'))))))))))))
    (dss_one (ds_wipe (vs := [5, 6]) (ds_set sc_Machine_rule_run.nd (i := 4) rfl (Or.inl rfl) (dv 6))))))))
    (dss_one (ds_ret (dv 4)))))
theorem sc__law_law : FnScope ["pool", "sounds", "changes", "one"] ["pool", "sounds"] (defScope (top 25)) := ⟨rfl, rfl, rfl, by decide +kernel, rfl, by decide +kernel, by decide +kernel⟩
theorem b__law_law (T : Tx K mg) : Binds K T.d__law_law ["pool", "sounds"] [] := T.F__law_law.bindsN fun _ _ _ _ _ _ us hl => match us, hl with | [_, _], _ => rfl
theorem ok__law_law (T : Tx K mg) : FnOk P w K mg base CX0 6 (He.fAd K ("_law_law", none)) T.d__law_law ["pool", "sounds"] (spP (gx P w K) P__law_law) :=
  fn_spP T.F__law_law sc__law_law fun cdv A outer s H E B hr => (dss_cons (ds_set sc__law_law.nd (i := 2) rfl (Or.inl rfl) (de_tuple (by rfl) T.u_tuple (pa_cons' (de_lc (by rfl) sc__law_law.nd (di_seq (pe_F (dv 1))) (blk2 (N := ["pool", "sounds", "changes", "one"]) (sc := defScope (top 25)) (own := [("one", 3)]) (by rfl) (by rfl) (by decide +kernel)) (fun _ _ _ _ _ => (dg_name sc__law_law.nd (i := 3) rfl (Or.inl rfl))) (fun _ _ _ _ _ => (dts_one (dt_eq hr (de_callP ((ok__law_draw T).mono (by decide)) hr (by rfl) T.g__law_draw T.F__law_draw.kp (b__law_draw T) (pa_cons' (dv 0) (pa_cons' de_int pa_nil'))) de_int))) (fun _ _ _ _ _ => (pe_F (de_tup (pa_cons' (pe_F (dv 3)) (pa_cons' (pe_F (de_callP ((ok__law_word T).mono (by decide)) hr (by rfl) T.g__law_word T.F__law_word.kp (b__law_word T) (pa_cons' (dv 0) (pa_cons' (pe_F (dv 1)) (pa_cons' de_int pa_nil'))))) pa_nil'))))) (by decide)) pa_nil')))
    (dss_cons (ds_if (dt_eq hr (de_len (by rfl) T.u_len (pa_cons' (dv 2) pa_nil')) de_int) (dss_one (ds_set sc__law_law.nd (i := 2) rfl (Or.inl rfl) (de_tup (pa_cons' (pe_F (de_tup (pa_cons' (pe_F (de_ix (dv 1) de_int)) (pa_cons' (pe_F (de_callP ((ok__law_word T).mono (by decide)) hr (by rfl) T.g__law_word T.F__law_word.kp (b__law_word T) (pa_cons' (dv 0) (pa_cons' (pe_F (dv 1)) (pa_cons' de_int pa_nil'))))) pa_nil')))) pa_nil')))) dss_nil)
    (dss_one (ds_ret (de_tup (pa_cons' (pe_F (dv 2)) (pa_cons' (pe_F (de_callP ((ok__law_slots T).mono (by decide)) hr (by rfl) T.g__law_slots T.F__law_slots.kp (b__law_slots T) (pa_cons' (dv 0) (pa_cons' (pe_F (dv 1)) (pa_cons' de_int pa_nil'))))) (pa_cons' (pe_F (de_callP ((ok__law_slots T).mono (by decide)) hr (by rfl) T.g__law_slots T.F__law_slots.kp (b__law_slots T) (pa_cons' (dv 0) (pa_cons' (pe_F (dv 1)) (pa_cons' de_int pa_nil'))))) pa_nil'))))))))
theorem sc_Machine_steps : FnScope ["self", "stand", "sound", "key", "rows", "k", "longer", "done", "word", "after", "out"] ["self", "stand", "sound"] (defScope (inClass (top 16) 4)) := ⟨rfl, rfl, rfl, by decide +kernel, rfl, by decide +kernel, by decide +kernel⟩
theorem b_Machine_steps (T : Tx K mg) : Binds K T.d_Machine_steps ["self", "stand", "sound"] [] := T.F_Machine_steps.bindsN fun _ _ _ _ _ _ us hl => match us, hl with | [_, _, _], _ => rfl
theorem ok_Machine_steps (T : Tx K mg) : FnOk P w K mg base CX0 7 (He.fAd K ("Machine", some "steps")) T.d_Machine_steps ["self", "stand", "sound"] (spF (gx P w K) F_Machine_steps) :=
  fn_spF T.F_Machine_steps sc_Machine_steps fun cdv A outer s H E B hr => (dss_cons (ds_set sc_Machine_steps.nd (i := 3) rfl (Or.inl rfl) (de_tup (pa_cons' (pe_F (dv 1)) (pa_cons' (pe_F (dv 2)) pa_nil'))))
    (dss_memo memoOk rfl rfl (hu9 hr) T.c_Machine T.n_known (pv 3) (pv 0) (pv 3) (pv 0) (fun _ _ => rfl) rfl rfl
    (bd_cons (ds_wipe (vs := [2]) (ds_set sc_Machine_steps.nd (i := 4) rfl (Or.inl rfl) (de_lst (pa_cons' (pe_F (de_tup (pa_cons' (pe_F (de_tup pa_nil')) (pa_cons' (pe_F (dv 2)) pa_nil')))) pa_nil'))))
    (bd_cons (ds_wipe (vs := [1, 5, 6, 7, 8, 9, 10]) (ds_for rfl (di_range1 (by rfl) T.u_range (pa_cons' (de_len (by rfl) T.u_len (pa_cons' (de_hist T.c_Machine T.n_history (dv 0)) pa_nil')) pa_nil')) (dg_name sc_Machine_steps.nd (i := 5) rfl (Or.inl rfl)) (dss_cons (ds_set sc_Machine_steps.nd (i := 6) rfl (Or.inl rfl) (de_lst pa_nil'))
    (dss_cons (ds_wipe (vs := [4, 5, 7, 8, 9, 10]) (ds_for rfl (di_seq (pe_F (dv 4))) (dg_tup rfl (dgs_cons (dg_name sc_Machine_steps.nd (i := 7) rfl (Or.inl rfl)) (dgs_cons (dg_name sc_Machine_steps.nd (i := 8) rfl (Or.inl rfl)) dgs_nil))) (dss_one (ds_wipe (vs := [7, 8, 9, 10]) (ds_for rfl (di_seq (pe_F (de_meth (pe_F (dv 0)) T.c_Machine T.m_Machine_rule_run ((ok_Machine_rule_run T).mono (by decide)) hr (b_Machine_rule_run T) (pa_cons' (pe_F (dv 5)) (pa_cons' (pe_F (de_ix (dv 1) (dv 5))) (pa_cons' (pe_F (dv 8)) pa_nil'))) (mach_ok (by decide +kernel) (by decide +kernel) (by decide +kernel))))) (dg_tup rfl (dgs_cons (dg_name sc_Machine_steps.nd (i := 9) rfl (Or.inl rfl)) (dgs_cons (dg_name sc_Machine_steps.nd (i := 10) rfl (Or.inl rfl)) dgs_nil))) (dss_one (ds_wipe (vs := [9, 10]) (ds_app (pv 6) (pe_F (de_tup (pa_cons' (pe_F (de_add (dv 7) (de_tup (pa_cons' (pe_F (dv 9)) pa_nil')))) (pa_cons' (pe_F (dv 10)) pa_nil'))))))))))))
    (dss_one (ds_wipe (vs := [5, 6]) (ds_set sc_Machine_steps.nd (i := 4) rfl (Or.inl rfl) (dv 6))))))))
    (bd_one (ps_kput rfl rfl (hu9 hr) (pe_fld (pv 0) rfl) (pv 3) (pe_F (dv 4)) rfl))))))
theorem sc__law_history : FnScope ["pool", "sounds", "most", "k", "found", "slots", "law"] ["pool", "sounds", "most"] (defScope (top 26)) := ⟨rfl, rfl, rfl, by decide +kernel, rfl, by decide +kernel, by decide +kernel⟩
theorem b__law_history (T : Tx K mg) : Binds K T.d__law_history ["pool", "sounds", "most"] [] := T.F__law_history.bindsN fun _ _ _ _ _ _ us hl => match us, hl with | [_, _, _], _ => rfl
theorem ok__law_history (T : Tx K mg) : FnOk P w K mg base CX0 7 (He.fAd K ("_law_history", none)) T.d__law_history ["pool", "sounds", "most"] (spP (gx P w K) P__law_history) :=
  fn_spP T.F__law_history sc__law_history fun cdv A outer s H E B hr => (dss_cons (ds_asg (pe_F (de_tup (pa_cons' (pe_F (de_tup pa_nil')) (pa_cons' de_int pa_nil')))) (dg_tup rfl (dgs_cons (dg_name sc__law_history.nd (i := 4) rfl (Or.inl rfl)) (dgs_cons (dg_name sc__law_history.nd (i := 5) rfl (Or.inl rfl)) dgs_nil))))
    (dss_cons (ds_wipe (vs := [1, 2, 3, 5, 6]) (ds_for rfl (di_range1 (by rfl) T.u_range (pa_cons' (de_callP ((ok__law_draw T).mono (by decide)) hr (by rfl) T.g__law_draw T.F__law_draw.kp (b__law_draw T) (pa_cons' (dv 0) (pa_cons' (pe_F (de_add (dv 2) de_int)) pa_nil'))) pa_nil')) (dg_name sc__law_history.nd (i := 3) rfl (Or.inl rfl)) (dss_cons (ds_set sc__law_history.nd (i := 6) rfl (Or.inl rfl) (de_callP ((ok__law_law T).mono (by decide)) hr (by rfl) T.g__law_law T.F__law_law.kp (b__law_law T) (pa_cons' (dv 0) (pa_cons' (pe_F (dv 1)) pa_nil'))))
    (dss_cons (ds_set sc__law_history.nd (i := 5) rfl (Or.inl rfl) (de_add (de_add (dv 5) (de_len (by rfl) T.u_len (pa_cons' (de_ix (dv 6) de_int) pa_nil'))) (de_len (by rfl) T.u_len (pa_cons' (de_ix (dv 6) de_int) pa_nil'))))
    (dss_one (ds_wipe (vs := [3, 6]) (ds_set sc__law_history.nd (i := 4) rfl (Or.inl rfl) (de_add (dv 4) (de_if (dt_lt (dv 5) de_int) (de_tup (pa_cons' (pe_F (dv 6)) pa_nil')) (de_tup (pa_cons' (pe_F (de_tup (pa_cons' (pe_F (de_ix (dv 6) de_int)) (pa_cons' (pe_F (de_tup pa_nil')) (pa_cons' (pe_F (de_tup pa_nil')) pa_nil'))))) pa_nil')))))))))))
    (dss_one (ds_ret (dv 4)))))
theorem sc_stands_for : FnScope ["machine", "word", "rows", "sound", "found", "longer", "stand", "way", "outs", "row", "after", "out"] ["machine", "word"] (defScope (top 17)) := ⟨rfl, rfl, rfl, by decide +kernel, rfl, by decide +kernel, by decide +kernel⟩
theorem b_stands_for (T : Tx K mg) : Binds K T.d_stands_for ["machine", "word"] [] := T.F_stands_for.bindsN fun _ _ _ _ _ _ us hl => match us, hl with | [_, _], _ => rfl
theorem ok_stands_for (T : Tx K mg) : FnOk P w K mg base CX0 8 (He.fAd K ("stands_for", none)) T.d_stands_for ["machine", "word"] (spF (gx P w K) F_stands_for) :=
  fn_spF T.F_stands_for sc_stands_for fun cdv A outer s H E B hr => (dss_cons (ds_setLc rfl sc_stands_for.nd (i := 2) rfl rfl (sw_true rfl rfl rfl (by decide +kernel)) (di_seq (pe_F (de_meth0 (pe_F (dv 0)) T.c_Machine T.m_Machine_starts ((ok_Machine_starts T).mono (by decide)) hr (b_Machine_starts T) (mach_ok (by decide +kernel) (by decide +kernel) (by decide +kernel))))) (blk2 (N := ["machine", "word", "rows", "sound", "found", "longer", "stand", "way", "outs", "row", "after", "out"]) (sc := defScope (top 17)) (own := [("stand", 6)]) (by rfl) (by rfl) (by decide +kernel)) (fun _ _ _ _ _ => (dg_name sc_stands_for.nd (i := 6) rfl (Or.inl rfl))) (fun _ _ _ _ _ => dts_nil) (fun _ _ _ _ _ => (pe_F (de_tup (pa_cons' (pe_F (de_lst (pa_cons' (pe_F (dv 6)) pa_nil'))) (pa_cons' (pe_F (de_lst pa_nil')) pa_nil'))))) (by decide))
    (dss_cons (ds_wipe (vs := [1, 3, 5, 7, 8, 10, 11]) (ds_for rfl (di_seq (pe_F (dv 1))) (dg_name sc_stands_for.nd (i := 3) rfl (Or.inl rfl)) (dss_cons (ds_set sc_stands_for.nd (i := 5) rfl (Or.inl rfl) (de_lst pa_nil'))
    (dss_cons (ds_wipe (vs := [2, 3, 7, 8, 10, 11]) (ds_for rfl (di_seq (pe_F (dv 2))) (dg_tup rfl (dgs_cons (dg_name sc_stands_for.nd (i := 7) rfl (Or.inl rfl)) (dgs_cons (dg_name sc_stands_for.nd (i := 8) rfl (Or.inl rfl)) dgs_nil))) (dss_one (ds_wipe (vs := [7, 8, 10, 11]) (ds_for rfl (di_seq (pe_F (de_meth (pe_F (dv 0)) T.c_Machine T.m_Machine_steps ((ok_Machine_steps T).mono (by decide)) hr (b_Machine_steps T) (pa_cons' (pe_F (de_ix (dv 7) (de_neg de_int))) (pa_cons' (pe_F (dv 3)) pa_nil')) (mach_ok (by decide +kernel) (by decide +kernel) (by decide +kernel))))) (dg_tup rfl (dgs_cons (dg_name sc_stands_for.nd (i := 10) rfl (Or.inl rfl)) (dgs_cons (dg_name sc_stands_for.nd (i := 11) rfl (Or.inl rfl)) dgs_nil))) (dss_one (ds_wipe (vs := [10, 11]) (ds_app (pv 5) (pe_F (de_tup (pa_cons' (pe_F (de_add (dv 7) (de_lst (pa_cons' (pe_F (dv 10)) pa_nil')))) (pa_cons' (pe_F (de_add (dv 8) (de_lst (pa_cons' (pe_F (dv 11)) pa_nil')))) pa_nil'))))))))))))
    (dss_one (ds_wipe (vs := [3, 5]) (ds_set sc_stands_for.nd (i := 2) rfl (Or.inl rfl) (dv 5))))))))
    (dss_cons (ds_wipe (vs := [0, 2]) (ds_setLc rfl sc_stands_for.nd (i := 4) rfl rfl (sw_true rfl rfl rfl (by decide +kernel)) (di_seq (pe_F (dv 2))) (blk2 (N := ["machine", "word", "rows", "sound", "found", "longer", "stand", "way", "outs", "row", "after", "out"]) (sc := defScope (top 17)) (own := [("row", 9)]) (by rfl) (by rfl) (by decide +kernel)) (fun _ _ _ _ _ => (dg_name sc_stands_for.nd (i := 9) rfl (Or.inl rfl))) (fun _ _ _ _ _ => (dts_one (dt_val (de_meth (pe_F (dv 0)) T.c_Machine T.m_Machine_is_end ((ok_Machine_is_end T).mono (by decide)) hr (b_Machine_is_end T) (pa_cons' (pe_F (de_ix (de_ix (dv 9) de_int) (de_neg de_int))) pa_nil') (mach_ok (by decide +kernel) (by decide +kernel) (by decide +kernel)))))) (fun _ _ _ _ _ => (pe_F (dv 9))) (by decide)))
    (dss_one (ds_ret (de_ix (dv 4) de_int))))))
theorem sc_law : FnScope ["script", "pool", "sounds", "words", "table", "word", "before", "behind", "one", "two", "first", "both", "k", "stands", "made", "own", "other", "stand"] ["script"] (defScope (top 27)) := ⟨rfl, rfl, rfl, by decide +kernel, rfl, by decide +kernel, by decide +kernel⟩
theorem b_law (T : Tx K mg) : Binds K T.d_law ["script"] [] := T.F_law.bindsN fun _ _ _ _ _ _ us hl => match us, hl with | [_], _ => rfl
theorem ok__law_pool (T : Tx K mg) : FnOk P w K mg base CX0 2 (He.fAd K ("_law_pool", none)) T.d__law_pool ["script"] (spPool K) :=
  T.F__law_pool.ok sc__law_pool (fun vs H Q E ⟨a, ns, e, _⟩ => by rw [e]; rfl) fun cdv A outer s H vs Q E hr h => ⟨tPool K, PSs.nox (pss_cons (ps_set sc__law_pool.nd (i := 1) rfl (Or.inl rfl) pe_int) (pss_cons (ps_for (PassesOwn.never) rfl (pi_list (pe_slice sl_list (pv 0) po_none (po_some pe_int))) (pg_name sc__law_pool.nd (i := 2) rfl (Or.inl rfl)) (pss_one (ps_set sc__law_pool.nd (i := 1) rfl (Or.inl rfl) (pe_op op_mod (pe_callTy call_int1 (by rfl) T.u_int (by decide +kernel) (pa_cons (pe_op op_add (pe_op op_mul (pv 1) pe_int) (pv 2)) pa_nil)) pe_int)))) (pss_one (ps_ret (pe_lst (pa_cons (pe_callTy call_list_of (by rfl) T.u_list (by decide +kernel) (pa_cons (pv 0) pa_nil)) (pa_cons pe_int (pa_cons pe_int (pa_cons pe_int (pa_cons (pv 1) pa_nil)))))))))), pool_pure vs H Q E h⟩
theorem law_rest (T : Tx K mg) {cdv : Value} {A : Around} {outer : List Env} {s : Shared} {H : Hp} {E : XK} {B : Base} (hr : Room 8 (A.deeper (envOfC "law" (defScope (top 27)) s.heap.objs.size (He.fAd K ("law", none)) cdv))) : PSs (cxOf CX0 P w K mg base ["script", "pool", "sounds", "words", "table", "word", "before", "behind", "one", "two", "first", "both", "k", "stands", "made", "own", "other", "stand"] "law" (defScope (top 27)) (He.fAd K ("law", none)) cdv A outer s H E).nox (defBody (top 27)).tail (tS (gx P w K) B m_law) :=
  (dss_cons (ds_set sc_law.nd (i := 2) rfl (Or.inr rfl) (de_ix (de_tup (pa_cons' (de_str [97, 98]) (pa_cons' (de_str [97, 98, 99]) (pa_cons' (de_str [97]) pa_nil')))) (de_callP ((ok__law_draw T).mono (by decide)) hr (by rfl) T.g__law_draw T.F__law_draw.kp (b__law_draw T) (pa_cons' (dv 1) (pa_cons' de_int pa_nil')))))
    (dss_cons (ds_asg (pe_F (de_tup (pa_cons' (pe_F (de_callP ((ok__law_history T).mono (by decide)) hr (by rfl) T.g__law_history T.F__law_history.kp (b__law_history T) (pa_cons' (dv 1) (pa_cons' (pe_F (dv 2)) (pa_cons' de_int pa_nil'))))) (pa_cons' (pe_F (de_callP ((ok__law_history T).mono (by decide)) hr (by rfl) T.g__law_history T.F__law_history.kp (b__law_history T) (pa_cons' (dv 1) (pa_cons' (pe_F (dv 2)) (pa_cons' de_int pa_nil'))))) pa_nil')))) (dg_tup rfl (dgs_cons (dg_name sc_law.nd (i := 8) rfl (Or.inr rfl)) (dgs_cons (dg_name sc_law.nd (i := 9) rfl (Or.inl rfl)) dgs_nil))))
    (dss_cons (ds_par rfl sc_law.nd (i := 10) (j := 11) rfl rfl (by decide) rfl rfl (de_mach T.k_Machine ((ok_Machine___init__ T).mono (by decide)) hr (by rfl) T.g_Machine (b_Machine___init__ T) (pa_cons' (pe_F (dv 2)) (pa_cons' (pe_F (dv 8)) pa_nil'))) (de_mach T.k_Machine ((ok_Machine___init__ T).mono (by decide)) hr (by rfl) T.g_Machine (b_Machine___init__ T) (pa_cons' (pe_F (dv 2)) (pa_cons' (pe_F (de_add (dv 8) (dv 9))) pa_nil'))) rfl)
    (dss_cons (ds_wipe (vs := [2]) (ds_setLc rfl sc_law.nd (i := 3) rfl rfl (sw_true rfl rfl rfl (by decide +kernel)) (di_range1 (by rfl) T.u_range (pa_cons' de_int pa_nil')) (blk2 (N := ["script", "pool", "sounds", "words", "table", "word", "before", "behind", "one", "two", "first", "both", "k", "stands", "made", "own", "other", "stand"]) (sc := defScope (top 27)) (own := [("k", 12)]) (by rfl) (by rfl) (by decide +kernel)) (fun _ _ _ _ _ => (dg_name sc_law.nd (i := 12) rfl (Or.inl rfl))) (fun _ _ _ _ _ => dts_nil) (fun _ _ _ _ _ => (pe_F (de_callP ((ok__law_word T).mono (by decide)) hr (by rfl) T.g__law_word T.F__law_word.kp (b__law_word T) (pa_cons' (dv 1) (pa_cons' (pe_F (dv 2)) (pa_cons' de_int pa_nil')))))) (by decide)))
    (dss_cons (ds_set sc_law.nd (i := 4) rfl (Or.inl rfl) de_dnew)
    (dss_cons (ds_wipe (vs := [5, 9, 10, 11, 13, 14, 15, 16]) (ds_for rfl (di_seq (pe_F (de_add (dv 3) (de_lst (pa_cons' (pe_F (de_add (de_ix (dv 3) de_int) (de_ix (dv 3) de_int))) (pa_cons' (pe_F (de_add (de_ix (dv 3) de_int) (de_ix (dv 3) de_int))) (pa_cons' (pe_F (de_add (de_ix (dv 3) de_int) (de_ix (dv 3) de_int))) pa_nil'))))))) (dg_name sc_law.nd (i := 5) rfl (Or.inl rfl)) (dss_cons (ds_asg (pe_F (de_call ((ok_stands_for T).mono (by decide)) hr (by rfl) T.g_stands_for T.F_stands_for.kp (b_stands_for T) (pa_cons' (pe_F (dv 11)) (pa_cons' (pe_F (dv 5)) pa_nil')))) (dg_tup rfl (dgs_cons (dg_name sc_law.nd (i := 13) rfl (Or.inl rfl)) (dgs_cons (dg_name sc_law.nd (i := 14) rfl (Or.inl rfl)) dgs_nil))))
    (dss_cons (ds_asg (pe_F (de_call ((ok_stands_for T).mono (by decide)) hr (by rfl) T.g_stands_for T.F_stands_for.kp (b_stands_for T) (pa_cons' (pe_F (dv 10)) (pa_cons' (pe_F (dv 5)) pa_nil')))) (dg_tup rfl (dgs_cons (dg_name sc_law.nd (i := 15) rfl (Or.inl rfl)) (dgs_cons (dg_name sc_law.nd (i := 16) rfl (Or.inl rfl)) dgs_nil))))
    (dss_cons (ds_wipe (vs := [13]) (ds_if ((dw_or (dt_ne hr (de_len (by rfl) T.u_len (pa_cons' (dv 13) pa_nil')) (de_add (de_len (by rfl) T.u_len (pa_cons' (dv 5) pa_nil')) de_int)) (dw_or1 (dt_ne hr (de_lc (by rfl) sc_law.nd (di_seq (pe_F (dv 13))) (blk2 (N := ["script", "pool", "sounds", "words", "table", "word", "before", "behind", "one", "two", "first", "both", "k", "stands", "made", "own", "other", "stand"]) (sc := defScope (top 27)) (own := [("stand", 17)]) (by rfl) (by rfl) (by decide +kernel)) (fun _ _ _ _ _ => (dg_name sc_law.nd (i := 17) rfl (Or.inl rfl))) (fun _ _ _ _ _ => dts_nil) (fun _ _ _ _ _ => (pe_F (de_slice (dv 17) do_none (do_some (de_len (by rfl) T.u_len (pa_cons' (dv 8) pa_nil')))))) (by decide)) (dv 15))))).pt (dss_one (ds_ret de_bl)) dss_nil))
    (dss_cons (ds_wipe (vs := [14, 16]) (ds_if ((dw_or (dt_ne hr (de_join (de_str []) (dv 14)) (de_call ((ok_led T).mono (by decide)) hr (by rfl) T.g_led T.F_led.kp (b_led T) (pa_cons' (pe_F (de_add (dv 8) (dv 9))) (pa_cons' (pe_F (dv 5)) pa_nil')))) (dw_or1 (dt_ne hr (de_join (de_str []) (dv 16)) (de_call ((ok_led T).mono (by decide)) hr (by rfl) T.g_led T.F_led.kp (b_led T) (pa_cons' (pe_F (dv 8)) (pa_cons' (pe_F (dv 5)) pa_nil'))))))).pt (dss_one (ds_ret de_bl)) dss_nil))
    (dss_one (ds_wipe (vs := [5, 15]) (ds_dput (hu1 hr) (pv 4) (dv 5) (pe_F (dv 15)))))))))))
    (dss_cons (ds_wipe (vs := [8]) (ds_if (dt_eq hr (de_len (by rfl) T.u_len (pa_cons' (dv 8) pa_nil')) de_int) (dss_one (ds_ret de_bl)) dss_nil))
    (dss_cons (ds_set sc_law.nd (i := 6) rfl (Or.inl rfl) (de_slice (de_lc (by rfl) sc_law.nd (di_seq (pe_F (de_kget (hu1 hr) (dv 4) (de_add (de_ix (dv 3) de_int) (de_ix (dv 3) de_int))))) (blk2 (N := ["script", "pool", "sounds", "words", "table", "word", "before", "behind", "one", "two", "first", "both", "k", "stands", "made", "own", "other", "stand"]) (sc := defScope (top 27)) (own := [("stand", 17)]) (by rfl) (by rfl) (by decide +kernel)) (fun _ _ _ _ _ => (dg_name sc_law.nd (i := 17) rfl (Or.inl rfl))) (fun _ _ _ _ _ => dts_nil) (fun _ _ _ _ _ => (pe_F (de_ix (de_ix (dv 17) de_int) de_int))) (by decide)) do_none (do_some (de_add (de_len (by rfl) T.u_len (pa_cons' (de_ix (dv 3) de_int) pa_nil')) de_int))))
    (dss_cons (ds_wipe (vs := [6]) (ds_if (dt_ne hr (de_slice (de_lc (by rfl) sc_law.nd (di_seq (pe_F (de_kget (hu1 hr) (dv 4) (de_add (de_ix (dv 3) de_int) (de_ix (dv 3) de_int))))) (blk2 (N := ["script", "pool", "sounds", "words", "table", "word", "before", "behind", "one", "two", "first", "both", "k", "stands", "made", "own", "other", "stand"]) (sc := defScope (top 27)) (own := [("stand", 17)]) (by rfl) (by rfl) (by decide +kernel)) (fun _ _ _ _ _ => (dg_name sc_law.nd (i := 17) rfl (Or.inl rfl))) (fun _ _ _ _ _ => dts_nil) (fun _ _ _ _ _ => (pe_F (de_ix (de_ix (dv 17) de_int) de_int))) (by decide)) do_none (do_some (de_add (de_len (by rfl) T.u_len (pa_cons' (de_ix (dv 3) de_int) pa_nil')) de_int))) (dv 6)) (dss_one (ds_ret de_bl)) dss_nil))
    (dss_cons (ds_set sc_law.nd (i := 7) rfl (Or.inl rfl) (de_slice (de_lc (by rfl) sc_law.nd (di_seq (pe_F (de_kget (hu1 hr) (dv 4) (de_add (de_ix (dv 3) de_int) (de_ix (dv 3) de_int))))) (blk2 (N := ["script", "pool", "sounds", "words", "table", "word", "before", "behind", "one", "two", "first", "both", "k", "stands", "made", "own", "other", "stand"]) (sc := defScope (top 27)) (own := [("stand", 17)]) (by rfl) (by rfl) (by decide +kernel)) (fun _ _ _ _ _ => (dg_name sc_law.nd (i := 17) rfl (Or.inl rfl))) (fun _ _ _ _ _ => dts_nil) (fun _ _ _ _ _ => (pe_F (de_ix (de_ix (dv 17) de_int) de_int))) (by decide)) (do_some (de_len (by rfl) T.u_len (pa_cons' (de_ix (dv 3) de_int) pa_nil'))) do_none))
    (dss_one (ds_ret (de_eq hr (de_slice (de_lc (by rfl) sc_law.nd (di_seq (pe_F (de_kget (hu1 hr) (dv 4) (de_add (de_ix (dv 3) de_int) (de_ix (dv 3) de_int))))) (blk2 (N := ["script", "pool", "sounds", "words", "table", "word", "before", "behind", "one", "two", "first", "both", "k", "stands", "made", "own", "other", "stand"]) (sc := defScope (top 27)) (own := [("stand", 17)]) (by rfl) (by rfl) (by decide +kernel)) (fun _ _ _ _ _ => (dg_name sc_law.nd (i := 17) rfl (Or.inl rfl))) (fun _ _ _ _ _ => dts_nil) (fun _ _ _ _ _ => (pe_F (de_ix (de_ix (dv 17) de_int) de_int))) (by decide)) (do_some (de_len (by rfl) T.u_len (pa_cons' (de_ix (dv 3) de_int) pa_nil'))) do_none) (dv 7))))))))))))))
theorem law_ok (T : Tx K mg) (hplain : ∀ ns : List Int, ns.length ≤ 63 → ∃ L2, m_law (lawL 18 ns) = some (.rt (.fro (.bl true)), L2)) : FnOk P w K mg base CX0 9 (He.fAd K ("law", none)) T.d_law ["script"] (spLaw K) := by
  refine T.F_law.ok sc_law (fun vs H Q E ⟨a, ns, e, _⟩ => by rw [e]; rfl) fun cdv A outer s H vs Q E hr h => ?_
  obtain ⟨a, ns, rfl, hS, hl, hQ⟩ := h
  refine ⟨tSeq (tAsg (tCall (spPool K) [] E0 (tCons (tVar 0) tNil)) (gName 1)) (tS (gx P w K) B00 m_law), PSs.nox (pss_cons (ps_set sc_law.nd (i := 1) rfl (Or.inr rfl) (pe_call (E := E0) ((ok__law_pool T).mono (by decide)) hr (by rfl) T.g__law_pool T.F__law_pool.kp (b__law_pool T) .nil pass0 (pa_cons (pv 0) pa_nil))) (law_rest T hr)), ?_⟩
  refine ⟨_, rfl, a, ns, rfl, hS, hl, fun p q H2 npq hp hq hk hp2 hq2 => ?_⟩
  obtain ⟨L2, e⟩ := hplain ns hl
  exact ⟨_, lawL 18 ns, _, L2, law_sim (N := ["script", "pool", "sounds", "words", "table", "word", "before", "behind", "one", "two", "first", "both", "k", "stands", "made", "own", "other", "stand"]) (by decide) npq hp2 hq2, e, fun v σ2 Φ2 H3 le S r => by
    have r2 : Rep (gx P w K) Φ2 (.bl true) v := r
    simp only [Rep] at r2
    subst r2
    exact hQ H3⟩
end
end SS

/-! the head, the join -/
namespace SS
open PySem PySem.Spec PyProof.Rows L2
def dd0 : He.DefD := ⟨("slots_hold", none), "slots_hold", "slots_hold", defArgs (top 3), defBody (top 3), defScope (top 3), [], []⟩
def dd1 : He.DefD := ⟨("applies", none), "applies", "applies", defArgs (top 4), defBody (top 4), defScope (top 4), [], []⟩
def dd2 : He.DefD := ⟨("changed", none), "changed", "changed", defArgs (top 5), defBody (top 5), defScope (top 5), [], []⟩
def dd3 : He.DefD := ⟨("led", none), "led", "led", defArgs (top 6), defBody (top 6), defScope (top 6), [], []⟩
def dd4 : He.DefD := ⟨("before_start", none), "before_start", "before_start", defArgs (top 8), defBody (top 8), defScope (top 8), [], []⟩
def dd5 : He.DefD := ⟨("before_step", none), "before_step", "before_step", defArgs (top 9), defBody (top 9), defScope (top 9), [], []⟩
def dd6 : He.DefD := ⟨("behind_end", none), "behind_end", "behind_end", defArgs (top 10), defBody (top 10), defScope (top 10), [], []⟩
def dd7 : He.DefD := ⟨("behind_step", none), "behind_step", "behind_step", defArgs (top 11), defBody (top 11), defScope (top 11), [], []⟩
def dd8 : He.DefD := ⟨("all_behind", none), "all_behind", "all_behind", defArgs (top 12), defBody (top 12), defScope (top 12), [], []⟩
def dd9 : He.DefD := ⟨("rule_starts", none), "rule_starts", "rule_starts", defArgs (top 13), defBody (top 13), defScope (top 13), [], []⟩
def dd10 : He.DefD := ⟨("rule_steps", none), "rule_steps", "rule_steps", defArgs (top 14), defBody (top 14), defScope (top 14), [], []⟩
def dd11 : He.DefD := ⟨("is_rule_end", none), "is_rule_end", "is_rule_end", defArgs (top 15), defBody (top 15), defScope (top 15), [], []⟩
def dd12 : He.DefD := ⟨("Machine", some "__init__"), "__init__", "Machine.__init__", defArgs (inClass (top 16) 0), defBody (inClass (top 16) 0), defScope (inClass (top 16) 0), [], []⟩
def dd13 : He.DefD := ⟨("Machine", some "starts"), "starts", "Machine.starts", defArgs (inClass (top 16) 1), defBody (inClass (top 16) 1), defScope (inClass (top 16) 1), [], []⟩
def dd14 : He.DefD := ⟨("Machine", some "rule_run"), "rule_run", "Machine.rule_run", defArgs (inClass (top 16) 2), defBody (inClass (top 16) 2), defScope (inClass (top 16) 2), [], []⟩
def dd15 : He.DefD := ⟨("Machine", some "rule_step"), "rule_step", "Machine.rule_step", defArgs (inClass (top 16) 3), defBody (inClass (top 16) 3), defScope (inClass (top 16) 3), [], []⟩
def dd16 : He.DefD := ⟨("Machine", some "steps"), "steps", "Machine.steps", defArgs (inClass (top 16) 4), defBody (inClass (top 16) 4), defScope (inClass (top 16) 4), [], []⟩
def dd17 : He.DefD := ⟨("Machine", some "is_end"), "is_end", "Machine.is_end", defArgs (inClass (top 16) 5), defBody (inClass (top 16) 5), defScope (inClass (top 16) 5), [], []⟩
def dd18 : He.DefD := ⟨("stands_for", none), "stands_for", "stands_for", defArgs (top 17), defBody (top 17), defScope (top 17), [], []⟩
def dd19 : He.DefD := ⟨("_law_pool", none), "_law_pool", "_law_pool", defArgs (top 19), defBody (top 19), defScope (top 19), [], []⟩
def dd20 : He.DefD := ⟨("_law_spread", none), "_law_spread", "_law_spread", defArgs (top 20), defBody (top 20), defScope (top 20), [], []⟩
def dd21 : He.DefD := ⟨("_law_draw", none), "_law_draw", "_law_draw", defArgs (top 21), defBody (top 21), defScope (top 21), [], []⟩
def dd22 : He.DefD := ⟨("_law_lot", none), "_law_lot", "_law_lot", defArgs (top 22), defBody (top 22), defScope (top 22), [], []⟩
def dd23 : He.DefD := ⟨("_law_word", none), "_law_word", "_law_word", defArgs (top 23), defBody (top 23), defScope (top 23), [], []⟩
def dd24 : He.DefD := ⟨("_law_slots", none), "_law_slots", "_law_slots", defArgs (top 24), defBody (top 24), defScope (top 24), [], []⟩
def dd25 : He.DefD := ⟨("_law_law", none), "_law_law", "_law_law", defArgs (top 25), defBody (top 25), defScope (top 25), [], []⟩
def dd26 : He.DefD := ⟨("_law_history", none), "_law_history", "_law_history", defArgs (top 26), defBody (top 26), defScope (top 26), [], []⟩
def dd27 : He.DefD := ⟨("law", none), "law", "law", defArgs (top 27), defBody (top 27), defScope (top 27), [], []⟩
def fn : List He.DefD := [dd0, dd1, dd2, dd3, dd4, dd5, dd6, dd7, dd8, dd9, dd10, dd11, dd12, dd13, dd14, dd15, dd16, dd17, dd18, dd19, dd20, dd21, dd22, dd23, dd24, dd25, dd26, dd27]
def fa : List He.Fa := [
  .glo "slots_hold",
  .glo "applies",
  .glo "changed",
  .glo "led",
  .glo "before_start",
  .glo "before_step",
  .glo "behind_end",
  .glo "behind_step",
  .glo "all_behind",
  .glo "rule_starts",
  .glo "rule_steps",
  .glo "is_rule_end",
  .meth "Machine" "__init__",
  .meth "Machine" "starts",
  .meth "Machine" "rule_run",
  .meth "Machine" "rule_step",
  .meth "Machine" "steps",
  .meth "Machine" "is_end",
  .glo "stands_for",
  .glo "_law_pool",
  .glo "_law_spread",
  .glo "_law_draw",
  .glo "_law_lot",
  .glo "_law_word",
  .glo "_law_slots",
  .glo "_law_law",
  .glo "_law_history",
  .glo "law",
  .glo "Machine",
  .cls "Machine",
  .mkr "Machine",
  .noat "Machine" "sounds",
  .noat "Machine" "history",
  .noat "Machine" "known",
  .str "EDGE" "#",
  .free "len",
  .free "tuple",
  .free "sorted",
  .free "dict",
  .free "int",
  .free "list",
  .free "range",
  .free "zip",
  .free "enumerate",
  .free "all",
  .free "any",
  .free "min",
  .free "max",
  .free "str",
  .free "isinstance",
  .free "set"]
abbrev R : PySem.W.OpenRow := PySem.W.OpenLaw.row PySem.Challenge.rw_soundsled_k46_whole_machines_of_longer_h
abbrev hk : PySem.W.Hook := He.hookD 5 fa fn
def ob (s : PySem.W.SharedT) : He.AlD := He.obsDG 5 fa fn (HandSHeadRun.getT s)
theorem ob_eq (s : PySem.W.SharedT) : ob s = hk.obs s.abs := He.obsDG_eq (HandSHeadRun.getT_eq s)
abbrev loose : List PySem.Str := (["_wall", "EDGE", "slots_hold", "applies", "changed", "led", "before_start", "before_step", "behind_end", "behind_step", "all_behind", "rule_starts", "rule_steps", "is_rule_end", "Machine", "stands_for", "_law_pool", "_law_spread", "_law_draw", "_law_lot", "_law_word", "_law_slots", "_law_law", "_law_history"] : List PySem.Str)
theorem run (w : World) : HandSHeadRun.RunEq R (PySem.W.view R.prog [27]) hk ob 4000 loose w := by
  intro os
  kernel_rfl
theorem tx_of {K : PySem.W.Frag} {h : Heap} {mg : Str → Option Value} (X : K.In h) (G : h.Ns mainGlobals mg) (c : He.SaysD fa fn K) : Nonempty (Tx K mg) := by
  obtain ⟨d0, F0⟩ := c.def_ 0 (d := dd0) rfl
  obtain ⟨d1, F1⟩ := c.def_ 1 (d := dd1) rfl
  obtain ⟨d2, F2⟩ := c.def_ 2 (d := dd2) rfl
  obtain ⟨d3, F3⟩ := c.def_ 3 (d := dd3) rfl
  obtain ⟨d4, F4⟩ := c.def_ 4 (d := dd4) rfl
  obtain ⟨d5, F5⟩ := c.def_ 5 (d := dd5) rfl
  obtain ⟨d6, F6⟩ := c.def_ 6 (d := dd6) rfl
  obtain ⟨d7, F7⟩ := c.def_ 7 (d := dd7) rfl
  obtain ⟨d8, F8⟩ := c.def_ 8 (d := dd8) rfl
  obtain ⟨d9, F9⟩ := c.def_ 9 (d := dd9) rfl
  obtain ⟨d10, F10⟩ := c.def_ 10 (d := dd10) rfl
  obtain ⟨d11, F11⟩ := c.def_ 11 (d := dd11) rfl
  obtain ⟨d12, F12⟩ := c.def_ 12 (d := dd12) rfl
  obtain ⟨d13, F13⟩ := c.def_ 13 (d := dd13) rfl
  obtain ⟨d14, F14⟩ := c.def_ 14 (d := dd14) rfl
  obtain ⟨d15, F15⟩ := c.def_ 15 (d := dd15) rfl
  obtain ⟨d16, F16⟩ := c.def_ 16 (d := dd16) rfl
  obtain ⟨d17, F17⟩ := c.def_ 17 (d := dd17) rfl
  obtain ⟨d18, F18⟩ := c.def_ 18 (d := dd18) rfl
  obtain ⟨d19, F19⟩ := c.def_ 19 (d := dd19) rfl
  obtain ⟨d20, F20⟩ := c.def_ 20 (d := dd20) rfl
  obtain ⟨d21, F21⟩ := c.def_ 21 (d := dd21) rfl
  obtain ⟨d22, F22⟩ := c.def_ 22 (d := dd22) rfl
  obtain ⟨d23, F23⟩ := c.def_ 23 (d := dd23) rfl
  obtain ⟨d24, F24⟩ := c.def_ 24 (d := dd24) rfl
  obtain ⟨d25, F25⟩ := c.def_ 25 (d := dd25) rfl
  obtain ⟨d26, F26⟩ := c.def_ 26 (d := dd26) rfl
  obtain ⟨d27, F27⟩ := c.def_ 27 (d := dd27) rfl
  obtain ⟨t_EDGE, e_EDGE⟩ := He.str_ok X G (c.fact 34 (f := .str "EDGE" "#") rfl)
  exact ⟨⟨d0,
    F0,
    He.glo_ok X G (c.fact 0 (f := .glo "slots_hold") rfl),
    d1,
    F1,
    He.glo_ok X G (c.fact 1 (f := .glo "applies") rfl),
    d2,
    F2,
    He.glo_ok X G (c.fact 2 (f := .glo "changed") rfl),
    d3,
    F3,
    He.glo_ok X G (c.fact 3 (f := .glo "led") rfl),
    d4,
    F4,
    He.glo_ok X G (c.fact 4 (f := .glo "before_start") rfl),
    d5,
    F5,
    He.glo_ok X G (c.fact 5 (f := .glo "before_step") rfl),
    d6,
    F6,
    He.glo_ok X G (c.fact 6 (f := .glo "behind_end") rfl),
    d7,
    F7,
    He.glo_ok X G (c.fact 7 (f := .glo "behind_step") rfl),
    d8,
    F8,
    He.glo_ok X G (c.fact 8 (f := .glo "all_behind") rfl),
    d9,
    F9,
    He.glo_ok X G (c.fact 9 (f := .glo "rule_starts") rfl),
    d10,
    F10,
    He.glo_ok X G (c.fact 10 (f := .glo "rule_steps") rfl),
    d11,
    F11,
    He.glo_ok X G (c.fact 11 (f := .glo "is_rule_end") rfl),
    d12,
    F12,
    He.meth_ok (c.fact 12 (f := .meth "Machine" "__init__") rfl),
    d13,
    F13,
    He.meth_ok (c.fact 13 (f := .meth "Machine" "starts") rfl),
    d14,
    F14,
    He.meth_ok (c.fact 14 (f := .meth "Machine" "rule_run") rfl),
    d15,
    F15,
    He.meth_ok (c.fact 15 (f := .meth "Machine" "rule_step") rfl),
    d16,
    F16,
    He.meth_ok (c.fact 16 (f := .meth "Machine" "steps") rfl),
    d17,
    F17,
    He.meth_ok (c.fact 17 (f := .meth "Machine" "is_end") rfl),
    d18,
    F18,
    He.glo_ok X G (c.fact 18 (f := .glo "stands_for") rfl),
    d19,
    F19,
    He.glo_ok X G (c.fact 19 (f := .glo "_law_pool") rfl),
    d20,
    F20,
    He.glo_ok X G (c.fact 20 (f := .glo "_law_spread") rfl),
    d21,
    F21,
    He.glo_ok X G (c.fact 21 (f := .glo "_law_draw") rfl),
    d22,
    F22,
    He.glo_ok X G (c.fact 22 (f := .glo "_law_lot") rfl),
    d23,
    F23,
    He.glo_ok X G (c.fact 23 (f := .glo "_law_word") rfl),
    d24,
    F24,
    He.glo_ok X G (c.fact 24 (f := .glo "_law_slots") rfl),
    d25,
    F25,
    He.glo_ok X G (c.fact 25 (f := .glo "_law_law") rfl),
    d26,
    F26,
    He.glo_ok X G (c.fact 26 (f := .glo "_law_history") rfl),
    d27,
    F27,
    He.glo_ok X G (c.fact 27 (f := .glo "law") rfl),
    He.glo_ok X G (c.fact 28 (f := .glo "Machine") rfl),
    He.cls_ok (c.fact 29 (f := .cls "Machine") rfl),
    He.mkr_ok (c.fact 30 (f := .mkr "Machine") rfl),
    He.noat_ok (c.fact 31 (f := .noat "Machine" "sounds") rfl),
    He.noat_ok (c.fact 32 (f := .noat "Machine" "history") rfl),
    He.noat_ok (c.fact 33 (f := .noat "Machine" "known") rfl),
    t_EDGE,
    e_EDGE,
    He.free_ok X G (c.fact 35 (f := .free "len") rfl),
    He.free_ok X G (c.fact 36 (f := .free "tuple") rfl),
    He.free_ok X G (c.fact 37 (f := .free "sorted") rfl),
    He.free_ok X G (c.fact 38 (f := .free "dict") rfl),
    He.free_ok X G (c.fact 39 (f := .free "int") rfl),
    He.free_ok X G (c.fact 40 (f := .free "list") rfl),
    He.free_ok X G (c.fact 41 (f := .free "range") rfl),
    He.free_ok X G (c.fact 42 (f := .free "zip") rfl),
    He.free_ok X G (c.fact 43 (f := .free "enumerate") rfl),
    He.free_ok X G (c.fact 44 (f := .free "all") rfl),
    He.free_ok X G (c.fact 45 (f := .free "any") rfl),
    He.free_ok X G (c.fact 46 (f := .free "min") rfl),
    He.free_ok X G (c.fact 47 (f := .free "max") rfl),
    He.free_ok X G (c.fact 48 (f := .free "str") rfl),
    He.free_ok X G (c.fact 49 (f := .free "isinstance") rfl),
    He.free_ok X G (c.fact 50 (f := .free "set") rfl)⟩⟩
end SS
open PySem PySem.W PySem.Calls PyProof.Rows
theorem PySem.Challenge.cw_soundsled_k46_whole_machines_of_longer_h_holds : PySem.Challenge.rw_soundsled_k46_whole_machines_of_longer_h.Holds := by
  w_on; o_law
  refine HandSHeadRun.head_any (r := OpenLaw.row PySem.Challenge.rw_soundsled_k46_whole_machines_of_longer_h) (q := view (OpenLaw.row PySem.Challenge.rw_soundsled_k46_whole_machines_of_longer_h).prog [27]) (H := SS.hk) (ob := SS.ob) (M := 4000) (loose := SS.loose) (d := HandSHeadRun.topDef (OpenLaw.row PySem.Challenge.rw_soundsled_k46_whole_machines_of_longer_h).prog 27) (kwd := []) SS.ob_eq
    (by kernel_rfl) (fun s => by kernel_rfl) SS.run (by kernel_rfl) (by kernel_rfl) (by kernel_rfl) (by rfl) (by first | assumption | decide +kernel) (by decide +kernel) ⟨rfl, rfl, rfl, rfl, rfl, by decide +kernel⟩ ?hw ?hc
  case hw => w_witness2
  case hc =>
    refine L2.walk_ofE (l := PySem.Challenge.rw_soundsled_k46_whole_machines_of_longer_h) (n := 63) (k := 9) (x := "script") (CX := L2.CX0) rfl (by decide) (by kernel_rfl) ⟨rfl, by decide, by decide⟩ ?F (fun _ _ _ _ z => z)
    intro w mg fa h Y G hmg0
    obtain ⟨K, KX, c⟩ := Y
    have hmg : mg ("law" : PySem.Str) = some (.ref fa) := by
      have e : (HandSHeadRun.topDef (OpenLaw.row PySem.Challenge.rw_soundsled_k46_whole_machines_of_longer_h).prog 27).name = ("law" : PySem.Str) := by kernel_rfl
      rw [← e]
      exact hmg0
    obtain ⟨T⟩ := SS.tx_of KX G c
    have e := hmg.symm.trans T.g_law
    cases e
    exact ⟨K, T.d_law, SS.spLaw K, KX, fun s u => L2.FunD.bindsA (ps := ["script"]) T.F_law (fun _ _ _ _ _ _ us hl => match us, hl with | [_], _ => rfl) s [u] rfl, fun H a ns hl _ hS => ⟨a, ns, rfl, hS, hl, fun _ => rfl⟩, fun base _ _ => SS.law_ok T SS.law_plain⟩

