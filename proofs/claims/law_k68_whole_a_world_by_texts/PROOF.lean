import PyProof.Rows.All
import Wide.All
import OpenK.AllK
import Wide.FinOn
import HandS.ForMost
import HandS.Exc
import HandS.TryOnly
import HandS.ExcOwn
import HandS.WordsExc
import HandS.IsInst
import PyProof.EqAt
import PyProof.EqKinds
import PyProof.TupleCall
import HandS.Base
import HandS.Call
import HandS.Ends
import HandS.HeadEnd
import HandS.Defaults
import HandS.CallSlots
import HandS.Iter
import HandS.Text
import HandS.Comp
import HandS.Wide
import HandS.TupAny
import HandS.Deep
import HandS.MapJoin
import HandS.RaiseMore
import HandS.CallLocal
import PyProof.Rows.StrOr
import PyProof.ReprRoads
import KE.KIntText
import HandS.TupSets
import HandS.Conv
import KE.KUnpackStar
import HandS.NoneIn
import HandS.HeadHook1
import HandS.ExcIs
import HandS.Zip
import HandS.ExcValue
import HandS.Style
import HandS.HeadHook4
import HandS.Dict
import HandS.DictComp
import HandS.DictTup
import HandS.DictEq
import HandS.SortOrd
import KE.SortData
import PyProof.Rows.SortWalk
import KE.LtData
import HandS.TupLe
import HandS.More
import KE.KStateDown
import HandS.Words
import HandS.Head0
import HandS.Head1
import HandS.Head2
import HandS.HeadHook2
import HandS.HeadHook3
import PySem.Challenge.RW_leanfar_k68_whole_a_world_by_texts
set_option Elab.async false
set_option linter.all false
set_option maxRecDepth 100000
set_option maxHeartbeats 4000000
/-! Lf1: Python data as plain terms, the memory of what changes, and how both stand in the hand layer's heap. -/
namespace Lf
open PySem PySem.Spec PyProof.Rows L2

/-- data: what never changes is a plain term; what changes is a place in the memory; `gl` is what a module's name holds -/
inductive D where
  | non | bl (b : Bool) | int (i : Int) | str (x : Str)
  | tup (xs : List D) | lst (xs : List D) | scr (xs : List D)
  | ref (i : Nat) | gl (x : Str) | ty (n : String)
  | exc (c : Str) | dct (ks : List L2.Key) (ds : List D) | kt (xs : List D)
  deriving Inhabited

/-- an object that changes -/
inductive MO where
  | lst (xs : List D)
  | dK (kvs : List (L2.Key × D)) | dT (kvs : List (List L2.Key × D))
  | ins (C : Str) (fs : List (Str × D))
  | lk (m : MO)
  | gone
abbrev Mem := List MO
abbrev Sl := List (Option D)

/-- the tracked heap that stays, the addresses of the memory's objects -/
structure Gh where
  G : Hp
  rho : List Addr

/-- what is known of the text -/
structure Ct where
  K : PySem.W.Frag
  mg : Str → Option Value

/-- an exception of the class cls that was caught and is held, at a -/
def ExH (cls : Value) (a : Addr) : HO := .ext fun h => ∃ oe : Obj, ∃ vs : Array Value, (h.get? a = some oe ∧ Zc cls none oe) ∧ oe.data = .fields vs
mutual
/-- the value v is the data d -/
def Rv (C : Ct) (g : Gh) : D → V → Prop
  | .non, v => v = .non
  | .bl b, v => v = .bl b
  | .int i, v => v = .int i
  | .str x, v => v = .str x
  | .tup ds, v => ∃ a vs, v = .ref a ∧ g.G a = some (.tup vs) ∧ RvA C g ds vs
  | .kt ds, v => ∃ a vs, v = .ref a ∧ SqT C.K g.G a vs ∧ RvA C g ds vs
  | .lst ds, v => ∃ a vs, v = .ref a ∧ g.G a = some (.lst vs) ∧ RvA C g ds vs
  | .scr ds, v => ∃ a vs, v = .ref a ∧ SqL C.K g.G a vs ∧ RvA C g ds vs
  | .ref i, v => ∃ a, v = .ref a ∧ g.rho[i]? = some a
  | .gl x, v => ∃ u, C.mg x = some u ∧ RelV v u
  | .ty n, v => v = .ty n
  | .exc c, v => ∃ a u, v = .ref a ∧ C.mg c = some u ∧ g.G a = some (ExH u a)
  | .dct ks ds, v => ∃ a t, v = .ref a ∧ g.G a = some (.dK t) ∧ t.map (·.1) = ks ∧ RvA C g ds (t.map (·.2))
def RvA (C : Ct) (g : Gh) : List D → List V → Prop
  | [], vs => vs = []
  | d :: ds, vs => ∃ v r, vs = v :: r ∧ Rv C g d v ∧ RvA C g ds r
end

def Gh.le (g g' : Gh) : Prop := (∀ a o, g.G a = some o → g'.G a = some o) ∧ ∃ t, g'.rho = g.rho ++ t
instance : LE Gh := ⟨Gh.le⟩
theorem Gh.le_refl (g : Gh) : g ≤ g := ⟨fun _ _ h => h, [], by simp⟩
theorem Gh.le_trans {a b c : Gh} (h : a ≤ b) (k : b ≤ c) : a ≤ c := by
  obtain ⟨h1, t1, e1⟩ := h
  obtain ⟨k1, t2, e2⟩ := k
  exact ⟨fun x o q => k1 x o (h1 x o q), t1 ++ t2, by rw [e2, e1, List.append_assoc]⟩
theorem Gh.le_get {a b : Gh} (h : a ≤ b) {i : Nat} {x : Addr} (e : a.rho[i]? = some x) : b.rho[i]? = some x := by
  obtain ⟨_, t, e1⟩ := h
  rw [e1, List.getElem?_append_left (List.getElem?_eq_some_iff.mp e).1]
  exact e

theorem rd_le {H H' : Hp} {a : Addr} {u : HO} (e : ∀ a o, H a = some o → H' a = some o) (h : Rd H a u) : Rd H' a u := by
  rcases h with h | ⟨o, h⟩
  · exact .inl (e a _ h)
  · exact .inr ⟨o, e a _ h⟩
theorem sqT_le {K : PySem.W.Frag} {H H' : Hp} {a : Addr} {xs : List V} (e : ∀ a o, H a = some o → H' a = some o) (h : SqT K H a xs) : SqT K H' a xs := by
  rcases h with h | h
  · exact .inl (rd_le e h)
  · exact .inr h
theorem sqL_le {K : PySem.W.Frag} {H H' : Hp} {a : Addr} {xs : List V} (e : ∀ a o, H a = some o → H' a = some o) (h : SqL K H a xs) : SqL K H' a xs := by
  rcases h with h | h
  · exact .inl (rd_le e h)
  · exact .inr h

section
variable {C : Ct} {g g' : Gh}
mutual
theorem Rv.mono (h : g ≤ g') : ∀ (d : D) (v : V), Rv C g d v → Rv C g' d v
  | .non, v, r => by simpa only [Rv] using r
  | .bl b, v, r => by simpa only [Rv] using r
  | .int i, v, r => by simpa only [Rv] using r
  | .str x, v, r => by simpa only [Rv] using r
  | .ty x, v, r => by simpa only [Rv] using r
  | .exc x, v, r => by
    simp only [Rv] at r ⊢
    obtain ⟨a, u, e, s, q⟩ := r
    exact ⟨a, u, e, s, h.1 _ _ q⟩
  | .dct ks ds, v, r => by
    simp only [Rv] at r ⊢
    obtain ⟨a, t, e, s, k, q⟩ := r
    exact ⟨a, t, e, h.1 _ _ s, k, RvA.mono h ds _ q⟩
  | .gl x, v, r => by simpa only [Rv] using r
  | .tup ds, v, r => by
    simp only [Rv] at r ⊢
    obtain ⟨a, vs, e, s, q⟩ := r
    exact ⟨a, vs, e, h.1 _ _ s, RvA.mono h ds vs q⟩
  | .kt ds, v, r => by
    simp only [Rv] at r ⊢
    obtain ⟨a, vs, e, s, q⟩ := r
    exact ⟨a, vs, e, sqT_le h.1 s, RvA.mono h ds vs q⟩
  | .lst ds, v, r => by
    simp only [Rv] at r ⊢
    obtain ⟨a, vs, e, s, q⟩ := r
    exact ⟨a, vs, e, h.1 _ _ s, RvA.mono h ds vs q⟩
  | .scr ds, v, r => by
    simp only [Rv] at r ⊢
    obtain ⟨a, vs, e, s, q⟩ := r
    exact ⟨a, vs, e, sqL_le h.1 s, RvA.mono h ds vs q⟩
  | .ref i, v, r => by
    simp only [Rv] at r ⊢
    obtain ⟨a, e, q⟩ := r
    exact ⟨a, e, Gh.le_get h q⟩
theorem RvA.mono (h : g ≤ g') : ∀ (ds : List D) (vs : List V), RvA C g ds vs → RvA C g' ds vs
  | [], vs, r => by simpa only [RvA] using r
  | d :: ds, vs, r => by
    simp only [RvA] at r ⊢
    obtain ⟨v, t, e, r1, r2⟩ := r
    exact ⟨v, t, e, Rv.mono h d v r1, RvA.mono h ds t r2⟩
end

theorem RvA.nil : RvA C g [] [] := by simp only [RvA]
theorem RvA.cons {d : D} {ds : List D} {v : V} {vs : List V} (h : Rv C g d v) (t : RvA C g ds vs) : RvA C g (d :: ds) (v :: vs) := by
  simp only [RvA]
  exact ⟨v, vs, rfl, h, t⟩
theorem RvA.nil_inv {vs : List V} (h : RvA C g [] vs) : vs = [] := by simpa only [RvA] using h
theorem RvA.cons_inv {d : D} {ds : List D} {vs : List V} (h : RvA C g (d :: ds) vs) : ∃ v r, vs = v :: r ∧ Rv C g d v ∧ RvA C g ds r := by simpa only [RvA] using h
theorem RvA.length : ∀ {ds : List D} {vs : List V}, RvA C g ds vs → ds.length = vs.length
  | [], vs, h => by
    rw [h.nil_inv]
    rfl
  | d :: ds, vs, h => by
    obtain ⟨v, r, rfl, _, t⟩ := h.cons_inv
    simp [RvA.length t]
theorem RvA.get : ∀ {ds : List D} {vs : List V}, RvA C g ds vs → ∀ {i : Nat} {d : D}, ds[i]? = some d → ∃ v, vs[i]? = some v ∧ Rv C g d v
  | [], _, _, i, d, e => by simp at e
  | x :: ds, vs, h, 0, d, e => by
    obtain ⟨v, r, rfl, q, _⟩ := h.cons_inv
    simp at e
    subst e
    exact ⟨v, rfl, q⟩
  | x :: ds, vs, h, i + 1, d, e => by
    obtain ⟨v, r, rfl, _, t⟩ := h.cons_inv
    obtain ⟨u, h1, h2⟩ := RvA.get t (i := i) (d := d) (by simpa using e)
    exact ⟨u, by simpa using h1, h2⟩
theorem RvA.getV {ds : List D} {vs : List V} (h : RvA C g ds vs) {i : Nat} {v : V} (e : vs[i]? = some v) : ∃ d, ds[i]? = some d ∧ Rv C g d v := by
  have hl := h.length
  have hi := (List.getElem?_eq_some_iff.mp e).1
  obtain ⟨u, e2, r⟩ := h.get (i := i) (d := ds[i]) (by rw [List.getElem?_eq_getElem])
  rw [e] at e2
  cases e2
  exact ⟨_, List.getElem?_eq_getElem (by omega), r⟩
theorem RvA.append : ∀ {ds es : List D} {vs us : List V}, RvA C g ds vs → RvA C g es us → RvA C g (ds ++ es) (vs ++ us)
  | [], es, vs, us, h, k => by rw [h.nil_inv]; exact k
  | d :: ds, es, vs, us, h, k => by
    obtain ⟨v, r, rfl, q, t⟩ := h.cons_inv
    exact RvA.cons q (RvA.append t k)
theorem RvA.of_get : ∀ {ds : List D} {vs : List V}, ds.length = vs.length → (∀ (i : Nat) (d : D) (v : V), ds[i]? = some d → vs[i]? = some v → Rv C g d v) → RvA C g ds vs
  | [], [], _, _ => RvA.nil
  | [], _ :: _, h, _ => by simp at h
  | _ :: _, [], h, _ => by simp at h
  | d :: ds, v :: vs, h, k => RvA.cons (k 0 d v rfl rfl) (RvA.of_get (by simpa using h) fun i d' v' e1 e2 => k (i + 1) d' v' (by simpa using e1) (by simpa using e2))
theorem RvA.take {ds : List D} {vs : List V} (n : Nat) (h : RvA C g ds vs) : RvA C g (ds.take n) (vs.take n) := by
  refine RvA.of_get (by simp [h.length]) fun i d v e1 e2 => ?_
  rw [List.getElem?_take] at e1 e2
  split at e1
  · rename_i hi
    rw [if_pos hi] at e2
    obtain ⟨u, e3, r⟩ := h.get e1
    rw [e2] at e3; cases e3
    exact r
  · cases e1
theorem RvA.drop {ds : List D} {vs : List V} (n : Nat) (h : RvA C g ds vs) : RvA C g (ds.drop n) (vs.drop n) := by
  refine RvA.of_get (by simp [h.length]) fun i d v e1 e2 => ?_
  rw [List.getElem?_drop] at e1 e2
  obtain ⟨u, e3, r⟩ := h.get e1
  rw [e2] at e3; cases e3
  exact r
theorem RvA.reverse {ds : List D} {vs : List V} (h : RvA C g ds vs) : RvA C g ds.reverse vs.reverse := by
  have hl := h.length
  refine RvA.of_get (by simp [hl]) fun i d v e1 e2 => ?_
  have hi : i < ds.reverse.length := (List.getElem?_eq_some_iff.mp e1).1
  rw [List.length_reverse] at hi
  rw [List.getElem?_reverse (by omega)] at e1 e2
  obtain ⟨u, e3, r⟩ := h.get e1
  rw [← hl, e3] at e2; cases e2
  exact r
theorem RvA.set {ds : List D} {vs : List V} {d : D} {v : V} (n : Nat) (h : RvA C g ds vs) (r : Rv C g d v) : RvA C g (ds.set n d) (vs.set n v) := by
  have hl := h.length
  refine RvA.of_get (by simp [hl]) fun i d' v' e1 e2 => ?_
  rw [List.getElem?_set] at e1 e2
  split at e1
  · rename_i hi
    rw [if_pos hi] at e2
    split at e1
    · rename_i hj
      rw [if_pos (by omega)] at e2
      cases e1
      cases e2
      exact r
    · cases e1
  · rename_i hi
    rw [if_neg hi] at e2
    obtain ⟨u, e3, q⟩ := h.get e1
    rw [e2] at e3; cases e3
    exact q
theorem RvA.eraseIdx : ∀ {ds : List D} {vs : List V} (n : Nat), RvA C g ds vs → RvA C g (ds.eraseIdx n) (vs.eraseIdx n)
  | [], vs, n, h => by rw [h.nil_inv]; exact RvA.nil
  | d :: ds, vs, 0, h => by
    obtain ⟨v, r, rfl, q, t⟩ := h.cons_inv
    exact t
  | d :: ds, vs, n + 1, h => by
    obtain ⟨v, r, rfl, q, t⟩ := h.cons_inv
    exact RvA.cons q (RvA.eraseIdx n t)
theorem RvA.dropLast {ds : List D} {vs : List V} (h : RvA C g ds vs) : RvA C g ds.dropLast vs.dropLast := by
  rw [List.dropLast_eq_take, List.dropLast_eq_take, h.length]
  exact h.take _
theorem RvA.strs : ∀ {xs : List Str} {vs : List V}, RvA C g (xs.map D.str) vs → vs = xs.map V.str
  | [], vs, h => h.nil_inv
  | x :: xs, vs, h => by
    obtain ⟨v, r, rfl, q, t⟩ := h.cons_inv
    simp only [Rv] at q
    rw [q, RvA.strs t]
    rfl
theorem RvA.of_strs : ∀ {xs : List Str}, RvA C g (xs.map D.str) (xs.map V.str)
  | [] => RvA.nil
  | _ :: xs => RvA.cons (by simp only [Rv]) (RvA.of_strs (xs := xs))
theorem RvA.bls : ∀ {xs : List Bool} {vs : List V}, RvA C g (xs.map D.bl) vs → vs = xs.map V.bl
  | [], vs, h => h.nil_inv
  | x :: xs, vs, h => by
    obtain ⟨v, r, rfl, q, t⟩ := h.cons_inv
    simp only [Rv] at q
    rw [q, RvA.bls t]
    rfl
theorem RvA.ints : ∀ {xs : List Int} {vs : List V}, RvA C g (xs.map D.int) vs → vs = xs.map V.int
  | [], vs, h => h.nil_inv
  | x :: xs, vs, h => by
    obtain ⟨v, r, rfl, q, t⟩ := h.cons_inv
    simp only [Rv] at q
    rw [q, RvA.ints t]
    rfl
end

/-! ### the memory's objects -/
/-- a key's data -/
def keyD : L2.Key → D
  | .inl i => .int i
  | .inr x => .str x
/-- a dict's pairs: plain keys, or rows of plain keys -/
inductive RKv {κ : Type} (C : Ct) (g : Gh) : List (κ × D) → List (κ × V) → Prop
  | nil : RKv C g [] []
  | cons {k : κ} {d : D} {v : V} {r : List (κ × D)} {t : List (κ × V)} : Rv C g d v → RKv C g r t → RKv C g ((k, d) :: r) ((k, v) :: t)
inductive RFs (C : Ct) (g : Gh) : List (Str × D) → List (Str × V) → Prop
  | nil : RFs C g [] []
  | cons {x : Str} {d : D} {v : V} {r : List (Str × D)} {t : List (Str × V)} : Rv C g d v → RFs C g r t → RFs C g ((x, d) :: r) ((x, v) :: t)
/-- an object of the memory, as it stands -/
inductive RO (C : Ct) (g : Gh) : MO → HO → Prop
  | lst {ds : List D} {vs : List V} : RvA C g ds vs → RO C g (.lst ds) (.lst vs)
  | dK {kvs : List (L2.Key × D)} {t : List (L2.Key × V)} : RKv C g kvs t → RO C g (.dK kvs) (.dK t)
  | dT {kvs : List (List L2.Key × D)} {t : List (List L2.Key × V)} : RKv C g kvs t → RO C g (.dT kvs) (.dT t)
  | ins {x : Str} {c dx : Addr} {fs : List (Str × D)} {t : List (Str × V)} : C.mg x = some (.ref c) → RFs C g fs t → RO C g (.ins x fs) (.ins c dx t)
  | lk {m : MO} {o : HO} {ob : Obj} : RO C g m o → RO C g (.lk m) (.frz ob o)
section
variable {C : Ct} {g g' : Gh}
theorem RKv.mono {κ : Type} (h : g ≤ g') : ∀ {r : List (κ × D)} {t : List (κ × V)}, RKv C g r t → RKv C g' r t
  | _, _, .nil => .nil
  | _, _, .cons a b => .cons (Rv.mono h _ _ a) (RKv.mono h b)
theorem RFs.mono (h : g ≤ g') : ∀ {r : List (Str × D)} {t : List (Str × V)}, RFs C g r t → RFs C g' r t
  | _, _, .nil => .nil
  | _, _, .cons a b => .cons (Rv.mono h _ _ a) (RFs.mono h b)
theorem RO.mono (h : g ≤ g') {m : MO} {o : HO} (r : RO C g m o) : RO C g' m o := by
  induction r with
  | lst r => exact .lst (RvA.mono h _ _ r)
  | dK r => exact .dK (r.mono h)
  | dT r => exact .dT (r.mono h)
  | ins e r => exact .ins e (r.mono h)
  | lk r ih => exact .lk ih
theorem RO.not_gone {o : HO} (r : RO C g .gone o) : False := by cases r
end

/-- slots -/
def SlR (C : Ct) (g : Gh) (σ : L2.St) (σD : Sl) : Prop := σ.length = σD.length ∧ ∀ (i : Nat) (d : D), σD[i]? = some (some d) → ∃ v, σ[i]? = some (some v) ∧ Rv C g d v
theorem SlR.mono {C : Ct} {g g' : Gh} (h : g ≤ g') {σ : L2.St} {σD : Sl} (r : SlR C g σ σD) : SlR C g' σ σD :=
  ⟨r.1, fun i d e => let ⟨v, a, b⟩ := r.2 i d e; ⟨v, a, Rv.mono h _ _ b⟩⟩
theorem SlR.nil {C : Ct} {g : Gh} : SlR C g [] [] := ⟨rfl, fun i d e => by simp at e⟩
theorem SlR.set {C : Ct} {g : Gh} {σ : L2.St} {σD : Sl} (r : SlR C g σ σD) (i : Nat) {d : D} {v : V} (q : Rv C g d v) : SlR C g (σ.set i (some v)) (σD.set i (some d)) := by
  refine ⟨by simp [r.1], fun j d' e => ?_⟩
  by_cases hj : i = j
  · subst hj
    rw [List.getElem?_set] at e ⊢
    simp only [if_true] at e ⊢
    split at e
    · rename_i hi
      simp only [Option.some.injEq] at e
      rw [if_pos (by rw [r.1]; exact hi)]
      exact ⟨v, rfl, by rw [← e]; exact q⟩
    · cases e
  · rw [List.getElem?_set_ne hj] at e ⊢
    exact r.2 j d' e
theorem SlR.wipe1 {C : Ct} {g : Gh} {σ : L2.St} {σD : Sl} (r : SlR C g σ σD) (i : Nat) : SlR C g (σ.set i none) (σD.set i none) := by
  refine ⟨by simp [r.1], fun j d' e => ?_⟩
  by_cases hj : i = j
  · subst hj
    rw [List.getElem?_set] at e
    simp only [if_true] at e
    split at e <;> cases e
  · rw [List.getElem?_set_ne hj] at e ⊢
    exact r.2 j d' e
def wipeD (σ : Sl) : List Nat → Sl
  | [] => σ
  | v :: vs => (wipeD σ vs).set v none
theorem SlR.wipe {C : Ct} {g : Gh} {σ : L2.St} {σD : Sl} (r : SlR C g σ σD) : ∀ vs : List Nat, SlR C g (L2.wipe σ vs) (wipeD σD vs)
  | [] => r
  | v :: vs => (SlR.wipe r vs).wipe1 v

/-- slots and memory as they stand -/
structure Conc (C : Ct) (g : Gh) (σ : L2.St) (σD : Sl) (M : Mem) (H : Hp) : Prop where
  le : ∀ a o, g.G a = some o → H a = some o
  len : g.rho.length = M.length
  nd : g.rho.Nodup
  there : ∀ a ∈ g.rho, ∃ o, H a = some o
  out : ∀ (i : Nat) (a : Addr) (m : MO), g.rho[i]? = some a → M[i]? = some m → m ≠ .gone → g.G a = none
  obj : ∀ (i : Nat) (a : Addr) (m : MO), g.rho[i]? = some a → M[i]? = some m → m ≠ .gone → ∃ o, H a = some o ∧ RO C g m o
  sl : SlR C g σ σD
section
variable {C : Ct} {g g' : Gh} {σ σ' : L2.St} {σD σD' : Sl} {M M' : Mem} {H H' : Hp}
theorem Conc.slots (c : Conc C g σ σD M H) (r : SlR C g σ' σD') : Conc C g σ' σD' M H := ⟨c.le, c.len, c.nd, c.there, c.out, c.obj, r⟩
theorem Conc.noslots (c : Conc C g σ σD M H) : Conc C g [] [] M H := c.slots SlR.nil
theorem Conc.set (c : Conc C g σ σD M H) (i : Nat) {d : D} {v : V} (q : Rv C g d v) : Conc C g (σ.set i (some v)) (σD.set i (some d)) M H := c.slots (c.sl.set i q)
theorem Conc.var (c : Conc C g σ σD M H) {i : Nat} {d : D} (e : σD[i]? = some (some d)) : ∃ v, σ[i]? = some (some v) ∧ Rv C g d v := c.sl.2 i d e
theorem Conc.fresh (c : Conc C g σ σD M H) {p : Addr} (h : H p = none) : g.G p = none ∧ p ∉ g.rho := by
  refine ⟨?_, fun hm => ?_⟩
  · cases e : g.G p with
    | none => rfl
    | some o => rw [c.le p o e] at h; cases h
  · obtain ⟨o, e⟩ := c.there p hm
    rw [e] at h; cases h
/-- a new object that stays -/
theorem Conc.frz (c : Conc C g σ σD M H) {p : Addr} {o : HO} (h : H p = none) : g ≤ ⟨upd g.G p o, g.rho⟩ ∧ Conc C ⟨upd g.G p o, g.rho⟩ σ σD M (upd H p o) := by
  obtain ⟨h1, h2⟩ := c.fresh h
  have le : g ≤ ⟨upd g.G p o, g.rho⟩ := ⟨fun a u e => by
    show upd g.G p o a = some u
    rw [upd_ne (ne_of_none e h1)]
    exact e, [], by simp⟩
  have ne : ∀ a ∈ g.rho, a ≠ p := fun a ha e => h2 (e ▸ ha)
  refine ⟨le, ⟨fun a u e => ?_, c.len, c.nd, fun a ha => ?_, fun i a m e1 e2 e3 => ?_, fun i a m e1 e2 e3 => ?_, c.sl.mono le⟩⟩
  · have e' : upd g.G p o a = some u := e
    by_cases ha : a = p
    · subst ha
      rw [upd_same] at e' ⊢
      exact e'
    · rw [upd_ne ha] at e' ⊢
      exact c.le a u e'
  · rw [upd_ne (ne a ha)]
    exact c.there a ha
  · show upd g.G p o a = none
    rw [upd_ne (ne a (List.mem_of_getElem? e1))]
    exact c.out i a m e1 e2 e3
  · obtain ⟨o', e4, r⟩ := c.obj i a m e1 e2 e3
    exact ⟨o', by rw [upd_ne (ne a (List.mem_of_getElem? e1))]; exact e4, r.mono le⟩
/-- a new object of the memory -/
theorem Conc.new (c : Conc C g σ σD M H) {p : Addr} {o : HO} {m : MO} (h : H p = none) (r : RO C g m o) : g ≤ ⟨g.G, g.rho ++ [p]⟩ ∧ Conc C ⟨g.G, g.rho ++ [p]⟩ σ σD (M ++ [m]) (upd H p o) ∧ Rv C ⟨g.G, g.rho ++ [p]⟩ (.ref M.length) (.ref p) := by
  obtain ⟨h1, h2⟩ := c.fresh h
  have le : g ≤ ⟨g.G, g.rho ++ [p]⟩ := ⟨fun a u e => e, [p], rfl⟩
  have ne : ∀ a ∈ g.rho, a ≠ p := fun a ha e => h2 (e ▸ ha)
  refine ⟨le, ⟨fun a u e => ?_, ?_, ?_, fun a ha => ?_, fun i a m' e1 e2 e3 => ?_, fun i a m' e1 e2 e3 => ?_, c.sl.mono le⟩, ?_⟩
  · rw [upd_ne (ne_of_none e h1)]
    exact c.le a u e
  · simp [c.len]
  · show (g.rho ++ [p]).Nodup
    rw [List.nodup_append]
    refine ⟨c.nd, by simp, fun a ha b hb => ?_⟩
    simp at hb
    subst hb
    exact ne a ha
  · rcases List.mem_append.mp ha with ha | ha
    · rw [upd_ne (ne a ha)]
      exact c.there a ha
    · simp at ha
      subst ha
      exact ⟨o, upd_same⟩
  · show g.G a = none
    have e1' : (g.rho ++ [p])[i]? = some a := e1
    by_cases hi : i < g.rho.length
    · rw [List.getElem?_append_left hi] at e1'
      rw [List.getElem?_append_left (by rw [← c.len]; exact hi)] at e2
      exact c.out i a m' e1' e2 e3
    · rw [List.getElem?_append_right (by omega)] at e1'
      have : a ∈ [p] := List.mem_of_getElem? e1'
      simp at this
      subst this
      exact h1
  · have e1' : (g.rho ++ [p])[i]? = some a := e1
    by_cases hi : i < g.rho.length
    · rw [List.getElem?_append_left hi] at e1'
      rw [List.getElem?_append_left (by rw [← c.len]; exact hi)] at e2
      obtain ⟨o', e4, r'⟩ := c.obj i a m' e1' e2 e3
      exact ⟨o', by rw [upd_ne (ne a (List.mem_of_getElem? e1'))]; exact e4, r'.mono le⟩
    · have hl := c.len
      rw [List.getElem?_append_right (by omega)] at e1'
      rw [List.getElem?_append_right (by omega)] at e2
      have ha : a ∈ [p] := List.mem_of_getElem? e1'
      have hm : m' ∈ [m] := List.mem_of_getElem? e2
      simp at ha hm
      subst ha hm
      exact ⟨o, upd_same, r.mono le⟩
  · simp only [Rv]
    refine ⟨p, rfl, ?_⟩
    rw [← c.len]
    simp
/-- an object of the memory is written -/
theorem Conc.write (c : Conc C g σ σD M H) {i : Nat} {a : Addr} {m m' : MO} {o : HO} (e1 : g.rho[i]? = some a) (e2 : M[i]? = some m) (e3 : m ≠ .gone) (r : RO C g m' o) : Conc C g σ σD (M.set i m') (upd H a o) := by
  have ga := c.out i a m e1 e2 e3
  have hi : i < M.length := (List.getElem?_eq_some_iff.mp e2).1
  refine ⟨fun b u e => ?_, by simp [c.len], c.nd, fun b hb => ?_, fun j b n e4 e5 e6 => ?_, fun j b n e4 e5 e6 => ?_, c.sl⟩
  · rw [upd_ne (ne_of_none e ga)]
    exact c.le b u e
  · by_cases hba : b = a
    · subst hba
      exact ⟨o, upd_same⟩
    · rw [upd_ne hba]
      exact c.there b hb
  · by_cases hj : i = j
    · subst hj
      rw [e1] at e4; cases e4
      exact ga
    · rw [List.getElem?_set_ne hj] at e5
      exact c.out j b n e4 e5 e6
  · by_cases hj : i = j
    · subst hj
      rw [e1] at e4; cases e4
      rw [List.getElem?_set_self hi] at e5
      cases e5
      exact ⟨o, upd_same, r⟩
    · rw [List.getElem?_set_ne hj] at e5
      obtain ⟨o', e7, r'⟩ := c.obj j b n e4 e5 e6
      refine ⟨o', ?_, r'⟩
      have hba : b ≠ a := fun q => by
        subst q
        obtain ⟨h1, q1⟩ := List.getElem?_eq_some_iff.mp e1
        obtain ⟨h2, q2⟩ := List.getElem?_eq_some_iff.mp e4
        exact hj ((List.getElem_inj c.nd).mp (q1.trans q2.symm))
      rw [upd_ne hba]
      exact e7
/-- a list of the memory stays from now on -/
theorem Conc.freeze (c : Conc C g σ σD M H) {i : Nat} {a : Addr} {ds : List D} (e1 : g.rho[i]? = some a) (e2 : M[i]? = some (.lst ds)) :
    ∃ g', g ≤ g' ∧ (g'.rho = g.rho ∧ ∀ b, b ≠ a → g'.G b = g.G b) ∧ Conc C g' σ σD (M.set i .gone) H ∧ Rv C g' (.lst ds) (.ref a) := by
  obtain ⟨o, ho, r⟩ := c.obj i a _ e1 e2 (by intro z; cases z)
  have ga := c.out i a _ e1 e2 (by intro z; cases z)
  have hi : i < M.length := (List.getElem?_eq_some_iff.mp e2).1
  cases r with
  | lst r =>
    rename_i vs
    have le : g ≤ ⟨upd g.G a (.lst vs), g.rho⟩ := ⟨fun b u e => by
      show upd g.G a _ b = some u
      rw [upd_ne (ne_of_none e ga)]
      exact e, [], by simp⟩
    refine ⟨_, le, ⟨rfl, fun b hb => upd_ne hb⟩, ⟨fun b u e => ?_, by simp [c.len], c.nd, c.there, fun j b n e4 e5 e6 => ?_, fun j b n e4 e5 e6 => ?_, c.sl.mono le⟩, ?_⟩
    · have e' : upd g.G a (.lst vs) b = some u := e
      by_cases hb : b = a
      · subst hb
        rw [upd_same] at e'
        cases e'
        exact ho
      · rw [upd_ne hb] at e'
        exact c.le b u e'
    · by_cases hj : i = j
      · subst hj
        rw [List.getElem?_set_self hi] at e5
        cases e5
        exact absurd rfl e6
      · rw [List.getElem?_set_ne hj] at e5
        have hba : b ≠ a := fun q => by
          subst q
          obtain ⟨h1, q1⟩ := List.getElem?_eq_some_iff.mp e1
          obtain ⟨h2, q2⟩ := List.getElem?_eq_some_iff.mp e4
          exact hj ((List.getElem_inj c.nd).mp (q1.trans q2.symm))
        show upd g.G a _ b = none
        rw [upd_ne hba]
        exact c.out j b n e4 e5 e6
    · by_cases hj : i = j
      · subst hj
        rw [List.getElem?_set_self hi] at e5
        cases e5
        exact absurd rfl e6
      · rw [List.getElem?_set_ne hj] at e5
        obtain ⟨o', e7, r'⟩ := c.obj j b n e4 e5 e6
        exact ⟨o', e7, r'.mono le⟩
    · simp only [Rv]
      exact ⟨a, vs, rfl, upd_same, RvA.mono le _ _ r⟩
end
/-- the ghost grows, and what is tracked beside the memory stays beside it, as it is -/
def GK (o : HO) (x y : Option HO) : Prop := x = y ∨ ∃ vs, o = .tup vs
theorem GK.trans {o : HO} {x y z : Option HO} (h : GK o x y) (k : GK o y z) : GK o x z := by
  rcases h with h | h
  · rcases k with k | k
    · exact .inl (h.trans k)
    · exact .inr k
  · exact .inr h
theorem GK.l {vs : List V} {x y : Option HO} (h : GK (.lst vs) x y) : x = y := by
  rcases h with h | ⟨_, h⟩
  · exact h
  · cases h
theorem GK.d {t : List (L2.Key × V)} {x y : Option HO} (h : GK (.dK t) x y) : x = y := by
  rcases h with h | ⟨_, h⟩
  · exact h
  · cases h
theorem GK.t {t : List (List L2.Key × V)} {x y : Option HO} (h : GK (.dT t) x y) : x = y := by
  rcases h with h | ⟨_, h⟩
  · exact h
  · cases h
structure Le (g : Gh) (H : Hp) (g' : Gh) (H' : Hp) : Prop where
  gh : g ≤ g'
  out : ∀ a o, H a = some o → a ∉ g.rho → a ∉ g'.rho ∧ H' a = some o ∧ GK o (g'.G a) (g.G a)
  frz : ∀ a o u, H a = some (.frz o u) → H' a = some (.frz o u)
theorem Le.refl (g : Gh) (H : Hp) : Le g H g H := ⟨Gh.le_refl g, fun _ _ h k => ⟨k, h, .inl rfl⟩, fun _ _ _ e => e⟩
theorem Le.trans {a b c : Gh} {H H1 H2 : Hp} (h : Le a H b H1) (k : Le b H1 c H2) : Le a H c H2 :=
  ⟨Gh.le_trans h.gh k.gh, fun x o e n => let ⟨n1, e1, q1⟩ := h.out x o e n; let ⟨n2, e2, q2⟩ := k.out x o e1 n1; ⟨n2, e2, q2.trans q1⟩, fun x o u e => k.frz x o u (h.frz x o u e)⟩
section
variable {C : Ct} {g g' : Gh} {σ σ' : L2.St} {σD σD' : Sl} {M M' : Mem} {H H' : Hp}
theorem Conc.frzL (c : Conc C g σ σD M H) {p : Addr} {o : HO} (h : H p = none) : Le g H ⟨upd g.G p o, g.rho⟩ (upd H p o) ∧ Conc C ⟨upd g.G p o, g.rho⟩ σ σD M (upd H p o) := by
  obtain ⟨l, c2⟩ := c.frz (o := o) h
  refine ⟨⟨l, fun a u e n => ⟨n, ?_, .inl ?_⟩, fun a o' u e => by rw [upd_ne (ne_of_none e h)]; exact e⟩, c2⟩
  · rw [upd_ne (ne_of_none e h)]
    exact e
  · show upd g.G p o a = g.G a
    rw [upd_ne (ne_of_none e h)]
theorem Conc.newL (c : Conc C g σ σD M H) {p : Addr} {o : HO} {m : MO} (h : H p = none) (r : RO C g m o) : Le g H ⟨g.G, g.rho ++ [p]⟩ (upd H p o) ∧ Conc C ⟨g.G, g.rho ++ [p]⟩ σ σD (M ++ [m]) (upd H p o) ∧ Rv C ⟨g.G, g.rho ++ [p]⟩ (.ref M.length) (.ref p) := by
  obtain ⟨l, c2⟩ := c.new h r
  refine ⟨⟨l, fun a u e n => ⟨fun hm => ?_, ?_, .inl rfl⟩, fun a o' u e => by rw [upd_ne (ne_of_none e h)]; exact e⟩, c2⟩
  · have hm' : a ∈ g.rho ++ [p] := hm
    rcases List.mem_append.mp hm' with z | z
    · exact n z
    · simp at z
      subst z
      rw [h] at e
      cases e
  · rw [upd_ne (ne_of_none e h)]
    exact e
theorem Conc.writeL (c : Conc C g σ σD M H) {i : Nat} {a : Addr} {m m' : MO} {o : HO} (e1 : g.rho[i]? = some a) (e2 : M[i]? = some m) (e3 : m ≠ .gone) (r : RO C g m' o) (nl : ∀ z, m ≠ .lk z := by intro _ z; cases z) : Le g H g (upd H a o) ∧ Conc C g σ σD (M.set i m') (upd H a o) := by
  obtain ⟨o0, ho, ro⟩ := c.obj i a m e1 e2 e3
  have hf : ∀ o' u', o0 ≠ .frz o' u' := fun o' u' z => by
    subst z
    cases ro
    exact nl _ rfl
  refine ⟨⟨Gh.le_refl g, fun b u e n => ⟨n, ?_, .inl rfl⟩, fun b o' u' e => ?_⟩, c.write e1 e2 e3 r⟩
  rotate_left
  · by_cases hb : b = a
    · subst hb
      rw [ho] at e
      cases e
      exact absurd rfl (hf _ _)
    · rw [upd_ne hb]
      exact e
  rw [upd_ne (fun z => n (by rw [z]; exact List.mem_of_getElem? e1))]
  exact e
theorem Conc.freezeL (c : Conc C g σ σD M H) {i : Nat} {a : Addr} {ds : List D} (e1 : g.rho[i]? = some a) (e2 : M[i]? = some (.lst ds)) :
    ∃ g', Le g H g' H ∧ Conc C g' σ σD (M.set i .gone) H ∧ Rv C g' (.lst ds) (.ref a) := by
  obtain ⟨g', l, ⟨hr, hg⟩, c2, r⟩ := c.freeze e1 e2
  exact ⟨g', ⟨l, fun b u e n => ⟨by rw [hr]; exact n, e, .inl <| hg b fun z => n (by rw [z]; exact List.mem_of_getElem? e1)⟩, fun _ _ _ e => e⟩, c2, r⟩
/-- an object beside the memory may be anything -/
theorem Conc.other (c : Conc C g σ σD M H) {p : Addr} {o : HO} (h1 : g.G p = none) (h2 : p ∉ g.rho) : Conc C g σ σD M (upd H p o) := by
  have ne : ∀ a ∈ g.rho, a ≠ p := fun a ha e => h2 (e ▸ ha)
  refine ⟨fun a u e => ?_, c.len, c.nd, fun a ha => ?_, c.out, fun i a m e1 e2 e3 => ?_, c.sl⟩
  · rw [upd_ne (ne_of_none e h1)]
    exact c.le a u e
  · rw [upd_ne (ne a ha)]
    exact c.there a ha
  · rw [upd_ne (ne a (List.mem_of_getElem? e1))]
    exact c.obj i a m e1 e2 e3
theorem Le.other {g g' : Gh} {H H' : Hp} (l : Le g H g' H') {p : Addr} {o : HO} (h : H p = none) : Le g H g' (upd H' p o) := by
  refine ⟨l.gh, fun a u e n => ?_, fun a o' u e => by rw [upd_ne (ne_of_none e h)]; exact l.frz a o' u e⟩
  obtain ⟨n1, e1, q1⟩ := l.out a u e n
  exact ⟨n1, by rw [upd_ne (ne_of_none e h)]; exact e1, q1⟩
/-- a list beside the memory stays from now on -/
theorem Conc.keep (c : Conc C g σ σD M H) {p : Addr} {vs : List V} {ds : List D} (h1 : g.G p = none) (h2 : p ∉ g.rho) (e : H p = some (.lst vs)) (r : RvA C g ds vs) :
    Conc C ⟨upd g.G p (.lst vs), g.rho⟩ σ σD M H ∧ g ≤ ⟨upd g.G p (.lst vs), g.rho⟩ ∧ Rv C ⟨upd g.G p (.lst vs), g.rho⟩ (.lst ds) (.ref p) := by
  have le : g ≤ ⟨upd g.G p (.lst vs), g.rho⟩ := ⟨fun b u e => by
    show upd g.G p _ b = some u
    rw [upd_ne (ne_of_none e h1)]
    exact e, [], by simp⟩
  have ne : ∀ a ∈ g.rho, a ≠ p := fun a ha e => h2 (e ▸ ha)
  refine ⟨⟨fun b u q => ?_, c.len, c.nd, c.there, fun i a m e1 e2 e3 => ?_, fun i a m e1 e2 e3 => ?_, c.sl.mono le⟩, le, ?_⟩
  · have q' : upd g.G p (.lst vs) b = some u := q
    by_cases hb : b = p
    · subst hb
      rw [upd_same] at q'
      cases q'
      exact e
    · rw [upd_ne hb] at q'
      exact c.le b u q'
  · show upd g.G p _ a = none
    rw [upd_ne (ne a (List.mem_of_getElem? e1))]
    exact c.out i a m e1 e2 e3
  · obtain ⟨o, ho, ro⟩ := c.obj i a m e1 e2 e3
    exact ⟨o, ho, ro.mono le⟩
  · simp only [Rv]
    exact ⟨p, vs, rfl, upd_same, RvA.mono le _ _ r⟩
end
end Lf

/-! Lf2: what a piece of code does, as a plain function of slots and memory; its reading in the hand layer; blocks, tests, calls of defs. -/
namespace Lf
open PySem PySem.Spec PyProof.Rows L2

inductive RE (α : Type) where
  | ok (a : α) (M : Mem) | ex (c : Str) (M : Mem) | bad
inductive RS where
  | nx (σ : Sl) (M : Mem) | rt (d : D) (M : Mem) | bk (σ : Sl) (M : Mem) | ct (σ : Sl) (M : Mem) | ex (c : Str) (σ : Sl) (M : Mem) | bad
def RE.bind {α β : Type} (r : RE α) (k : α → Mem → RE β) : RE β := match r with
  | .ok a M => k a M
  | .ex c M => .ex c M
  | .bad => .bad
abbrev SE := Sl → Mem → RE D
abbrev ST := Sl → Mem → RE Bool
abbrev SA := Sl → Mem → RE (List D)
abbrev SS := Sl → Mem → RS
abbrev SF := List D → Mem → RE D
@[simp] theorem RE.bind_ok {α β : Type} (a : α) (M : Mem) (k : α → Mem → RE β) : (RE.ok a M).bind k = k a M := rfl
@[simp] theorem RE.bind_ex {α β : Type} (c : Str) (M : Mem) (k : α → Mem → RE β) : (RE.ex c M).bind k = .ex c M := rfl
@[simp] theorem RE.bind_bad {α β : Type} (k : α → Mem → RE β) : (RE.bad : RE α).bind k = .bad := rfl

/-- what must hold behind it -/
def RE.post {α : Type} (C : Ct) (W : WX) (g : Gh) (H : Hp) (σ : L2.St) (σD : Sl) (Q : Gh → α → Mem → Hp → Prop) : RE α → Prop
  | .ok a M => ∀ g' H', Le g H g' H' → Conc C g' σ σD M H' → Q g' a M H'
  | .ex c M => ∀ g' H' u, Le g H g' H' → Conc C g' σ σD M H' → C.mg c = some u → W u none σ H'
  | .bad => False
theorem RE.post.mono {α : Type} {C : Ct} {W : WX} {g g1 : Gh} {H H1 : Hp} {σ : L2.St} {σD : Sl} {Q : Gh → α → Mem → Hp → Prop} {r : RE α} (h : r.post C W g H σ σD Q) (le : Le g H g1 H1) : r.post C W g1 H1 σ σD Q := by
  cases r with
  | ok a M => exact fun g' H' l c => h g' H' (Le.trans le l) c
  | ex x M => exact fun g' H' u l c e => h g' H' u (Le.trans le l) c e
  | bad => exact h
theorem RE.post.imp {α : Type} {C : Ct} {W : WX} {g : Gh} {H : Hp} {σ : L2.St} {σD : Sl} {Q R : Gh → α → Mem → Hp → Prop} {r : RE α} (h : r.post C W g H σ σD Q)
    (k : ∀ a M g' H', r = .ok a M → Le g H g' H' → Conc C g' σ σD M H' → Q g' a M H' → R g' a M H') : r.post C W g H σ σD R := by
  cases r with
  | ok a M => exact fun g' H' l c => k a M g' H' rfl l c (h g' H' l c)
  | ex x M => exact h
  | bad => exact h
theorem RE.post_bind {α β : Type} {C : Ct} {W : WX} {g : Gh} {H : Hp} {σ : L2.St} {σD : Sl} {Q : Gh → β → Mem → Hp → Prop} {r : RE α} {k : α → Mem → RE β} (h : (r.bind k).post C W g H σ σD Q) :
    r.post C W g H σ σD fun g1 a M1 H1 => (k a M1).post C W g1 H1 σ σD Q := by
  cases r with
  | ok a M => exact fun g' H' l c => RE.post.mono (r := k a M) h l
  | ex x M => exact h
  | bad => exact h

def RS.post (C : Ct) (W : WX) (g : Gh) (H : Hp) (E : Ends) : RS → Prop
  | .nx σD M => ∀ g' σ H', Le g H g' H' → Conc C g' σ σD M H' → E.nx σ H'
  | .rt d M => ∀ g' H' v, Le g H g' H' → Conc C g' [] [] M H' → Rv C g' d v → E.rt v H'
  | .bk σD M => ∀ g' σ H', Le g H g' H' → Conc C g' σ σD M H' → E.bk σ H'
  | .ct σD M => ∀ g' σ H', Le g H g' H' → Conc C g' σ σD M H' → E.ct σ H'
  | .ex c σD M => ∀ g' σ H' u, Le g H g' H' → Conc C g' σ σD M H' → C.mg c = some u → W u none σ H'
  | .bad => False
theorem RS.post.mono {C : Ct} {W : WX} {g g1 : Gh} {H H1 : Hp} {E : Ends} {r : RS} (h : r.post C W g H E) (le : Le g H g1 H1) : r.post C W g1 H1 E := by
  cases r with
  | nx s M => exact fun g' σ H' l c => h g' σ H' (Le.trans le l) c
  | rt d M => exact fun g' H' v l c r => h g' H' v (Le.trans le l) c r
  | bk s M => exact fun g' σ H' l c => h g' σ H' (Le.trans le l) c
  | ct s M => exact fun g' σ H' l c => h g' σ H' (Le.trans le l) c
  | ex x s M => exact fun g' σ H' u l c e => h g' σ H' u (Le.trans le l) c e
  | bad => exact h

/-! ### readings -/
def tE (C : Ct) (W : WX) (f : SE) : TE := fun σ H Q => ∃ g σD M, Conc C g σ σD M H ∧ (f σD M).post C W g H σ σD fun g' d _ H' => ∀ v, Rv C g' d v → Q v H'
def tT (C : Ct) (W : WX) (f : ST) : TT := fun σ H Q => ∃ g σD M, Conc C g σ σD M H ∧ (f σD M).post C W g H σ σD fun _ b _ H' => Q b H'
def tA (C : Ct) (W : WX) (f : SA) : TA := fun σ H Q => ∃ g σD M, Conc C g σ σD M H ∧ (f σD M).post C W g H σ σD fun g' ds _ H' => ∀ vs, RvA C g' ds vs → Q vs H'
def tS (C : Ct) (W : WX) (f : SS) : TS := fun E σ H => ∃ g σD M, Conc C g σ σD M H ∧ (f σD M).post C W g H E
abbrev ctx (X : Cx) : Ct := ⟨X.K, X.mg⟩
/-- the expression does f; what it raises is wished for by W -/
abbrev PD (X : Cx) (W : WX) (e : Expr) (f : SE) : Prop := PE X e (tE (ctx X) W f)
abbrev TD (X : Cx) (W : WX) (e : Expr) (f : ST) : Prop := PT X e (tT (ctx X) W f)
abbrev AD (X : Cx) (W : WX) (es : List Expr) (f : SA) : Prop := PA X es (tA (ctx X) W f)
abbrev SD (X : Cx) (W : WX) (st : Stmt) (f : SS) : Prop := PS X st (tS (ctx X) W f)
abbrev SDs (X : Cx) (W : WX) (st : List Stmt) (f : SS) : Prop := PSs X st (tS (ctx X) W f)
section
variable {X : Cx} {W : WX}
theorem PE.imp {e : Expr} {t t' : TE} (h : PE X e t) (k : ∀ σ H Q, t' σ H Q → t σ H Q) : PE X e t' := ⟨fun pins s σ H Q I q => h.run pins s σ H Q I (k σ H Q q)⟩
theorem PT.imp {e : Expr} {t t' : TT} (h : PT X e t) (k : ∀ σ H Q, t' σ H Q → t σ H Q) : PT X e t' := ⟨fun pins s σ H Q I q => h.run pins s σ H Q I (k σ H Q q)⟩
theorem PW.imp {e : Expr} {t t' : TT} (h : PW X e t) (k : ∀ σ H Q, t' σ H Q → t σ H Q) : PW X e t' := ⟨fun wh pins s σ H Q I q => h.run wh pins s σ H Q I (k σ H Q q)⟩
theorem PA.imp {es : List Expr} {t t' : TA} (h : PA X es t) (k : ∀ σ H Q, t' σ H Q → t σ H Q) : PA X es t' := ⟨fun pos pins s σ H Q I q => h.run pos pins s σ H Q I (k σ H Q q)⟩
theorem PS.imp {st : Stmt} {t t' : TS} (h : PS X st t) (k : ∀ D σ H, t' D σ H → t D σ H) : PS X st t' := ⟨fun pins s σ H D I q => h.run pins s σ H D I (k D σ H q)⟩
theorem PSs.imp {st : List Stmt} {t t' : TS} (h : PSs X st t) (k : ∀ D σ H, t' D σ H → t D σ H) : PSs X st t' := ⟨fun pins s σ H D I q => h.run pins s σ H D I (k D σ H q)⟩

/-! ### names, constants -/
def varS (i : Nat) : SE := fun σ M => match σ[i]? with
  | some (some d) => .ok d M
  | _ => .bad
def cS (d : D) : SE := fun _ M => .ok d M
theorem d_var {i : Nat} {x : Str} {pos : Pos} (hN : X.N[i]? = some x) (hv : Vis X.env.scope x) (hd : (x == ("__debug__" : Str)) = false := by decide) (hcd : (x == ("__classdict__" : Str)) = false := by decide) : PD X W (.Name x pos) (varS i) := by
  refine PE.imp (pe_var hN hv hd hcd) fun σ H Q ⟨g, σD, M, c, h⟩ => ?_
  unfold varS at h
  split at h
  · rename_i d e
    obtain ⟨v, e1, r⟩ := c.var e
    exact ⟨v, e1, h g H (Le.refl _ _) c v r⟩
  · exact h.elim
theorem dv (i : Nat) {x : Str} {pos : Pos} (hN : X.N[i]? = some x := by rfl) (hv : Vis X.env.scope x := by first | exact Or.inl rfl | exact Or.inr (Or.inl rfl) | exact Or.inr (Or.inr rfl)) (hd : (x == ("__debug__" : Str)) = false := by decide)
    (hcd : (x == ("__classdict__" : Str)) = false := by decide) : PD X W (.Name x pos) (varS i) := d_var hN hv hd hcd
theorem d_c {e : Expr} {d : D} {v : V} (h : PE X e (tC v)) (r : ∀ g, Rv (ctx X) g d v) : PD X W e (cS d) :=
  PE.imp h fun σ H Q ⟨g, σD, M, c, h⟩ => h g H (Le.refl _ _) c v (r g)
theorem d_int {i j pos} : PD X W (.Constant (.int i) j pos) (cS (.int i)) := d_c pe_int fun g => by simp only [Rv]
theorem d_bl {i j pos} : PD X W (.Constant (.bool i) j pos) (cS (.bl i)) := d_c pe_bl fun g => by simp only [Rv]
theorem d_non {j pos} : PD X W (.Constant .none j pos) (cS .non) := d_c pe_non fun g => by simp only [Rv]
theorem d_str {i j pos} : PD X W (.Constant (.str i) j pos) (cS (.str i)) := d_c pe_str fun g => by simp only [Rv]
/-- what the module's name x holds, as data -/
def Gd (C : Ct) (x : Str) (d : D) : Prop := ∃ u v, C.mg x = some u ∧ RelV v u ∧ ∀ g, Rv C g d v
theorem d_gl {x : Str} {d : D} {pos : Pos} (h : Gd (ctx X) x d) (hg : Gl X x) (hd : (x == ("__debug__" : Str)) = false := by decide) : PD X W (.Name x pos) (cS d) := by
  obtain ⟨u, v, e, r, q⟩ := h
  exact d_c (pe_glob hg e r hd) q
/-- a class of the boot, as a value -/
theorem d_ty {x : Str} {n : String} {pos : Pos} (hm : X.mg x = none) (hg : Gl X x) (hv : bootBuiltins x = some (.type n)) (hn : x ≠ "__name__" := by decide) (hd : (x == ("__debug__" : Str)) = false := by decide) : PD X W (.Name x pos) (cS (.ty n)) :=
  d_c (pe_bltn hg hm hv (v := .ty n) rfl hn hd) fun g => by simp only [Rv]

/-! ### operators by values -/
def op2 (r : Mem → D → D → Option D) (fa fb : SE) : SE := fun σ M => (fa σ M).bind fun x M1 => (fb σ M1).bind fun y M2 => match r M2 x y with
  | some d => .ok d M2
  | none => .bad
/-- the hand layer's rule R does what r tells -/
def Op2 (C : Ct) (r : Mem → D → D → Option D) (R : R2) : Prop := ∀ g σ σD M H x y vx vy d Q, Conc C g σ σD M H → Rv C g x vx → Rv C g y vy → r M x y = some d →
  (∀ g' v H', Le g H g' H' → Conc C g' σ σD M H' → Rv C g' d v → Q v H') → R vx vy H Q
theorem bin_imp {fa fb : SE} {r : Mem → D → D → Option D} {R : R2} (k : Op2 (ctx X) r R) : ∀ σ H Q, tE (ctx X) W (op2 r fa fb) σ H Q → tE (ctx X) W fa σ H fun x H1 => tE (ctx X) W fb σ H1 fun y H2 => R x y H2 Q := fun σ H Q ⟨g, σD, M, c, h⟩ =>
  ⟨g, σD, M, c, (RE.post_bind h).imp fun x M1 g1 H1 _ l1 c1 h1 vx rx =>
    ⟨g1, σD, M1, c1, (RE.post_bind h1).imp fun y M2 g2 H2 _ l2 c2 h2 vy ry => by
      split at h2
      · rename_i d e
        exact k g2 σ σD M2 H2 x y vx vy d Q c2 (Rv.mono l2.gh _ _ rx) ry e fun g' v H' l c3 r => h2 g' H' l c3 v r
      · exact h2.elim⟩⟩
theorem d_op {op : Operator} {a b : Expr} {pos : Pos} {fa fb : SE} {r : Mem → D → D → Option D} {R : R2} (k : Op2 (ctx X) r R) (ho : OpR X (binaryOp op) R) (ha : PD X W a fa) (hb : PD X W b fb) : PD X W (.BinOp a op b pos) (op2 r fa fb) :=
  PE.imp (pe_op ho ha hb) (bin_imp k)
theorem d_cmp {op : CmpOp} {a b : Expr} {pos : Pos} {fa fb : SE} {r : Mem → D → D → Option D} {R : R2} (k : Op2 (ctx X) r R) (ho : OpR X (compareOp op) R) (ha : PD X W a fa) (hb : PD X W b fb) (hm : behindInMarks op b = false) : PD X W (.Compare a [op] [b] pos) (op2 r fa fb) :=
  PE.imp (pe_cmpR ho ha hb hm) (bin_imp k)
def op1 (r : Mem → D → Option D) (fa : SE) : SE := fun σ M => (fa σ M).bind fun x M1 => match r M1 x with
  | some d => .ok d M1
  | none => .bad
def Op1 (C : Ct) (r : Mem → D → Option D) (R : V → Hp → VK → Prop) : Prop := ∀ g σ σD M H x vx d Q, Conc C g σ σD M H → Rv C g x vx → r M x = some d →
  (∀ g' v H', Le g H g' H' → Conc C g' σ σD M H' → Rv C g' d v → Q v H') → R vx H Q
theorem un_imp {fa : SE} {r : Mem → D → Option D} {R : V → Hp → VK → Prop} (k : Op1 (ctx X) r R) : ∀ σ H Q, tE (ctx X) W (op1 r fa) σ H Q → tE (ctx X) W fa σ H fun x H1 => R x H1 Q := fun σ H Q ⟨g, σD, M, c, h⟩ =>
  ⟨g, σD, M, c, (RE.post_bind h).imp fun x M1 g1 H1 _ l1 c1 h1 vx rx => by
      split at h1
      · rename_i d e
        exact k g1 σ σD M1 H1 x vx d Q c1 rx e fun g' v H' l c3 r => h1 g' H' l c3 v r
      · exact h1.elim⟩

/-! ### argument lists -/
def nilA : SA := fun _ M => .ok [] M
def consA (f : SE) (r : SA) : SA := fun σ M => (f σ M).bind fun d M1 => (r σ M1).bind fun ds M2 => .ok (d :: ds) M2
theorem a_nil : AD X W [] nilA := PA.imp pa_nil fun σ H Q ⟨g, σD, M, c, h⟩ => h g H (Le.refl _ _) c [] RvA.nil
theorem a_cons {e : Expr} {es : List Expr} {f : SE} {r : SA} (he : PD X W e f) (hr : AD X W es r) (hs : starEach (e :: es) X.env = (false, eval e X.env) :: starEach es X.env := by rfl) : AD X W (e :: es) (consA f r) :=
  PA.imp (pa_cons he hr hs) fun σ H Q ⟨g, σD, M, c, h⟩ =>
    ⟨g, σD, M, c, (RE.post_bind h).imp fun x M1 g1 H1 _ l1 c1 h1 vx rx =>
      ⟨g1, σD, M1, c1, (RE.post_bind h1).imp fun ds M2 g2 H2 _ l2 c2 h2 vs rs => h2 g2 H2 (Le.refl _ _) c2 _ (RvA.cons (Rv.mono l2.gh _ _ rx) rs)⟩⟩
/-- a call on values -/
def callV (r : Mem → List D → Option D) (fa : SA) : SE := fun σ M => (fa σ M).bind fun ds M1 => match r M1 ds with
  | some d => .ok d M1
  | none => .bad
def OpC (C : Ct) (r : Mem → List D → Option D) (R : List V → Hp → VK → Prop) : Prop := ∀ g σ σD M H ds vs d Q, Conc C g σ σD M H → RvA C g ds vs → r M ds = some d →
  (∀ g' v H', Le g H g' H' → Conc C g' σ σD M H' → Rv C g' d v → Q v H') → R vs H Q
theorem callV_imp {fa : SA} {r : Mem → List D → Option D} {R : List V → Hp → VK → Prop} (k : OpC (ctx X) r R) : ∀ σ H Q, tE (ctx X) W (callV r fa) σ H Q → tA (ctx X) W fa σ H fun x H1 => R x H1 Q := fun σ H Q ⟨g, σD, M, c, h⟩ =>
  ⟨g, σD, M, c, (RE.post_bind h).imp fun x M1 g1 H1 _ l1 c1 h1 vx rx => by
      split at h1
      · rename_i d e
        exact k g1 σ σD M1 H1 x vx d Q c1 rx e fun g' v H' l c3 r => h1 g' H' l c3 v r
      · exact h1.elim⟩

/-! ### tests -/
def asT (f : SE) : ST := fun σ M => (f σ M).bind fun d M1 => match d with
  | .bl b => .ok b M1
  | _ => .bad
theorem t_val {e : Expr} {f : SE} (h : PD X W e f) (he : ∀ whole, isTrue e X.env whole = (do let v ← whole; standAt e.pos; holding [v] (truthy v)) := by intro _; rfl) : TD X W e (asT f) :=
  PT.imp (pt_val h he) fun σ H Q ⟨g, σD, M, c, h⟩ => ⟨g, σD, M, c, (RE.post_bind h).imp fun x M1 g1 H1 _ l1 c1 h1 vx rx => by
    cases x <;> first
      | exact h1.elim
      | (simp only [Rv] at rx
         subst rx
         exact ⟨_, rfl, h1 g1 H1 (Le.refl _ _) c1⟩)⟩
/-- a comparison as a test -/
theorem t_cmp {op : CmpOp} {a b : Expr} {pos : Pos} {fa fb : SE} {r : Mem → D → D → Option D} {R : R2} (k : Op2 (ctx X) r R) (ho : OpR X (compareOp op) R) (ha : PD X W a fa) (hb : PD X W b fb) (hm : behindInMarks op b = false) : TD X W (.Compare a [op] [b] pos) (asT (op2 r fa fb)) := by
  refine PT.imp (pt_cmpR ho ha hb hm) fun σ H Q ⟨g, σD, M, c, h⟩ => ?_
  refine bin_imp (X := X) (W := W) k σ H _ ⟨g, σD, M, c, (RE.post_bind h).imp fun x M1 g1 H1 _ l1 c1 h1 vx rx => ?_⟩
  cases x <;> first
      | exact h1.elim
      | (simp only [Rv] at rx
         subst rx
         exact ⟨_, rfl, h1 g1 H1 (Le.refl _ _) c1⟩)
def notT (f : ST) : ST := fun σ M => (f σ M).bind fun b M1 => .ok (!b) M1
theorem t_not {e : Expr} {pos : Pos} {f : ST} (h : TD X W e f) : TD X W (.UnaryOp .Not e pos) (notT f) :=
  PT.imp (pt_not h) fun σ H Q ⟨g, σD, M, c, h⟩ => ⟨g, σD, M, c, (RE.post_bind h).imp fun b M1 g1 H1 _ l1 c1 h1 => h1 g1 H1 (Le.refl _ _) c1⟩
def andT (f k : ST) : ST := fun σ M => (f σ M).bind fun b M1 => if b = true then k σ M1 else .ok false M1
def orT (f k : ST) : ST := fun σ M => (f σ M).bind fun b M1 => if b = true then .ok true M1 else k σ M1
abbrev WD (X : Cx) (W : WX) (e : Expr) (f : ST) : Prop := PW X e (tT (ctx X) W f)
theorem w_and1 {a : Expr} {pos : Pos} {f : ST} (h : TD X W a f) : WD X W (.BoolOp .And [a] pos) f := pw_and1 h
theorem w_or1 {a : Expr} {pos : Pos} {f : ST} (h : TD X W a f) : WD X W (.BoolOp .Or [a] pos) f := pw_or1 h
theorem w_and {a b : Expr} {rest : List Expr} {pos : Pos} {f k : ST} (h : TD X W a f) (hk : WD X W (.BoolOp .And (b :: rest) pos) k) : WD X W (.BoolOp .And (a :: b :: rest) pos) (andT f k) :=
  PW.imp (pw_and h hk) fun σ H Q ⟨g, σD, M, c, h⟩ => ⟨g, σD, M, c, (RE.post_bind h).imp fun b M1 g1 H1 _ l1 c1 h1 => by
    cases b with
    | true => exact ⟨g1, σD, M1, c1, h1⟩
    | false => exact h1 g1 H1 (Le.refl _ _) c1⟩
theorem w_or {a b : Expr} {rest : List Expr} {pos : Pos} {f k : ST} (h : TD X W a f) (hk : WD X W (.BoolOp .Or (b :: rest) pos) k) : WD X W (.BoolOp .Or (a :: b :: rest) pos) (orT f k) :=
  PW.imp (pw_or h hk) fun σ H Q ⟨g, σD, M, c, h⟩ => ⟨g, σD, M, c, (RE.post_bind h).imp fun b M1 g1 H1 _ l1 c1 h1 => by
    cases b with
    | true => exact h1 g1 H1 (Le.refl _ _) c1
    | false => exact ⟨g1, σD, M1, c1, h1⟩⟩
theorem t_of {e : Expr} {f : ST} (h : WD X W e f) : TD X W e f := h.pt
/-- and, or, not as values of truth -/
def andV (f k : SE) : SE := fun σ M => (f σ M).bind fun d M1 => match d with
  | .bl true => k σ M1
  | .bl false => .ok (.bl false) M1
  | _ => .bad
def orV (f k : SE) : SE := fun σ M => (f σ M).bind fun d M1 => match d with
  | .bl true => .ok (.bl true) M1
  | .bl false => k σ M1
  | _ => .bad
def notV (f : SE) : SE := fun σ M => (f σ M).bind fun d M1 => match d with
  | .bl b => .ok (.bl (!b)) M1
  | _ => .bad
theorem d_one {op} {a : Expr} {pos : Pos} {f : SE} (h : PD X W a f) : PD X W (.BoolOp op [a] pos) f := pe_one h
theorem d_and {a b : Expr} {rest : List Expr} {pos : Pos} {f k : SE} (h : PD X W a f) (hk : PD X W (.BoolOp .And (b :: rest) pos) k) : PD X W (.BoolOp .And (a :: b :: rest) pos) (andV f k) :=
  PE.imp (pe_and h hk) fun σ H Q ⟨g, σD, M, c, h⟩ => ⟨g, σD, M, c, (RE.post_bind h).imp fun x M1 g1 H1 ee l1 c1 h1 vx rx => by
    cases x <;> try exact h1.elim
    rename_i b
    simp only [Rv] at rx
    subst rx
    cases b with
    | true => exact ⟨true, rfl, g1, σD, M1, c1, h1⟩
    | false => exact ⟨false, rfl, h1 g1 H1 (Le.refl _ _) c1 _ (by simp only [Rv])⟩⟩
theorem d_or {a b : Expr} {rest : List Expr} {pos : Pos} {f k : SE} (h : PD X W a f) (hk : PD X W (.BoolOp .Or (b :: rest) pos) k) : PD X W (.BoolOp .Or (a :: b :: rest) pos) (orV f k) :=
  PE.imp (pe_or h hk) fun σ H Q ⟨g, σD, M, c, h⟩ => ⟨g, σD, M, c, (RE.post_bind h).imp fun x M1 g1 H1 ee l1 c1 h1 vx rx => by
    cases x <;> try exact h1.elim
    rename_i b
    simp only [Rv] at rx
    subst rx
    cases b with
    | true => exact ⟨true, rfl, h1 g1 H1 (Le.refl _ _) c1 _ (by simp only [Rv])⟩
    | false => exact ⟨false, rfl, g1, σD, M1, c1, h1⟩⟩
theorem d_not {a : Expr} {pos : Pos} {f : SE} (h : PD X W a f) : PD X W (.UnaryOp .Not a pos) (notV f) :=
  PE.imp (pe_not h) fun σ H Q ⟨g, σD, M, c, h⟩ => ⟨g, σD, M, c, (RE.post_bind h).imp fun x M1 g1 H1 _ l1 c1 h1 vx rx => by
    cases x <;> try exact h1.elim
    simp only [Rv] at rx
    subst rx
    exact ⟨_, rfl, h1 g1 H1 (Le.refl _ _) c1 _ (by simp only [Rv])⟩⟩
def ifE (t : ST) (a b : SE) : SE := fun σ M => (t σ M).bind fun c M1 => if c = true then a σ M1 else b σ M1
theorem d_if {c a b : Expr} {pos : Pos} {t : ST} {f k : SE} (hc : TD X W c t) (ha : PD X W a f) (hb : PD X W b k) : PD X W (.IfExp c a b pos) (ifE t f k) :=
  PE.imp (pe_ifExp hc ha hb) fun σ H Q ⟨g, σD, M, c, h⟩ => ⟨g, σD, M, c, (RE.post_bind h).imp fun b M1 g1 H1 _ l1 c1 h1 => by
    cases b with
    | true => exact ⟨g1, σD, M1, c1, h1⟩
    | false => exact ⟨g1, σD, M1, c1, h1⟩⟩

/-! ### statements -/
def nextS : SS := fun σ M => .nx σ M
def seqS (a b : SS) : SS := fun σ M => match a σ M with
  | .nx σ1 M1 => b σ1 M1
  | r => r
theorem s_nil : SDs X W [] nextS := PSs.imp pss_nil fun E σ H ⟨g, σD, M, c, h⟩ => h g σ H (Le.refl _ _) c
theorem s_one {st : Stmt} {f : SS} (h : SD X W st f) : SDs X W [st] f := pss_one h
theorem s_cons {st : Stmt} {rest : List Stmt} {f k : SS} (h : SD X W st f) (hk : SDs X W rest k) : SDs X W (st :: rest) (seqS f k) := by
  refine PSs.imp (pss_cons h hk) fun E σ H ⟨g, σD, M, c, h⟩ => ⟨g, σD, M, c, ?_⟩
  unfold seqS at h
  cases e : f σD M with
  | nx s1 M1 =>
    rw [e] at h
    exact fun g' σ' H' l c' => ⟨g', s1, M1, c', RS.post.mono (r := k s1 M1) h l⟩
  | rt d M1 => rw [e] at h; exact h
  | bk s1 M1 => rw [e] at h; exact h
  | ct s1 M1 => rw [e] at h; exact h
  | ex x s1 M1 => rw [e] at h; exact h
  | bad => rw [e] at h; exact h
theorem s_pass {pos : Pos} : SD X W (.Pass pos) nextS := PS.imp ps_pass fun E σ H ⟨g, σD, M, c, h⟩ => h g σ H (Le.refl _ _) c
theorem s_break {pos : Pos} : SD X W (.Break pos) (fun σ M => .bk σ M) := PS.imp ps_break fun E σ H ⟨g, σD, M, c, h⟩ => h g σ H (Le.refl _ _) c
theorem s_continue {pos : Pos} : SD X W (.Continue pos) (fun σ M => .ct σ M) := PS.imp ps_continue fun E σ H ⟨g, σD, M, c, h⟩ => h g σ H (Le.refl _ _) c
def retS (f : SE) : SS := fun σ M => match f σ M with
  | .ok d M1 => .rt d M1
  | .ex c M1 => .ex c σ M1
  | .bad => .bad
theorem s_ret {e : Expr} {pos : Pos} {f : SE} (h : PD X W e f) : SD X W (.Return (some e) pos) (retS f) := by
  refine PS.imp (ps_ret h) fun E σ H ⟨g, σD, M, c, h⟩ => ⟨g, σD, M, c, ?_⟩
  unfold retS at h
  cases e : f σD M with
  | ok d M1 =>
    rw [e] at h
    exact fun g' H' l c' v r => h g' H' v l c'.noslots r
  | ex x M1 =>
    rw [e] at h
    exact fun g' H' u l c' e => h g' σ H' u l c' e
  | bad => rw [e] at h; exact h
theorem s_retN {pos : Pos} : SD X W (.Return none pos) (fun _ M => .rt .non M) := PS.imp ps_retN fun E σ H ⟨g, σD, M, c, h⟩ => h g H .non (Le.refl _ _) c.noslots (by simp only [Rv])
def exprS (f : SE) : SS := fun σ M => match f σ M with
  | .ok _ M1 => .nx σ M1
  | .ex c M1 => .ex c σ M1
  | .bad => .bad
theorem s_expr {e : Expr} {pos : Pos} {f : SE} (h : PD X W e f) (hs : swapsWith e none pos.line X.env = pure false := by rfl) : SD X W (.Expr e pos) (exprS f) := by
  refine PS.imp (ps_expr h hs) fun E σ H ⟨g, σD, M, c, h⟩ => ⟨g, σD, M, c, ?_⟩
  unfold exprS at h
  cases e : f σD M with
  | ok d M1 =>
    rw [e] at h
    exact fun g' H' l c' v r => h g' σ H' l c'
  | ex x M1 =>
    rw [e] at h
    exact fun g' H' u l c' e => h g' σ H' u l c' e
  | bad => rw [e] at h; exact h
def ifS (t : ST) (a b : SS) : SS := fun σ M => match t σ M with
  | .ok c M1 => if c = true then a σ M1 else b σ M1
  | .ex c M1 => .ex c σ M1
  | .bad => .bad
theorem s_if {c : Expr} {a b : List Stmt} {pos : Pos} {t : ST} {f k : SS} (hc : TD X W c t) (ha : SDs X W a f) (hb : SDs X W b k) : SD X W (.If c a b pos) (ifS t f k) := by
  refine PS.imp (ps_if hc ha hb) fun E σ H ⟨g, σD, M, c, h⟩ => ⟨g, σD, M, c, ?_⟩
  unfold ifS at h
  cases e : t σD M with
  | ok b M1 =>
    rw [e] at h
    intro g' H' l c'
    cases b with
    | true => exact ⟨g', σD, M1, c', RS.post.mono (r := f σD M1) h l⟩
    | false => exact ⟨g', σD, M1, c', RS.post.mono (r := k σD M1) h l⟩
  | ex x M1 =>
    rw [e] at h
    exact fun g' H' u l c' e => h g' σ H' u l c' e
  | bad => rw [e] at h; exact h
/-- x = e, x in slot i -/
def setS (i : Nat) (f : SE) : SS := fun σ M => match f σ M with
  | .ok d M1 => .nx (σ.set i (some d)) M1
  | .ex c M1 => .ex c σ M1
  | .bad => .bad
theorem set_imp {i : Nat} {f : SE} : ∀ E σ H, tS (ctx X) W (setS i f) E σ H → tAsg (tE (ctx X) W f) (gName i) E σ H := fun E σ H ⟨g, σD, M, c, h⟩ => ⟨g, σD, M, c, by
  unfold setS at h
  cases e : f σD M with
  | ok d M1 =>
    rw [e] at h
    exact fun g' H' l c' v r => h g' _ H' l (c'.set i r)
  | ex x M1 =>
    rw [e] at h
    exact fun g' H' u l c' e => h g' σ H' u l c' e
  | bad => rw [e] at h; exact h⟩
theorem s_set {i : Nat} {x : Str} {e : Expr} {f : SE} {pos pos' : Pos} (hN : X.N.Nodup) (he : PD X W e f) (hi : X.N[i]? = some x := by rfl) (hx : Loc X.env.scope x := by first | exact Or.inl rfl | exact Or.inr rfl) (hs : swapsWith e (some (.Name x pos')) pos.line X.env = pure false := by rfl) (hf : X.fn x = true ∨ X.env.scope.names.lookup x = some .local := by first | exact .inl rfl | exact .inr rfl) :
    SD X W (.Assign [.Name x pos'] e pos) (setS i f) := PS.imp (ps_set hN hi hx he hs hf) set_imp

/-! ### raise -/
def raiseS (c : Str) : SS := fun σ M => .ex c σ M
theorem s_raise {c m : Str} {C : Addr} {j : Nat} {p p2 pos pos2 : Pos} {B : String} {newId initId : String} {bmB : List Value} (hc : X.calm = true) (tk : Takes X W) (F : ExcBaseFacts B newId initId bmB) (q : PySem.W.excIn X.K C bmB newId = true) (gC : X.mg c = some (.ref C)) (kC : PySem.W.keepIn X.K (.ref C) = true)
    (r : Raises X (.ref C)) (hg : Gl X c) (hdb : (c == ("__debug__" : Str)) = false := by decide) : SD X W (.Raise (some (.Call (.Name c p) [.Constant (.str m) j p2] [] pos)) none pos2) (raiseS c) :=
  PS.imp (ps_raise hc tk (pmk_own F q gC kC r hg hdb)) fun E σ H ⟨g, σD, M, cc, h⟩ => h g σ H _ (Le.refl _ _) cc gC
end
end Lf

/-! Lf0: what a def promises where no guard is known to stand (repr asks that). -/
namespace Lf
open PySem PySem.Spec PyProof.Rows L2

structure RoomG (k : Nat) (A : Around) : Prop where
  r : Room k A
  g : A.guards = some []
theorem RoomG.mono {j k : Nat} {A : Around} (r : RoomG k A) (h : j ≤ k) : RoomG j A := ⟨r.r.mono h, r.g⟩
theorem RoomG.deeper {k : Nat} {A : Around} (r : RoomG (k + 1) A) (env : Env) : RoomG k (A.deeper env) := ⟨r.r.deeper env, r.g⟩
structure FnG (P : Program) (w : World) (K : PySem.W.Frag) (mg : Str → Option Value) (base : Heap) (CX : CXT) (k : Nat) (f : Addr) (fd : FuncData) (ps : List Str) (sp : Sp) : Prop where
  len : ∀ vs H Q E, sp vs H Q E → vs.length = ps.length
  run : ∀ (A : Around) (outer : List Env) (s : Shared) (H : Hp) (args : Args) (us : List Value) (vs : List V) (Q : VK) (E : XK), RoomG k A → Env0 P w K mg base A outer s H → BindsTo s fd args (ps.zip us) → Vals vs us → sp vs H Q E →
    codeAny (model P w) A (.call (.ref f) args) (CR CX outer P w H s Q E) s
theorem FnG.mono {P : Program} {w : World} {K : PySem.W.Frag} {mg : Str → Option Value} {base : Heap} {CX : CXT} {j k : Nat} {f : Addr} {fd : FuncData} {ps : List Str} {sp : Sp} (F : FnG P w K mg base CX j f fd ps sp) (h : j ≤ k) :
    FnG P w K mg base CX k f fd ps sp := ⟨F.len, fun A outer s H args us vs Q E hr => F.run A outer s H args us vs Q E (hr.mono h)⟩
theorem FunD.okG {P : Program} {w : World} {K : PySem.W.Frag} {mg : Str → Option Value} {base : Heap} {x qual : Str} {params : Arguments} {body : List Stmt} {scope : Scope} {dvs : List V} {kws : List (Str × V)} {f : Addr} {fd : FuncData} {CX : CXT} {N ps : List Str} {k : Nat} {sp : Sp} (F : FunD K x qual params body scope dvs kws f fd) (S : FnScope N ps scope) (len : ∀ vs H Q E, sp vs H Q E → vs.length = ps.length)
    (hbody : ∀ (cdv : Value) (A : Around) (outer : List Env) (s : Shared) (H : Hp) (vs : List V) (Q : VK) (E : XK), RoomG k (A.deeper (envOfC qual scope s.heap.objs.size f cdv)) → sp vs H Q E →
      ∃ t, PSs (cxOf CX P w K mg base N qual scope f cdv A outer s H E) body t ∧ t { nx := fun _ H' => Q .non H', rt := Q } (start N vs) H) : FnG P w K mg base CX (k + 1) f fd ps sp := by
  obtain ⟨oc, od, dV, kV, doc, pm, an, cdv, ct, osl, rfl, lk, hcd, _, _⟩ := F.ex
  refine ⟨len, fun A outer s H args us vs Q E hr e0 hb r hsp => ?_⟩
  have hl := len _ _ _ _ hsp
  have KX : K.In s.heap := e0.mod.kin.keeps fun b o e => (e0.bs b o e).1
  have lim : s.heap.NoLimit := e0.mod.nolimit.keeps fun b o e => (e0.bs b o e).1
  have hkind : ∀ y ∈ ps.zip us, scope.names.lookup y.1 = some .local ∨ (scope.names.lookup y.1 = some .cell ∧ ((cellsFrom (s.heap.objs.size + 1) scope.names []).lookup y.1).isSome = true) := fun ⟨n, v⟩ hy => by
    rcases S.par n (List.of_mem_zip hy).1 with q | q
    · exact .inl q
    · exact .inr ⟨q, PySem.W.cellsFrom_some _ _ _ (.inl q)⟩
  refine codeAny_call_function hr.r.depth (KX _ _ lk) rfl S.co S.gen rfl (PySem.W.codeRec_of KX hcd) (hb _ _ _ _ ?_)
  refine wpAny_newFunctionEnv_cells S.kind hkind fun env he s1 x => ?_
  subst he
  refine ⟨lim.keeps x.toInCall.keep, codeAny_func ?_⟩
  obtain ⟨t, ht, hq⟩ := hbody cdv A outer s H vs Q E (hr.deeper _) hsp
  have I : Inv (cxOf CX P w K mg base N qual scope f cdv A outer s H E) [] (start N vs) H s1 := inv_start S hr.r.hd e0 hl r x
  refine wpAny_mono (ht.run [] s1 (start N vs) H _ I hq) (fun fl s' hs => ?_) fun e s' hs => hs
  have fin : ∀ {σ' : L2.St} {H' : Hp} {v : V} {u : Value}, Inv (cxOf CX P w K mg base N qual scope f cdv A outer s H E) [] σ' H' s' → RelV v u → Q v H' → CE outer P w H s Q u s' :=
    fun {σ' H' v u} J rv q => ⟨v, H', J.os, J.bare, J.base, J.hok, rv, q⟩
  cases fl with
  | ret u =>
    obtain ⟨v, σ', H', J, rv, q⟩ := hs
    exact fin J rv q
  | next =>
    obtain ⟨σ', H', J, q⟩ := hs
    exact fin (v := V.non) (u := Value.none) J rfl q
  | brk =>
    obtain ⟨_, _, _, q⟩ := hs
    exact False.elim q
  | cont =>
    obtain ⟨_, _, _, q⟩ := hs
    exact False.elim q
section
variable {X : Cx} {CX : CXT} {k : Nat} {f : Addr} {fd : FuncData} {ps : List Str} {sp : Sp} {dvs : List V} {ds : List Value} {E : L2.St → XK} {x : Str} {p pos : Pos} {e : Expr} {es : List Expr} {t : TA}
theorem run_fnSDG {pins : List (Addr × Obj)} {σ : L2.St} {H : Hp} {s : Shared} {Q : VK} {us : List Value} {vs : List V} (F : FnG X.prog X.w X.K X.mg X.base CX k f fd ps sp) (hr : RoomG k X.A) (hb : Binds X.K fd ps ds) (hd : Vals dvs ds) (hx : PassesAt CX X σ (E σ))
    (I : Inv X pins σ H s) (r : Vals vs us) (h : sp (vs ++ dvs) H Q (E σ)) : wpAny (model X.prog X.w) X.A (call (.ref f) us) (EP X pins σ Q) X.xe s := by
  have r2 : Vals (vs ++ dvs) (us ++ ds) := r.append hd
  have hl : (us ++ ds).length = ps.length := by rw [← r2.length]; exact F.len _ _ _ _ h
  refine wpAny_call (codeAny_mono (F.run X.A X.stack s H ⟨us, []⟩ (us ++ ds) (vs ++ dvs) Q (E σ) hr I.env0 (hb s us I.kIn hl) r2 h) fun r s' hq => ?_)
  cases r with
  | error e => exact hx pins H s e s' I hq
  | ok fl =>
    cases fl with
    | ret u => exact I.after hq
    | next => exact False.elim hq
    | brk => exact False.elim hq
    | cont => exact False.elim hq
theorem pe_callSDG (F : FnG X.prog X.w X.K X.mg X.base CX k f fd ps sp) (hr : RoomG k X.A) (hg : Gl X x) (hm : X.mg x = some (.ref f)) (hk : PySem.W.keepIn X.K (.ref f) = true) (hb : Binds X.K fd ps ds) (hd : Vals dvs ds) (hx : ∀ σ, PassesAt CX X σ (E σ))
    (ha : PA X (e :: es) t) (hdb : (x == ("__debug__" : Str)) = false := by decide) (he : starEach (e :: es) X.env = (false, eval e X.env) :: starEach es X.env := by rfl) (hpl : (backTo pos (starEach es X.env)).any (·.1) = false := by rfl) :
    PE X (.Call (.Name x p) (e :: es) [] pos) (tCallSD sp dvs E t) := by
  refine ⟨fun pins s σ H Q I h => ?_⟩
  refine wpAny_Call_Name_kw (ld_glob I hg hm ?_ hdb)
  refine PySem.W.callWith_K (h₀ := X.base) I.ok.mod.kin hk (thn (ha.run pos pins s σ H _ I h) fun us s1 ⟨vs, H1, I1, r, q⟩ => ⟨I1.kIn, ?_⟩) he hpl
  exact run_fnSDG F hr hb hd (hx σ) I1 r q
end
theorem law_callG {P : Program} {w : World} {K : PySem.W.Frag} {mg mb : Str → Option Value} {CX : CXT} {k : Nat} {fa a : Addr} {fd : FuncData} {x : Str} {sp : Sp} {s₁ : Shared} {vs : List Value} {ns : List Int}
    (KX : K.In s₁.heap) (hns : s₁.heap.Ns mainGlobals mg) (hb : s₁.heap.Ns builtinsNs mb) (hbb : ∀ x : Str, x ≠ "__name__" → mb x = bootBuiltins x) (hlim : s₁.heap.NoLimit) (hdig : s₁.heap.NoDigits) (hg : s₁.gens = #[])
    (ha : s₁.heap.get? a = some { cls := .type "list", data := .seq vs.toArray }) (hi : IntsAre vs ns) (hl : ns.length ≤ sizeLine) (hr : RoomG k callerA)
    (F : ∀ base : Heap, K.In base → base.Ns mainGlobals mg → base.NoDigits → FnG P w K mg base CX k fa fd [x] sp) (hbind : ∀ (s : Shared) (u : Value), BindsTo s fd ⟨[u], []⟩ [(x, u)])
    (hsp : ∀ H : Hp, Only H → SqL K H a (ns.map V.int) → sp [.ref a] H (fun v _ => v = .bl true) fun _ _ _ => False)
    (hCX : ∀ H e s', CX [] H s₁ (fun _ _ _ => False) e s' → False) :
    codeAny (model P w) callerA (.call (.ref fa) ⟨[.ref a], []⟩) (fun r s' => r = .ok (.ret (.bool true)) ∧ OldK s₁.heap s'.heap ∧ s'.os = s₁.os ∧ AllBare s'.gens) s₁ := by
  have rv := vals_ints hi
  have lenV := hi.length
  have core : ∀ H : Hp, Only H → SqL K H a (ns.map V.int) → HOk P w H s₁.heap → (∀ b, H b ≠ none → b = a) → (H a ≠ none → K.lookup a = none) →
      codeAny (model P w) callerA (.call (.ref fa) ⟨[.ref a], []⟩) (fun r s' => r = .ok (.ret (.bool true)) ∧ OldK s₁.heap s'.heap ∧ s'.os = s₁.os ∧ AllBare s'.gens) s₁ := by
    intro H hO hS hok hA hK
    have base_of : ∀ {b : Addr} {o : Obj}, s₁.heap.get? b = some o → H b = none → (hidT s₁.heap H).get? b = some o := fun e n => hidT_get e n
    have noA : ∀ {b : Addr} {o : Obj} {es : Array DictEntry} {ep : Nat}, s₁.heap.get? b = some o → o.data = .dict es ep → H b = none := fun {b o es ep} e d => by
      cases q : H b with
      | none => rfl
      | some u =>
        have e' : b = a := hA b (by rw [q]; simp)
        subst e'
        rw [ha] at e; cases e
        have d' : Data.seq vs.toArray _ = Data.dict es ep := d
        cases d'
    have nsK : ∀ {b : Addr} {m : Str → Option Value}, s₁.heap.Ns b m → (hidT s₁.heap H).Ns b m := fun {b m} ⟨o, es, ep, e, d, r⟩ => ⟨o, es, ep, base_of e (noA e d), d, r⟩
    have hKb : K.In (hidT s₁.heap H) := fun b o e => base_of (KX b o e) (by
      cases q : H b with
      | none => rfl
      | some u =>
        have e' : b = a := hA b (by rw [q]; simp)
        subst e'
        rw [hK (by rw [q]; simp)] at e; cases e)
    have hM : Mod K mg (hidT s₁.heap H) := ⟨hKb, nsK hns, ⟨mb, nsK hb, hbb⟩, let ⟨mc, h1, h2⟩ := hlim; ⟨mc, nsK h1, h2⟩⟩
    have hD : (hidT s₁.heap H).NoDigits := let ⟨mc, h1, h2⟩ := hdig; ⟨mc, nsK h1, h2⟩
    have e0 : Env0 P w K mg (hidT s₁.heap H) callerA [] s₁ H := ⟨rfl, hM, fun b o e => of_hidT e, Nat.le_of_eq (hidT_size _ _), trivial, fun b hb => absurd (show b ∈ ([] : List Addr) from hb) (by simp), hok, .of_eq hg⟩
    refine codeAny_mono ((F _ hKb (nsK hns) hD).run callerA [] s₁ H ⟨[.ref a], []⟩ [.ref a] [.ref a] _ _ hr e0 (hbind s₁ (.ref a)) (.cons rfl .nil) (hsp H hO hS)) fun r s' h => ?_
    cases r with
    | error e => exact (hCX H e s' h).elim
    | ok fl =>
      cases fl with
      | next => exact False.elim h
      | brk => exact False.elim h
      | cont => exact False.elim h
      | ret u =>
        obtain ⟨v, H', os, bare, un, hok', r', q⟩ := h
        have q' : v = .bl true := q
        subst q'
        obtain rfl : u = Value.bool true := r'
        refine ⟨rfl, OldK.of_keep fun b o e => ?_, os, bare⟩
        cases q : H b with
        | none => exact un.keep b o e q (by intro z; exact absurd (show b ∈ ([] : List Addr) from z) (by simp)) (by simp)
        | some u =>
          rcases hO b with z | ⟨ob, xs, z⟩
          · rw [q] at z; cases z
          · have z2 := un.frzs b ob _ z
            obtain ⟨e1, _⟩ := hok b _ z
            obtain ⟨e2, _⟩ := hok' b _ z2
            rw [e] at e1; cases e1
            exact e2
  cases hk : K.lookup a with
  | some o =>
    have e := KX a o hk
    rw [ha] at e
    cases e
    refine core (fun _ => none) (fun _ => .inl rfl) (.inr ⟨_, vs.toArray, _, hk, rfl, rfl, rfl, by rw [List.size_toArray, lenV]; exact hl, by simpa using rv⟩) (fun b u z => by have z' : (none : Option HO) = some u := z; cases z') (fun b z => absurd rfl z) fun z => absurd rfl z
  | none =>
    refine core (fun b => if b = a then some (.frz { cls := .type "list", data := .seq vs.toArray } (.lst (ns.map V.int))) else none) (fun b => ?_) (.inl (.inr ⟨{ cls := .type "list", data := .seq vs.toArray }, if_pos rfl⟩)) (fun b u z => ?_) (fun b z => ?_) fun _ => hk
    · by_cases hb : b = a
      · exact .inr ⟨_, _, if_pos hb⟩
      · exact .inl (if_neg hb)
    · by_cases hb : b = a
      · have z' := (if_pos hb).symm.trans z
        cases z'
        subst hb
        exact ⟨ha, by rw [List.length_map]; exact hl, vs, _, rv, ha⟩
      · have z' := (if_neg hb).symm.trans z
        cases z'
    · by_cases hb : b = a
      · exact hb
      · exact absurd (if_neg hb) z
theorem walk_ofEG {l : PySem.W.OpenLaw} {n k : Nat} {q : Program} {loose : List Str} {XP : (Str → Option Value) → Heap → Prop} {YP : World → Heap → Prop} {d : DefRec} {CX : World → CXT} {x : Str}
    (hn : l.most = some n) (hn2 : n ≤ sizeLine) (hdf : d.params.defaults = []) (hr : RoomG k callerA)
    (F : ∀ (w : World) (mg : Str → Option Value) (fa : Addr) (h : Heap), YP w h → h.Ns mainGlobals mg → mg d.name = some (.ref fa) →
      ∃ (K : PySem.W.Frag) (fd : FuncData) (sp : Sp), K.In h ∧ (∀ (s : Shared) (u : Value), BindsTo s fd ⟨[u], []⟩ [(x, u)]) ∧
        (∀ (H : Hp) (a : Addr) (ns : List Int), ns.length ≤ n → Only H → SqL K H a (ns.map V.int) → sp [.ref a] H (fun v _ => v = .bl true) fun _ _ _ => False) ∧
        ∀ base : Heap, K.In base → base.Ns mainGlobals mg → base.NoDigits → FnG l.prog w K mg base (CX w) k fa fd [x] sp)
    (hCX : ∀ (w : World) (H : Hp) (s : Shared) (e : Value) (s' : Shared), CX w [] H s (fun _ _ _ => False) e s' → False) :
    PySem.W.WalkO q loose XP YP l.row.toRowW d [] (fun f vs => PySem.call f vs) := by
  refine Att.attach_call hn hdf fun w s₀ s₁ mg mb fa o pm cd doc a vs ns G Y ho hd hcd hmg hobj hints hlen hg => ?_
  obtain ⟨K, fd, sp, KX, hb, hsp, hF⟩ := F w mg fa _ Y G.T.g hmg
  exact law_callG KX G.T.g G.T.b G.T.builtins G.T.nolimit G.T.nodigits hg hobj hints (Nat.le_trans hlen hn2) hr hF hb (fun H hO hS => hsp H a ns hlen hO hS) fun H e s' => hCX w H s₁ e s'
end Lf

/-! Lf3: defs and their calls. -/
namespace Lf
open PySem PySem.Spec PyProof.Rows L2

mutual
/-- all places of the memory that it names lie below n -/
def D.lo (n : Nat) : D → Bool
  | .ref i => decide (i < n)
  | .tup ds => loA n ds
  | .lst ds => loA n ds
  | .scr ds => loA n ds
  | .non => true
  | .bl _ => true
  | .int _ => true
  | .str _ => true
  | .gl _ => true
  | .ty _ => true
  | .exc _ => true
  | .dct _ ds => loA n ds
  | .kt ds => loA n ds
def loA (n : Nat) : List D → Bool
  | [] => true
  | d :: ds => d.lo n && loA n ds
end
def loK {κ : Type} (n : Nat) : List (κ × D) → Bool
  | [] => true
  | p :: r => p.2.lo n && loK n r
def loF (n : Nat) : List (Str × D) → Bool
  | [] => true
  | p :: r => p.2.lo n && loF n r
def MO.lo (n : Nat) : MO → Bool
  | .lst ds => loA n ds
  | .dK kvs => loK n kvs
  | .dT kvs => loK n kvs
  | .ins _ fs => loF n fs
  | .lk m => m.lo n
  | .gone => true

section
variable {C : Ct} {g g' : Gh}
mutual
theorem rv_below : ∀ (d : D) (v : V), Rv C g d v → d.lo g.rho.length = true
  | .ref i, v, r => by
    simp only [Rv] at r
    obtain ⟨a, _, e⟩ := r
    simp only [D.lo, decide_eq_true_eq]
    exact (List.getElem?_eq_some_iff.mp e).1
  | .tup ds, v, r => by
    simp only [Rv] at r
    obtain ⟨a, vs, _, _, q⟩ := r
    simp only [D.lo]
    exact rvA_below ds vs q
  | .lst ds, v, r => by
    simp only [Rv] at r
    obtain ⟨a, vs, _, _, q⟩ := r
    simp only [D.lo]
    exact rvA_below ds vs q
  | .scr ds, v, r => by
    simp only [Rv] at r
    obtain ⟨a, vs, _, _, q⟩ := r
    simp only [D.lo]
    exact rvA_below ds vs q
  | .non, _, _ => rfl
  | .bl _, _, _ => rfl
  | .int _, _, _ => rfl
  | .str _, _, _ => rfl
  | .gl _, _, _ => rfl
  | .ty _, _, _ => rfl
  | .exc _, _, _ => rfl
  | .dct _ ds, v, r => by
    simp only [Rv] at r
    obtain ⟨a, t, _, _, _, q⟩ := r
    simp only [D.lo]
    exact rvA_below ds _ q
  | .kt ds, v, r => by
    simp only [Rv] at r
    obtain ⟨a, vs, _, _, q⟩ := r
    simp only [D.lo]
    exact rvA_below ds vs q
theorem rvA_below : ∀ (ds : List D) (vs : List V), RvA C g ds vs → loA g.rho.length ds = true
  | [], _, _ => rfl
  | d :: ds, vs, r => by
    obtain ⟨v, t, _, q, s⟩ := r.cons_inv
    simp only [loA, Bool.and_eq_true]
    exact ⟨rv_below d v q, rvA_below ds t s⟩
end
theorem rkv_below {κ : Type} : ∀ {r : List (κ × D)} {t : List (κ × V)}, RKv C g r t → loK g.rho.length r = true
  | _, _, .nil => rfl
  | _, _, .cons a b => by
    simp only [loK, Bool.and_eq_true]
    exact ⟨rv_below _ _ a, rkv_below b⟩
theorem rfs_below : ∀ {r : List (Str × D)} {t : List (Str × V)}, RFs C g r t → loF g.rho.length r = true
  | _, _, .nil => rfl
  | _, _, .cons a b => by
    simp only [loF, Bool.and_eq_true]
    exact ⟨rv_below _ _ a, rfs_below b⟩
theorem ro_below {m : MO} {o : HO} (r : RO C g m o) : m.lo g.rho.length = true := by
  induction r with
  | lst r => exact rvA_below _ _ r
  | dK r => exact rkv_below r
  | dT r => exact rkv_below r
  | ins _ r => exact rfs_below r
  | lk r ih => exact ih

/-- the ghost without the later places -/
def Gh.cut (g : Gh) (l : List Addr) : Gh := ⟨g.G, l⟩
section
variable {l t : List Addr}
mutual
theorem rv_cut (h : g.rho = l ++ t) : ∀ (d : D) (v : V), Rv C g d v → d.lo l.length = true → Rv C (g.cut l) d v
  | .ref i, v, r, b => by
    simp only [Rv] at r ⊢
    obtain ⟨a, e, q⟩ := r
    simp only [D.lo, decide_eq_true_eq] at b
    rw [h, List.getElem?_append_left b] at q
    exact ⟨a, e, q⟩
  | .tup ds, v, r, b => by
    simp only [Rv] at r ⊢
    obtain ⟨a, vs, e, s, q⟩ := r
    simp only [D.lo] at b
    exact ⟨a, vs, e, s, rvA_cut h ds vs q b⟩
  | .lst ds, v, r, b => by
    simp only [Rv] at r ⊢
    obtain ⟨a, vs, e, s, q⟩ := r
    simp only [D.lo] at b
    exact ⟨a, vs, e, s, rvA_cut h ds vs q b⟩
  | .scr ds, v, r, b => by
    simp only [Rv] at r ⊢
    obtain ⟨a, vs, e, s, q⟩ := r
    simp only [D.lo] at b
    exact ⟨a, vs, e, s, rvA_cut h ds vs q b⟩
  | .non, v, r, _ => by simpa only [Rv] using r
  | .bl _, v, r, _ => by simpa only [Rv] using r
  | .int _, v, r, _ => by simpa only [Rv] using r
  | .str _, v, r, _ => by simpa only [Rv] using r
  | .gl _, v, r, _ => by simpa only [Rv] using r
  | .ty _, v, r, _ => by simpa only [Rv] using r
  | .exc _, v, r, _ => by
    simp only [Rv] at r ⊢
    exact r
  | .dct _ ds, v, r, b => by
    simp only [Rv] at r ⊢
    obtain ⟨a, t, e, s, k, q⟩ := r
    simp only [D.lo] at b
    exact ⟨a, t, e, s, k, rvA_cut h ds _ q b⟩
  | .kt ds, v, r, b => by
    simp only [Rv] at r ⊢
    obtain ⟨a, vs, e, s, q⟩ := r
    simp only [D.lo] at b
    exact ⟨a, vs, e, s, rvA_cut h ds vs q b⟩
theorem rvA_cut (h : g.rho = l ++ t) : ∀ (ds : List D) (vs : List V), RvA C g ds vs → loA l.length ds = true → RvA C (g.cut l) ds vs
  | [], vs, r, _ => by simpa only [RvA] using r
  | d :: ds, vs, r, b => by
    obtain ⟨v, u, e, q, s⟩ := r.cons_inv
    simp only [loA, Bool.and_eq_true] at b
    subst e
    exact RvA.cons (rv_cut h d v q b.1) (rvA_cut h ds u s b.2)
end
theorem rkv_cut {κ : Type} (h : g.rho = l ++ t) : ∀ {r : List (κ × D)} {u : List (κ × V)}, RKv C g r u → loK l.length r = true → RKv C (g.cut l) r u
  | _, _, .nil, _ => .nil
  | _, _, .cons a q, b => by
    simp only [loK, Bool.and_eq_true] at b
    exact .cons (rv_cut h _ _ a b.1) (rkv_cut h q b.2)
theorem rfs_cut (h : g.rho = l ++ t) : ∀ {r : List (Str × D)} {u : List (Str × V)}, RFs C g r u → loF l.length r = true → RFs C (g.cut l) r u
  | _, _, .nil, _ => .nil
  | _, _, .cons a q, b => by
    simp only [loF, Bool.and_eq_true] at b
    exact .cons (rv_cut h _ _ a b.1) (rfs_cut h q b.2)
theorem ro_cut (h : g.rho = l ++ t) {m : MO} {o : HO} (r : RO C g m o) (b : m.lo l.length = true) : RO C (g.cut l) m o := by
  induction r with
  | lst r => exact .lst (rvA_cut h _ _ r b)
  | dK r => exact .dK (rkv_cut h r b)
  | dT r => exact .dT (rkv_cut h r b)
  | ins e r => exact .ins e (rfs_cut h r b)
  | lk r ih => exact .lk (ih b)
end
end

/-- what was there stays, or names nothing later -/
def OkT (M M1 : Mem) : Prop := M1.length = M.length ∧ ∀ (i : Nat) (m : MO), M1[i]? = some m → M[i]? = some m ∨ m.lo M.length = true
theorem OkT.refl (M : Mem) : OkT M M := ⟨rfl, fun _ _ h => .inl h⟩
theorem OkT.set {M M1 : Mem} (h : OkT M M1) {j : Nat} {m : MO} (b : m.lo M.length = true) : OkT M (M1.set j m) := by
  refine ⟨by simp [h.1], fun i n e => ?_⟩
  by_cases hj : j = i
  · subst hj
    rw [List.getElem?_set] at e
    simp only [if_true] at e
    split at e
    · cases e
      exact .inr b
    · cases e
  · rw [List.getElem?_set_ne hj] at e
    exact h.2 i n e
theorem Conc.cut {C : Ct} {g g' : Gh} {σ : L2.St} {σD : Sl} {M M' : Mem} {H H' : Hp} (c : Conc C g σ σD M H) (le : Le g H g' H') (c' : Conc C g' [] [] M' H') (k : OkT M (M'.take M.length)) : Conc C (g'.cut g.rho) [] [] (M'.take M.length) H' := by
  obtain ⟨_, t, ht⟩ := le.gh
  have hl : g.rho.length = M.length := c.len
  have get1 : ∀ (i : Nat) (a : Addr), g.rho[i]? = some a → g'.rho[i]? = some a := fun i a e => by
    rw [ht, List.getElem?_append_left (List.getElem?_eq_some_iff.mp e).1]
    exact e
  have get2 : ∀ (i : Nat) (m : MO), (M'.take M.length)[i]? = some m → M'[i]? = some m := fun i m e => by
    rw [List.getElem?_take] at e
    split at e
    · exact e
    · cases e
  refine ⟨c'.le, hl.trans k.1.symm, c.nd, fun a ha => c'.there a (by rw [ht]; exact List.mem_append_left _ ha), fun i a m e1 e2 e3 => c'.out i a m (get1 i a e1) (get2 i m e2) e3, fun i a m e1 e2 e3 => ?_, SlR.nil⟩
  obtain ⟨o, ho, r⟩ := c'.obj i a m (get1 i a e1) (get2 i m e2) e3
  refine ⟨o, ho, ro_cut ht r ?_⟩
  rw [hl]
  rcases k.2 i m e2 with e | b
  · obtain ⟨o', _, r'⟩ := c.obj i a m e1 e e3
    rw [← hl]
    exact ro_below r'
  · exact b

open Classical in
/-- behind a def's end the places that it made are forgotten, if nothing names them -/
noncomputable def truncF (M : Mem) : RE D → RE D
  | .ok d M' => if d.lo M.length = true ∧ OkT M (M'.take M.length) then .ok d (M'.take M.length) else .ok d M'
  | r => r
def endF : RS → RE D
  | .rt d M => .ok d M
  | .nx _ M => .ok .non M
  | .ex c _ M => .ex c M
  | _ => .bad
/-- a def of n names in all -/
noncomputable def fnS (n : Nat) (body : SS) : SF := fun ds M => truncF M (endF (body (ds.map some ++ List.replicate (n - ds.length) none) M))
open Classical in
theorem truncF_ok (M M' : Mem) (d : D) : truncF M (.ok d M') = if d.lo M.length = true ∧ OkT M (M'.take M.length) then .ok d (M'.take M.length) else .ok d M' := rfl
theorem truncF_same {M M' : Mem} {d : D} (hb : d.lo M.length = true) (h : M'.take M.length = M) : truncF M (.ok d M') = .ok d M := by
  rw [truncF_ok, h, if_pos ⟨hb, OkT.refl M⟩]
theorem truncF_id {M : Mem} {d : D} (hb : d.lo M.length = true) : truncF M (.ok d M) = .ok d M := truncF_same hb (List.take_length)
theorem truncF_to {M M' M1 : Mem} {d : D} (hb : d.lo M.length = true) (h : M'.take M.length = M1) (k : OkT M M1) : truncF M (.ok d M') = .ok d M1 := by
  rw [truncF_ok, h, if_pos ⟨hb, k⟩]

/-- where the number of data is another one, nothing is promised -/
def lenF (n : Nat) (F : SF) : SF := fun ds M => if ds.length = n then F ds M else .bad
theorem lenF_eq {n : Nat} {F : SF} {ds : List D} {M : Mem} (h : ds.length = n) : lenF n F ds M = F ds M := if_pos h
/-- what a caller gets of a def that does F -/
def spD (C : Ct) (F : SF) : Sp := fun vs H Q E => ∃ g ds M, Conc C g [] [] M H ∧ RvA C g ds vs ∧ (F ds M).post C (fun u d _ H' => E u d H') g H [] [] fun g' d _ H' => ∀ v, Rv C g' d v → Q v H'
/-- the name x holds a def that does F, by at most level k -/
structure DefOk (P : Program) (w : World) (C : Ct) (base : Heap) (x : Str) (k : Nat) (F : SF) : Prop where
  ex : ∃ f fd ps ds dvs dfs F0, C.mg x = some (.ref f) ∧ PySem.W.keepIn C.K (.ref f) = true ∧ Binds C.K fd ps ds ∧ Vals dvs ds ∧ (∀ g, RvA C g dfs dvs) ∧ (∀ es M, F es M = F0 (es ++ dfs) M) ∧
    FnG P w C.K C.mg base (L2.CX P w) k f fd ps (spD C F0)
abbrev DX (X : Cx) (x : Str) (k : Nat) (F : SF) : Prop := DefOk X.prog X.w (ctx X) X.base x k F

/-- f(..) -/
def callS (F : SF) (fa : SA) : SE := fun σ M => (fa σ M).bind fun ds M1 => F ds M1
theorem post_lift {W : WX} {α : Type} {C : Ct} {g : Gh} {σ : L2.St} {σD : Sl} {M : Mem} {H : Hp} {Q : Gh → α → Mem → Hp → Prop} {r : RE α} (c : Conc C g σ σD M H) (h : r.post C W g H σ σD Q) :
    r.post C (fun u d _ H' => W u d σ H') g H [] [] fun g' a M' H' => Q g' a M' H' := by
  cases r with
  | ok a M' => exact fun g' H' l c' => h g' H' l (c'.slots (c.sl.mono l.gh))
  | ex x M' => exact fun g' H' u l c' e => h g' H' u l (c'.slots (c.sl.mono l.gh)) e
  | bad => exact h
section
variable {X : Cx} {W : WX}
theorem d_call {x : Str} {k : Nat} {F : SF} {e : Expr} {es : List Expr} {fa : SA} {p pos : Pos} (D : DX X x k F) (hr : RoomG k X.A) (tk : Takes X W) (ha : AD X W (e :: es) fa) (hg : Gl X x := by rfl) (hdb : (x == ("__debug__" : Str)) = false := by decide)
    (he : starEach (e :: es) X.env = (false, eval e X.env) :: starEach es X.env := by rfl) (hpl : (backTo pos (starEach es X.env)).any (·.1) = false := by rfl) : PD X W (.Call (.Name x p) (e :: es) [] pos) (callS F fa) := by
  obtain ⟨f, fd, ps, ds, dvs, dfs, F0, hm, hk, hb, hd, hdf, hF, ok⟩ := D.ex
  refine PE.imp (pe_callSDG (E := fun σ => WE W σ) ok hr hg hm hk hb hd (fun σ => passAt tk σ) ha hdb he hpl) fun σ H Q ⟨g, σD, M, c, h⟩ => ?_
  refine ⟨g, σD, M, c, (RE.post_bind h).imp fun es' M1 g1 H1 ee l1 c1 h1 vs rs => ?_⟩
  rw [hF] at h1
  exact ⟨g1, es' ++ dfs, M1, c1.noslots, rs.append (hdf g1), post_lift c1 h1⟩
end
theorem start_slots {C : Ct} {g : Gh} {N : List Str} {ds : List D} {vs : List V} (r : RvA C g ds vs) : SlR C g (L2.start N vs) (ds.map some ++ List.replicate (N.length - ds.length) none) := by
  have hl := r.length
  refine ⟨by simp [L2.start, hl], fun i d e => ?_⟩
  unfold L2.start
  by_cases hi : i < ds.length
  · rw [List.getElem?_append_left (by simpa using hi)] at e
    rw [List.getElem?_append_left (by simp; omega)]
    rw [List.getElem?_map] at e
    cases e1 : ds[i]? with
    | none => rw [e1] at e; cases e
    | some d' =>
      rw [e1] at e
      simp only [Option.map_some, Option.some.injEq] at e
      subst e
      obtain ⟨v, e2, q⟩ := r.get e1
      exact ⟨v, by rw [List.getElem?_map, e2]; rfl, q⟩
  · rw [List.getElem?_append_right (by simp; omega)] at e
    have := List.mem_of_getElem? e
    simp at this
abbrev WofE (E : XK) : WX := fun u d _ H' => E u d H'
/-- THE RULE: a def by its body -/
theorem def_ok {P : Program} {w : World} {C : Ct} {base : Heap} {x qual : Str} {params : Arguments} {body : List Stmt} {scope : Scope} {dvs : List V} {kws : List (Str × V)} {f : Addr} {fd : FuncData} {N ps : List Str} {k : Nat} {s : SS} (n : Nat)
    (F : FunD C.K x qual params body scope dvs kws f fd) (S : FnScope N ps scope) (hn : N.length = n)
    (h : ∀ (cdv : Value) (A : Around) (outer : List Env) (s0 : Shared) (H : Hp) (E : XK), RoomG k (A.deeper (envOfC qual scope s0.heap.objs.size f cdv)) → SDs (cxOf (L2.CX P w) P w C.K C.mg base N qual scope f cdv A outer s0 H E) (WofE E) body s) :
    FnG P w C.K C.mg base (L2.CX P w) (k + 1) f fd ps (spD C (lenF ps.length (fnS n s))) := by
  refine FunD.okG F S (fun vs H Q E hsp => ?_) (fun cdv A outer s0 H vs Q E hr hsp => ?_)
  · obtain ⟨g, ds, M, c, r, h1⟩ := hsp
    unfold lenF at h1
    split at h1
    · rename_i e
      rw [← r.length, e]
    · exact h1.elim
  · refine ⟨_, h cdv A outer s0 H E hr, ?_⟩
    obtain ⟨g, ds, M, c, r, h1⟩ := hsp
    unfold lenF at h1
    split at h1
    case isFalse => exact h1.elim
    have c0 := c.slots (start_slots (N := N) r)
    refine ⟨g, _, M, c0, ?_⟩
    unfold fnS at h1
    rw [hn]
    generalize hb : s (ds.map some ++ List.replicate (n - ds.length) none) M = b at h1
    have fin : ∀ (d : D) (M' : Mem), (truncF M (.ok d M')).post C (fun u d _ H' => E u d H') g H [] [] (fun g' d _ H' => ∀ v, Rv C g' d v → Q v H') → ∀ g' H' v, Le g H g' H' → Conc C g' [] [] M' H' → Rv C g' d v → Q v H' := fun d M' hp g' H' v l c' rv => by
      rw [truncF_ok] at hp
      split at hp
      · rename_i hc
        obtain ⟨_, t, ht⟩ := l.gh
        have hp' : ∀ g' H', Le g H g' H' → Conc C g' [] [] (M'.take M.length) H' → ∀ v, Rv C g' d v → Q v H' := hp
        refine hp' (g'.cut g.rho) H' ⟨⟨l.gh.1, [], by simp [Gh.cut]⟩, fun a o e n => ⟨n, (l.out a o e n).2.1, (l.out a o e n).2.2⟩, l.frz⟩ (c.cut l c' hc.2) v (rv_cut ht d v rv ?_)
        rw [c.len]
        exact hc.1
      · have hp' : ∀ g' H', Le g H g' H' → Conc C g' [] [] M' H' → ∀ v, Rv C g' d v → Q v H' := hp
        exact hp' g' H' l c' v rv
    cases b with
    | nx s1 M1 => exact fun g' σ' H' l c' => fin .non M1 h1 g' H' .non l c'.noslots (by simp only [Rv])
    | rt d M1 => exact fun g' H' v l c' rv => fin d M1 h1 g' H' v l c' rv
    | bk s1 M1 => exact h1.elim
    | ct s1 M1 => exact h1.elim
    | ex e s1 M1 => exact fun g' σ' H' u l c' e => h1 g' H' u l c'.noslots e
    | bad => exact h1
theorem takesD {P : Program} {w : World} {C : Ct} {base : Heap} {N : List Str} {qual : Str} {scope : Scope} {f : Addr} {cdv : Value} {A : Around} {outer : List Env} {s0 : Shared} {H : Hp} {E : XK} :
    Takes (cxOf (L2.CX P w) P w C.K C.mg base N qual scope f cdv A outer s0 H E) (WofE E) := takes_of rfl rfl rfl rfl
theorem passesD {P : Program} {w : World} {C : Ct} {base : Heap} {N : List Str} {qual : Str} {scope : Scope} {f : Addr} {cdv : Value} {A : Around} {outer : List Env} {s0 : Shared} {H : Hp} {E : XK} :
    PassesOwn (model P w) (cxOf (L2.CX P w) P w C.K C.mg base N qual scope f cdv A outer s0 H E).A (cxOf (L2.CX P w) P w C.K C.mg base N qual scope f cdv A outer s0 H E).env (cxOf (L2.CX P w) P w C.K C.mg base N qual scope f cdv A outer s0 H E).xe := passes_of rfl
end Lf

/-! Lf4: targets, what is walked, loops, comprehensions. -/
namespace Lf
open PySem PySem.Spec PyProof.Rows L2

/-! ### targets -/
inductive Tg where
  | nm (i : Nat) | tp (ts : List Tg)
mutual
def Tg.set : Tg → D → Sl → Option Sl
  | .nm i, d, σ => some (σ.set i (some d))
  | .tp ts, d, σ => match d with
    | .tup ds => Tg.sets ts ds σ
    | _ => none
def Tg.sets : List Tg → List D → Sl → Option Sl
  | [], [], σ => some σ
  | t :: ts, d :: ds, σ => match Tg.set t d σ with
    | some σ1 => Tg.sets ts ds σ1
    | none => none
  | _, _, _ => none
end
mutual
def Tg.ix : Tg → List Nat
  | .nm i => [i]
  | .tp ts => Tg.ixs ts
def Tg.ixs : List Tg → List Nat
  | [] => []
  | t :: ts => Tg.ix t ++ Tg.ixs ts
end
mutual
def gT (K : PySem.W.Frag) : Tg → TG
  | .nm i => gName i
  | .tp ts => gTup K ts.length (gTs K ts)
def gTs (K : PySem.W.Frag) : List Tg → TGs
  | [] => gNil
  | t :: ts => gCons (gT K t) (gTs K ts)
end
mutual
theorem gT_ok {C : Ct} {g : Gh} {M : Mem} {H : Hp} : ∀ (t : Tg) (d : D) (v : V) (σ : L2.St) (σD σD' : Sl) (Q : L2.St → Hp → Prop), Conc C g σ σD M H → Rv C g d v → Tg.set t d σD = some σD' →
    (∀ σ', Conc C g σ' σD' M H → σ'.length = σ.length → (∀ i, i ∉ Tg.ix t → σ'[i]? = σ[i]?) → Q σ' H) → gT C.K t v σ H Q
  | .nm i, d, v, σ, σD, σD', Q, c, r, e, h => by
    simp only [Tg.set, Option.some.injEq] at e
    subst e
    simp only [gT, gName]
    refine h _ (c.set i r) (by simp) fun j hj => ?_
    simp only [Tg.ix, List.mem_singleton] at hj
    exact List.getElem?_set_ne (Ne.symm hj)
  | .tp ts, d, v, σ, σD, σD', Q, c, r, e, h => by
    cases d <;> simp only [Tg.set, reduceCtorEq] at e
    simp only [Rv] at r
    obtain ⟨a, vs, rfl, s, q⟩ := r
    simp only [gT, gTup]
    have hl : ∀ (ts : List Tg) (ds : List D) (σ σ' : Sl), Tg.sets ts ds σ = some σ' → ts.length = ds.length := by
      intro ts
      induction ts with
      | nil => intro ds σ σ' z; cases ds <;> simp [Tg.sets] at z ⊢
      | cons t ts ih =>
        intro ds σ σ' z
        cases ds with
        | nil => simp [Tg.sets] at z
        | cons d ds =>
          simp only [Tg.sets] at z
          split at z
          · simp [ih _ _ _ z]
          · cases z
    exact ⟨a, vs, rfl, .inl (.inl (c.le _ _ s)), by rw [← q.length]; exact (hl _ _ _ _ e).symm, gTs_ok ts _ vs σ σD σD' Q c q e fun σ' c' l k => h σ' c' l (by simpa only [Tg.ix] using k)⟩
theorem gTs_ok {C : Ct} {g : Gh} {M : Mem} {H : Hp} : ∀ (ts : List Tg) (ds : List D) (vs : List V) (σ : L2.St) (σD σD' : Sl) (Q : L2.St → Hp → Prop), Conc C g σ σD M H → RvA C g ds vs → Tg.sets ts ds σD = some σD' →
    (∀ σ', Conc C g σ' σD' M H → σ'.length = σ.length → (∀ i, i ∉ Tg.ixs ts → σ'[i]? = σ[i]?) → Q σ' H) → gTs C.K ts vs σ H Q
  | [], ds, vs, σ, σD, σD', Q, c, r, e, h => by
    cases ds <;> simp only [Tg.sets, Option.some.injEq, reduceCtorEq] at e
    subst e
    rw [r.nil_inv]
    have q : gTs C.K [] = gNil := by simp only [gTs]
    rw [q]
    exact ⟨rfl, h σ c rfl fun _ _ => rfl⟩
  | t :: ts, ds, vs, σ, σD, σD', Q, c, r, e, h => by
    cases ds with
    | nil => simp [Tg.sets] at e
    | cons d ds =>
      simp only [Tg.sets] at e
      split at e
      · rename_i σ1 e1
        obtain ⟨v, us, rfl, q, rs⟩ := r.cons_inv
        simp only [gTs, gCons]
        refine ⟨v, us, rfl, gT_ok t d v σ σD σ1 _ c q e1 fun σ' c' l k => ?_⟩
        refine gTs_ok ts ds us σ' σ1 σD' Q c' rs e fun σ2 c2 l2 k2 => h σ2 c2 (l2.trans l) fun i hi => ?_
        simp only [Tg.ixs, List.mem_append, not_or] at hi
        rw [k2 i hi.2, k i hi.1]
      · cases e
end
/-- the target is t -/
abbrev GD (X : Cx) (e : Expr) (t : Tg) : Prop := PG X e (gT X.K t)
abbrev GDs (X : Cx) (es : List Expr) (ts : List Tg) : Prop := PGs X es (gTs X.K ts)
section
variable {X : Cx} {W : WX} {pos : Pos}
theorem g_nm {i : Nat} {x : Str} (hN : X.N.Nodup) (hi : X.N[i]? = some x := by rfl) (hx : Loc X.env.scope x := by first | exact Or.inl rfl | exact Or.inr rfl) (hf : X.fn x = true ∨ X.env.scope.names.lookup x = some .local := by first | exact .inl rfl | exact .inr rfl) : GD X (.Name x pos) (.nm i) := by
  have q : gT X.K (.nm i) = gName i := by simp only [gT]
  show PG X _ (gT X.K (.nm i))
  rw [q]
  exact pg_name hN hi hx hf
theorem gs_nil : GDs X [] [] := by
  have q : gTs X.K [] = gNil := by simp only [gTs]
  show PGs X _ (gTs X.K [])
  rw [q]
  exact pgs_nil
theorem gs_cons {e : Expr} {es : List Expr} {t : Tg} {ts : List Tg} (h1 : GD X e t) (h2 : GDs X es ts) (hs : (assignEach (e :: es) X.env).map (·.2) = assign e X.env :: (assignEach es X.env).map (·.2) := by rfl) : GDs X (e :: es) (t :: ts) := by
  have q : gTs X.K (t :: ts) = gCons (gT X.K t) (gTs X.K ts) := by simp only [gTs]
  show PGs X _ (gTs X.K (t :: ts))
  rw [q]
  exact pgs_cons h1 h2 hs
theorem g_tp {es : List Expr} {k : Nat} {ts : List Tg} (hc : X.calm = true) (h : GDs X es ts) (hn : (assignEach es X.env).length = ts.length := by rfl) (hst : (assignEach es X.env).findIdx? (·.1) = none := by rfl) : GD X (.Tuple es k pos) (.tp ts) := by
  have q : gT X.K (.tp ts) = gTup X.K ts.length (gTs X.K ts) := by simp only [gT]
  show PG X _ (gT X.K (.tp ts))
  rw [q]
  exact pg_tup hc h hn hst
/-- target = e -/
def asgS (t : Tg) (f : SE) : SS := fun σ M => match f σ M with
  | .ok d M1 => match Tg.set t d σ with
    | some σ1 => .nx σ1 M1
    | none => .bad
  | .ex c M1 => .ex c σ M1
  | .bad => .bad
theorem s_asg {tg e : Expr} {t : Tg} {f : SE} (he : PD X W e f) (hg : GD X tg t) (hs : swapsWithSole [tg] e pos.line X.env = pure false := by rfl) (hw : swappedStores [tg] e X.env = pure none := by rfl)
    (h1 : (assignEach [tg] X.env).map (·.2) = [assign tg X.env] := by rfl) : SD X W (.Assign [tg] e pos) (asgS t f) :=
  PS.imp (ps_asg he hg hs hw h1) fun E σ H ⟨g, σD, M, c, h⟩ => ⟨g, σD, M, c, by
    unfold asgS at h
    cases e : f σD M with
    | ok d M1 =>
      rw [e] at h
      intro g' H' l c' v r
      simp only at h
      split at h
      · rename_i σ1 e1
        exact gT_ok t d v σ σD σ1 _ c' r e1 fun σ' c2 _ _ => h g' σ' H' l c2
      · exact h.elim
    | ex x M1 =>
      rw [e] at h
      exact fun g' H' u l c' e => h g' σ H' u l c' e
    | bad => rw [e] at h; exact h⟩

/-! ### what is walked: its items, and where they stay as they are -/
structure ItD where
  all : List D
  chk : Mem → Prop
/-- the walk J gives these items while chk holds -/
def ItOk (C : Ct) (g : Gh) (H0 : Hp) (J : It) (z : ItD) : Prop := ∀ g' σ σD M H, Le g H0 g' H → Conc C g' σ σD M H → z.chk M → ∀ i, (∀ d, z.all[i]? = some d → J.go i H ∧ ∀ x H', J.yld i H x H' → ∃ g2, Le g' H g2 H' ∧ Conc C g2 σ σD M H' ∧ Rv C g2 d x) ∧ (z.all.length ≤ i → J.stop i H)
theorem ItOk.mono {C : Ct} {g g' : Gh} {H0 H1 : Hp} {J : It} {z : ItD} (h : ItOk C g H0 J z) (l : Le g H0 g' H1) : ItOk C g' H1 J z := fun g2 σ σD M H l2 c k i => h g2 σ σD M H (l.trans l2) c k i
abbrev SI := Sl → Mem → RE ItD
def tI (C : Ct) (W : WX) (f : SI) : TI := fun σ H R => ∃ g σD M, Conc C g σ σD M H ∧ (f σD M).post C W g H σ σD fun g' z M' H' => ∀ J, ItOk C g' H' J z → R J H'
abbrev ID (X : Cx) (W : WX) (tg e : Expr) (f : SI) : Prop := PI X tg e (tI (ctx X) W f)
theorem PI.imp {tg e : Expr} {t t' : TI} (h : PI X tg e t) (k : ∀ σ H R, t' σ H R → t σ H R) : PI X tg e t' := ⟨fun pins s σ H R I q => h.run pins s σ H R I (k σ H R q)⟩
/-- the items of a list -/
def lstOf (M : Mem) : D → Option (List D)
  | .lst ds => some ds
  | .scr ds => some ds
  | .ref i => match M[i]? with
    | some (.lst ds) => some ds
    | _ => none
  | _ => none
/-- the items of a list or a tuple -/
def seqOf (M : Mem) : D → Option (List D)
  | .tup ds => some ds
  | d => lstOf M d
theorem lst_at {C : Ct} {g : Gh} {σ : L2.St} {σD : Sl} {M : Mem} {H : Hp} {d : D} {v : V} {ds : List D} (c : Conc C g σ σD M H) (r : Rv C g d v) (e : lstOf M d = some ds) :
    ∃ a vs, v = .ref a ∧ RvA C g ds vs ∧ SqL C.K H a vs := by
  cases d <;> simp only [lstOf, Option.some.injEq, reduceCtorEq] at e
  · subst e
    simp only [Rv] at r
    obtain ⟨a, vs, e1, s, q⟩ := r
    exact ⟨a, vs, e1, q, SqL.of (c.le _ _ s)⟩
  · subst e
    simp only [Rv] at r
    obtain ⟨a, vs, e1, s, q⟩ := r
    exact ⟨a, vs, e1, q, sqL_le c.le s⟩
  · rename_i i
    split at e
    · rename_i ds' e2
      simp only [Option.some.injEq] at e
      subst e
      simp only [Rv] at r
      obtain ⟨a, e1, q⟩ := r
      obtain ⟨o, ho, ro⟩ := c.obj i a _ q e2 (by intro z; cases z)
      cases ro with
      | lst ro => exact ⟨a, _, e1, ro, SqL.of ho⟩
    · cases e
theorem tup_at {C : Ct} {g : Gh} {σ : L2.St} {σD : Sl} {M : Mem} {H : Hp} {v : V} {ds : List D} (c : Conc C g σ σD M H) (r : Rv C g (.tup ds) v) :
    ∃ a vs, v = .ref a ∧ RvA C g ds vs ∧ SqT C.K H a vs := by
  simp only [Rv] at r
  obtain ⟨a, vs, e1, s, q⟩ := r
  exact ⟨a, vs, e1, q, .inl (.inl (c.le _ _ s))⟩
theorem tup_ex {C : Ct} {g : Gh} {σ : L2.St} {σD : Sl} {M : Mem} {H : Hp} {v : V} {ds : List D} (c : Conc C g σ σD M H) (r : Rv C g (.tup ds) v) :
    ∃ a vs, v = .ref a ∧ RvA C g ds vs ∧ H a = some (.tup vs) := by
  simp only [Rv] at r
  obtain ⟨a, vs, e1, s, q⟩ := r
  exact ⟨a, vs, e1, q, c.le _ _ s⟩
/-- a list's or tuple's iterator -/
def iSeq (K : PySem.W.Frag) (tl : TE) : TI := fun σ H R => tl σ H fun x H1 => ∃ a, x = .ref a ∧ (((∃ xs, SqL K H1 a xs) ∧ R (Itl K a) H1) ∨ ((∃ xs, SqT K H1 a xs) ∧ R (Itt K a) H1))
theorem pi_seq {tg l : Expr} {tl : TE} (hl : PE X l tl) : PI X tg l (iSeq X.K tl) := by
  constructor
  intro pins s σ H R I h
  refine thn (hl.run pins s σ H _ I h) ?_
  rintro v s1 ⟨x, H1, I1, r1, a, e, q⟩
  subst e
  obtain rfl : v = Value.ref a := r1
  have key : ∀ o : Obj, Inv X pins σ H1 { s1 with heap := s1.heap.push o } := fun o => I1.kept (t' := s1.toks) fun b u z => Heap.get?_push_of_some o z
  have fp : ∀ b ∈ [s1.heap.objs.size], FpOk X pins H1 b := fun b hb => by
    rw [List.mem_singleton.mp hb]
    exact I1.fpOk (Nat.le_refl _) (I1.hok.fresh (Nat.le_refl _))
  rcases q with ⟨⟨xs, hs⟩, hR⟩ | ⟨⟨xs, hs⟩, hR⟩
  · obtain ⟨its, _, p, _⟩ := I1.list hs
    exact wpAny_pyIter_list p.isList ⟨_, _, _, _, H1, rfl, key _, turn_list a _, ⟨_, Heap.get?_push_size s1.heap rfl, rfl, rfl⟩, fp, hR⟩
  · obtain ⟨its, _, p, _⟩ := I1.tuple hs
    exact wpAny_pyIter_tuple (show s1.heap.IsTuple a its.toArray from p) ⟨_, _, _, _, H1, rfl, key _, turn_tuple a _, ⟨_, Heap.get?_push_size s1.heap rfl, rfl, rfl⟩, fp, hR⟩
def iseqS (f : SE) : SI := fun σ M => (f σ M).bind fun d M1 => match seqOf M1 d with
  | some ds => .ok ⟨ds, fun M' => seqOf M' d = some ds⟩ M1
  | none => .bad
theorem itOk_l {C : Ct} {g : Gh} {H0 : Hp} {d : D} {a : Addr} {ds : List D} (r : Rv C g d (.ref a)) : ItOk C g H0 (Itl C.K a) ⟨ds, fun M => lstOf M d = some ds⟩ := fun g' σ σD M H l c k i => by
  obtain ⟨b, vs, e, rs, s⟩ := lst_at c (Rv.mono l.gh _ _ r) k
  cases e
  have hl := rs.length
  refine ⟨fun dd hd => ?_, fun hi => ⟨vs, s, by rw [← hl]; exact hi⟩⟩
  obtain ⟨x, hx, rx⟩ := rs.get hd
  refine ⟨⟨vs, x, s, hx⟩, fun y H' ⟨e1, e2⟩ => ?_⟩
  subst e1
  have e3 := e2 vs s
  rw [hx] at e3
  cases e3
  exact ⟨g', Le.refl _ _, c, rx⟩
theorem itOk_t {C : Ct} {g : Gh} {H0 : Hp} {a : Addr} {ds : List D} (r : Rv C g (.tup ds) (.ref a)) : ItOk C g H0 (Itt C.K a) ⟨ds, fun _ => True⟩ := fun g' σ σD M H l c k i => by
  obtain ⟨b, vs, e, rs, s⟩ := tup_at c (Rv.mono l.gh _ _ r)
  cases e
  have hl := rs.length
  refine ⟨fun dd hd => ?_, fun hi => ⟨vs, s, by rw [← hl]; exact hi⟩⟩
  obtain ⟨x, hx, rx⟩ := rs.get hd
  refine ⟨⟨vs, x, s, hx⟩, fun y H' ⟨e1, e2⟩ => ?_⟩
  subst e1
  have e3 := e2 vs s
  rw [hx] at e3
  cases e3
  exact ⟨g', Le.refl _ _, c, rx⟩
theorem ItOk.weak {C : Ct} {g : Gh} {H0 : Hp} {J : It} {ds : List D} {k k' : Mem → Prop} (h : ItOk C g H0 J ⟨ds, k⟩) (hk : ∀ M, k' M → k M) : ItOk C g H0 J ⟨ds, k'⟩ := fun g' σ σD M H l c q i => h g' σ σD M H l c (hk M q) i
theorem i_seq {tg e : Expr} {f : SE} (h : PD X W e f) : ID X W tg e (iseqS f) :=
  PI.imp (pi_seq h) fun σ H R ⟨g, σD, M, c, h⟩ => ⟨g, σD, M, c, (RE.post_bind h).imp fun d M1 g1 H1 _ l1 c1 h1 v r => by
    split at h1
    case h_2 => exact h1.elim
    rename_i ds e
    have hh := h1 g1 H1 (Le.refl _ _) c1
    by_cases hd : ∃ es, d = .tup es
    · obtain ⟨es, rfl⟩ := hd
      have e' : es = ds := by simpa only [seqOf, Option.some.injEq] using e
      subst e'
      obtain ⟨a, vs, rfl, rs, s⟩ := tup_at c1 r
      exact ⟨a, rfl, .inr ⟨⟨_, s⟩, hh _ ((itOk_t r).weak fun _ _ => trivial)⟩⟩
    · have e2 : ∀ M, seqOf M d = lstOf M d := fun M => by cases d <;> first | rfl | exact absurd ⟨_, rfl⟩ hd
      rw [e2] at e
      obtain ⟨a, vs, rfl, rs, s⟩ := lst_at c1 r e
      exact ⟨a, rfl, .inl ⟨⟨_, s⟩, hh _ ((itOk_l r).weak fun M q => by rw [← e2]; exact q)⟩⟩⟩

/-! ### for -/
open Classical in
noncomputable def loopS (z : ItD) (t : Tg) (body : SS) : List D → Sl → Mem → RS
  | [], σ, M => if z.chk M then .nx σ M else .bad
  | x :: xs, σ, M => if z.chk M then (match Tg.set t x σ with
    | some σ1 => (match body σ1 M with
      | .nx σ2 M2 => loopS z t body xs σ2 M2
      | .ct σ2 M2 => loopS z t body xs σ2 M2
      | .bk σ2 M2 => .nx σ2 M2
      | r => r)
    | none => .bad) else .bad
noncomputable def forS (fi : SI) (t : Tg) (body : SS) : SS := fun σ M => match fi σ M with
  | .ok z M1 => loopS z t body z.all σ M1
  | .ex c M1 => .ex c σ M1
  | .bad => .bad
theorem s_for {tg iter : Expr} {body : List Stmt} {fi : SI} {t : Tg} {b : SS} (hp : PassesOwn (model X.prog X.w) X.A X.env X.xe) (hc : X.calm = true) (hi : ID X W tg iter fi) (hg : GD X tg t) (hb : SDs X W body b)
    (hs : ∀ x, foldedSetIterable iter X.env x = pure x := by intro _; rfl) : SD X W (.For tg iter body [] pos) (forS fi t b) :=
  PS.imp (ps_for hp hc hi hg hb hs) fun E σ H ⟨g, σD, M, c, h⟩ => by
    refine ⟨g, σD, M, c, ?_⟩
    unfold forS at h
    cases e : fi σD M with
    | ex x M1 =>
      rw [e] at h
      exact fun g' H' u l c' e => h g' σ H' u l c' e
    | bad => rw [e] at h; exact h
    | ok z M1 =>
      rw [e] at h
      intro g1 H1 l1 c1 J ok
      refine ⟨fun i m σ' H' => m = z.all.length - i ∧ i ≤ z.all.length ∧ ∃ g' σD' M', Le g1 H1 g' H' ∧ Conc (ctx X) g' σ' σD' M' H' ∧ (loopS z t b (z.all.drop i) σD' M').post (ctx X) W g' H' E, ⟨_, rfl, Nat.zero_le _, g1, σD, M1, Le.refl _ _, c1, RS.post.mono (r := loopS z t b z.all σD M1) h l1⟩, ?_⟩
      rintro i m σ' H' ⟨rfl, hi, g', σD', M', l', c', hp'⟩
      by_cases hlt : i < z.all.length
      · right
        rw [List.drop_eq_getElem_cons hlt] at hp'
        unfold loopS at hp'
        split at hp'
        case isFalse => exact hp'.elim
        rename_i hk
        split at hp'
        case h_2 => exact hp'.elim
        rename_i σ1 e1
        obtain ⟨hgo, hy⟩ := (ok g' σ' σD' M' H' l' c' hk i).1 _ (List.getElem?_eq_getElem hlt)
        refine ⟨hgo, fun σ2 H2 => ∃ g2 σD2 M2, Le g1 H1 g2 H2 ∧ Conc (ctx X) g2 σ2 σD2 M2 H2 ∧ (loopS z t b (z.all.drop (i + 1)) σD2 M2).post (ctx X) W g2 H2 E, fun σ2 H2 ⟨g2, σD2, M2, l2, c2, h2⟩ => ⟨z.all.length - (i + 1), by omega, rfl, hlt, g2, σD2, M2, l2, c2, h2⟩, fun x H2 hx => ?_⟩
        obtain ⟨g2, l2, c2, rx⟩ := hy x H2 hx
        refine gT_ok t _ x σ' σD' σ1 _ c2 rx e1 fun σ2 c3 _ _ => ⟨g2, σ1, M', c3, ?_⟩
        cases eb : b σ1 M' with
        | nx s2 M2 =>
          rw [eb] at hp'
          exact fun g3 σ3 H3 l3 c4 => ⟨g3, s2, M2, Le.trans l' (Le.trans l2 l3), c4, RS.post.mono (r := loopS z t b _ s2 M2) hp' (Le.trans l2 l3)⟩
        | ct s2 M2 =>
          rw [eb] at hp'
          exact fun g3 σ3 H3 l3 c4 => ⟨g3, s2, M2, Le.trans l' (Le.trans l2 l3), c4, RS.post.mono (r := loopS z t b _ s2 M2) hp' (Le.trans l2 l3)⟩
        | bk s2 M2 =>
          rw [eb] at hp'
          exact fun g3 σ3 H3 l3 c4 => hp' g3 σ3 H3 (Le.trans l2 l3) c4
        | rt d M2 =>
          rw [eb] at hp'
          exact fun g3 H3 v l3 c4 r => hp' g3 H3 v (Le.trans l2 l3) c4 r
        | ex y s2 M2 =>
          rw [eb] at hp'
          exact fun g3 σ3 H3 u l3 c4 r => hp' g3 σ3 H3 u (Le.trans l2 l3) c4 r
        | bad =>
          rw [eb] at hp'
          exact hp'
      · left
        have ei : i = z.all.length := by omega
        subst ei
        rw [List.drop_length] at hp'
        unfold loopS at hp'
        split at hp'
        case isFalse => exact hp'.elim
        rename_i hk
        exact ⟨(ok g' σ' σD' M' H' l' c' hk _).2 (Nat.le_refl _), hp' g' σ' H' (Le.refl _ _) c'⟩

/-! ### while -/
def whileN (t : ST) (b : SS) : Nat → Sl → Mem → Option RS
  | 0, _, _ => none
  | n + 1, σ, M => match t σ M with
    | .ok true M1 => (match b σ M1 with
      | .nx σ2 M2 => whileN t b n σ2 M2
      | .ct σ2 M2 => whileN t b n σ2 M2
      | .bk σ2 M2 => some (.nx σ2 M2)
      | r => some r)
    | .ok false M1 => some (.nx σ M1)
    | .ex c M1 => some (.ex c σ M1)
    | .bad => some .bad
theorem whileN_mono {t : ST} {b : SS} : ∀ {n m : Nat} {σ : Sl} {M : Mem} {r : RS}, n ≤ m → whileN t b n σ M = some r → whileN t b m σ M = some r
  | 0, _, _, _, _, _, h => by simp [whileN] at h
  | n + 1, 0, _, _, _, l, _ => absurd l (by omega)
  | n + 1, m + 1, σ, M, r, l, h => by
    unfold whileN at h ⊢
    cases e : t σ M with
    | ex c M1 => rw [e] at h; exact h
    | bad => rw [e] at h; exact h
    | ok c M1 =>
      rw [e] at h
      cases c with
      | false => exact h
      | true =>
        simp only at h ⊢
        cases eb : b σ M1 with
        | nx s2 M2 => rw [eb] at h; exact whileN_mono (Nat.le_of_succ_le_succ l) h
        | ct s2 M2 => rw [eb] at h; exact whileN_mono (Nat.le_of_succ_le_succ l) h
        | bk s2 M2 => rw [eb] at h; exact h
        | rt d M2 => rw [eb] at h; exact h
        | ex y s2 M2 => rw [eb] at h; exact h
        | bad => rw [eb] at h; exact h
open Classical in
noncomputable def whileS (t : ST) (b : SS) : SS := fun σ M => if h : ∃ n r, whileN t b n σ M = some r then h.choose_spec.choose else .bad
theorem whileS_of {t : ST} {b : SS} {n : Nat} {σ : Sl} {M : Mem} {r : RS} (h : whileN t b n σ M = some r) : whileS t b σ M = r := by
  have hx : ∃ n r, whileN t b n σ M = some r := ⟨n, r, h⟩
  unfold whileS
  rw [dif_pos hx]
  have h2 := hx.choose_spec.choose_spec
  have a := whileN_mono (Nat.le_max_left hx.choose n) h2
  have c := whileN_mono (Nat.le_max_right hx.choose n) h
  rw [a] at c
  exact Option.some.inj c
theorem whileS_or {t : ST} {b : SS} {σ : Sl} {M : Mem} : whileS t b σ M = .bad ∨ ∃ n, whileN t b n σ M = some (whileS t b σ M) := by
  by_cases h : ∃ n r, whileN t b n σ M = some r
  · right
    obtain ⟨n, r, e⟩ := h
    exact ⟨n, by rw [whileS_of e]; exact e⟩
  · left
    unfold whileS
    rw [dif_neg h]
/-- one turn, then again -/
theorem whileS_true {t : ST} {b : SS} {σ σ2 : Sl} {M M1 M2 : Mem} (ht : t σ M = .ok true M1) (hb : b σ M1 = .nx σ2 M2) : whileS t b σ M = whileS t b σ2 M2 := by
  have step : ∀ n, whileN t b (n + 1) σ M = whileN t b n σ2 M2 := fun n => by
    show (match t σ M with
      | .ok true M1 => _
      | .ok false M1 => _
      | .ex c M1 => _
      | .bad => _) = _
    rw [ht]
    simp only
    rw [hb]
  rcases whileS_or (t := t) (b := b) (σ := σ2) (M := M2) with h | ⟨n, h⟩
  · rcases whileS_or (t := t) (b := b) (σ := σ) (M := M) with k | ⟨m, k⟩
    · rw [h, k]
    · cases m with
      | zero => simp [whileN] at k
      | succ m =>
        rw [step] at k
        exact (whileS_of k).symm
  · exact whileS_of (n := n + 1) (by rw [step]; exact h)
theorem whileS_false {t : ST} {b : SS} {σ : Sl} {M M1 : Mem} (ht : t σ M = .ok false M1) : whileS t b σ M = .nx σ M1 :=
  whileS_of (n := 1) (by unfold whileN; rw [ht])
theorem s_while {c : Expr} {body : List Stmt} {t : ST} {b : SS} (hp : PassesOwn (model X.prog X.w) X.A X.env X.xe) (hc : TD X W c t) (hb : SDs X W body b) : SD X W (.While c body [] pos) (whileS t b) :=
  PS.imp (ps_while hp hc hb) fun E σ H ⟨g, σD, M, cc, h⟩ => by
    rcases whileS_or (t := t) (b := b) (σ := σD) (M := M) with e | ⟨n, e⟩
    · rw [e] at h
      exact h.elim
    refine ⟨fun m σ' H' => ∃ g' σD' M' r, Conc (ctx X) g' σ' σD' M' H' ∧ whileN t b m σD' M' = some r ∧ r.post (ctx X) W g' H' E, ⟨n, g, σD, M, _, cc, e, h⟩, ?_⟩
    rintro m σ' H' ⟨g', σD', M', r, c', e', h'⟩
    cases m with
    | zero => simp [whileN] at e'
    | succ m =>
      refine ⟨g', σD', M', c', ?_⟩
      unfold whileN at e'
      cases et : t σD' M' with
      | ex y M1 =>
        rw [et] at e'
        cases e'
        exact fun g2 H2 u l c2 e2 => h' g2 σ' H2 u l c2 e2
      | bad =>
        rw [et] at e'
        cases e'
        exact h'
      | ok q M1 =>
        rw [et] at e'
        intro g2 H2 l2 c2
        cases q with
        | false =>
          cases e'
          exact h' g2 σ' H2 l2 c2
        | true =>
          simp only at e'
          refine ⟨fun σ3 H3 => ∃ g3 σD3 M3 r, Conc (ctx X) g3 σ3 σD3 M3 H3 ∧ whileN t b m σD3 M3 = some r ∧ r.post (ctx X) W g3 H3 E, fun σ3 H3 q => ⟨m, Nat.lt_succ_self m, q⟩, g2, σD', M1, c2, ?_⟩
          cases eb : b σD' M1 with
          | nx s3 M3 =>
            rw [eb] at e'
            exact fun g3 σ3 H3 l3 c3 => ⟨g3, s3, M3, r, c3, e', h'.mono (Le.trans l2 l3)⟩
          | ct s3 M3 =>
            rw [eb] at e'
            exact fun g3 σ3 H3 l3 c3 => ⟨g3, s3, M3, r, c3, e', h'.mono (Le.trans l2 l3)⟩
          | bk s3 M3 =>
            rw [eb] at e'
            cases e'
            exact fun g3 σ3 H3 l3 c3 => h' g3 σ3 H3 (Le.trans l2 l3) c3
          | rt d M3 =>
            rw [eb] at e'
            cases e'
            exact fun g3 H3 v l3 c3 r => h' g3 H3 v (Le.trans l2 l3) c3 r
          | ex y s3 M3 =>
            rw [eb] at e'
            cases e'
            exact fun g3 σ3 H3 u l3 c3 r => h' g3 σ3 H3 u (Le.trans l2 l3) c3 r
          | bad =>
            rw [eb] at e'
            cases e'
            exact h'
end
end Lf

/-! Lf5: displays, comprehensions, what stays from now on. -/
namespace Lf
open PySem PySem.Spec PyProof.Rows L2
abbrev W0 : WX := fun _ _ _ _ => False
section
variable {X : Cx} {W : WX} {pos : Pos}
theorem takesW0 {X : Cx} : Takes X W0 := fun _ _ ⟨_, _, _, _, _, _, _, _, _, _, _, _, _, _, _, _, z⟩ => z.elim

/-! ### displays -/
def tupS (fa : SA) : SE := fun σ M => (fa σ M).bind fun ds M1 => if ds.length ≤ 1000 then .ok (.tup ds) M1 else .bad
def lstS (fa : SA) : SE := fun σ M => (fa σ M).bind fun ds M1 => if ds.length ≤ 1000 then .ok (.lst ds) M1 else .bad
def newS (fa : SA) : SE := fun σ M => (fa σ M).bind fun ds M1 => if ds.length ≤ 1000 then .ok (.ref M1.length) (M1 ++ [.lst ds]) else .bad
theorem small_line {n : Nat} (h : n ≤ 1000) : n ≤ sizeLine := Nat.le_of_lt (small1000 h)
theorem d_tup {es : List Expr} {x1} {fa : SA} (h : AD X W es fa) : PD X W (.Tuple es x1 pos) (tupS fa) :=
  PE.imp (pe_tup h) fun σ H Q ⟨g, σD, M, c, h⟩ => ⟨g, σD, M, c, (RE.post_bind h).imp fun ds M1 g1 H1 _ l1 c1 h1 vs rs => by
    split at h1
    case isFalse => exact h1.elim
    rename_i hl
    refine ⟨small_line (by rw [← rs.length]; exact hl), fun p hp => ?_⟩
    obtain ⟨l2, c2⟩ := c1.frzL (o := .tup vs) hp
    refine h1 _ _ l2 c2 _ ?_
    simp only [Rv]
    exact ⟨p, vs, rfl, upd_same, RvA.mono l2.gh _ _ rs⟩⟩
theorem d_lst {es : List Expr} {fa : SA} (h : AD X W es fa) : PD X W (.List es pos) (lstS fa) :=
  PE.imp (pe_lst h) fun σ H Q ⟨g, σD, M, c, h⟩ => ⟨g, σD, M, c, (RE.post_bind h).imp fun ds M1 g1 H1 _ l1 c1 h1 vs rs => by
    split at h1
    case isFalse => exact h1.elim
    rename_i hl
    refine ⟨small_line (by rw [← rs.length]; exact hl), fun p hp => ?_⟩
    obtain ⟨l2, c2⟩ := c1.frzL (o := .lst vs) hp
    refine h1 _ _ l2 c2 _ ?_
    simp only [Rv]
    exact ⟨p, vs, rfl, upd_same, RvA.mono l2.gh _ _ rs⟩⟩
/-- a list that will change -/
theorem d_new {es : List Expr} {fa : SA} (h : AD X W es fa) : PD X W (.List es pos) (newS fa) :=
  PE.imp (pe_lst h) fun σ H Q ⟨g, σD, M, c, h⟩ => ⟨g, σD, M, c, (RE.post_bind h).imp fun ds M1 g1 H1 _ l1 c1 h1 vs rs => by
    split at h1
    case isFalse => exact h1.elim
    rename_i hl
    refine ⟨small_line (by rw [← rs.length]; exact hl), fun p hp => ?_⟩
    obtain ⟨l2, c2, r2⟩ := c1.newL (o := .lst vs) hp (.lst rs)
    exact h1 _ _ l2 c2 _ r2⟩

/-! ### a list of the memory that stays from now on; a list that is new and will change -/
def frzS (f : SE) : SE := fun σ M => (f σ M).bind fun d M1 => match d with
  | .ref i => (match M1[i]? with
    | some (.lst ds) => .ok (.lst ds) (M1.set i .gone)
    | _ => .bad)
  | _ => .bad
theorem d_frz {e : Expr} {f : SE} (h : PD X W e f) : PD X W e (frzS f) :=
  PE.imp h fun σ H Q ⟨g, σD, M, c, h⟩ => ⟨g, σD, M, c, (RE.post_bind h).imp fun d M1 g1 H1 _ l1 c1 h1 v r => by
    cases d <;> try exact h1.elim
    rename_i i
    simp only at h1
    split at h1
    · rename_i ds e1
      simp only [Rv] at r
      obtain ⟨a, rfl, e2⟩ := r
      obtain ⟨g2, l2, c2, r2⟩ := c1.freezeL e2 e1
      exact h1 g2 H1 l2 c2 _ r2
    · exact h1.elim⟩

/-! ### comprehensions -/
abbrev TDs (X : Cx) (W : WX) (ifs : List Expr) (f : ST) : Prop := PTs X ifs (tT (ctx X) W f)
def yesT : ST := fun _ M => .ok true M
theorem ts_nil : TDs X W [] yesT := ⟨fun pins s σ H Q I ⟨g, σD, M, c, h⟩ => pts_nil.run pins s σ H Q I (h g H (Le.refl _ _) c)⟩
theorem ts_one {c : Expr} {f : ST} (h : TD X W c f) : TDs X W [c] f := pts_one h
open Classical in
noncomputable def lcLoop (z : ItD) (t : Tg) (tt : ST) (f : SE) : List D → Sl → Mem → List D → RE (List D)
  | [], _, M, acc => if z.chk M then .ok acc M else .bad
  | x :: xs, σ, M, acc => if z.chk M then (match Tg.set t x σ with
    | some σ1 => (match tt σ1 M with
      | .ok true M1 => (match f σ1 M1 with
        | .ok y M2 => lcLoop z t tt f xs σ M2 (acc ++ [y])
        | _ => .bad)
      | .ok false M1 => lcLoop z t tt f xs σ M1 acc
      | _ => .bad)
    | none => .bad) else .bad
noncomputable def lcS (fi : SI) (t : Tg) (vs : List Nat) (tt : ST) (f : SE) : SE := fun σ M => (fi σ M).bind fun z M1 => if z.all.length ≤ sizeLine then (lcLoop z t tt f z.all (wipeD σ vs) M1 []).bind fun ds M2 => .ok (.lst ds) M2 else .bad
theorem wipe_same {σ σ' : L2.St} {vs : List Nat} (hl : σ'.length = σ.length) (h : ∀ i, i ∉ vs → σ'[i]? = σ[i]?) : wipe σ' vs = wipe σ vs := by
  apply List.ext_getElem?
  intro i
  by_cases hi : i ∈ vs
  · have key : ∀ (τ : L2.St) (us : List Nat), i ∈ us → (wipe τ us)[i]? = if i < τ.length then some none else none := by
      intro τ us
      induction us with
      | nil => intro z; cases z
      | cons u us ih =>
        intro z
        unfold wipe
        rw [List.getElem?_set]
        by_cases hu : u = i
        · subst hu
          simp [wipe_length]
        · rw [if_neg hu]
          rcases List.mem_cons.mp z with e | z
          · exact absurd e.symm hu
          · exact ih z
    rw [key _ _ hi, key _ _ hi, hl]
  · rw [wipe_out hi, wipe_out hi, h i hi]
theorem wipe_wipe_out {σ : L2.St} {vs : List Nat} : wipe (wipe σ vs) vs = wipe σ vs := by
  refine wipe_same (wipe_length σ vs) fun i hi => ?_
  rw [wipe_out hi]
theorem lc_imp {C : Ct} {fi : SI} {t : Tg} {vs : List Nat} {tt : ST} {f : SE} (ht : ∀ i ∈ Tg.ix t, i ∈ vs) : ∀ σ H Q, tE C W (lcS fi t vs tt f) σ H Q → tLc (tI C W fi) (gT C.K t) (tT C W0 tt) (tE C W0 f) vs σ H Q := by
  rintro σ H Q ⟨g, σD, M, c, h⟩
  refine ⟨g, σD, M, c, (RE.post_bind h).imp fun z M1 g1 H1 _ l1 c1 h1 J ok P hD => ?_⟩
  split at h1
  case isFalse => exact h1.elim
  rename_i hz
  obtain ⟨hG, hR⟩ := c1.fresh hD
  let Wv : Nat → Nat → Hp → Prop := fun i m H' => m = z.all.length - i ∧ i ≤ z.all.length ∧ ∃ g' M' acc accV, Le g1 H1 g' H' ∧ P ∉ g'.rho ∧ g'.G P = none ∧ H' P = some (.lst accV) ∧ Conc C g' (wipe σ vs) (wipeD σD vs) M' H' ∧ RvA C g' acc accV ∧ acc.length ≤ i ∧
    ((lcLoop z t tt f (z.all.drop i) (wipeD σD vs) M' acc).bind fun ds M2 => .ok (.lst ds) M2).post C W g1 H1 σ σD fun g' d _ H' => ∀ v, Rv C g' d v → Q v H'
  refine ⟨Wv, ⟨_, rfl, Nat.zero_le _, g1, M1, [], [], (Le.refl g1 H1).other hD, hR, hG, upd_same, (c1.slots (c1.sl.wipe vs)).other hG hR, RvA.nil, Nat.le_refl _, by rw [List.drop_zero]; exact h1⟩, ?_⟩
  rintro i m H' ⟨rfl, hi, g', M', acc, accV, l', nD, gD, eD, c', ra, hacc, hp⟩
  by_cases hlt : i < z.all.length
  · right
    rw [List.drop_eq_getElem_cons hlt] at hp
    unfold lcLoop at hp
    split at hp
    case isFalse => exact hp.elim
    rename_i hk
    split at hp
    case h_2 => exact hp.elim
    rename_i σ1 e1
    obtain ⟨hgo, hy⟩ := (ok g' (wipe σ vs) (wipeD σD vs) M' H' l' c' hk i).1 _ (List.getElem?_eq_getElem hlt)
    refine ⟨hgo, fun H2 => Wv (i + 1) (z.all.length - (i + 1)) H2, fun H2 w => ⟨_, by omega, w⟩, fun x H2 hx => ?_⟩
    obtain ⟨g2, l2, c2, rx⟩ := hy x H2 hx
    obtain ⟨nD2, eD2, gD2⟩ := l2.out P _ eD nD
    refine gT_ok t _ x (wipe σ vs) (wipeD σD vs) σ1 _ c2 rx e1 fun σ2 c3 hl hk2 => ⟨?_, g2, σ1, M', c3, ?_⟩
    · rw [wipe_same hl fun j hj => hk2 j fun q => hj (ht j q), wipe_wipe_out]
    have fin : ∀ (g4 : Gh) (M4 : Mem) (H4 : Hp) (σ3 : L2.St) (σ4 : Sl) (acc' : List D) (accV' : List V), Le g2 H2 g4 H4 → Conc C g4 σ3 σ4 M4 H4 → RvA C g4 acc' accV' → acc'.length ≤ i + 1 →
        ((lcLoop z t tt f (z.all.drop (i + 1)) (wipeD σD vs) M4 acc').bind fun ds M2 => .ok (.lst ds) M2).post C W g1 H1 σ σD (fun g' d _ H' => ∀ v, Rv C g' d v → Q v H') →
        Wv (i + 1) (z.all.length - (i + 1)) (upd H4 P (.lst accV')) := fun g4 M4 H4 σ3 σ4 acc' accV' l4 c4 r4 hl4 hp4 => by
      obtain ⟨nD4, eD4, gD4⟩ := l4.out P _ eD2 nD2
      have gD4' : g4.G P = none := gD4.l.trans (gD2.l.trans gD)
      exact ⟨rfl, hlt, g4, M4, acc', accV', ((l'.trans l2).trans l4).other hD, nD4, gD4', upd_same, (c4.slots ((c2.sl).mono l4.gh)).other gD4' nD4, r4, hl4, hp4⟩
    cases et : tt σ1 M' with
    | ex y M2 => rw [et] at hp; exact hp.elim
    | bad => rw [et] at hp; exact hp.elim
    | ok b M2 =>
      rw [et] at hp
      intro g3 H3 l3 c4
      obtain ⟨nD3, eD3, gD3⟩ := l3.out P _ eD2 nD2
      cases b with
      | false =>
        have w := fin g3 M2 H3 σ2 σ1 acc accV l3 c4 (RvA.mono (Gh.le_trans l2.gh l3.gh) _ _ ra) (by omega) hp
        have e : upd H3 P (.lst accV) = H3 := by
          funext b
          by_cases hb : b = P
          · subst hb
            rw [upd_same, eD3]
          · rw [upd_ne hb]
        rw [e] at w
        exact w
      | true =>
        refine ⟨g3, σ1, M2, c4, ?_⟩
        simp only at hp
        cases ef : f σ1 M2 with
        | ex y M3 => rw [ef] at hp; exact hp.elim
        | bad => rw [ef] at hp; exact hp.elim
        | ok y M3 =>
          rw [ef] at hp
          intro g4 H4 l4 c5 v rv
          obtain ⟨nD4, eD4, gD4⟩ := l4.out P _ eD3 nD3
          refine ⟨accV, eD4, ?_, fin g4 M3 H4 σ2 σ1 (acc ++ [y]) (accV ++ [v]) (l3.trans l4) c5 ((RvA.mono (Gh.le_trans l2.gh (Gh.le_trans l3.gh l4.gh)) _ _ ra).append (RvA.cons rv RvA.nil)) (by simp; omega) hp⟩
          rw [← ra.length]
          omega
  · left
    have ei : i = z.all.length := by omega
    subst ei
    rw [List.drop_length] at hp
    unfold lcLoop at hp
    split at hp
    case isFalse => exact hp.elim
    rename_i hk
    refine ⟨(ok g' (wipe σ vs) (wipeD σD vs) M' H' l' c' hk _).2 (Nat.le_refl _), ?_⟩
    obtain ⟨c5, l5, r5⟩ := c'.keep gD nD eD ra
    have l6 : Le g1 H1 ⟨upd g'.G P (.lst accV), g'.rho⟩ H' := ⟨Gh.le_trans l'.gh l5, fun a o e n => by
      obtain ⟨n1, e1, q1⟩ := l'.out a o e n
      refine ⟨n1, e1, ?_⟩
      show GK o (upd g'.G P (.lst accV) a) _
      rw [upd_ne (ne_of_none e hD)]
      exact q1, l'.frz⟩
    exact hp _ _ l6 (c5.slots (c1.sl.mono l6.gh)) _ r5
theorem d_lc {elt tg iter : Expr} {ifs : List Expr} {scope : Scope} {own : List (Str × Nat)} {fi : SI} {t : Tg} {tt : ST} {f : SE} (hc : X.calm = true) (hN : X.N.Nodup) (ok : BlkOk X.N X.env.scope scope own) (ht : ∀ i ∈ Tg.ix t, i ∈ own.map (·.2)) (hi : ID X W tg iter fi)
    (hg : ∀ (s : Shared) (H : Hp) (C : Addr) (cl : List (Str × Addr)) (fp : List Addr), GD (X.blk s H scope (compEnvC scope cl C X.env) fp) tg t) (htt : ∀ (s : Shared) (H : Hp) (C : Addr) (cl : List (Str × Addr)) (fp : List Addr), TDs (X.blk s H scope (compEnvC scope cl C X.env) fp) W0 ifs tt)
    (he : ∀ (s : Shared) (H : Hp) (C : Addr) (cl : List (Str × Addr)) (fp : List Addr), PD (X.blk s H scope (compEnvC scope cl C X.env) fp) W0 elt f) (hs : ∀ x, foldedSetIterable iter X.env x = pure x := by intro _; rfl) :
    PD X W (.ListComp elt [⟨tg, iter, ifs, 0⟩] scope pos) (lcS fi t (own.map (·.2)) tt f) :=
  PE.imp (pe_lc (te := tE (ctx X) W0 f) (tt := tT (ctx X) W0 tt) (g := gT X.K t) hc hN hi ok hg htt he hs) (lc_imp (C := ctx X) ht)
/-- x = [..] -/
theorem s_setLc {i : Nat} {y : Str} {py : Pos} {elt tg iter : Expr} {ifs : List Expr} {scope : Scope} {own : List (Str × Nat)} {spos : Pos} {fi : SI} {t : Tg} {tt : ST} {f : SE} (hc : X.calm = true) (hN : X.N.Nodup) (hsw : swapsWith (.ListComp elt [⟨tg, iter, ifs, 0⟩] scope pos) (some (.Name y py)) spos.line X.env = pure true) (ok : BlkOk X.N X.env.scope scope own) (ht : ∀ i ∈ Tg.ix t, i ∈ own.map (·.2)) (hi : ID X W tg iter fi)
    (hg : ∀ (s : Shared) (H : Hp) (C : Addr) (cl : List (Str × Addr)) (fp : List Addr), GD (X.blk s H scope (compEnvC scope cl C X.env) fp) tg t) (htt : ∀ (s : Shared) (H : Hp) (C : Addr) (cl : List (Str × Addr)) (fp : List Addr), TDs (X.blk s H scope (compEnvC scope cl C X.env) fp) W0 ifs tt)
    (he : ∀ (s : Shared) (H : Hp) (C : Addr) (cl : List (Str × Addr)) (fp : List Addr), PD (X.blk s H scope (compEnvC scope cl C X.env) fp) W0 elt f) (hy : X.N[i]? = some y := by rfl) (hyl : X.env.scope.names.lookup y = some .local := by rfl) (hs : ∀ x, foldedSetIterable iter X.env x = pure x := by intro _; rfl) :
    SD X W (.Assign [.Name y py] (.ListComp elt [⟨tg, iter, ifs, 0⟩] scope pos) spos) (setS i (lcS fi t (own.map (·.2)) tt f)) := by
  refine PS.imp (ps_setLc (te := tE (ctx X) W0 f) (tt := tT (ctx X) W0 tt) (g := gT X.K t) hc hN hy hyl hsw hi ok hg htt he hs) fun E σ H ⟨g, σD, M, c, h⟩ => ?_
  refine lc_imp (C := ctx X) ht σ H _ ⟨g, σD, M, c, ?_⟩
  unfold setS at h
  cases e : lcS fi t (own.map (·.2)) tt f σD M with
  | ok d M1 =>
    rw [e] at h
    exact fun g' H' l c' v r => h g' _ H' l (c'.set i r)
  | ex x M1 =>
    rw [e] at h
    exact fun g' H' u l c' e => h g' σ H' u l c' e
  | bad => rw [e] at h; exact h
end
end Lf

/-! Lf6: operators, comparisons, subscripts, slices, built-ins over data. -/
namespace Lf
open PySem PySem.Spec PyProof.Rows L2
theorem line_le {n : Nat} (h : n ≤ 16000000) : n ≤ sizeLine := by rw [sizeLine_eq]; omega
theorem line_lt {n : Nat} (h : n < 16000000) : n < sizeLine := by rw [sizeLine_eq]; omega
section
variable {X : Cx} {W : WX} {pos : Pos}
theorem opOr {f : Value → Value → Sem Value} {r r' : R2} (h : OpR X f r) (h' : OpR X f r') : OpR X f (fun x y H Q => r x y H Q ∨ r' x y H Q) := fun pins s σ H x y v u Q I rx ry q =>
  q.elim (fun q => h pins s σ H x y v u Q I rx ry q) fun q => h' pins s σ H x y v u Q I rx ry q
theorem callOr {f : Value} {r r' : List V → Hp → VK → Prop} (h : CallR X f r) (h' : CallR X f r') : CallR X f (fun xs H Q => r xs H Q ∨ r' xs H Q) := fun pins s σ H xs us Q I r q =>
  q.elim (fun q => h pins s σ H xs us Q I r q) fun q => h' pins s σ H xs us Q I r q
theorem rv_int {C : Ct} {g : Gh} {i : Int} {v : V} (h : Rv C g (.int i) v) : v = .int i := by simpa only [Rv] using h
theorem rv_str {C : Ct} {g : Gh} {i : Str} {v : V} (h : Rv C g (.str i) v) : v = .str i := by simpa only [Rv] using h
theorem rv_bl {C : Ct} {g : Gh} {i : Bool} {v : V} (h : Rv C g (.bl i) v) : v = .bl i := by simpa only [Rv] using h
theorem rv_non {C : Ct} {g : Gh} {v : V} (h : Rv C g .non v) : v = .non := by simpa only [Rv] using h
theorem rv_i {C : Ct} {g : Gh} {i : Int} : Rv C g (.int i) (.int i) := by simp only [Rv]
theorem rv_s {C : Ct} {g : Gh} {i : Str} : Rv C g (.str i) (.str i) := by simp only [Rv]
theorem rv_b {C : Ct} {g : Gh} {i : Bool} : Rv C g (.bl i) (.bl i) := by simp only [Rv]
theorem rv_n {C : Ct} {g : Gh} : Rv C g .non .non := by simp only [Rv]

/-- a list that can be read where it lies -/
def dirOf (M : Mem) : D → Option (List D)
  | .lst ds => some ds
  | .ref i => match M[i]? with
    | some (.lst ds) => some ds
    | _ => none
  | _ => none
theorem dir_at {C : Ct} {g : Gh} {σ : L2.St} {σD : Sl} {M : Mem} {H : Hp} {d : D} {v : V} {ds : List D} (c : Conc C g σ σD M H) (r : Rv C g d v) (e : dirOf M d = some ds) :
    ∃ a vs, v = .ref a ∧ RvA C g ds vs ∧ H a = some (.lst vs) := by
  cases d <;> simp only [dirOf, Option.some.injEq, reduceCtorEq] at e
  · subst e
    simp only [Rv] at r
    obtain ⟨a, vs, e1, s, q⟩ := r
    exact ⟨a, vs, e1, q, c.le _ _ s⟩
  · rename_i i
    split at e
    · rename_i ds' e2
      simp only [Option.some.injEq] at e
      subst e
      simp only [Rv] at r
      obtain ⟨a, e1, q⟩ := r
      obtain ⟨o, ho, ro⟩ := c.obj i a _ q e2 (by intro z; cases z)
      cases ro with
      | lst ro => exact ⟨a, _, e1, ro, ho⟩
    · cases e

/-! ### + -/
def addM (M : Mem) (x y : D) : Option D := match x, y with
  | .int i, .int j => some (.int (i + j))
  | .str a, .str b => if a.length + b.length ≤ 16000000 then some (.str (a ++ b)) else none
  | .tup a, .tup b => if a.length + b.length ≤ 16000000 then some (.tup (a ++ b)) else none
  | x, y => match dirOf M x, dirOf M y with
    | some a, some b => if a.length + b.length ≤ 16000000 then some (.lst (a ++ b)) else none
    | _, _ => none
def rAddX (K : PySem.W.Frag) : R2 := fun x y H Q => rI0 (fun i j => .int (i + j)) x y H Q ∨ ((∃ i j, x = .str i ∧ y = .str j ∧ i.length + j.length ≤ sizeLine ∧ Q (.str (i ++ j)) H) ∨ (rCatA K x y H Q ∨ rCat x y H Q))
theorem opr_add : OpR X (binaryOp .Add) (rAddX X.K) := opOr op_add (opOr op_add_str (opOr op_catA op_cat))
theorem frz_l {C : Ct} {g : Gh} {σ : L2.St} {σD : Sl} {M : Mem} {H : Hp} {ds : List D} {vs : List V} {p : Addr} {Q : VK} (c : Conc C g σ σD M H) (hp : H p = none) (rs : RvA C g ds vs) (k : ∀ g' v H', Le g H g' H' → Conc C g' σ σD M H' → Rv C g' (.lst ds) v → Q v H') : Q (.ref p) (upd H p (.lst vs)) := by
  obtain ⟨l2, c2⟩ := c.frzL (o := .lst vs) hp
  refine k _ _ _ l2 c2 ?_
  simp only [Rv]
  exact ⟨p, vs, rfl, upd_same, RvA.mono l2.gh _ _ rs⟩
theorem frz_t {C : Ct} {g : Gh} {σ : L2.St} {σD : Sl} {M : Mem} {H : Hp} {ds : List D} {vs : List V} {p : Addr} {Q : VK} (c : Conc C g σ σD M H) (hp : H p = none) (rs : RvA C g ds vs) (k : ∀ g' v H', Le g H g' H' → Conc C g' σ σD M H' → Rv C g' (.tup ds) v → Q v H') : Q (.ref p) (upd H p (.tup vs)) := by
  obtain ⟨l2, c2⟩ := c.frzL (o := .tup vs) hp
  refine k _ _ _ l2 c2 ?_
  simp only [Rv]
  exact ⟨p, vs, rfl, upd_same, RvA.mono l2.gh _ _ rs⟩
theorem add_ok {C : Ct} : Op2 C addM (rAddX C.K) := by
  intro g σ σD M H x y vx vy d Q c rx ry e k
  have lists : ∀ a b, dirOf M x = some a → dirOf M y = some b → a.length + b.length ≤ 16000000 → d = .lst (a ++ b) → rAddX C.K vx vy H Q := fun a b ea eb hl ed => by
    obtain ⟨p, vs, rfl, rs, hp⟩ := dir_at c rx ea
    obtain ⟨q, us, rfl, ru, hq⟩ := dir_at c ry eb
    subst ed
    exact .inr (.inr (.inr ⟨p, q, vs, us, rfl, rfl, hp, hq, line_le (by rw [← rs.length, ← ru.length]; exact hl), fun r hr => frz_l c hr (rs.append ru) k⟩))
  unfold addM at e
  split at e
  · cases e
    rw [rv_int rx, rv_int ry]
    exact .inl ⟨_, _, rfl, rfl, k g _ H (Le.refl _ _) c rv_i⟩
  · split at e
    · rename_i hl
      cases e
      rw [rv_str rx, rv_str ry]
      exact .inr (.inl ⟨_, _, rfl, rfl, line_le hl, k g _ H (Le.refl _ _) c rv_s⟩)
    · cases e
  · split at e
    · rename_i a b hl
      cases e
      obtain ⟨p, vs, rfl, rs, hs⟩ := tup_at c rx
      obtain ⟨q, us, rfl, ru, hu⟩ := tup_at c ry
      refine .inr (.inr (.inl ⟨p, q, vs, us, rfl, rfl, hs, hu, line_le (by rw [← rs.length, ← ru.length]; exact hl), fun z => ?_, fun z z2 => ?_, fun _ _ r hr => frz_t c hr (rs.append ru) k⟩))
      · subst z
        have : a = [] := by
          have := rs.length
          cases a
          · rfl
          · simp at this
        subst this
        exact k g _ H (Le.refl _ _) c ry
      · subst z2
        have : b = [] := by
          have := ru.length
          cases b
          · rfl
          · simp at this
        subst this
        rw [List.append_nil] at k
        exact k g _ H (Le.refl _ _) c rx
    · cases e
  · split at e
    · rename_i ea eb
      split at e
      · rename_i hl
        cases e
        exact lists _ _ ea eb hl rfl
      · cases e
    · cases e
theorem d_add {a b : Expr} {fa fb : SE} (ha : PD X W a fa) (hb : PD X W b fb) : PD X W (.BinOp a .Add b pos) (op2 addM fa fb) := d_op (add_ok (C := ctx X)) opr_add ha hb

/-! ### ints -/
def subM (_ : Mem) (x y : D) : Option D := match x, y with
  | .int i, .int j => some (.int (i - j))
  | _, _ => none
theorem sub_ok {C : Ct} : Op2 C subM (rI0 fun i j => .int (i - j)) := by
  intro g σ σD M H x y vx vy d Q c rx ry e k
  unfold subM at e
  split at e
  · cases e
    rw [rv_int rx, rv_int ry]
    exact ⟨_, _, rfl, rfl, k g _ H (Le.refl _ _) c rv_i⟩
  · cases e
theorem d_sub {a b : Expr} {fa fb : SE} (ha : PD X W a fa) (hb : PD X W b fb) : PD X W (.BinOp a .Sub b pos) (op2 subM fa fb) := d_op (sub_ok (C := ctx X)) op_sub ha hb
def modM (_ : Mem) (x y : D) : Option D := match x, y with
  | .int i, .int j => if 0 < j then some (.int (i % j)) else none
  | _, _ => none
theorem mod_ok {C : Ct} : Op2 C modM (rI (fun _ j => 0 < j) fun i j => .int (i % j)) := by
  intro g σ σD M H x y vx vy d Q c rx ry e k
  unfold modM at e
  split at e
  · split at e
    · rename_i h
      cases e
      rw [rv_int rx, rv_int ry]
      exact ⟨_, _, rfl, rfl, h, k g _ H (Le.refl _ _) c rv_i⟩
    · cases e
  · cases e
theorem d_mod {a b : Expr} {fa fb : SE} (ha : PD X W a fa) (hb : PD X W b fb) : PD X W (.BinOp a .Mod b pos) (op2 modM fa fb) := d_op (mod_ok (C := ctx X)) op_mod ha hb
/-- // by a divisor from 1 on, below 2 ^ 2000 -/
def divM (_ : Mem) (x y : D) : Option D := match x, y with
  | .int i, .int j => if 0 < j ∧ j < 2 ^ 2000 then some (.int (i / j)) else none
  | _, _ => none
theorem div_ok {C : Ct} : Op2 C divM (rI CDivW fun i j => .int (i / j)) := by
  intro g σ σD M H x y vx vy d Q c rx ry e k
  unfold divM at e
  split at e
  · split at e
    · rename_i i j h
      cases e
      rw [rv_int rx, rv_int ry]
      have h2 : j.natAbs < 2 ^ 2000 := by
        have := h.2
        have e1 : ((2 : Int) ^ 2000) = ((2 ^ 2000 : Nat) : Int) := by norm_cast
        omega
      exact ⟨_, _, rfl, rfl, wide_div h.1 h2 (by decide) (by decide), k g _ H (Le.refl _ _) c rv_i⟩
    · cases e
  · cases e
theorem d_div {a b : Expr} {fa fb : SE} (ha : PD X W a fa) (hb : PD X W b fb) : PD X W (.BinOp a .FloorDiv b pos) (op2 divM fa fb) := d_op (div_ok (C := ctx X)) op_fdivW ha hb
def powM (_ : Mem) (x y : D) : Option D := match x, y with
  | .int i, .int j => if 0 ≤ j ∧ (Builtin.Int.intBits i : Int) * j ≤ 2 ^ 27 then some (.int (i ^ j.toNat)) else none
  | _, _ => none
def CPowW (i j : Int) : Prop := 0 ≤ j ∧ (Builtin.Int.intBits i : Int) * j ≤ 2 ^ 27
theorem op_powW : OpR X (binaryOp .Pow) (rI CPowW fun i j => .int (i ^ j.toNat)) := opI fun _ _ _ _ _ _ _ hc q => pow_int hc.1 hc.2 q
theorem pow_ok {C : Ct} : Op2 C powM (rI CPowW fun i j => .int (i ^ j.toNat)) := by
  intro g σ σD M H x y vx vy d Q c rx ry e k
  unfold powM at e
  split at e
  · split at e
    · rename_i h
      cases e
      rw [rv_int rx, rv_int ry]
      exact ⟨_, _, rfl, rfl, h, k g _ H (Le.refl _ _) c rv_i⟩
    · cases e
  · cases e
theorem d_pow {a b : Expr} {fa fb : SE} (ha : PD X W a fa) (hb : PD X W b fb) : PD X W (.BinOp a .Pow b pos) (op2 powM fa fb) := d_op (pow_ok (C := ctx X)) op_powW ha hb
/-- ints, a text or a list so many times -/
def repStr (x : Str) (n : Nat) : Str := ⟨(List.replicate n x.cps).foldl (· ++ ·) #[]⟩
def mulM (M : Mem) (x y : D) : Option D := match x, y with
  | .int i, .int j => if (i.natAbs < 2 ^ 20000 ∧ j.natAbs < 2 ^ 20000) then some (.int (i * j)) else none
  | .str a, .int n => if 0 ≤ n ∧ n ≤ 100000 ∧ a.length ≤ 100 then some (.str (repStr a n.toNat)) else none
  | x, .int n => match dirOf M x with
    | some a => if 0 ≤ n ∧ n ≤ 1000 ∧ a.length ≤ 1000 then some (.lst (List.replicate n.toNat a).flatten) else none
    | none => none
  | _, _ => none

theorem rep_cps (c : Array Nat) : ∀ (n : Nat) (acc : Array Nat), ((List.replicate n c).foldl (· ++ ·) acc).toList = acc.toList ++ (List.replicate n c.toList).flatten
  | 0, acc => by simp
  | n + 1, acc => by
    rw [List.replicate_succ, List.foldl_cons, rep_cps c n]
    simp [List.replicate_succ]
theorem rep_list (a : Str) (n : Nat) : (repStr a n).cps.toList = (List.replicate n a.cps.toList).flatten := by
  unfold repStr
  rw [rep_cps]
  simp
theorem rep_len (a : Str) (n : Nat) : (repStr a n).length = n * a.length := by
  show (repStr a n).cps.size = n * a.cps.size
  rw [← Array.length_toList, rep_list]
  simp
theorem op_rep_str : OpR X (binaryOp .Mult) (fun x y H Q => ∃ a n, x = .str a ∧ y = .int n ∧ 0 ≤ n ∧ n ≤ 100000 ∧ a.length ≤ 100 ∧ Q (.str (repStr a n.toNat)) H) := by
  intro pins s σ H x y v u Q I rx ry h
  obtain ⟨a, n, rfl, rfl, h0, h1, h2, q⟩ := h
  obtain ⟨t, rfl⟩ := rx
  obtain ⟨t', rfl⟩ := ry
  have hsz : sizeLine = 16777216 := sizeLine_eq
  refine PySem.P.mul_str ?_ (fun hn _ => ?_) (fun hn _ => ?_) ?_
  · rw [decide_eq_false (by omega), decide_eq_false (by omega)]
    rfl
  · have : (2 ^ 63 - 1 : Int) / n ≥ 100 := by
      rw [ge_iff_le, Int.le_ediv_iff_mul_le (by omega)]
      omega
    omega
  · unfold Builtin.Str.tooLong
    rw [hsz]
    have : a.length * n.toNat ≤ 100 * 100000 := Nat.mul_le_mul h2 (by omega)
    exact decide_eq_false (by omega)
  · by_cases hn : n < 1
    · rw [if_pos hn]
      have e : n.toNat = 0 := by omega
      rw [e] at q
      exact ⟨by decide, .str _, H, I.tok _, ⟨_, rfl⟩, q⟩
    · rw [if_neg hn]
      split
      · rename_i hz
        have e : repStr a n.toNat = a := by
          rw [Bool.or_eq_true] at hz
          have key : (repStr a n.toNat).cps.toList = a.cps.toList := by
            rw [rep_list]
            rcases hz with hz | hz
            · have e1 : n = 1 := eq_of_beq hz
              subst e1
              simp
            · have e1 : a.cps.size = 0 := eq_of_beq hz
              have e2 : a.cps.toList = [] := by
                rw [← List.length_eq_zero_iff, Array.length_toList]
                exact e1
              rw [e2]
              simp
          cases hh : repStr a n.toNat with
          | mk b =>
            rw [hh] at key
            cases a
            congr 1
            exact Array.toList_inj.mp key
        rw [e] at q
        exact ⟨.str a, H, I, ⟨_, rfl⟩, q⟩
      · refine ⟨?_, .str _, H, I.tok _, ⟨_, rfl⟩, q⟩
        show (repStr a n.toNat).length ≤ sizeLine
        rw [rep_len, hsz]
        have : n.toNat * a.length ≤ 100000 * 100 := Nat.mul_le_mul (by omega) h2
        omega
theorem rvA_rep {C : Ct} {g : Gh} {ds : List D} {vs : List V} (h : RvA C g ds vs) : ∀ n : Nat, RvA C g (List.replicate n ds).flatten (List.replicate n vs).flatten
  | 0 => RvA.nil
  | n + 1 => by
    rw [List.replicate_succ, List.replicate_succ, List.flatten_cons, List.flatten_cons]
    exact h.append (rvA_rep h n)
def rMulX : R2 := fun x y H Q => rI CMulW (fun i j => .int (i * j)) x y H Q ∨ ((∃ a n, x = .str a ∧ y = .int n ∧ 0 ≤ n ∧ n ≤ 100000 ∧ a.length ≤ 100 ∧ Q (.str (repStr a n.toNat)) H) ∨ rRep x y H Q)
theorem opr_mul : OpR X (binaryOp .Mult) rMulX := opOr op_mulW (opOr op_rep_str op_rep)
theorem mul_ok {C : Ct} : Op2 C mulM rMulX := by
  intro g σ σD M H x y vx vy d Q c rx ry e k
  have lists : ∀ a n, dirOf M x = some a → y = .int n → 0 ≤ n ∧ n ≤ 1000 ∧ a.length ≤ 1000 → d = .lst (List.replicate n.toNat a).flatten → rMulX vx vy H Q := fun a n ea ey hl ed => by
    obtain ⟨p, vs, rfl, rs, hp⟩ := dir_at c rx ea
    subst ey ed
    rw [rv_int ry]
    have hlen := rs.length
    refine .inr (.inr ⟨p, n, vs, rfl, rfl, hp, by omega, by omega, line_le ?_, fun r hr => frz_l c hr (rvA_rep rs _) k⟩)
    have : vs.length * n.toNat ≤ 1000 * 1000 := Nat.mul_le_mul (by omega) (by omega)
    omega
  unfold mulM at e
  split at e
  · split at e
    · rename_i i j h
      cases e
      rw [rv_int rx, rv_int ry]
      exact .inl ⟨_, _, rfl, rfl, wide_mul h.1 h.2 (by decide) (by decide) (by decide), k g _ H (Le.refl _ _) c rv_i⟩
    · cases e
  · split at e
    · rename_i a n h
      cases e
      rw [rv_str rx, rv_int ry]
      exact .inr (.inl ⟨_, _, rfl, rfl, h.1, h.2.1, h.2.2, k g _ H (Le.refl _ _) c rv_s⟩)
    · cases e
  · split at e
    · rename_i a ea
      split at e
      · rename_i h
        cases e
        exact lists _ _ ea rfl h rfl
      · cases e
    · cases e
  · cases e
theorem d_mul {a b : Expr} {fa fb : SE} (ha : PD X W a fa) (hb : PD X W b fb) : PD X W (.BinOp a .Mult b pos) (op2 mulM fa fb) := d_op (mul_ok (C := ctx X)) opr_mul ha hb

/-! ### order -/
def ltStr (a b : Str) : Bool := decide (a.cps.toList < b.cps.toList)
def cmpM (p : Int → Int → Bool) (q : Str → Str → Bool) (_ : Mem) (x y : D) : Option D := match x, y with
  | .int i, .int j => some (.bl (p i j))
  | .str a, .str b => some (.bl (q a b))
  | _, _ => none
def rCmpX (p : Int → Int → Bool) (q : Str → Str → Bool) : R2 := fun x y H Q => rI0 (fun i j => .bl (p i j)) x y H Q ∨ (∃ i j, x = .str i ∧ y = .str j ∧ Q (.bl (q i j)) H)
theorem cmp_ok {C : Ct} {p : Int → Int → Bool} {q : Str → Str → Bool} : Op2 C (cmpM p q) (rCmpX p q) := by
  intro g σ σD M H x y vx vy d Q c rx ry e k
  unfold cmpM at e
  split at e
  · cases e
    rw [rv_int rx, rv_int ry]
    exact .inl ⟨_, _, rfl, rfl, k g _ H (Le.refl _ _) c rv_b⟩
  · cases e
    rw [rv_str rx, rv_str ry]
    exact .inr ⟨_, _, rfl, rfl, k g _ H (Le.refl _ _) c rv_b⟩
  · cases e
abbrev ltM := cmpM (fun i j => decide (i < j)) ltStr
abbrev leM := cmpM (fun i j => decide (i ≤ j)) (fun a b => decide (a.cps.toList ≤ b.cps.toList))
abbrev gtM := cmpM (fun i j => decide (i > j)) (fun a b => decide (a.cps.toList > b.cps.toList))
abbrev geM := cmpM (fun i j => decide (i ≥ j)) (fun a b => decide (a.cps.toList ≥ b.cps.toList))
end
end Lf

/-! Lf7: ==, in, is, chains, subscripts, slices, isinstance, len. -/
namespace Lf
open PySem PySem.Spec PyProof.Rows L2
section
variable {X : Cx} {W : WX} {pos : Pos}
theorem d_lt {a b : Expr} {fa fb : SE} (ha : PD X W a fa) (hb : PD X W b fb) : PD X W (.Compare a [.Lt] [b] pos) (op2 ltM fa fb) := d_cmp (cmp_ok (C := ctx X)) (opOr op_lt op_lt_str) ha hb (nobehind _ (by decide) (by decide))
theorem op_le_str' : OpR X (compareOp .LtE) (fun x y H Q => ∃ i j, x = .str i ∧ y = .str j ∧ Q (.bl (decide (i.cps.toList ≤ j.cps.toList))) H) := fun pins s σ H x y v u Q I rx ry ⟨i, j, e1, e2, q⟩ =>
  op_le_str pins s σ H x y v u Q I rx ry ⟨i, j, e1, e2, by
    have e : (!decide (j.cps.toList < i.cps.toList)) = decide (i.cps.toList ≤ j.cps.toList) := by
      rw [Bool.eq_iff_iff]
      simp
    rw [e]
    exact q⟩
theorem op_ge_str' : OpR X (compareOp .GtE) (fun x y H Q => ∃ i j, x = .str i ∧ y = .str j ∧ Q (.bl (decide (i.cps.toList ≥ j.cps.toList))) H) := fun pins s σ H x y v u Q I rx ry ⟨i, j, e1, e2, q⟩ =>
  op_ge_str pins s σ H x y v u Q I rx ry ⟨i, j, e1, e2, by
    have e : (!decide (i.cps.toList < j.cps.toList)) = decide (i.cps.toList ≥ j.cps.toList) := by
      rw [Bool.eq_iff_iff]
      simp
    rw [e]
    exact q⟩
theorem opr_le : OpR X (compareOp .LtE) (rCmpX (fun i j => decide (i ≤ j)) (fun a b => decide (a.cps.toList ≤ b.cps.toList))) := opOr op_le op_le_str'
theorem opr_gt : OpR X (compareOp .Gt) (rCmpX (fun i j => decide (i > j)) (fun a b => decide (a.cps.toList > b.cps.toList))) := opOr op_gt op_gt_str
theorem opr_ge : OpR X (compareOp .GtE) (rCmpX (fun i j => decide (i ≥ j)) (fun a b => decide (a.cps.toList ≥ b.cps.toList))) := opOr op_ge op_ge_str'
theorem opr_lt : OpR X (compareOp .Lt) (rCmpX (fun i j => decide (i < j)) ltStr) := opOr op_lt op_lt_str
theorem d_le {a b : Expr} {fa fb : SE} (ha : PD X W a fa) (hb : PD X W b fb) : PD X W (.Compare a [.LtE] [b] pos) (op2 leM fa fb) := d_cmp (cmp_ok (C := ctx X)) opr_le ha hb (nobehind _ (by decide) (by decide))
theorem d_gt {a b : Expr} {fa fb : SE} (ha : PD X W a fa) (hb : PD X W b fb) : PD X W (.Compare a [.Gt] [b] pos) (op2 gtM fa fb) := d_cmp (cmp_ok (C := ctx X)) opr_gt ha hb (nobehind _ (by decide) (by decide))
theorem d_ge {a b : Expr} {fa fb : SE} (ha : PD X W a fa) (hb : PD X W b fb) : PD X W (.Compare a [.GtE] [b] pos) (op2 geM fa fb) := d_cmp (cmp_ok (C := ctx X)) opr_ge ha hb (nobehind _ (by decide) (by decide))
theorem t_lt {a b : Expr} {fa fb : SE} (ha : PD X W a fa) (hb : PD X W b fb) : TD X W (.Compare a [.Lt] [b] pos) (asT (op2 ltM fa fb)) := t_cmp (cmp_ok (C := ctx X)) opr_lt ha hb (nobehind _ (by decide) (by decide))
theorem t_le {a b : Expr} {fa fb : SE} (ha : PD X W a fa) (hb : PD X W b fb) : TD X W (.Compare a [.LtE] [b] pos) (asT (op2 leM fa fb)) := t_cmp (cmp_ok (C := ctx X)) opr_le ha hb (nobehind _ (by decide) (by decide))
theorem t_gt {a b : Expr} {fa fb : SE} (ha : PD X W a fa) (hb : PD X W b fb) : TD X W (.Compare a [.Gt] [b] pos) (asT (op2 gtM fa fb)) := t_cmp (cmp_ok (C := ctx X)) opr_gt ha hb (nobehind _ (by decide) (by decide))
theorem t_ge {a b : Expr} {fa fb : SE} (ha : PD X W a fa) (hb : PD X W b fb) : TD X W (.Compare a [.GtE] [b] pos) (asT (op2 geM fa fb)) := t_cmp (cmp_ok (C := ctx X)) opr_ge ha hb (nobehind _ (by decide) (by decide))

/-! ### == and != -/
mutual
/-- plain data, no place of the memory in it -/
def toPy0 : D → Option PyData
  | .non => some .none
  | .bl b => some (.bool b)
  | .int i => some (.int i)
  | .str x => some (.str x)
  | .tup ds => (toPy0A ds).map .tuple
  | .lst ds => (toPy0A ds).map .list
  | .scr ds => (toPy0A ds).map .list
  | .ref _ => none
  | .gl _ => none
  | .ty _ => none
  | .exc _ => none
  | .dct _ _ => none
  | .kt _ => none
def toPy0A : List D → Option (List PyData)
  | [] => some []
  | d :: ds => match toPy0 d, toPy0A ds with
    | some p, some ps => some (p :: ps)
    | _, _ => none
end
mutual
/-- data, lists of the memory read -/
def toPy (M : Mem) : D → Option PyData
  | .non => some .none
  | .bl b => some (.bool b)
  | .int i => some (.int i)
  | .str x => some (.str x)
  | .tup ds => (toPyA M ds).map .tuple
  | .lst ds => (toPyA M ds).map .list
  | .scr ds => (toPyA M ds).map .list
  | .ref i => match M[i]? with
    | some (.lst ds) => (toPy0A ds).map .list
    | _ => none
  | .gl _ => none
  | .ty _ => none
  | .exc _ => none
  | .dct _ _ => none
  | .kt _ => none
def toPyA (M : Mem) : List D → Option (List PyData)
  | [] => some []
  | d :: ds => match toPy M d, toPyA M ds with
    | some p, some ps => some (p :: ps)
    | _, _ => none
end
section
variable {C : Ct} {g : Gh} {H : Hp}
mutual
theorem dp0 (le : ∀ a o, g.G a = some o → H a = some o) : ∀ (d : D) (v : V) (p : PyData), Rv C g d v → toPy0 d = some p → Dp C.K H v p
  | .non, v, p, r, e => by
    rw [rv_non r]
    simp only [toPy0, Option.some.injEq] at e
    subst e
    exact .non
  | .bl b, v, p, r, e => by
    rw [rv_bl r]
    simp only [toPy0, Option.some.injEq] at e
    subst e
    exact .bl b
  | .int b, v, p, r, e => by
    rw [rv_int r]
    simp only [toPy0, Option.some.injEq] at e
    subst e
    exact .int b
  | .str b, v, p, r, e => by
    rw [rv_str r]
    simp only [toPy0, Option.some.injEq] at e
    subst e
    exact .str b
  | .tup ds, v, p, r, e => by
    simp only [toPy0, Option.map_eq_some_iff] at e
    obtain ⟨ps, e, rfl⟩ := e
    simp only [Rv] at r
    obtain ⟨a, vs, rfl, s, q⟩ := r
    exact .tup (.inl (.inl (le _ _ s))) (dp0A le ds vs ps q e)
  | .lst ds, v, p, r, e => by
    simp only [toPy0, Option.map_eq_some_iff] at e
    obtain ⟨ps, e, rfl⟩ := e
    simp only [Rv] at r
    obtain ⟨a, vs, rfl, s, q⟩ := r
    exact .lst (SqL.of (le _ _ s)) (dp0A le ds vs ps q e)
  | .scr ds, v, p, r, e => by
    simp only [toPy0, Option.map_eq_some_iff] at e
    obtain ⟨ps, e, rfl⟩ := e
    simp only [Rv] at r
    obtain ⟨a, vs, rfl, s, q⟩ := r
    exact .lst (sqL_le le s) (dp0A le ds vs ps q e)
  | .ref _, v, p, r, e => by simp [toPy0] at e
  | .gl _, v, p, r, e => by simp [toPy0] at e
  | .ty _, v, p, r, e => by simp [toPy0] at e
  | .exc _, v, p, r, e => by simp [toPy0] at e
  | .dct _ _, v, p, r, e => by simp [toPy0] at e
  | .kt _, v, p, r, e => by simp [toPy0] at e
theorem dp0A (le : ∀ a o, g.G a = some o → H a = some o) : ∀ (ds : List D) (vs : List V) (ps : List PyData), RvA C g ds vs → toPy0A ds = some ps → DpAll C.K H vs ps
  | [], vs, ps, r, e => by
    rw [r.nil_inv]
    simp only [toPy0A, Option.some.injEq] at e
    subst e
    exact .nil
  | d :: ds, vs, ps, r, e => by
    obtain ⟨v, us, rfl, q, t⟩ := r.cons_inv
    simp only [toPy0A] at e
    split at e
    · rename_i p ps' e1 e2
      cases e
      exact .cons (dp0 le d v p q e1) (dp0A le ds us ps' t e2)
    · cases e
end
variable {σ : L2.St} {σD : Sl} {M : Mem}
mutual
theorem dp1 (c : Conc C g σ σD M H) : ∀ (d : D) (v : V) (p : PyData), Rv C g d v → toPy M d = some p → Dp C.K H v p
  | .non, v, p, r, e => by
    rw [rv_non r]
    simp only [toPy, Option.some.injEq] at e
    subst e
    exact .non
  | .bl b, v, p, r, e => by
    rw [rv_bl r]
    simp only [toPy, Option.some.injEq] at e
    subst e
    exact .bl b
  | .int b, v, p, r, e => by
    rw [rv_int r]
    simp only [toPy, Option.some.injEq] at e
    subst e
    exact .int b
  | .str b, v, p, r, e => by
    rw [rv_str r]
    simp only [toPy, Option.some.injEq] at e
    subst e
    exact .str b
  | .tup ds, v, p, r, e => by
    simp only [toPy, Option.map_eq_some_iff] at e
    obtain ⟨ps, e, rfl⟩ := e
    simp only [Rv] at r
    obtain ⟨a, vs, rfl, s, q⟩ := r
    exact .tup (.inl (.inl (c.le _ _ s))) (dp1A c ds vs ps q e)
  | .lst ds, v, p, r, e => by
    simp only [toPy, Option.map_eq_some_iff] at e
    obtain ⟨ps, e, rfl⟩ := e
    simp only [Rv] at r
    obtain ⟨a, vs, rfl, s, q⟩ := r
    exact .lst (SqL.of (c.le _ _ s)) (dp1A c ds vs ps q e)
  | .scr ds, v, p, r, e => by
    simp only [toPy, Option.map_eq_some_iff] at e
    obtain ⟨ps, e, rfl⟩ := e
    simp only [Rv] at r
    obtain ⟨a, vs, rfl, s, q⟩ := r
    exact .lst (sqL_le c.le s) (dp1A c ds vs ps q e)
  | .ref i, v, p, r, e => by
    simp only [toPy] at e
    split at e
    · rename_i ds e2
      simp only [Option.map_eq_some_iff] at e
      obtain ⟨ps, e, rfl⟩ := e
      simp only [Rv] at r
      obtain ⟨a, rfl, q⟩ := r
      obtain ⟨o, ho, ro⟩ := c.obj i a _ q e2 (by intro z; cases z)
      cases ro with
      | lst ro => exact .lst (SqL.of ho) (dp0A c.le ds _ ps ro e)
    · cases e
  | .gl _, v, p, r, e => by simp [toPy] at e
  | .ty _, v, p, r, e => by simp [toPy] at e
  | .exc _, v, p, r, e => by simp [toPy] at e
  | .dct _ _, v, p, r, e => by simp [toPy] at e
  | .kt _, v, p, r, e => by simp [toPy] at e
theorem dp1A (c : Conc C g σ σD M H) : ∀ (ds : List D) (vs : List V) (ps : List PyData), RvA C g ds vs → toPyA M ds = some ps → DpAll C.K H vs ps
  | [], vs, ps, r, e => by
    rw [r.nil_inv]
    simp only [toPyA, Option.some.injEq] at e
    subst e
    exact .nil
  | d :: ds, vs, ps, r, e => by
    obtain ⟨v, us, rfl, q, t⟩ := r.cons_inv
    simp only [toPyA] at e
    split at e
    · rename_i p ps' e1 e2
      cases e
      exact .cons (dp1 c d v p q e1) (dp1A c ds us ps' t e2)
    · cases e
end
end
/-- a list beside the written empty one -/
def eqNil (M : Mem) (x y : D) : Option Bool := match y with
  | .lst [] => (lstOf M x).map List.isEmpty
  | _ => none
/-- ==: of plain values at once, a list beside an empty one, else of data -/
def eqB (M : Mem) (x y : D) : Option Bool := match x, y with
  | .str a, .str b => some (decide (a = b))
  | .int a, .int b => some (decide (a = b))
  | .bl a, .bl b => some (decide (a = b))
  | .non, .non => some true
  | x, y => match eqNil M x y with
    | some b => some b
    | none => match toPy M x, toPy M y with
      | some p, some q => if SeqAt.shaped p = true ∧ SeqAt.shaped q = true then some (PyData.eqv p q) else none
      | _, _ => none
def eqM (M : Mem) (x y : D) : Option D := (eqB M x y).map .bl
def neM (M : Mem) (x y : D) : Option D := (eqB M x y).map fun b => .bl (!b)
theorem eqB_R {C : Ct} {g : Gh} {σ : L2.St} {σD : Sl} {M : Mem} {H : Hp} {x y : D} {vx vy : V} {b : Bool} (c : Conc C g σ σD M H) (rx : Rv C g x vx) (ry : Rv C g y vy) (e : eqB M x y = some b) :
    (scal vx vy = true ∧ decide (vx = vy) = b) ∨ ((∃ a a2 xs, vx = .ref a ∧ vy = .ref a2 ∧ SqL C.K H a xs ∧ SqL C.K H a2 [] ∧ xs.isEmpty = b) ∨ ∃ p q, Dp C.K H vx p ∧ Dp C.K H vy q ∧ SeqAt.shaped p = true ∧ SeqAt.shaped q = true ∧ PyData.eqv p q = b) := by
  unfold eqB at e
  split at e
  · cases e
    rw [rv_str rx, rv_str ry]
    exact .inl ⟨rfl, by rw [Bool.eq_iff_iff]; simp⟩
  · cases e
    rw [rv_int rx, rv_int ry]
    exact .inl ⟨rfl, by rw [Bool.eq_iff_iff]; simp⟩
  · cases e
    rw [rv_bl rx, rv_bl ry]
    exact .inl ⟨rfl, by rw [Bool.eq_iff_iff]; simp⟩
  · cases e
    rw [rv_non rx, rv_non ry]
    exact .inl ⟨rfl, by simp⟩
  · split at e
    · rename_i b' en
      cases e
      refine .inr (.inl ?_)
      unfold eqNil at en
      split at en
      · simp only [Option.map_eq_some_iff] at en
        obtain ⟨ds, en, rfl⟩ := en
        obtain ⟨a, vs, rfl, ra, sa⟩ := lst_at c rx en
        obtain ⟨a2, us, rfl, rb, sb⟩ := lst_at c ry (ds := []) rfl
        rw [rb.nil_inv] at sb
        refine ⟨a, a2, vs, rfl, rfl, sa, sb, ?_⟩
        have hl := ra.length
        cases ds <;> cases vs <;> simp at hl ⊢
      · cases en
    · split at e
      · rename_i p q e1 e2
        split at e
        · rename_i h
          cases e
          exact .inr (.inr ⟨p, q, dp1 c x vx p rx e1, dp1 c y vy q ry e2, h.1, h.2, rfl⟩)
        · cases e
      · cases e
def rEqNil (neg : Bool) (K : PySem.W.Frag) : R2 := fun x y H Q => ∃ a b xs, x = .ref a ∧ y = .ref b ∧ SqL K H a xs ∧ SqL K H b [] ∧ Q (.bl (if neg then !xs.isEmpty else xs.isEmpty)) H
theorem op_eqNil (hu : X.A.units + 64 < cLine) : OpR X (compareOp .Eq) (rEqNil false X.K) := by
  intro pins s σ H x y v u Q I rx ry h
  obtain ⟨a, b, xs, rfl, rfl, ha, hb, q⟩ := h
  cases xs with
  | nil => exact op_eqD hu pins s σ H _ _ v u Q I rx ry ⟨.list [], .list [], .lst ha .nil, .lst hb .nil, rfl, rfl, q⟩
  | cons z zs =>
    cases rx
    cases ry
    obtain ⟨its, rv, p, hz⟩ := I.list ha
    obtain ⟨its2, rv2, p2, hz2⟩ := I.list hb
    have h1 := rv.length
    have h2 := rv2.length
    exact SeqAt.RcAt.lists_lengths p.isList p2.isList (by simp only [List.length_cons, List.length_nil] at h1 h2; simp [← h1, ← h2]) (by omega) _ _ _ _ ⟨.bl _, H, I, rfl, q⟩
theorem op_neNil (hu : X.A.units + 64 < cLine) : OpR X (compareOp .NotEq) (rEqNil true X.K) := by
  intro pins s σ H x y v u Q I rx ry h
  obtain ⟨a, b, xs, rfl, rfl, ha, hb, q⟩ := h
  cases xs with
  | nil => exact op_neD hu pins s σ H _ _ v u Q I rx ry ⟨.list [], .list [], .lst ha .nil, .lst hb .nil, rfl, rfl, q⟩
  | cons z zs =>
    cases rx
    cases ry
    obtain ⟨its, rv, p, hz⟩ := I.list ha
    obtain ⟨its2, rv2, p2, hz2⟩ := I.list hb
    have h1 := rv.length
    have h2 := rv2.length
    exact SeqAt.RcNeAt.lists_lengths p.isList p2.isList (by simp only [List.length_cons, List.length_nil] at h1 h2; simp [← h1, ← h2]) (by omega) _ _ _ _ ⟨.bl _, H, I, rfl, q⟩
def rEqX (K : PySem.W.Frag) : R2 := fun x y H Q => rEq x y H Q ∨ (rEqNil false K x y H Q ∨ rEqD K x y H Q)
def rNeX (K : PySem.W.Frag) : R2 := fun x y H Q => rNe x y H Q ∨ (rEqNil true K x y H Q ∨ rNeD K x y H Q)
theorem eq_ok {C : Ct} : Op2 C eqM (rEqX C.K) := by
  intro g σ σD M H x y vx vy d Q c rx ry e k
  simp only [eqM, Option.map_eq_some_iff] at e
  obtain ⟨b, e, rfl⟩ := e
  rcases eqB_R c rx ry e with ⟨h1, h2⟩ | ⟨a, a2, xs, h1, h2, h3, h4, h5⟩ | ⟨p, q, h1, h2, h3, h4, h5⟩
  · exact .inl ⟨h1, by rw [h2]; exact k g _ H (Le.refl _ _) c rv_b⟩
  · exact .inr (.inl ⟨a, a2, xs, h1, h2, h3, h4, by rw [h5]; exact k g _ H (Le.refl _ _) c rv_b⟩)
  · exact .inr (.inr ⟨p, q, h1, h2, h3, h4, by rw [h5]; exact k g _ H (Le.refl _ _) c rv_b⟩)
theorem ne_ok {C : Ct} : Op2 C neM (rNeX C.K) := by
  intro g σ σD M H x y vx vy d Q c rx ry e k
  simp only [neM, Option.map_eq_some_iff] at e
  obtain ⟨b, e, rfl⟩ := e
  rcases eqB_R c rx ry e with ⟨h1, h2⟩ | ⟨a, a2, xs, h1, h2, h3, h4, h5⟩ | ⟨p, q, h1, h2, h3, h4, h5⟩
  · exact .inl ⟨h1, by rw [h2]; exact k g _ H (Le.refl _ _) c rv_b⟩
  · exact .inr (.inl ⟨a, a2, xs, h1, h2, h3, h4, by rw [h5]; exact k g _ H (Le.refl _ _) c rv_b⟩)
  · exact .inr (.inr ⟨p, q, h1, h2, h3, h4, by rw [h5]; exact k g _ H (Le.refl _ _) c rv_b⟩)
theorem opr_eq (hu : X.A.units + 64 < cLine) : OpR X (compareOp .Eq) (rEqX X.K) := opOr op_eq (opOr (op_eqNil hu) (op_eqD hu))
theorem opr_ne (hu : X.A.units + 64 < cLine) : OpR X (compareOp .NotEq) (rNeX X.K) := opOr op_ne (opOr (op_neNil hu) (op_neD hu))
theorem d_eq {a b : Expr} {fa fb : SE} {k : Nat} (hr : Room k X.A) (ha : PD X W a fa) (hb : PD X W b fb) : PD X W (.Compare a [.Eq] [b] pos) (op2 eqM fa fb) := d_cmp (eq_ok (C := ctx X)) (opr_eq (by have := hr.un; omega)) ha hb (nobehind _ (by decide) (by decide))
theorem d_ne {a b : Expr} {fa fb : SE} {k : Nat} (hr : Room k X.A) (ha : PD X W a fa) (hb : PD X W b fb) : PD X W (.Compare a [.NotEq] [b] pos) (op2 neM fa fb) := d_cmp (ne_ok (C := ctx X)) (opr_ne (by have := hr.un; omega)) ha hb (nobehind _ (by decide) (by decide))
theorem t_eq {a b : Expr} {fa fb : SE} {k : Nat} (hr : Room k X.A) (ha : PD X W a fa) (hb : PD X W b fb) : TD X W (.Compare a [.Eq] [b] pos) (asT (op2 eqM fa fb)) := t_cmp (eq_ok (C := ctx X)) (opr_eq (by have := hr.un; omega)) ha hb (nobehind _ (by decide) (by decide))
theorem t_ne {a b : Expr} {fa fb : SE} {k : Nat} (hr : Room k X.A) (ha : PD X W a fa) (hb : PD X W b fb) : TD X W (.Compare a [.NotEq] [b] pos) (asT (op2 neM fa fb)) := t_cmp (ne_ok (C := ctx X)) (opr_ne (by have := hr.un; omega)) ha hb (nobehind _ (by decide) (by decide))

/-! ### is None -/
def isNon : D → Option Bool
  | .non => some true
  | .gl _ => none
  | _ => some false
theorem isNon_R {C : Ct} {g : Gh} {x : D} {v : V} {b : Bool} (r : Rv C g x v) (e : isNon x = some b) : decide (v = .non) = b := by
  cases x <;> simp only [isNon, Option.some.injEq, reduceCtorEq] at e <;> subst e <;> simp only [Rv] at r
  · rw [r]; rfl
  · rw [r]; rfl
  · rw [r]; rfl
  · rw [r]; rfl
  · obtain ⟨a, vs, rfl, _⟩ := r; rfl
  · obtain ⟨a, vs, rfl, _⟩ := r; rfl
  · obtain ⟨a, vs, rfl, _⟩ := r; rfl
  · obtain ⟨a, rfl, _⟩ := r; rfl
  · rw [r]; rfl
  · obtain ⟨a, u, rfl, _⟩ := r; rfl
  · obtain ⟨a, u, rfl, _⟩ := r; rfl
  · obtain ⟨a, u, rfl, _⟩ := r; rfl
def isM (_ : Mem) (x y : D) : Option D := match y with
  | .non => (isNon x).map .bl
  | _ => none
def isnotM (_ : Mem) (x y : D) : Option D := match y with
  | .non => (isNon x).map fun b => .bl (!b)
  | _ => none
theorem is_ok {C : Ct} : Op2 C isM (fun x y H Q => y = .non ∧ Q (.bl (decide (x = .non))) H) := by
  intro g σ σD M H x y vx vy d Q c rx ry e k
  unfold isM at e
  split at e
  · simp only [Option.map_eq_some_iff] at e
    obtain ⟨b, e, rfl⟩ := e
    exact ⟨rv_non ry, by rw [isNon_R rx e]; exact k g _ H (Le.refl _ _) c rv_b⟩
  · cases e
theorem isnot_ok {C : Ct} : Op2 C isnotM (fun x y H Q => y = .non ∧ Q (.bl (!decide (x = .non))) H) := by
  intro g σ σD M H x y vx vy d Q c rx ry e k
  unfold isnotM at e
  split at e
  · simp only [Option.map_eq_some_iff] at e
    obtain ⟨b, e, rfl⟩ := e
    exact ⟨rv_non ry, by rw [isNon_R rx e]; exact k g _ H (Le.refl _ _) c rv_b⟩
  · cases e
theorem d_is {a b : Expr} {fa fb : SE} (ha : PD X W a fa) (hb : PD X W b fb) : PD X W (.Compare a [.Is] [b] pos) (op2 isM fa fb) := d_cmp (is_ok (C := ctx X)) op_isN ha hb (nobehind _ (by decide) (by decide))
theorem d_isnot {a b : Expr} {fa fb : SE} (ha : PD X W a fa) (hb : PD X W b fb) : PD X W (.Compare a [.IsNot] [b] pos) (op2 isnotM fa fb) := d_cmp (isnot_ok (C := ctx X)) op_notN ha hb (nobehind _ (by decide) (by decide))
theorem t_is {a b : Expr} {fa fb : SE} (ha : PD X W a fa) (hb : PD X W b fb) : TD X W (.Compare a [.Is] [b] pos) (asT (op2 isM fa fb)) := t_cmp (is_ok (C := ctx X)) op_isN ha hb (nobehind _ (by decide) (by decide))
theorem t_isnot {a b : Expr} {fa fb : SE} (ha : PD X W a fa) (hb : PD X W b fb) : TD X W (.Compare a [.IsNot] [b] pos) (asT (op2 isnotM fa fb)) := t_cmp (isnot_ok (C := ctx X)) op_notN ha hb (nobehind _ (by decide) (by decide))

/-! ### in -/
def flatD : D → Bool
  | .non => true
  | .bl _ => true
  | .int _ => true
  | .str _ => true
  | _ => false
def eqF : D → D → Bool
  | .non, .non => true
  | .bl a, .bl b => a == b
  | .bl a, .int b => (if a then 1 else 0) == b
  | .int a, .bl b => a == (if b then 1 else 0)
  | .int a, .int b => a == b
  | .str a, .str b => a == b
  | _, _ => false
def inStr (a z : Str) : Bool := match a.cps.toList with
  | [c] => decide (c ∈ z.cps.toList)
  | _ => !(Builtin.Str.occurrences z a 0 z.length 1).isEmpty
def notRef : D → Bool
  | .ref _ => false
  | _ => true
def inB (M : Mem) (x y : D) : Option Bool := match x, y with
  | .str a, .str z => some (inStr a z)
  | x, .kt ds => if flatD x = true ∧ ds.all flatD = true then some (ds.any fun d => eqF d x) else none
  | x, y => match seqOf M y with
    | some ds => if flatD x = true ∧ ds.all flatD = true then some (ds.any fun d => eqF d x) else
      match toPy M x, lstOf M y, toPyA M ds with
      | some p, some _, some ps => if SeqAt.shaped p = true ∧ SeqAt.shaped (.list ps) = true ∧ notRef y = true then some (ps.any fun z => PyData.eqv z p) else none
      | _, _, _ => none
    | none => none
theorem flat_R {C : Ct} {g : Gh} : ∀ {ds : List D} {vs : List V}, RvA C g ds vs → ds.all flatD = true → vs.all flatV = true
  | [], vs, r, _ => by rw [r.nil_inv]; rfl
  | d :: ds, vs, r, h => by
    obtain ⟨v, us, rfl, q, t⟩ := r.cons_inv
    rw [List.all_cons, Bool.and_eq_true] at h ⊢
    refine ⟨?_, flat_R t h.2⟩
    cases d <;> simp only [flatD, Bool.false_eq_true, false_and] at h <;> simp only [Rv] at q <;> subst q <;> rfl
theorem flat1_R {C : Ct} {g : Gh} {d : D} {v : V} (q : Rv C g d v) (h : flatD d = true) : flatV v = true := by
  cases d <;> simp only [flatD, Bool.false_eq_true] at h <;> simp only [Rv] at q <;> subst q <;> rfl
theorem eqF_R {C : Ct} {g : Gh} {d e : D} {v u : V} (q : Rv C g d v) (r : Rv C g e u) (h : flatD d = true) (h2 : flatD e = true) : eqV v u = eqF d e := by
  cases d <;> simp only [flatD, Bool.false_eq_true] at h <;> cases e <;> simp only [flatD, Bool.false_eq_true] at h2 <;> simp only [Rv] at q r <;> subst q r <;> rfl
theorem inF_R {C : Ct} {g : Gh} {x : D} {v : V} (rx : Rv C g x v) (hx : flatD x = true) : ∀ {ds : List D} {vs : List V}, RvA C g ds vs → ds.all flatD = true → inV v vs = ds.any fun d => eqF d x
  | [], vs, r, _ => by rw [r.nil_inv]; rfl
  | d :: ds, vs, r, h => by
    obtain ⟨u, us, rfl, q, t⟩ := r.cons_inv
    rw [List.all_cons, Bool.and_eq_true] at h
    show (eqV u v || us.any fun y => eqV y v) = _
    rw [List.any_cons, eqF_R q rx h.1 hx]
    have := inF_R rx hx t h.2
    unfold inV at this
    rw [this]
def rInStr (neg : Bool) : R2 := fun x y H Q => (∃ (c : Nat) (z : Str), x = .str ⟨#[c]⟩ ∧ y = .str z ∧ Q (.bl (if neg then !decide (c ∈ z.cps.toList) else decide (c ∈ z.cps.toList))) H) ∨
  ∃ i j, x = .str i ∧ y = .str j ∧ Q (.bl (if neg then !(!(Builtin.Str.occurrences j i 0 j.length 1).isEmpty) else !(Builtin.Str.occurrences j i 0 j.length 1).isEmpty)) H
def rInX (K : PySem.W.Frag) (neg : Bool) : R2 := fun x y H Q => rInStr neg x y H Q ∨ (rIn K neg x y H Q ∨ (if neg then rNotInD K x y H Q else rInD K x y H Q))
def inM (M : Mem) (x y : D) : Option D := (inB M x y).map .bl
def ninM (M : Mem) (x y : D) : Option D := (inB M x y).map fun b => .bl (!b)
theorem inB_R {C : Ct} {g : Gh} {σ : L2.St} {σD : Sl} {M : Mem} {H : Hp} {x y : D} {vx vy : V} {b : Bool} {Q : VK} (neg : Bool) (c : Conc C g σ σD M H) (rx : Rv C g x vx) (ry : Rv C g y vy) (e : inB M x y = some b) (k : Q (.bl (if neg then !b else b)) H) : rInX C.K neg vx vy H Q := by
  unfold inB at e
  split at e
  · rename_i a z
    cases e
    rw [rv_str rx, rv_str ry]
    refine .inl ?_
    by_cases hc : ∃ q, a.cps.toList = [q]
    · obtain ⟨q, hc⟩ := hc
      have e1 : inStr a z = decide (q ∈ z.cps.toList) := by
        unfold inStr
        rw [hc]
      rw [e1] at k
      refine .inl ⟨q, z, ?_, rfl, k⟩
      congr 1
      cases a
      congr 1
      exact Array.toList_inj.mp hc
    · have e1 : inStr a z = !(Builtin.Str.occurrences z a 0 z.length 1).isEmpty := by
        unfold inStr
        split
        · rename_i q hq
          exact absurd ⟨q, hq⟩ hc
        · rfl
      rw [e1] at k
      exact .inr ⟨a, z, rfl, rfl, k⟩
  · split at e
    · rename_i h
      cases e
      simp only [Rv] at ry
      obtain ⟨a, vs, rfl, s, rs⟩ := ry
      refine .inr (.inl ⟨a, vs, rfl, .inr (sqT_le c.le s), flat1_R rx h.1, flat_R rs h.2, ?_⟩)
      rw [inF_R rx h.1 rs h.2]
      exact k
    · cases e
  · split at e
    · rename_i ds e1
      split at e
      · rename_i h
        cases e
        have go : ∀ a vs, vy = .ref a → RvA C g ds vs → (SqL C.K H a vs ∨ SqT C.K H a vs) → rInX C.K neg vx vy H Q := fun a vs e2 rs s => by
          subst e2
          refine .inr (.inl ⟨a, vs, rfl, s, flat1_R rx h.1, flat_R rs h.2, ?_⟩)
          rw [inF_R rx h.1 rs h.2]
          exact k
        by_cases ht : ∃ es, y = .tup es
        · obtain ⟨es, rfl⟩ := ht
          simp only [seqOf, Option.some.injEq] at e1
          subst e1
          obtain ⟨a, vs, e2, rs, s⟩ := tup_at c ry
          exact go a vs e2 rs (.inr s)
        · have e2 : seqOf M y = lstOf M y := by cases y <;> first | rfl | exact absurd ⟨_, rfl⟩ ht
          rw [e2] at e1
          obtain ⟨a, vs, e3, rs, s⟩ := lst_at c ry e1
          exact go a vs e3 rs (.inl s)
      · split at e
        · rename_i p es ps e3 e4 e5
          split at e
          · rename_i h
            cases e
            have hy : Dp C.K H vy (.list ps) := by
              cases y <;> simp only [lstOf, reduceCtorEq] at e4
              · simp only [seqOf, lstOf, Option.some.injEq] at e1
                subst e1
                exact dp1 c _ vy _ ry (by simp only [toPy, e5, Option.map_some])
              · simp only [seqOf, lstOf, Option.some.injEq] at e1
                subst e1
                exact dp1 c _ vy _ ry (by simp only [toPy, e5, Option.map_some])
              · exact absurd h.2.2 Bool.false_ne_true
            refine .inr (.inr ?_)
            cases neg with
            | true =>
              rw [if_pos rfl] at k ⊢
              exact ⟨p, ps, dp1 c x vx p rx e3, hy, h.1, h.2.1, k⟩
            | false =>
              rw [if_neg Bool.false_ne_true] at k ⊢
              exact ⟨p, ps, dp1 c x vx p rx e3, hy, h.1, h.2.1, k⟩
          · cases e
        · cases e
    · cases e
theorem in_ok {C : Ct} : Op2 C inM (rInX C.K false) := by
  intro g σ σD M H x y vx vy d Q c rx ry e k
  simp only [inM, Option.map_eq_some_iff] at e
  obtain ⟨b, e, rfl⟩ := e
  exact inB_R false c rx ry e (k g _ H (Le.refl _ _) c rv_b)
theorem nin_ok {C : Ct} : Op2 C ninM (rInX C.K true) := by
  intro g σ σD M H x y vx vy d Q c rx ry e k
  simp only [ninM, Option.map_eq_some_iff] at e
  obtain ⟨b, e, rfl⟩ := e
  exact inB_R true c rx ry e (k g _ H (Le.refl _ _) c rv_b)
end
end Lf

/-! Lf8: in, chains, subscripts, slices, isinstance, len, built-ins, methods. -/
namespace Lf
open PySem PySem.Spec PyProof.Rows L2
section
variable {X : Cx} {W : WX} {pos : Pos}
theorem opr_in (hu : X.A.units + 65 < cLine) : OpR X (compareOp .In) (rInX X.K false) := opOr (opOr op_in_sign op_in_str) (opOr op_in_seq (op_inD hu))
theorem opr_nin (hu : X.A.units + 65 < cLine) : OpR X (compareOp .NotIn) (rInX X.K true) := opOr (opOr op_notIn_sign op_notIn_str) (opOr op_notIn_seq (op_notInD hu))
theorem d_in {a b : Expr} {fa fb : SE} {k : Nat} (hr : Room k X.A) (ha : PD X W a fa) (hb : PD X W b fb) (hm : behindInMarks .In b = false := by rfl) : PD X W (.Compare a [.In] [b] pos) (op2 inM fa fb) := d_cmp (in_ok (C := ctx X)) (opr_in (by have := hr.un; omega)) ha hb hm
theorem d_nin {a b : Expr} {fa fb : SE} {k : Nat} (hr : Room k X.A) (ha : PD X W a fa) (hb : PD X W b fb) (hm : behindInMarks .NotIn b = false := by rfl) : PD X W (.Compare a [.NotIn] [b] pos) (op2 ninM fa fb) := d_cmp (nin_ok (C := ctx X)) (opr_nin (by have := hr.un; omega)) ha hb hm
theorem t_in {a b : Expr} {fa fb : SE} {k : Nat} (hr : Room k X.A) (ha : PD X W a fa) (hb : PD X W b fb) (hm : behindInMarks .In b = false := by rfl) : TD X W (.Compare a [.In] [b] pos) (asT (op2 inM fa fb)) := t_cmp (in_ok (C := ctx X)) (opr_in (by have := hr.un; omega)) ha hb hm
theorem t_nin {a b : Expr} {fa fb : SE} {k : Nat} (hr : Room k X.A) (ha : PD X W a fa) (hb : PD X W b fb) (hm : behindInMarks .NotIn b = false := by rfl) : TD X W (.Compare a [.NotIn] [b] pos) (asT (op2 ninM fa fb)) := t_cmp (nin_ok (C := ctx X)) (opr_nin (by have := hr.un; omega)) ha hb hm

/-! ### a < b < c -/
def chS (r1 r2 : Mem → D → D → Option D) (fa fb fc : SE) : SE := fun σ M => (fa σ M).bind fun x M1 => (fb σ M1).bind fun y M2 => match r1 M2 x y with
  | some (.bl true) => (fc σ M2).bind fun z M3 => (match r2 M3 y z with
    | some d => .ok d M3
    | none => .bad)
  | some (.bl false) => .ok (.bl false) M2
  | _ => .bad
theorem chain_imp {fa fb fc : SE} {r1 r2 : Mem → D → D → Option D} {R1 R2 : R2} (k1 : Op2 (ctx X) r1 R1) (k2 : Op2 (ctx X) r2 R2) : ∀ σ H Q, tE (ctx X) W (chS r1 r2 fa fb fc) σ H Q → tChain R1 R2 (tE (ctx X) W fa) (tE (ctx X) W fb) (tE (ctx X) W fc) σ H Q := fun σ H Q ⟨g, σD, M, c, h⟩ =>
  ⟨g, σD, M, c, (RE.post_bind h).imp fun x M1 g1 H1 _ l1 c1 h1 vx rx =>
    ⟨g1, σD, M1, c1, (RE.post_bind h1).imp fun y M2 g2 H2 _ l2 c2 h2 vy ry => by
      split at h2
      · rename_i e
        refine k1 g2 σ σD M2 H2 x y vx vy (.bl true) _ c2 (Rv.mono l2.gh _ _ rx) ry e fun g3 v H3 l3 c3 r3 => ⟨true, rv_bl r3, ?_⟩
        rw [if_pos rfl]
        refine ⟨g3, σD, M2, c3, ((RE.post_bind h2).mono l3).imp fun z M3 g4 H4 _ l4 c4 h4 vz rz => ?_⟩
        split at h4
        · rename_i d e2
          exact k2 g4 σ σD M3 H4 y z vy vz d Q c4 (Rv.mono (Gh.le_trans l3.gh l4.gh) _ _ ry) rz e2 fun g' v H' l c5 r => h4 g' H' l c5 v r
        · exact h4.elim
      · rename_i e
        refine k1 g2 σ σD M2 H2 x y vx vy (.bl false) _ c2 (Rv.mono l2.gh _ _ rx) ry e fun g3 v H3 l3 c3 r3 => ⟨false, rv_bl r3, ?_⟩
        rw [if_neg Bool.false_ne_true]
        exact h2 g3 H3 l3 c3 _ rv_b
      · exact h2.elim⟩⟩
theorem d_chain {op op' : CmpOp} {a b c : Expr} {fa fb fc : SE} {r1 r2 : Mem → D → D → Option D} {R1 R2 : R2} (k1 : Op2 (ctx X) r1 R1) (k2 : Op2 (ctx X) r2 R2) (o1 : OpR X (compareOp op) R1) (o2 : OpR X (compareOp op') R2) (ha : PD X W a fa) (hb : PD X W b fb) (hc : PD X W c fc)
    (hm : lastMarks [op, op'] [b, c] = false) : PD X W (.Compare a [op, op'] [b, c] pos) (chS r1 r2 fa fb fc) := PE.imp (pe_chain o1 o2 ha hb hc hm) (chain_imp k1 k2)
theorem t_chain {op op' : CmpOp} {a b c : Expr} {fa fb fc : SE} {r1 r2 : Mem → D → D → Option D} {R1 R2 : R2} (k1 : Op2 (ctx X) r1 R1) (k2 : Op2 (ctx X) r2 R2) (o1 : OpR X (compareOp op) R1) (o2 : OpR X (compareOp op') R2) (ha : PD X W a fa) (hb : PD X W b fb) (hc : PD X W c fc)
    (hm : lastMarks [op, op'] [b, c] = false) : TD X W (.Compare a [op, op'] [b, c] pos) (asT (chS r1 r2 fa fb fc)) := by
  refine PT.imp (pt_chain o1 o2 ha hb hc hm) fun σ H Q ⟨g, σD, M, c, h⟩ => ?_
  refine chain_imp (X := X) (W := W) k1 k2 σ H _ ⟨g, σD, M, c, (RE.post_bind h).imp fun x M1 g1 H1 _ l1 c1 h1 vx rx => ?_⟩
  cases x <;> first
      | exact h1.elim
      | (simp only [Rv] at rx
         subst rx
         exact ⟨_, rfl, h1 g1 H1 (Le.refl _ _) c1⟩)
theorem d_lele {a b c : Expr} {fa fb fc : SE} (ha : PD X W a fa) (hb : PD X W b fb) (hc : PD X W c fc) (hm : lastMarks [.LtE, .LtE] [b, c] = false := by with_unfolding_all rfl) : PD X W (.Compare a [.LtE, .LtE] [b, c] pos) (chS leM leM fa fb fc) :=
  d_chain (cmp_ok (C := ctx X)) (cmp_ok (C := ctx X)) opr_le opr_le ha hb hc hm
theorem t_lele {a b c : Expr} {fa fb fc : SE} (ha : PD X W a fa) (hb : PD X W b fb) (hc : PD X W c fc) (hm : lastMarks [.LtE, .LtE] [b, c] = false := by with_unfolding_all rfl) : TD X W (.Compare a [.LtE, .LtE] [b, c] pos) (asT (chS leM leM fa fb fc)) :=
  t_chain (cmp_ok (C := ctx X)) (cmp_ok (C := ctx X)) opr_le opr_le ha hb hc hm

/-! ### subscripts -/
def ixM (M : Mem) (x y : D) : Option D := match y with
  | .int i => (match x with
    | .str z => if z.length ≤ 16000000 then (atI z.cps.toList i).map fun c => .str ⟨#[c]⟩ else none
    | x => (seqOf M x).bind fun ds => atI ds i)
  | _ => none
theorem atI_R {C : Ct} {g : Gh} {ds : List D} {vs : List V} (r : RvA C g ds vs) {i : Int} {d : D} (e : atI ds i = some d) : ∃ v, atI vs i = some v ∧ Rv C g d v := by
  unfold atI at e ⊢
  rw [← r.length]
  cases h : ixN ds.length i with
  | none => rw [h] at e; cases e
  | some j =>
    rw [h] at e
    obtain ⟨v, h1, h2⟩ := r.get (i := j) (d := d) e
    exact ⟨v, h1, h2⟩
theorem ix_ok {C : Ct} : Op2 C ixM (rIx C.K) := by
  intro g σ σD M H x y vx vy d Q c rx ry e k
  unfold ixM at e
  split at e
  · rename_i i
    split at e
    · rename_i z
      split at e
      · rename_i hz
        simp only [Option.map_eq_some_iff] at e
        obtain ⟨cc, e, rfl⟩ := e
        rw [rv_str rx, rv_int ry]
        exact .inr (.inr ⟨z, i, cc, rfl, rfl, line_le hz, e, k g _ H (Le.refl _ _) c rv_s⟩)
      · cases e
    · simp only [Option.bind_eq_some_iff] at e
      obtain ⟨ds, e1, e2⟩ := e
      rw [rv_int ry]
      by_cases ht : ∃ es, x = .tup es
      · obtain ⟨es, rfl⟩ := ht
        simp only [seqOf, Option.some.injEq] at e1
        subst e1
        obtain ⟨a, vs, rfl, rs, s⟩ := tup_at c rx
        obtain ⟨v, h1, h2⟩ := atI_R rs e2
        exact .inr (.inl ⟨a, vs, i, v, rfl, rfl, s, h1, k g _ H (Le.refl _ _) c h2⟩)
      · have e3 : seqOf M x = lstOf M x := by cases x <;> first | rfl | exact absurd ⟨_, rfl⟩ ht
        rw [e3] at e1
        obtain ⟨a, vs, rfl, rs, s⟩ := lst_at c rx e1
        obtain ⟨v, h1, h2⟩ := atI_R rs e2
        exact .inl ⟨a, vs, i, v, rfl, rfl, s, h1, k g _ H (Le.refl _ _) c h2⟩
  · cases e
theorem d_ix {a b : Expr} {fa fb : SE} (ha : PD X W a fa) (hb : PD X W b fb) (hs : PlainIx b) : PD X W (.Subscript a b pos) (op2 ixM fa fb) := PE.imp (pe_ix ix_seq ha hb hs) (bin_imp (ix_ok (C := ctx X)))

/-! ### slices -/
abbrev SO := Sl → Mem → RE (Option Int)
def tO (C : Ct) (W : WX) (f : SO) : TO := fun σ H Q => ∃ g σD M, Conc C g σ σD M H ∧ (f σD M).post C W g H σ σD fun _ o _ H' => Q o H'
abbrev OD (X : Cx) (W : WX) (e : Option Expr) (f : SO) : Prop := PO X e (tO (ctx X) W f)
theorem PO.imp {e : Option Expr} {t t' : TO} (h : PO X e t) (k : ∀ σ H Q, t' σ H Q → t σ H Q) : PO X e t' := ⟨fun pins s σ H Q I q => h.run pins s σ H Q I (k σ H Q q)⟩
theorem o_none : OD X W none (fun _ M => .ok none M) := PO.imp po_none fun σ H Q ⟨g, σD, M, c, h⟩ => h g H (Le.refl _ _) c
def partS (f : SE) : SO := fun σ M => (f σ M).bind fun d M1 => match d with
  | .int i => .ok (some i) M1
  | _ => .bad
theorem o_some {e : Expr} {f : SE} (h : PD X W e f) : OD X W (some e) (partS f) := PO.imp (po_some h) fun σ H Q ⟨g, σD, M, c, h⟩ => ⟨g, σD, M, c, (RE.post_bind h).imp fun x M1 g1 H1 _ l1 c1 h1 vx rx => by
  cases x <;> try exact h1.elim
  exact ⟨_, rv_int rx, h1 g1 H1 (Le.refl _ _) c1⟩⟩
def cutD (ds : List D) (lo hi : Option Int) : List D := (ds.drop (HT.sIx ds.length 0 lo)).take (HT.sIx ds.length ds.length hi - HT.sIx ds.length 0 lo)
def slM (M : Mem) (x : D) (lo hi : Option Int) : Option D := match x with
  | .str z => if z.length ≤ 16000000 then some (.str (cutS z lo hi)) else none
  | .tup ds => some (.tup (cutD ds lo hi))
  | x => (lstOf M x).map fun ds => .lst (cutD ds lo hi)
def sliceS (f : SE) (l h : SO) : SE := fun σ M => (f σ M).bind fun x M1 => (l σ M1).bind fun lo M2 => (h σ M2).bind fun hi M3 => match slM M3 x lo hi with
  | some d => .ok d M3
  | none => .bad
def rSlX (K : PySem.W.Frag) : V → Option Int → Option Int → Hp → VK → Prop := fun x lo hi H Q => rSlL K x lo hi H Q ∨ (rSlA K x lo hi H Q ∨ rSlS x lo hi H Q)
theorem sl_all : L2.SlR X (rSlX X.K) := L2.SlR.or sl_list (L2.SlR.or sl_tupA sl_str)
theorem cut_R {C : Ct} {g : Gh} {ds : List D} {vs : List V} (r : RvA C g ds vs) (lo hi : Option Int) : RvA C g (cutD ds lo hi) (cutV vs lo hi) := by
  unfold cutD cutV
  rw [← r.length]
  exact (r.drop _).take _
theorem cut_whole {ds : List D} {lo hi : Option Int} (h : HT.sIx ds.length 0 lo = 0 ∧ HT.sIx ds.length ds.length hi = ds.length) : cutD ds lo hi = ds := by
  unfold cutD
  rw [h.1, h.2]
  simp
theorem d_sl {a : Expr} {lo hi : Option Expr} {fa : SE} {fl fh : SO} {p2 : Pos} (ha : PD X W a fa) (hl : OD X W lo fl) (hh : OD X W hi fh) : PD X W (.Subscript a (.Slice lo hi none p2) pos) (sliceS fa fl fh) :=
  PE.imp (pe_slice sl_all ha hl hh) fun σ H Q ⟨g, σD, M, c, h⟩ => ⟨g, σD, M, c, (RE.post_bind h).imp fun x M1 g1 H1 _ l1 c1 h1 vx rx =>
    ⟨g1, σD, M1, c1, (RE.post_bind h1).imp fun o1 M2 g2 H2 _ l2 c2 h2 => ⟨g2, σD, M2, c2, (RE.post_bind h2).imp fun o2 M3 g3 H3 _ l3 c3 h3 => by
      have rx3 := Rv.mono (Gh.le_trans l2.gh l3.gh) _ _ rx
      split at h3
      case h_2 => exact h3.elim
      rename_i d e
      have k : ∀ g' v H', Le g3 H3 g' H' → Conc (ctx X) g' σ σD M3 H' → Rv (ctx X) g' d v → Q v H' := fun g' v H' l c r => h3 g' H' l c v r
      unfold slM at e
      split at e
      · split at e
        · rename_i hz
          cases e
          exact .inr (.inr ⟨_, rv_str rx3, line_le hz, k g3 _ H3 (Le.refl _ _) c3 rv_s⟩)
        · cases e
      · rename_i ds
        cases e
        obtain ⟨a, vs, rfl, rs, s⟩ := tup_at c3 rx3
        refine .inr (.inl ⟨a, vs, rfl, s, fun w => ?_, fun _ p hp => frz_t c3 hp (cut_R rs _ _) k⟩)
        rw [← rs.length] at w
        rw [cut_whole w] at k
        exact k g3 _ H3 (Le.refl _ _) c3 rx3
      · simp only [Option.map_eq_some_iff] at e
        obtain ⟨ds, e, rfl⟩ := e
        obtain ⟨a, vs, rfl, rs, s⟩ := lst_at c3 rx3 e
        exact .inl ⟨a, vs, rfl, s, fun p hp => frz_l c3 hp (cut_R rs _ _) k⟩⟩⟩⟩

/-! ### built-ins by name -/
theorem d_callB {id : String} {x : Str} {e : Expr} {es : List Expr} {fa : SA} {r : Mem → List D → Option D} {R : List V → Hp → VK → Prop} {p : Pos} (k : OpC (ctx X) r R) (hc : CallR X (.builtin id) R) (hm : X.mg x = none) (hv : bootBuiltins x = some (.builtin id)) (ha : AD X W (e :: es) fa) (hg : Gl X x := by rfl) (hn : x ≠ "__name__" := by decide) (hdb : (x == ("__debug__" : Str)) = false := by decide)
    (he : starEach (e :: es) X.env = (false, eval e X.env) :: starEach es X.env := by rfl) (hpl : (backTo pos (starEach es X.env)).any (·.1) = false := by rfl) : PD X W (.Call (.Name x p) (e :: es) [] pos) (callV r fa) :=
  PE.imp (pe_callB hc hg hm hv ha hn hdb he hpl) (callV_imp k)
theorem d_callTy {T : String} {x : Str} {e : Expr} {es : List Expr} {fa : SA} {r : Mem → List D → Option D} {R : List V → Hp → VK → Prop} {p : Pos} (k : OpC (ctx X) r R) (hc : CallR X (.type T) R) (hm : X.mg x = none) (hv : bootBuiltins x = some (.type T)) (ha : AD X W (e :: es) fa) (hg : Gl X x := by rfl) (hn : x ≠ "__name__" := by decide) (hdb : (x == ("__debug__" : Str)) = false := by decide)
    (he : starEach (e :: es) X.env = (false, eval e X.env) :: starEach es X.env := by rfl) (hpl : (backTo pos (starEach es X.env)).any (·.1) = false := by rfl) : PD X W (.Call (.Name x p) (e :: es) [] pos) (callV r fa) :=
  PE.imp (pe_callTy hc hg hm hv ha hn hdb he hpl) (callV_imp k)
theorem rvA1 {C : Ct} {g : Gh} {d : D} {vs : List V} (h : RvA C g [d] vs) : ∃ v, vs = [v] ∧ Rv C g d v := by
  obtain ⟨v, r, rfl, q, t⟩ := h.cons_inv
  rw [t.nil_inv]
  exact ⟨v, rfl, q⟩
theorem rvA2 {C : Ct} {g : Gh} {d e : D} {vs : List V} (h : RvA C g [d, e] vs) : ∃ v u, vs = [v, u] ∧ Rv C g d v ∧ Rv C g e u := by
  obtain ⟨v, r, rfl, q, t⟩ := h.cons_inv
  obtain ⟨u, rfl, q2⟩ := rvA1 t
  exact ⟨v, u, rfl, q, q2⟩
/-- len -/
def lenM (M : Mem) (ds : List D) : Option D := match ds with
  | [.str z] => if z.length ≤ 16000000 then some (.int z.length) else none
  | [x] => (seqOf M x).map fun es => .int es.length
  | _ => none
theorem len_ok {C : Ct} : OpC C lenM (fun xs H Q => ∃ x n, xs = [x] ∧ LenV C.K x H n ∧ Q (.int n) H) := by
  intro g σ σD M H ds vs d Q c rs e k
  unfold lenM at e
  split at e
  · rename_i z
    split at e
    · rename_i hz
      cases e
      obtain ⟨v, rfl, r⟩ := rvA1 rs
      rw [rv_str r]
      exact ⟨_, z.length, rfl, ⟨line_le hz, rfl⟩, k g _ H (Le.refl _ _) c rv_i⟩
    · cases e
  · rename_i x _
    simp only [Option.map_eq_some_iff] at e
    obtain ⟨es, e1, rfl⟩ := e
    obtain ⟨v, rfl, rx⟩ := rvA1 rs
    by_cases ht : ∃ es, x = .tup es
    · obtain ⟨es', rfl⟩ := ht
      simp only [seqOf, Option.some.injEq] at e1
      subst e1
      obtain ⟨a, us, rfl, ru, s⟩ := tup_at c rx
      exact ⟨_, es'.length, rfl, .inr ⟨us, s, ru.length⟩, k g _ H (Le.refl _ _) c rv_i⟩
    · have e3 : seqOf M x = lstOf M x := by cases x <;> first | rfl | exact absurd ⟨_, rfl⟩ ht
      rw [e3] at e1
      obtain ⟨a, us, rfl, ru, s⟩ := lst_at c rx e1
      exact ⟨_, es.length, rfl, .inl ⟨us, s, ru.length⟩, k g _ H (Le.refl _ _) c rv_i⟩
  · cases e
theorem d_len {e : Expr} {fa : SA} {p : Pos} (hm : X.mg "len" = none) (ha : AD X W [e] fa) (hg : Gl X "len" := by rfl) (he : starEach [e] X.env = (false, eval e X.env) :: starEach [] X.env := by rfl) (hpl : (backTo pos (starEach [] X.env)).any (·.1) = false := by rfl) : PD X W (.Call (.Name "len" p) [e] [] pos) (callV lenM fa) :=
  d_callB (len_ok (C := ctx X)) call_len hm PySem.boot_len ha hg (by decide) (by decide) he hpl
/-- isinstance -/
def tyN (M : Mem) : D → Option String
  | .non => some "NoneType"
  | .bl _ => some "bool"
  | .int _ => some "int"
  | .str _ => some "str"
  | .tup _ => some "tuple"
  | .lst _ => some "list"
  | .scr _ => some "list"
  | .dct _ _ => some "dict"
  | .kt _ => some "tuple"
  | .ref i => match M[i]? with
    | some (.lst _) => some "list"
    | some (.dK _) => some "dict"
    | some (.dT _) => some "dict"
    | _ => none
  | _ => none
def tyL : List String := ["int", "bool", "str", "list", "tuple", "dict"]
def isiM (M : Mem) (ds : List D) : Option D := match ds with
  | [x, .ty n] => if tyL.contains n = true then (tyN M x).map fun t => .bl (t == n || (t == "bool" && n == "int")) else none
  | _ => none
theorem kit_all : (["NoneType", "bool", "int", "str", "tuple", "list", "dict"].all fun t => tyL.all fun n => kitB t n == some (t == n || (t == "bool" && n == "int"))) = true := by decide +kernel
theorem kit_of_ty {t n : String} (ht : t ∈ ["NoneType", "bool", "int", "str", "tuple", "list", "dict"]) (hn : tyL.contains n = true) : kitB t n = some (t == n || (t == "bool" && n == "int")) := by
  have h := List.all_eq_true.mp (List.all_eq_true.mp kit_all t ht) n (by simpa using hn)
  exact eq_of_beq h
theorem tyN_R {C : Ct} {g : Gh} {σ : L2.St} {σD : Sl} {M : Mem} {H : Hp} {x : D} {v : V} {t : String} (c : Conc C g σ σD M H) (r : Rv C g x v) (e : tyN M x = some t) : TyX C.K H v (.type t) ∧ t ∈ ["NoneType", "bool", "int", "str", "tuple", "list", "dict"] := by
  have seqT : ∀ a vs, SqT C.K H a vs → TyX C.K H (.ref a) (.type "tuple") := fun a vs s => by
    rcases s with (s | ⟨o, s⟩) | ⟨o, its, n, hk, hc, _⟩
    · exact .base (.tup s)
    · exact .fTuple s
    · exact .kTuple hk hc
  have seqL : ∀ a vs, SqL C.K H a vs → TyX C.K H (.ref a) (.type "list") := fun a vs s => by
    rcases s with (s | ⟨o, s⟩) | ⟨o, its, n, hk, hc, _⟩
    · exact .base (.lst s)
    · exact .base (.frz s)
    · exact .kList hk hc
  cases x <;> simp only [tyN, Option.some.injEq, reduceCtorEq] at e
  · subst e; rw [rv_non r]; exact ⟨.base .non, by simp⟩
  · subst e; rw [rv_bl r]; exact ⟨.base (.bl _), by simp⟩
  · subst e; rw [rv_int r]; exact ⟨.base (.int _), by simp⟩
  · subst e; rw [rv_str r]; exact ⟨.base (.str _), by simp⟩
  · subst e
    obtain ⟨a, vs, rfl, _, s⟩ := tup_at c r
    exact ⟨seqT a vs s, by simp⟩
  · subst e
    obtain ⟨a, vs, rfl, _, s⟩ := lst_at c r rfl
    exact ⟨seqL a vs s, by simp⟩
  · subst e
    obtain ⟨a, vs, rfl, _, s⟩ := lst_at c r rfl
    exact ⟨seqL a vs s, by simp⟩
  case dct =>
    subst e
    simp only [Rv] at r
    obtain ⟨a, t, rfl, s, _, _⟩ := r
    exact ⟨.base (.dK (c.le _ _ s)), by simp⟩
  case kt =>
    subst e
    simp only [Rv] at r
    obtain ⟨a, vs, rfl, s, _⟩ := r
    exact ⟨seqT a vs (sqT_le c.le s), by simp⟩
  · rename_i i
    simp only [Rv] at r
    obtain ⟨a, rfl, q⟩ := r
    split at e
    · rename_i e2
      cases e
      obtain ⟨o, ho, ro⟩ := c.obj i a _ q e2 (by intro z; cases z)
      cases ro with
      | lst ro => exact ⟨.base (.lst ho), by simp⟩
    · rename_i e2
      cases e
      obtain ⟨o, ho, ro⟩ := c.obj i a _ q e2 (by intro z; cases z)
      cases ro with
      | dK ro => exact ⟨.base (.dK ho), by simp⟩
    · rename_i e2
      cases e
      obtain ⟨o, ho, ro⟩ := c.obj i a _ q e2 (by intro z; cases z)
      cases ro with
      | dT ro => exact ⟨.base (.dT ho), by simp⟩
    · cases e
theorem isi_ok {C : Ct} : OpC C isiM (rIsi C.K) := by
  intro g σ σD M H ds vs d Q c rs e k
  unfold isiM at e
  split at e
  · rename_i x n
    split at e
    · rename_i hn
      simp only [Option.map_eq_some_iff] at e
      obtain ⟨t, e, rfl⟩ := e
      obtain ⟨v, u, rfl, rx, ru⟩ := rvA2 rs
      simp only [Rv] at ru
      subst ru
      obtain ⟨h1, h2⟩ := tyN_R c rx e
      exact ⟨v, .ty n, .type t, .type n, _, rfl, .ty n, h1, kit_ty (kit_of_ty h2 hn), k g _ H (Le.refl _ _) c rv_b⟩
    · cases e
  · cases e
theorem d_isi {e e2 : Expr} {fa : SA} {p : Pos} (hm : X.mg "isinstance" = none) (ha : AD X W [e, e2] fa) (hg : Gl X "isinstance" := by rfl) (he : starEach [e, e2] X.env = (false, eval e X.env) :: starEach [e2] X.env := by rfl) (hpl : (backTo pos (starEach [e2] X.env)).any (·.1) = false := by rfl) : PD X W (.Call (.Name "isinstance" p) [e, e2] [] pos) (callV isiM fa) :=
  d_callB (isi_ok (C := ctx X)) call_isi hm (by decide +kernel) ha hg (by decide) (by decide) he hpl
/-- all, any of a list of truths -/
def blsOf : List D → Option (List Bool)
  | [] => some []
  | .bl b :: ds => (blsOf ds).map fun bs => b :: bs
  | _ :: _ => none
theorem blsOf_eq : ∀ {ds : List D} {bs : List Bool}, blsOf ds = some bs → ds = bs.map D.bl
  | [], bs, e => by simp only [blsOf, Option.some.injEq] at e; subst e; rfl
  | d :: ds, bs, e => by
    cases d <;> simp only [blsOf, reduceCtorEq, Option.map_eq_some_iff] at e
    obtain ⟨cs, e, rfl⟩ := e
    rw [blsOf_eq e]
    rfl
@[simp] theorem blsOf_map (bs : List Bool) : blsOf (bs.map D.bl) = some bs := by
  induction bs with
  | nil => rfl
  | cons b bs ih => simp [blsOf, ih]
def allM (M : Mem) (ds : List D) : Option D := match ds with
  | [x] => (lstOf M x).bind fun es => (blsOf es).map fun bs => .bl (bs.all id)
  | _ => none
def anyM (M : Mem) (ds : List D) : Option D := match ds with
  | [x] => (lstOf M x).bind fun es => (blsOf es).map fun bs => .bl (bs.any id)
  | _ => none
theorem all_ok {C : Ct} : OpC C allM (rAll C.K) := by
  intro g σ σD M H ds vs d Q c rs e k
  unfold allM at e
  split at e
  · simp only [Option.bind_eq_some_iff, Option.map_eq_some_iff] at e
    obtain ⟨es, e1, bs, e2, rfl⟩ := e
    obtain ⟨v, rfl, rx⟩ := rvA1 rs
    obtain ⟨a, us, rfl, ru, s⟩ := lst_at c rx e1
    rw [blsOf_eq e2] at ru
    rw [ru.bls] at s
    exact ⟨a, bs, rfl, s, k g _ H (Le.refl _ _) c rv_b⟩
  · cases e
theorem any_ok {C : Ct} : OpC C anyM (rAny C.K) := by
  intro g σ σD M H ds vs d Q c rs e k
  unfold anyM at e
  split at e
  · simp only [Option.bind_eq_some_iff, Option.map_eq_some_iff] at e
    obtain ⟨es, e1, bs, e2, rfl⟩ := e
    obtain ⟨v, rfl, rx⟩ := rvA1 rs
    obtain ⟨a, us, rfl, ru, s⟩ := lst_at c rx e1
    rw [blsOf_eq e2] at ru
    rw [ru.bls] at s
    exact ⟨a, bs, rfl, s, k g _ H (Le.refl _ _) c rv_b⟩
  · cases e
theorem d_all {e : Expr} {fa : SA} {p : Pos} (hcalm : X.calm = true) (hm : X.mg "all" = none) (ha : AD X W [e] fa) (hg : Gl X "all" := by rfl) (he : starEach [e] X.env = (false, eval e X.env) :: starEach [] X.env := by rfl) (hpl : (backTo pos (starEach [] X.env)).any (·.1) = false := by rfl) : PD X W (.Call (.Name "all" p) [e] [] pos) (callV allM fa) :=
  d_callB (all_ok (C := ctx X)) (cr_all hcalm) hm (by decide +kernel) ha hg (by decide) (by decide) he hpl
theorem d_any {e : Expr} {fa : SA} {p : Pos} (hcalm : X.calm = true) (hm : X.mg "any" = none) (ha : AD X W [e] fa) (hg : Gl X "any" := by rfl) (he : starEach [e] X.env = (false, eval e X.env) :: starEach [] X.env := by rfl) (hpl : (backTo pos (starEach [] X.env)).any (·.1) = false := by rfl) : PD X W (.Call (.Name "any" p) [e] [] pos) (callV anyM fa) :=
  d_callB (any_ok (C := ctx X)) (cr_any hcalm) hm (by decide +kernel) ha hg (by decide) (by decide) he hpl
/-- list(x), tuple(x) -/
def listM (M : Mem) (ds : List D) : Option D := match ds with
  | [x] => (seqOf M x).map .lst
  | _ => none
def tupleM (M : Mem) (ds : List D) : Option D := match ds with
  | [x] => (seqOf M x).map .tup
  | _ => none
theorem seq_case {C : Ct} {g : Gh} {σ : L2.St} {σD : Sl} {M : Mem} {H : Hp} {x : D} {v : V} {ds : List D} (c : Conc C g σ σD M H) (r : Rv C g x v) (e : seqOf M x = some ds) : ∃ a vs, v = .ref a ∧ RvA C g ds vs ∧ ((SqT C.K H a vs ∧ x = .tup ds) ∨ SqL C.K H a vs) := by
  by_cases ht : ∃ es, x = .tup es
  · obtain ⟨es', rfl⟩ := ht
    simp only [seqOf, Option.some.injEq] at e
    subst e
    obtain ⟨a, us, rfl, ru, s⟩ := tup_at c r
    exact ⟨a, us, rfl, ru, .inl ⟨s, rfl⟩⟩
  · have e3 : seqOf M x = lstOf M x := by cases x <;> first | rfl | exact absurd ⟨_, rfl⟩ ht
    rw [e3] at e
    obtain ⟨a, us, rfl, ru, s⟩ := lst_at c r e
    exact ⟨a, us, rfl, ru, .inr s⟩
theorem list_ok {C : Ct} : OpC C listM (fun xs H Q => ∃ p ys, xs = [.ref p] ∧ (SqL C.K H p ys ∨ SqT C.K H p ys) ∧ ∀ l, H l = none → Q (.ref l) (upd H l (.lst ys))) := by
  intro g σ σD M H ds vs d Q c rs e k
  unfold listM at e
  split at e
  · simp only [Option.map_eq_some_iff] at e
    obtain ⟨es, e1, rfl⟩ := e
    obtain ⟨v, rfl, rx⟩ := rvA1 rs
    obtain ⟨a, us, rfl, ru, s⟩ := seq_case c rx e1
    exact ⟨a, us, rfl, s.elim (fun z => .inr z.1) .inl, fun p hp => frz_l c hp ru k⟩
  · cases e
theorem tuple_ok {C : Ct} : OpC C tupleM (fun xs H Q => ∃ p ys, xs = [.ref p] ∧ ((SqL C.K H p ys ∧ ∀ l, H l = none → Q (.ref l) (upd H l (.tup ys))) ∨ (SqT C.K H p ys ∧ Q (.ref p) H))) := by
  intro g σ σD M H ds vs d Q c rs e k
  unfold tupleM at e
  split at e
  · simp only [Option.map_eq_some_iff] at e
    obtain ⟨es, e1, rfl⟩ := e
    obtain ⟨v, rfl, rx⟩ := rvA1 rs
    obtain ⟨a, us, rfl, ru, s⟩ := seq_case c rx e1
    rcases s with ⟨s, rfl⟩ | s
    · exact ⟨a, us, rfl, .inr ⟨s, k g _ H (Le.refl _ _) c rx⟩⟩
    · exact ⟨a, us, rfl, .inl ⟨s, fun p hp => frz_t c hp ru k⟩⟩
  · cases e
theorem d_list {e : Expr} {fa : SA} {p : Pos} (hm : X.mg "list" = none) (ha : AD X W [e] fa) (hg : Gl X "list" := by rfl) (he : starEach [e] X.env = (false, eval e X.env) :: starEach [] X.env := by rfl) (hpl : (backTo pos (starEach [] X.env)).any (·.1) = false := by rfl) : PD X W (.Call (.Name "list" p) [e] [] pos) (callV listM fa) :=
  d_callTy (list_ok (C := ctx X)) call_list_of hm (by decide +kernel) ha hg (by decide) (by decide) he hpl
theorem d_tuple {e : Expr} {fa : SA} {p : Pos} (hm : X.mg "tuple" = none) (ha : AD X W [e] fa) (hg : Gl X "tuple" := by rfl) (he : starEach [e] X.env = (false, eval e X.env) :: starEach [] X.env := by rfl) (hpl : (backTo pos (starEach [] X.env)).any (·.1) = false := by rfl) : PD X W (.Call (.Name "tuple" p) [e] [] pos) (callV tupleM fa) :=
  d_callTy (tuple_ok (C := ctx X)) call_tuple_of hm (by decide +kernel) ha hg (by decide) (by decide) he hpl
/-- max, min of two ints -/
def max2M (_ : Mem) (ds : List D) : Option D := match ds with
  | [.int i, .int j] => some (.int (if j > i then j else i))
  | _ => none
def min2M (_ : Mem) (ds : List D) : Option D := match ds with
  | [.int i, .int j] => some (.int (if j < i then j else i))
  | _ => none
theorem max2_ok {C : Ct} : OpC C max2M (fun xs H Q => ∃ i j, xs = [.int i, .int j] ∧ Q (.int (if j > i then j else i)) H) := by
  intro g σ σD M H ds vs d Q c rs e k
  unfold max2M at e
  split at e
  · cases e
    obtain ⟨v, u, rfl, r1, r2⟩ := rvA2 rs
    rw [rv_int r1, rv_int r2]
    exact ⟨_, _, rfl, k g _ H (Le.refl _ _) c rv_i⟩
  · cases e
theorem min2_ok {C : Ct} : OpC C min2M (fun xs H Q => ∃ i j, xs = [.int i, .int j] ∧ Q (.int (if j < i then j else i)) H) := by
  intro g σ σD M H ds vs d Q c rs e k
  unfold min2M at e
  split at e
  · cases e
    obtain ⟨v, u, rfl, r1, r2⟩ := rvA2 rs
    rw [rv_int r1, rv_int r2]
    exact ⟨_, _, rfl, k g _ H (Le.refl _ _) c rv_i⟩
  · cases e
theorem d_max2 {e e2 : Expr} {fa : SA} {p : Pos} (hcalm : X.calm = true) (hm : X.mg "max" = none) (ha : AD X W [e, e2] fa) (hg : Gl X "max" := by rfl) (he : starEach [e, e2] X.env = (false, eval e X.env) :: starEach [e2] X.env := by rfl) (hpl : (backTo pos (starEach [e2] X.env)).any (·.1) = false := by rfl) : PD X W (.Call (.Name "max" p) [e, e2] [] pos) (callV max2M fa) :=
  d_callB (max2_ok (C := ctx X)) (call_max2 hcalm) hm (by decide +kernel) ha hg (by decide) (by decide) he hpl
theorem d_min2 {e e2 : Expr} {fa : SA} {p : Pos} (hcalm : X.calm = true) (hm : X.mg "min" = none) (ha : AD X W [e, e2] fa) (hg : Gl X "min" := by rfl) (he : starEach [e, e2] X.env = (false, eval e X.env) :: starEach [e2] X.env := by rfl) (hpl : (backTo pos (starEach [e2] X.env)).any (·.1) = false := by rfl) : PD X W (.Call (.Name "min" p) [e, e2] [] pos) (callV min2M fa) :=
  d_callB (min2_ok (C := ctx X)) (call_min2 hcalm) hm (by decide +kernel) ha hg (by decide) (by decide) he hpl
end
end Lf

/-! Lf9: methods of lists and texts, str, int, range, the walk over a text. -/
namespace Lf
open PySem PySem.Spec PyProof.Rows L2
section
variable {X : Cx} {W : WX} {pos : Pos}
/-! ### methods that may change the memory -/
def mtdS (ty : Mem → D → Bool) (r : Mem → D → List D → Option (D × Mem)) (fo : SE) (fa : SA) : SE := fun σ M => (fo σ M).bind fun x M1 => if ty M1 x = true then (fa σ M1).bind fun ds M2 => (match r M2 x ds with
  | some (d, M3) => .ok d M3
  | none => .bad) else .bad
def OpM (C : Ct) (r : Mem → D → List D → Option (D × Mem)) (R : V → List V → Hp → VK → Prop) : Prop := ∀ g σ σD M H x ds vx vs d M' Q, Conc C g σ σD M H → Rv C g x vx → RvA C g ds vs → r M x ds = some (d, M') →
  (∀ g' v H', Le g H g' H' → Conc C g' σ σD M' H' → Rv C g' d v → Q v H') → R vx vs H Q
def isLst (M : Mem) (x : D) : Bool := match x with
  | .ref i => (match M[i]? with
    | some (.lst _) => true
    | _ => false)
  | _ => false
theorem isLst_ty {C : Ct} {g : Gh} {σ : L2.St} {σD : Sl} {M : Mem} {H : Hp} {x : D} {v : V} (c : Conc C g σ σD M H) (r : Rv C g x v) (e : isLst M x = true) : tyV C.K "list" v H := by
  unfold isLst at e
  split at e
  · split at e
    · rename_i e2
      simp only [Rv] at r
      obtain ⟨a, rfl, q⟩ := r
      obtain ⟨o, ho, ro⟩ := c.obj _ a _ q e2 (by intro z; cases z)
      cases ro with
      | lst ro => exact .inl ⟨rfl, _, SqL.of ho⟩
    · cases e
  · cases e
theorem mtd_imp {T : String} {ty : Mem → D → Bool} {r : Mem → D → List D → Option (D × Mem)} {R : V → List V → Hp → VK → Prop} {fo : SE} {fa : SA} (k : OpM (ctx X) r R)
    (kt : ∀ g σ σD M H x v, Conc (ctx X) g σ σD M H → Rv (ctx X) g x v → ty M x = true → tyV X.K T v H) : ∀ σ H Q, tE (ctx X) W (mtdS ty r fo fa) σ H Q → tBM X.K T R (tE (ctx X) W fo) (tA (ctx X) W fa) σ H Q := fun σ H Q ⟨g, σD, M, c, h⟩ =>
  ⟨g, σD, M, c, (RE.post_bind h).imp fun x M1 g1 H1 _ l1 c1 h1 vx rx => by
    split at h1
    case isFalse => exact h1.elim
    rename_i ht
    refine ⟨kt _ _ _ _ _ _ _ c1 rx ht, g1, σD, M1, c1, (RE.post_bind h1).imp fun ds M2 g2 H2 _ l2 c2 h2 vs rs => ?_⟩
    split at h2
    · rename_i d M3 e
      exact k g2 σ σD M2 H2 x ds vx vs d M3 Q c2 (Rv.mono l2.gh _ _ rx) rs e fun g' v H' l c3 r3 => h2 g' H' l c3 v r3
    · exact h2.elim⟩
theorem mtd0_imp {T : String} {ty : Mem → D → Bool} {r : Mem → D → List D → Option (D × Mem)} {R : V → List V → Hp → VK → Prop} {fo : SE} (k : OpM (ctx X) r R)
    (kt : ∀ g σ σD M H x v, Conc (ctx X) g σ σD M H → Rv (ctx X) g x v → ty M x = true → tyV X.K T v H) : ∀ σ H Q, tE (ctx X) W (mtdS ty r fo nilA) σ H Q → tBM0 X.K T R (tE (ctx X) W fo) σ H Q := fun σ H Q ⟨g, σD, M, c, h⟩ =>
  ⟨g, σD, M, c, (RE.post_bind h).imp fun x M1 g1 H1 _ l1 c1 h1 vx rx => by
    split at h1
    case isFalse => exact h1.elim
    rename_i ht
    refine ⟨kt _ _ _ _ _ _ _ c1 rx ht, ?_⟩
    unfold nilA at h1
    rw [RE.bind_ok] at h1
    split at h1
    · rename_i d M3 e
      exact k g1 σ σD M1 H1 x [] vx [] d M3 Q c1 rx RvA.nil e fun g' v H' l c3 r3 => h1 g' H' l c3 v r3
    · exact h1.elim⟩
theorem lst_of {C : Ct} {g : Gh} {σ : L2.St} {σD : Sl} {M : Mem} {H : Hp} {i : Nat} {v : V} {ds : List D} (c : Conc C g σ σD M H) (r : Rv C g (.ref i) v) (e : M[i]? = some (.lst ds)) : ∃ a vs, v = .ref a ∧ g.rho[i]? = some a ∧ H a = some (.lst vs) ∧ RvA C g ds vs := by
  simp only [Rv] at r
  obtain ⟨a, rfl, q⟩ := r
  obtain ⟨o, ho, ro⟩ := c.obj i a _ q e (by intro z; cases z)
  cases ro with
  | lst ro => exact ⟨a, _, rfl, q, ho, ro⟩
def appendM (M : Mem) (x : D) (ds : List D) : Option (D × Mem) := match x, ds with
  | .ref i, [d] => (match M[i]? with
    | some (.lst es) => if es.length < 16000000 then some (.non, M.set i (.lst (es ++ [d]))) else none
    | _ => none)
  | _, _ => none
theorem append_ok {C : Ct} : OpM C appendM rAppend := by
  intro g σ σD M H x ds vx vs d M' Q c rx rs e k
  unfold appendM at e
  split at e
  · split at e
    · rename_i i y es e2
      split at e
      · rename_i hl
        cases e
        obtain ⟨a, us, rfl, q, ho, ru⟩ := lst_of c rx e2
        obtain ⟨v, rfl, rv⟩ := rvA1 rs
        obtain ⟨l, c2⟩ := c.writeL q e2 (by intro z; cases z) (.lst (ru.append (RvA.cons rv RvA.nil)))
        exact ⟨a, us, v, rfl, rfl, ho, line_lt (by rw [← ru.length]; exact hl), k _ _ _ l c2 rv_n⟩
      · cases e
    · cases e
  · cases e
def extendM (M : Mem) (x : D) (ds : List D) : Option (D × Mem) := match x, ds with
  | .ref i, [y] => (match M[i]?, dirOf M y with
    | some (.lst es), some fs => if es.length + fs.length ≤ 16000000 then some (.non, M.set i (.lst (es ++ fs))) else none
    | _, _ => none)
  | _, _ => none
theorem extend_ok {C : Ct} : OpM C extendM rExtend := by
  intro g σ σD M H x ds vx vs d M' Q c rx rs e k
  unfold extendM at e
  split at e
  · split at e
    · rename_i i y es fs e2 e3
      split at e
      · rename_i hl
        cases e
        obtain ⟨a, us, rfl, q, ho, ru⟩ := lst_of c rx e2
        obtain ⟨v, rfl, rv⟩ := rvA1 rs
        obtain ⟨b, ws, rfl, rw', hb⟩ := dir_at c rv e3
        obtain ⟨l, c2⟩ := c.writeL q e2 (by intro z; cases z) (.lst (ru.append rw'))
        exact ⟨a, b, us, ws, rfl, rfl, ho, hb, line_le (by rw [← ru.length, ← rw'.length]; exact hl), k _ _ _ l c2 rv_n⟩
      · cases e
    · cases e
  · cases e
def popM (M : Mem) (x : D) (ds : List D) : Option (D × Mem) := match x, ds with
  | .ref i, [] => (match M[i]? with
    | some (.lst es) => (es[es.length - 1]?).map fun y => (y, M.set i (.lst es.dropLast))
    | _ => none)
  | _, _ => none
theorem pop_ok {C : Ct} : OpM C popM rPop := by
  intro g σ σD M H x ds vx vs d M' Q c rx rs e k
  unfold popM at e
  split at e
  · split at e
    · rename_i i es e2
      simp only [Option.map_eq_some_iff, Prod.mk.injEq] at e
      obtain ⟨y, e, rfl, rfl⟩ := e
      obtain ⟨a, us, rfl, q, ho, ru⟩ := lst_of c rx e2
      rw [rs.nil_inv]
      obtain ⟨v, e3, rv⟩ := ru.get e
      obtain ⟨l, c2⟩ := c.writeL q e2 (by intro z; cases z) (.lst ru.dropLast)
      exact ⟨a, us, v, rfl, rfl, ho, by rw [← ru.length]; exact e3, k _ _ _ l c2 rv⟩
    · cases e
  · cases e
def popAtM (M : Mem) (x : D) (ds : List D) : Option (D × Mem) := match x, ds with
  | .ref i, [.int j] => (match M[i]? with
    | some (.lst es) => if 0 ≤ j ∧ j < es.length ∧ es.length ≤ 16000000 then (es[j.toNat]?).map fun y => (y, M.set i (.lst (es.eraseIdx j.toNat))) else none
    | _ => none)
  | _, _ => none
theorem popAt_ok {C : Ct} : OpM C popAtM rPopAt := by
  intro g σ σD M H x ds vx vs d M' Q c rx rs e k
  unfold popAtM at e
  split at e
  · split at e
    · rename_i i0 j _ es e2
      split at e
      · rename_i hj
        simp only [Option.map_eq_some_iff, Prod.mk.injEq] at e
        obtain ⟨y, e, rfl, rfl⟩ := e
        obtain ⟨a, us, rfl, q, ho, ru⟩ := lst_of c rx e2
        obtain ⟨v0, rfl, r0⟩ := rvA1 rs
        rw [rv_int r0]
        obtain ⟨v, e3, rv⟩ := ru.get e
        obtain ⟨l, c2⟩ := c.writeL q e2 (by intro z; cases z) (.lst (ru.eraseIdx j.toNat))
        have hl := ru.length
        exact ⟨a, us, j, j.toNat, v, rfl, rfl, ho, by omega, by omega, by rw [← hl]; exact seqIndex_of hj.1 hj.2.1, e3, k _ _ _ l c2 rv⟩
      · cases e
    · cases e
  · cases e
def clearM (M : Mem) (x : D) (ds : List D) : Option (D × Mem) := match x, ds with
  | .ref i, [] => (match M[i]? with
    | some (.lst es) => some (.non, M.set i (.lst []))
    | _ => none)
  | _, _ => none
theorem clear_ok {C : Ct} : OpM C clearM rClear := by
  intro g σ σD M H x ds vx vs d M' Q c rx rs e k
  unfold clearM at e
  split at e
  · split at e
    · rename_i i es e2
      cases e
      obtain ⟨a, us, rfl, q, ho, ru⟩ := lst_of c rx e2
      rw [rs.nil_inv]
      obtain ⟨l, c2⟩ := c.writeL q e2 (by intro z; cases z) (.lst (RvA.nil (C := C)))
      exact ⟨a, us, rfl, rfl, ho, k _ _ _ l c2 rv_n⟩
    · cases e
  · cases e
section
variable {o e : Expr} {es : List Expr} {fo : SE} {fa : SA} {apos cpos : Pos}
theorem d_append (ho : PD X W o fo) (ha : AD X W (e :: es) fa) (hbase : attributeBase o "append" X.env (eval o X.env) = eval o X.env := by rfl)
    (hfew : ((backTo cpos (starEach (e :: es) X.env)).all (fun x => !x.1) && (backToKw cpos (keywordEach [] X.env)).all (fun x => x.1.isSome) && decide ((e :: es).length + ([] : List Keyword).length + (if ([] : List Keyword).isEmpty then 0 else 1) < 30)) = true := by rfl)
    (hline : (apos.endLine == cpos.line) = true := by rfl) (hs : starEach (e :: es) X.env = (false, eval e X.env) :: starEach es X.env := by rfl) (hplain : (backTo cpos (starEach es X.env)).any (·.1) = false := by rfl) :
    PD X W (.Call (.Attribute o "append" apos) (e :: es) [] cpos) (mtdS isLst appendM fo fa) :=
  PE.imp (pe_bm PySem.F.plainAttrs_list PySem.F.slot_list_append PySem.F.type_list_append mt_append ho ha hbase hfew hline hs hplain) (mtd_imp (append_ok (C := ctx X)) fun _ _ _ _ _ _ _ => isLst_ty)
theorem d_extend (ho : PD X W o fo) (ha : AD X W (e :: es) fa) (hbase : attributeBase o "extend" X.env (eval o X.env) = eval o X.env := by rfl)
    (hfew : ((backTo cpos (starEach (e :: es) X.env)).all (fun x => !x.1) && (backToKw cpos (keywordEach [] X.env)).all (fun x => x.1.isSome) && decide ((e :: es).length + ([] : List Keyword).length + (if ([] : List Keyword).isEmpty then 0 else 1) < 30)) = true := by rfl)
    (hline : (apos.endLine == cpos.line) = true := by rfl) (hs : starEach (e :: es) X.env = (false, eval e X.env) :: starEach es X.env := by rfl) (hplain : (backTo cpos (starEach es X.env)).any (·.1) = false := by rfl) :
    PD X W (.Call (.Attribute o "extend" apos) (e :: es) [] cpos) (mtdS isLst extendM fo fa) :=
  PE.imp (pe_bm PySem.F.plainAttrs_list PySem.F.slot_list_extend PySem.F.type_list_extend mt_extend ho ha hbase hfew hline hs hplain) (mtd_imp (extend_ok (C := ctx X)) fun _ _ _ _ _ _ _ => isLst_ty)
theorem d_popAt (ho : PD X W o fo) (ha : AD X W (e :: es) fa) (hbase : attributeBase o "pop" X.env (eval o X.env) = eval o X.env := by rfl)
    (hfew : ((backTo cpos (starEach (e :: es) X.env)).all (fun x => !x.1) && (backToKw cpos (keywordEach [] X.env)).all (fun x => x.1.isSome) && decide ((e :: es).length + ([] : List Keyword).length + (if ([] : List Keyword).isEmpty then 0 else 1) < 30)) = true := by rfl)
    (hline : (apos.endLine == cpos.line) = true := by rfl) (hs : starEach (e :: es) X.env = (false, eval e X.env) :: starEach es X.env := by rfl) (hplain : (backTo cpos (starEach es X.env)).any (·.1) = false := by rfl) :
    PD X W (.Call (.Attribute o "pop" apos) (e :: es) [] cpos) (mtdS isLst popAtM fo fa) :=
  PE.imp (pe_bm PySem.F.plainAttrs_list PySem.F.slot_list_pop PySem.F.type_list_pop mt_popAt ho ha hbase hfew hline hs hplain) (mtd_imp (popAt_ok (C := ctx X)) fun _ _ _ _ _ _ _ => isLst_ty)
theorem d_pop (ho : PD X W o fo) (hbase : attributeBase o "pop" X.env (eval o X.env) = eval o X.env := by rfl) (hline : (apos.endLine == cpos.line) = true := by rfl) :
    PD X W (.Call (.Attribute o "pop" apos) [] [] cpos) (mtdS isLst popM fo nilA) :=
  PE.imp (pe_bm0 PySem.F.plainAttrs_list PySem.F.slot_list_pop PySem.F.type_list_pop mt_pop ho hbase hline) (mtd0_imp (pop_ok (C := ctx X)) fun _ _ _ _ _ _ _ => isLst_ty)
theorem d_clear (ho : PD X W o fo) (hbase : attributeBase o "clear" X.env (eval o X.env) = eval o X.env := by rfl) (hline : (apos.endLine == cpos.line) = true := by rfl) :
    PD X W (.Call (.Attribute o "clear" apos) [] [] cpos) (mtdS isLst clearM fo nilA) :=
  PE.imp (pe_bm0 PySem.F.plainAttrs_list PySem.F.slot_list_clear PySem.F.type_list_clear mt_clear ho hbase hline) (mtd0_imp (clear_ok (C := ctx X)) fun _ _ _ _ _ _ _ => isLst_ty)
end

/-! ### texts -/
def strsOf : List D → Option (List Str)
  | [] => some []
  | .str x :: ds => (strsOf ds).map fun xs => x :: xs
  | _ :: _ => none
theorem strsOf_eq : ∀ {ds : List D} {xs : List Str}, strsOf ds = some xs → ds = xs.map D.str
  | [], xs, e => by simp only [strsOf, Option.some.injEq] at e; subst e; rfl
  | d :: ds, xs, e => by
    cases d <;> simp only [strsOf, reduceCtorEq, Option.map_eq_some_iff] at e
    obtain ⟨ys, e, rfl⟩ := e
    rw [strsOf_eq e]
    rfl
@[simp] theorem strsOf_map (xs : List Str) : strsOf (xs.map D.str) = some xs := by
  induction xs with
  | nil => rfl
  | cons x xs ih => simp [strsOf, ih]
def isStr (x : D) : Bool := match x with
  | .str _ => true
  | _ => false
def m1S (r : Mem → D → D → Option D) (fo fe : SE) : SE := fun σ M => (fo σ M).bind fun x M1 => if isStr x = true then (fe σ M1).bind fun y M2 => (match r M2 x y with
  | some d => .ok d M2
  | none => .bad) else .bad
theorem m1_imp {r : Mem → D → D → Option D} {R : V → List V → Hp → VK → Prop} {fo fe : SE} (k : Op2 (ctx X) r (fun x y H Q => R x [y] H Q)) : ∀ σ H Q, tE (ctx X) W (m1S r fo fe) σ H Q → tM1 R (tE (ctx X) W fo) (tE (ctx X) W fe) σ H Q := fun σ H Q ⟨g, σD, M, c, h⟩ =>
  ⟨g, σD, M, c, (RE.post_bind h).imp fun x M1 g1 H1 _ l1 c1 h1 vx rx => by
    split at h1
    case isFalse => exact h1.elim
    rename_i ht
    have hs : ∃ a, vx = V.str a := by
      cases x <;> simp only [isStr, Bool.false_eq_true] at ht
      exact ⟨_, rv_str rx⟩
    refine ⟨hs, g1, σD, M1, c1, (RE.post_bind h1).imp fun y M2 g2 H2 _ l2 c2 h2 vy ry => ?_⟩
    split at h2
    · rename_i d e
      exact k g2 σ σD M2 H2 x y vx vy d Q c2 (Rv.mono l2.gh _ _ rx) ry e fun g' v H' l c3 r3 => h2 g' H' l c3 v r3
    · exact h2.elim⟩
def splitM (_ : Mem) (x y : D) : Option D := match x, y with
  | .str a, .str b => if b.length ≠ 0 ∧ a.length ≤ 15000000 then some (.lst ((Txt.split a b).map .str)) else none
  | _, _ => none
theorem split_ok {C : Ct} : Op2 C splitM (fun x y H Q => ∃ a b, x = .str a ∧ [y] = [.str b] ∧ (b.length == 0) = false ∧ a.length + 2 ≤ sizeLine ∧ rNewStrs (Txt.split a b) H Q) := by
  intro g σ σD M H x y vx vy d Q c rx ry e k
  unfold splitM at e
  split at e
  · split at e
    · rename_i a b h
      cases e
      rw [rv_str rx, rv_str ry]
      exact ⟨a, b, rfl, rfl, by simpa using h.1, line_le (by omega), fun p hp => frz_l c hp RvA.of_strs k⟩
    · cases e
  · cases e
def joinM (M : Mem) (x y : D) : Option D := match x with
  | .str a => ((seqOf M y).bind strsOf).bind fun ys => if (ys.map (·.length)).sum + ys.length * a.length ≤ 16000000 then some (.str (Txt.join a ys)) else none
  | _ => none
theorem join_ok {C : Ct} : Op2 C joinM (fun x y H Q => ∃ a p, ∃ ys : List Str, x = .str a ∧ [y] = [.ref p] ∧ (SqL C.K H p (ys.map V.str) ∨ SqT C.K H p (ys.map V.str)) ∧ (ys.map (·.length)).sum + ys.length * a.length ≤ 16777216 ∧ Q (.str (Txt.join a ys)) H) := by
  intro g σ σD M H x y vx vy d Q c rx ry e k
  unfold joinM at e
  split at e
  · rename_i a
    simp only [Option.bind_eq_some_iff] at e
    obtain ⟨ys, ⟨ds, e1, e2⟩, e3⟩ := e
    split at e3
    · rename_i hl
      cases e3
      obtain ⟨p, us, rfl, ru, s⟩ := seq_case c ry e1
      rw [strsOf_eq e2] at ru
      rw [ru.strs] at s
      rw [rv_str rx]
      exact ⟨a, p, ys, rfl, rfl, s.elim (fun z => .inr z.1) .inl, by omega, k g _ H (Le.refl _ _) c rv_s⟩
    · cases e3
  · cases e
section
variable {o e : Expr} {fo fe : SE} {apos : Pos}
theorem d_split (ho : PD X W o fo) (he : PD X W e fe) (hs : starEach [e] X.env = [(false, eval e X.env)] := by rfl) (hbase : attributeBase o "split" X.env (eval o X.env) = eval o X.env := by rfl) (hline : (apos.endLine == pos.line) = true := by rfl) :
    PD X W (.Call (.Attribute o "split" apos) [e] [] pos) (m1S splitM fo fe) := PE.imp (pe_split ho he hs hbase hline) (m1_imp (split_ok (C := ctx X)))
theorem d_join (ho : PD X W o fo) (he : PD X W e fe) (hs : starEach [e] X.env = [(false, eval e X.env)] := by rfl) (hbase : attributeBase o "join" X.env (eval o X.env) = eval o X.env := by rfl) (hline : (apos.endLine == pos.line) = true := by rfl) :
    PD X W (.Call (.Attribute o "join" apos) [e] [] pos) (m1S joinM fo fe) := PE.imp (pe_join ho he hs hbase hline) (m1_imp (join_ok (C := ctx X)))
end

/-! ### range, a text sign by sign -/
def rngItems (lo : Int) (n : Nat) : List D := (List.range n).map fun (i : Nat) => D.int (lo + (i : Int))
def irange1S (fa : SA) : SI := fun σ M => (fa σ M).bind fun ds M1 => match ds with
  | [.int j] => if j < 1000000 ∧ -1000000 < j then .ok ⟨rngItems 0 j.toNat, fun _ => True⟩ M1 else .bad
  | _ => .bad
def irange2S (fa : SA) : SI := fun σ M => (fa σ M).bind fun ds M1 => match ds with
  | [.int i, .int j] => if j < 1000000 ∧ -1000000 < j ∧ i < 1000000 ∧ -1000000 < i then .ok ⟨rngItems i (j - i).toNat, fun _ => True⟩ M1 else .bad
  | _ => .bad
theorem itOk_r {C : Ct} {g : Gh} {H0 : Hp} (lo : Int) (n : Nat) : ItOk C g H0 (Itr lo n) ⟨rngItems lo n, fun _ => True⟩ := fun g' σ σD M H l c _ i => by
  refine ⟨fun d hd => ?_, fun hi => ?_⟩
  · simp only [rngItems, List.getElem?_map, Option.map_eq_some_iff] at hd
    obtain ⟨j, hj, rfl⟩ := hd
    obtain ⟨h1, h2⟩ := List.getElem?_eq_some_iff.mp hj
    simp only [List.getElem_range] at h2
    simp only [List.length_range] at h1
    subst h2
    refine ⟨h1, fun x H' ⟨e1, e2⟩ => ?_⟩
    subst e1 e2
    exact ⟨g', Le.refl _ _, c, rv_i⟩
  · show n ≤ i
    simpa [rngItems] using hi
theorem i_range1 {tg a : Expr} {fa : SA} {p : Pos} (hm : X.mg "range" = none) (ha : AD X W [a] fa) (hg : Gl X "range" := by rfl) (hs : starEach [a] X.env = [(false, eval a X.env)] := by rfl) : ID X W tg (.Call (.Name "range" p) [a] [] pos) (irange1S fa) :=
  PI.imp (pi_range1 hg hm ha hs) fun σ H R ⟨g, σD, M, c, h⟩ => ⟨g, σD, M, c, (RE.post_bind h).imp fun ds M1 g1 H1 _ l1 c1 h1 vs rs => by
    split at h1
    case h_2 => exact h1.elim
    split at h1
    case isFalse => exact h1.elim
    rename_i hj
    obtain ⟨v, rfl, r⟩ := rvA1 rs
    rw [rv_int r]
    exact ⟨_, rfl, by omega, by omega, h1 g1 H1 (Le.refl _ _) c1 _ (itOk_r 0 _)⟩⟩
theorem i_range2 {tg a b : Expr} {fa : SA} {p : Pos} (hm : X.mg "range" = none) (ha : AD X W [a, b] fa) (hg : Gl X "range" := by rfl) (hs : starEach [a, b] X.env = [(false, eval a X.env), (false, eval b X.env)] := by rfl) (hs2 : starEach [b] X.env = [(false, eval b X.env)] := by rfl) : ID X W tg (.Call (.Name "range" p) [a, b] [] pos) (irange2S fa) :=
  PI.imp (pi_range2 hg hm ha hs hs2) fun σ H R ⟨g, σD, M, c, h⟩ => ⟨g, σD, M, c, (RE.post_bind h).imp fun ds M1 g1 H1 _ l1 c1 h1 vs rs => by
    split at h1
    case h_2 => exact h1.elim
    split at h1
    case isFalse => exact h1.elim
    rename_i hj
    obtain ⟨v, u, rfl, r1, r2⟩ := rvA2 rs
    rw [rv_int r1, rv_int r2]
    exact ⟨_, _, rfl, by omega, h1 g1 H1 (Le.refl _ _) c1 _ (itOk_r _ _)⟩⟩
def signs (x : Str) : List D := x.cps.toList.map fun c => .str ⟨#[c]⟩
def istrS (f : SE) : SI := fun σ M => (f σ M).bind fun d M1 => match d with
  | .str x => .ok ⟨signs x, fun _ => True⟩ M1
  | _ => .bad
theorem itOk_s {C : Ct} {g : Gh} {H0 : Hp} (x : Str) : ItOk C g H0 (Its x) ⟨signs x, fun _ => True⟩ := fun g' σ σD M H l c _ i => by
  refine ⟨fun d hd => ?_, fun hi => ?_⟩
  · simp only [signs, List.getElem?_map, Option.map_eq_some_iff] at hd
    obtain ⟨j, hj, rfl⟩ := hd
    obtain ⟨h1, h2⟩ := List.getElem?_eq_some_iff.mp hj
    simp only [Array.length_toList] at h1
    refine ⟨h1, fun y H' ⟨e1, cc, e2, e3⟩ => ?_⟩
    subst e1 e3
    rw [Array.getElem?_toList] at hj
    rw [hj] at e2
    cases e2
    exact ⟨g', Le.refl _ _, c, rv_s⟩
  · show x.cps.size ≤ i
    simpa [signs] using hi
theorem i_str {tg e : Expr} {f : SE} (h : PD X W e f) : ID X W tg e (istrS f) :=
  PI.imp (pi_str h) fun σ H R ⟨g, σD, M, c, h⟩ => ⟨g, σD, M, c, (RE.post_bind h).imp fun d M1 g1 H1 _ l1 c1 h1 v r => by
    cases d <;> try exact h1.elim
    exact ⟨_, rv_str r, h1 g1 H1 (Le.refl _ _) c1 _ (itOk_s _)⟩⟩
end
end Lf

/-! Lf10: stores by place, a starred target, a def out of a list, str and int of long numbers. -/
namespace Lf
open PySem PySem.Spec PyProof.Rows L2
section
variable {X : Cx} {W : WX} {pos : Pos}
/-! ### xs[i] = e -/
def setItemS (fo fi f : SE) : SS := fun σ M => match f σ M with
  | .ex c M1 => .ex c σ M1
  | .bad => .bad
  | .ok d M1 => (match fo σ M1 with
    | .ex c M2 => .ex c σ M2
    | .bad => .bad
    | .ok x M2 => (match fi σ M2 with
      | .ex c M3 => .ex c σ M3
      | .bad => .bad
      | .ok i M3 => (match x, i with
        | .ref a, .int j => (match M3[a]? with
          | some (.lst es) => if 0 ≤ j ∧ j < es.length then .nx σ (M3.set a (.lst (es.set j.toNat d))) else .bad
          | _ => .bad)
        | _, _ => .bad)))
theorem s_setItem {o i e : Expr} {fo fi f : SE} {p : Pos} (he : PD X W e f) (ho : PD X W o fo) (hi : PD X W i fi)
    (ha : ∀ v, assign (.Subscript o i p) X.env v = (do
      let ov ← holding [v] (eval o X.env)
      let iv ← holding [v, ov] (eval i X.env)
      standAt p
      holding [v, ov, iv] (setItem ov iv v)
      release [v, ov, iv] []) := by intro _; rfl) (hs : swapsWithSole [.Subscript o i p] e pos.line X.env = pure false := by rfl) (hw : swappedStores [.Subscript o i p] e X.env = pure none := by rfl)
    (h1 : (assignEach [.Subscript o i p] X.env).map (·.2) = [assign (.Subscript o i p) X.env] := by rfl) : SD X W (.Assign [.Subscript o i p] e pos) (setItemS fo fi f) :=
  PS.imp (ps_asg he (pg_sub ho hi set_list ha) hs hw h1) fun E σ H ⟨g, σD, M, c, h⟩ => ⟨g, σD, M, c, by
    unfold setItemS at h
    cases e : f σD M with
    | ex x M1 => rw [e] at h; exact fun g' H' u l c' e => h g' σ H' u l c' e
    | bad => rw [e] at h; exact h
    | ok d M1 =>
      rw [e] at h
      intro g1 H1 l1 c1 v rv
      refine ⟨g1, σD, M1, c1, ?_⟩
      simp only at h
      cases e2 : fo σD M1 with
      | ex x M2 => rw [e2] at h; exact fun g' H' u l c' e => h g' σ H' u (l1.trans l) c' e
      | bad => rw [e2] at h; exact h
      | ok x M2 =>
        rw [e2] at h
        intro g2 H2 l2 c2 vo ro
        refine ⟨g2, σD, M2, c2, ?_⟩
        simp only at h
        cases e3 : fi σD M2 with
        | ex x M3 => rw [e3] at h; exact fun g' H' u l c' e => h g' σ H' u ((l1.trans l2).trans l) c' e
        | bad => rw [e3] at h; exact h
        | ok j M3 =>
          rw [e3] at h
          intro g3 H3 l3 c3 vi ri
          simp only at h
          split at h
          · split at h
            · rename_i a j _ es e4
              split at h
              · rename_i hj
                obtain ⟨p, vs, rfl, q, hp, rs⟩ := lst_of c3 (Rv.mono l3.gh _ _ ro) e4
                rw [rv_int ri]
                have rv3 := Rv.mono (Gh.le_trans l2.gh l3.gh) _ _ rv
                obtain ⟨l, c4⟩ := c3.writeL q e4 (by intro z; cases z) (.lst (rs.set j.toNat rv3))
                refine ⟨p, vs, j, j.toNat, rfl, rfl, hp, ?_, h g3 σ _ (((l1.trans l2).trans l3).trans l) c4⟩
                unfold ixN
                rw [if_pos hj.1, if_pos (by rw [← rs.length]; exact hj.2)]
              · exact h.elim
            · exact h.elim
          · exact h.elim⟩

/-! ### a def out of a list: [f, g, ..][i](..) -/
/-- what the names' defs do -/
def FnTab (X : Cx) (k : Nat) (tab : Str → Option SF) : Prop := ∀ x F, tab x = some F → DX X x k F
def callFS (tab : Str → Option SF) (fo : SE) (fa : SA) : SE := fun σ M => (fo σ M).bind fun d M1 => match d with
  | .gl x => (match tab x with
    | some F => (fa σ M1).bind fun ds M2 => F ds M2
    | none => .bad)
  | _ => .bad
theorem d_callF {k : Nat} {tab : Str → Option SF} {func e : Expr} {es : List Expr} {fo : SE} {fa : SA} (T : FnTab X k tab) (hr : RoomG k X.A) (tk : Takes X W) (hf : PD X W func fo) (ha : AD X W (e :: es) fa)
    (heq : eval (.Call func (e :: es) [] pos) X.env = (do callWith pos (← eval func X.env) [] (backTo pos (starEach (e :: es) X.env)) (backToKw pos (keywordEach [] X.env))) := by rfl)
    (he : starEach (e :: es) X.env = (false, eval e X.env) :: starEach es X.env := by rfl) (hpl : (backTo pos (starEach es X.env)).any (·.1) = false := by rfl) : PD X W (.Call func (e :: es) [] pos) (callFS tab fo fa) := by
  refine ⟨fun pins s σ H Q I ⟨g, σD, M, c, h⟩ => ?_⟩
  refine Call_ (thn (hf.run pins s σ H (fun v H1 => ∃ x F f, tab x = some F ∧ X.mg x = some (.ref f) ∧ v = .ref f ∧ tA (ctx X) W fa σ H1 fun vs H2 => ∃ g2 M2 ds, Conc (ctx X) g2 σ σD M2 H2 ∧ RvA (ctx X) g2 ds vs ∧ (F ds M2).post (ctx X) W g2 H2 σ σD fun g' d _ H' => ∀ v, Rv (ctx X) g' d v → Q v H') I ?_) fun u s1 ⟨v, H1, I1, r1, x, F, f, ht, hm, ev, q1⟩ => ?_) heq
  · refine ⟨g, σD, M, c, (RE.post_bind h).imp fun d M1 g1 H1 _ l1 c1 h1 v rv => ?_⟩
    split at h1
    · rename_i x _
      split at h1
      · rename_i F ht
        simp only [Rv] at rv
        obtain ⟨u, hu, ru⟩ := rv
        obtain ⟨f, fd, ps, ds, dvs, dfs, F0, hm, _⟩ := (T x F ht).ex
        have hm' : X.mg x = some (.ref f) := hm
        have hu' : X.mg x = some u := hu
        rw [hm'] at hu'
        cases hu'
        refine ⟨x, F, f, ht, hm', ?_, g1, σD, M1, c1, (RE.post_bind h1).imp fun ds M2 g2 H2 _ l2 c2 h2 vs rs => ⟨g2, M2, ds, c2, rs, h2⟩⟩
        exact L2.RelV.inj ru rfl
      · exact h1.elim
    · exact h1.elim
  · subst ev
    obtain rfl : u = Value.ref f := r1
    obtain ⟨f', fd, ps, ds, dvs, dfs, F0, hm', hk, hb, hd, hdf, hF, ok⟩ := (T x F ht).ex
    have hm2 : X.mg x = some (.ref f') := hm'
    rw [hm] at hm2
    cases hm2
    refine PySem.W.callWith_K (h₀ := X.base) I1.ok.mod.kin hk (thn (ha.run pos pins s1 σ _ _ I1 q1) fun us s2 ⟨vs, H2, I2, r, g2, M2, es', c2, rs, h2⟩ => ⟨I2.kIn, ?_⟩) he hpl
    rw [hF] at h2
    exact run_fnSDG (E := fun σ => WE W σ) ok hr hb hd (passAt tk σ) I2 r ⟨g2, es' ++ dfs, M2, c2.noslots, rs.append (hdf g2), post_lift c2 h2⟩

/-! ### str, of texts and whole numbers of up to 4300 figures -/
def strM (_ : Mem) (ds : List D) : Option D := match ds with
  | [.int i] => if i.natAbs < 10 ^ 4300 then some (.str (toString i)) else none
  | [.str x] => some (.str x)
  | _ => none
theorem call_str_any (hc : X.calm = true) (hd : X.base.NoDigits) : CallR X (.type "str") (fun xs H Q => (∃ a, xs = [.str a] ∧ Q (.str a) H) ∨ ∃ i, xs = [.int i] ∧ i.natAbs < 10 ^ 4300 ∧ Q (.str (toString i)) H) := by
  refine callOr SkE.call_str_str fun pins s σ H xs us Q I r h => ?_
  obtain ⟨i, rfl, hz, q⟩ := h
  obtain ⟨u, rfl, t, rfl⟩ := vals1 r
  exact str_of_int_or (I.ok.hd hc) (hd.keeps I.bk) (fun _ => ⟨.str _, H, I.tok _, ⟨_, rfl⟩, q⟩) fun hge => absurd hz (Nat.not_lt.mpr hge)
theorem str_ok {C : Ct} : OpC C strM (fun xs H Q => (∃ a, xs = [.str a] ∧ Q (.str a) H) ∨ ∃ i, xs = [.int i] ∧ i.natAbs < 10 ^ 4300 ∧ Q (.str (toString i)) H) := by
  intro g σ σD M H ds vs d Q c rs e k
  unfold strM at e
  split at e
  · split at e
    · rename_i hz
      cases e
      obtain ⟨v, rfl, r⟩ := rvA1 rs
      rw [rv_int r]
      exact .inr ⟨_, rfl, hz, k g _ H (Le.refl _ _) c rv_s⟩
    · cases e
  · cases e
    obtain ⟨v, rfl, r⟩ := rvA1 rs
    rw [rv_str r]
    exact .inl ⟨_, rfl, k g _ H (Le.refl _ _) c rv_s⟩
  · cases e
theorem d_strc {e : Expr} {fa : SA} {p : Pos} (hcalm : X.calm = true) (hdig : X.base.NoDigits) (hm : X.mg "str" = none) (ha : AD X W [e] fa) (hg : Gl X "str" := by rfl) (he : starEach [e] X.env = (false, eval e X.env) :: starEach [] X.env := by rfl) (hpl : (backTo pos (starEach [] X.env)).any (·.1) = false := by rfl) : PD X W (.Call (.Name "str" p) [e] [] pos) (callV strM fa) :=
  d_callTy (str_ok (C := ctx X)) (call_str_any hcalm hdig) hm (by decide +kernel) ha hg (by decide) (by decide) he hpl
end
end Lf

/-! Lf11: repr of data. -/
namespace Lf
open PySem PySem.Spec PyProof.Rows L2
def isBox : PyData → Bool
  | .list _ => true
  | .tuple _ => true
  | _ => false
def showOk (p : PyData) : Bool := isBox p && p.showable && !p.hasDict && decide (p.depth ≤ 100) && decide (p.shown.length ≤ 16000000)
def reprM (M : Mem) (ds : List D) : Option D := match ds with
  | [x] => (match toPy M x with
    | some p => if showOk p = true then some (.str p.shown) else none
    | none => none)
  | _ => none
def rRepr (K : PySem.W.Frag) : List V → Hp → VK → Prop := fun xs H Q => ∃ x p, xs = [x] ∧ Dp K H x p ∧ showOk p = true ∧ Q (.str p.shown) H
section
variable {X : Cx} {W : WX} {pos : Pos}
theorem call_repr_box {k : Nat} (hr : RoomG k X.A) : CallR X (.builtin "repr") (rRepr X.K) := by
  intro pins s σ H xs us Q I r h
  obtain ⟨x, p, rfl, hd, hs, q⟩ := h
  obtain ⟨u, rfl, rx⟩ := vals1 r
  obtain ⟨as, rr⟩ := Dp.reads I p x u hd rx
  simp only [showOk, Bool.and_eq_true, Bool.not_eq_true', decide_eq_true_eq] at hs
  obtain ⟨⟨⟨⟨hb, hs⟩, hdict⟩, hdep⟩, hlen⟩ := hs
  have hu := hr.r.un
  obtain ⟨a, rfl⟩ : ∃ a, u = .ref a := by
    cases rr <;> first
      | exact ⟨_, rfl⟩
      | simp [isBox] at hb
  refine repr_of_reads' rr hs (PyData.noDict_hsm hdict) hr.g (by omega) (fun _ _ e => e) (fun h' u tk hk => ?_) (line_le hlen)
  exact ⟨.str p.shown, H, I.kept hk, ⟨_, rfl⟩, q⟩
theorem repr_ok {C : Ct} : OpC C reprM (rRepr C.K) := by
  intro g σ σD M H ds vs d Q c rs e k
  unfold reprM at e
  split at e
  · split at e
    · rename_i p hp
      split at e
      · rename_i hs
        cases e
        obtain ⟨v, rfl, r⟩ := rvA1 rs
        exact ⟨v, p, rfl, dp1 c _ v p r hp, hs, k g _ H (Le.refl _ _) c rv_s⟩
      · cases e
    · cases e
  · cases e
theorem d_repr {e : Expr} {fa : SA} {p : Pos} {k : Nat} (hr : RoomG k X.A) (hm : X.mg "repr" = none) (ha : AD X W [e] fa) (hg : Gl X "repr" := by rfl) (he : starEach [e] X.env = (false, eval e X.env) :: starEach [] X.env := by rfl) (hpl : (backTo pos (starEach [] X.env)).any (·.1) = false := by rfl) : PD X W (.Call (.Name "repr" p) [e] [] pos) (callV reprM fa) :=
  d_callB (repr_ok (C := ctx X)) (call_repr_box hr) hm (by decide +kernel) ha hg (by decide) (by decide) he hpl
end
end Lf

/-! Lf12: int of texts of up to 4300 figures. -/
namespace Lf
open PySem PySem.Spec PyProof.Rows L2 PySem.NumText
theorem wp_any {M : Model} {A : Around} {E : Value → Shared → Prop} {s : Shared} {Q : Value → Shared → Prop} {v : Value} {x : Str} {n : Int} (hd : s.heap.NoDigits)
    (hr : (int_private% "readNumeral") (numLimitOf x) 10 (numSeenOf x) = (int_private% "Numeral.value") n)
    (ha : ((numSeenOf x).length == (numTextOf x).length) = true) (h : Q (.int n s.toks) { s with toks := s.toks + 1 }) :
    wpAny M A ((int_private% "intFromText") v (numTextOf x) 10) Q E s := by
  show wpAny M A (if (numSeenOf x).length ≤ 640 then (pure 0 >>= ?K) else (Builtin.intMaxStrDigits >>= ?K)) Q E s
  have fin : wpAny M A (?K (numLimitOf x)) Q E s := by
    dsimp only
    rw [hr]
    dsimp only
    rw [if_pos ha]
    exact wpAny_mkInt h
  by_cases hl : (numSeenOf x).length ≤ 640
  · rw [if_pos hl]
    have e : numLimitOf x = 0 := if_pos hl
    rw [e] at fin
    exact wpAny_bind (wpAny_pure fin)
  · rw [if_neg hl]
    have e : numLimitOf x = 4300 := if_neg hl
    rw [e] at fin
    obtain ⟨mc, hns, hnone⟩ := hd
    unfold Builtin.intMaxStrDigits
    refine wpAny_bind (wpAny_bind (wpAny_nsGet hns ?_))
    rw [hnone]
    exact wpAny_pure fin
structure Hid (p : Prop) : Prop where
  out : p
theorem wp_int_text {M : Model} {A : Around} {E : Value → Shared → Prop} {s : Shared} {Q : Value → Shared → Prop} {x : Str} {u : Tok} {n : Int} (hd : s.heap.NoDigits) (hx : x.length ≤ sizeLine) (hn : PySem.intText? x = some n)
    (h : Q (.int n s.toks) { s with toks := s.toks + 1 }) : wpAny M A (Builtin.«int.__new__» ⟨[.type "int", .str x u], []⟩) (fun fin s' => ∃ v, fin = .done (.ret v) ∧ Q v s') E s := by
  obtain ⟨hp, g, d, tk, os⟩ := s
  have f1 := F.conv_sub_int
  have f2 := F.madeHere_int
  have f3 := PySem.W.KIN.str_int
  have f4 := PySem.W.KIN.str_idx
  have f5 := PySem.W.KIN.str_trunc
  have f6 : typeOf (.str x u) = pure (.type "str") := rfl
  have hr : (int_private% "readNumeral") (numLimitOf x) 10 (numSeenOf x) = (int_private% "Numeral.value") n ∧ ((numSeenOf x).length == (numTextOf x).length) = true := by
    rcases readAny x hx with ⟨m, h1, h2, h3⟩ | ⟨h1, _⟩
    · rw [hn] at h1
      injection h1 with h1
      subst h1
      exact ⟨h3, h2⟩
    · rw [hn] at h1
      cases h1
  have hk := Hid.mk (And.intro hd hr)
  clear hr hx hn hd
  repeat (any_goals (first
    | assumption
    | ((with_reducible show wpAny _ _ ((int_private% "intFromText") _ _ _) _ _ _); refine wp_any hk.out.1 hk.out.2.1 hk.out.2.2 ?_)
    | wp_step))
  all_goals first | exact ⟨_, rfl, h⟩ | skip
theorem call_int_any {X : Cx} (hd : X.base.NoDigits) : CallR X (.type "int") (fun xs H Q => ∃ a n, xs = [.str a] ∧ PySem.intText? a = some n ∧ a.length ≤ sizeLine ∧ Q (.int n) H) := by
  intro pins s σ H xs us Q I rs h
  obtain ⟨a, n, rfl, hn, hl, h⟩ := h
  obtain ⟨u, rfl, t, rfl⟩ := vals1 rs
  refine call_int_1 (S := fun A R s => s.heap.NoDigits ∧ R (.ok (.ret (.int n s.toks))) { s with toks := s.toks + 1 }) (fun prog w A R s hs => ?_) ⟨hd.keeps I.bk, rfl, .int n, H, I.tok _, ⟨_, rfl⟩, h⟩
  refine wpAny_mono (wp_int_text (Q := fun v s' => R (.ok (.ret v)) s') hs.1 hl hn hs.2) (fun fin s' h' => ?_) fun _ _ z => z
  obtain ⟨v, rfl, hv⟩ := h'
  exact hv
def intM (_ : Mem) (ds : List D) : Option D := match ds with
  | [.str x] => (match PySem.intText? x with
    | some n => if x.length ≤ 16000000 then some (.int n) else none
    | none => none)
  | _ => none
theorem int_ok {C : Ct} : OpC C intM (fun xs H Q => ∃ a n, xs = [.str a] ∧ PySem.intText? a = some n ∧ a.length ≤ sizeLine ∧ Q (.int n) H) := by
  intro g σ σD M H ds vs d Q c rs e k
  unfold intM at e
  split at e
  · split at e
    · rename_i x _ n hn
      split at e
      · rename_i hl
        cases e
        obtain ⟨v, rfl, r⟩ := rvA1 rs
        rw [rv_str r]
        exact ⟨_, n, rfl, hn, line_le hl, k g _ H (Le.refl _ _) c rv_i⟩
      · cases e
    · cases e
  · cases e
theorem d_intc {X : Cx} {W : WX} {pos : Pos} {e : Expr} {fa : SA} {p : Pos} (hdig : X.base.NoDigits) (hm : X.mg "int" = none) (ha : AD X W [e] fa) (hg : Gl X "int" := by rfl) (he : starEach [e] X.env = (false, eval e X.env) :: starEach [] X.env := by rfl) (hpl : (backTo pos (starEach [] X.env)).any (·.1) = false := by rfl) : PD X W (.Call (.Name "int" p) [e] [] pos) (callV intM fa) :=
  d_callTy (int_ok (C := ctx X)) (call_int_any hdig) hm (by decide +kernel) ha hg (by decide) (by decide) he hpl
end Lf

/-! LfS: sets of tuples of whole numbers and texts (the library's way for whole numbers, HandS.TupSets, turned to keys of both kinds). -/
namespace LfS
open PySem PySem.Spec PyProof.Rows L2
abbrev TK (P : Program) (w : World) : HeapKind P w (List Key) := tupleKind (mixKind P w)
abbrev thash (P : Program) (w : World) (k : List Key) : Int := tupleKeyHash (mixKind P w) k
/-- the tuple at a has the ints k -/
abbrev IsT (P : Program) (w : World) (h : Heap) (k : List Key) (a : Addr) : Prop := IsTupleKey (mixKind P w) h k a

/-! ### the model's words, opened -/
/-- behind a candidate (the model's text from «let some (_, y)» on) -/
def searchRest (a : Addr) (x : Value) (h : Int) (adding : Bool) (fuel : Nat) (es : Array (Int × Value)) (t : SetTable) (j i : Nat) (next : SetTable.Probe) : Sem SetFound := do
  let some (_, y) := es[i]? | unsupported "internal:set-entry"
  let equal ← holding [y] (eqBool y x)
  let (es', _, t') ← setState a
  if adding && equal then return .there none
  let some same := t'.sameMemory t.moves t.mask | unsupported "set.changed-during-lookup:is-the-new-block-at-the-old-address"
  let still ← match (if same then t'.slot j else .empty) with
    | .live i' => match es'[i']? with
      | some (_, y') => do pure (if ← isSame y' y then some i' else none)
      | none => pure none
    | _ => pure none
  match still with
  | none => rule "set.search.anew"; setSearchFrom a x h adding fuel none
  | some i' => if equal then return .there (some i') else setSearchFrom a x h adding fuel (some next)
theorem setSearchFrom_succ (a : Addr) (x : Value) (h : Int) (adding : Bool) (fuel : Nat) (stand : Option SetTable.Probe) : setSearchFrom a x h adding (fuel + 1) stand = (do
    let (es, _, t) ← setState a
    if t.gaveWay then unsupported "set:on-a-table-that-gave-way"
    let some met := t.probe (fun i => (es[i]?.map (·.1)).getD 0) h (stand.getD (t.probeStart h)) | unsupported "internal:set-table-without-an-empty-slot"
    match met with
    | .empty j dummy =>
      match dummy with
      | none => return .free j false
      | some d =>
        if adding && t.slot d != .dummy then rule "set.search.the-dummy-was-taken"; return ← setSearchFrom a x h adding fuel none
        return .free d true
    | .candidate j i next =>
      if !t.led then
        if ← searchCouldBeSeen x ((es.filter (·.1 == h)).toList.map (·.2)) then unsupported "set:the-search-would-show-the-table"
      searchRest a x h adding fuel es t j i next) := by rfl

section
variable {P : Program} {w : World} {A : Around} {E : Value → Shared → Prop} {s : Shared}

/-! ### small questions asked of tuples -/
theorem items_plain {k : List Key} {vs : List Value} (h : ItemsAre (mixKind P w) k vs) : ∀ v ∈ vs, (∃ i t, v = Value.int i t) ∨ ∃ x t, v = Value.str x t := by
  induction h with
  | nil => intro v hv; cases hv
  | @cons k0 v' ks vs h1 _ ih =>
    intro v hv
    rcases List.mem_cons.mp hv with e | hv
    · rcases keyIs_shape h1 with ⟨i, t, _, e2⟩ | ⟨x, t, _, e2⟩
      · exact .inl ⟨i, t, e.trans e2⟩
      · exact .inr ⟨x, t, e.trans e2⟩
    · exact ih v hv
theorem ofAClass_plain (n : Nat) {v : Value} (h : (∃ i t, v = Value.int i t) ∨ ∃ x t, v = Value.str x t) : ofAClassStatement n v = pure false := by
  rcases h with ⟨i, t, rfl⟩ | ⟨i, t, rfl⟩ <;> cases n <;> rfl
theorem hashBy_plain (n : Nat) {v : Value} (h : (∃ i t, v = Value.int i t) ∨ ∃ x t, v = Value.str x t) : ∃ b, hashByValue n v = pure b := by
  rcases h with ⟨i, t, rfl⟩ | ⟨i, t, rfl⟩ <;> cases n
  · exact ⟨true, rfl⟩
  · exact ⟨true, rfl⟩
  · exact ⟨false, rfl⟩
  · exact ⟨false, rfl⟩
theorem ofAClass_tup {k : List Key} {b : Addr} {Q : Bool → Shared → Prop} (hk : IsT P w s.heap k b) (h : Q false s) : wpAny (model P w) A (ofAClassStatement 8 (.ref b)) Q E s := by
  have hT := hk.typeIs
  obtain ⟨o, items, n, ho, _, hd, hi⟩ := hk
  unfold ofAClassStatement
  refine wpAny_bind (wpAny_typeOf hT ?_)
  dsimp only
  have e : (("tuple" : String) == "tuple") = true := by decide
  simp only [e, if_true, Bool.not_true, Bool.false_eq_true, if_false]
  try refine wpAny_bind (wpAny_pure ?_)
  try simp only [Bool.not_true, Bool.false_eq_true, if_false]
  show wpAny _ _ (seqItems? (.ref b) >>= _) _ _ s
  refine wpAny_bind (wpAny_seqItems ho hd ?_)
  dsimp only
  refine wpAny_bind ?_
  show wpAny _ _ (forIn items _ _) _ _ s
  rw [← Array.forIn_toList]
  refine wpAny_forIn_list _ (fun rest r s' => r.1 = none ∧ s' = s ∧ ∀ v ∈ rest, (∃ i t, v = Value.int i t) ∨ ∃ x t, v = Value.str x t) _ ?_ ?_ _ _ ⟨rfl, rfl, items_plain hi⟩
  · rintro v rest r s' ⟨hr, rfl, hall⟩
    rw [ofAClass_plain _ (hall v List.mem_cons_self)]
    refine wpAny_bind (wpAny_pure ?_)
    simp only [Bool.false_eq_true, if_false]
    exact wpAny_pure ⟨rfl, rfl, fun u hu' => hall u (List.mem_cons_of_mem _ hu')⟩
  · rintro ⟨r1, r2⟩ s' ⟨hr, rfl, _⟩
    simp only at hr
    subst hr
    exact wpAny_pure h
theorem hashBy_tup {k : List Key} {b : Addr} {Q : Bool → Shared → Prop} (hk : IsT P w s.heap k b) (h : ∀ b, Q b s) : wpAny (model P w) A (hashByValue 8 (.ref b)) Q E s := by
  have hT := hk.typeIs
  obtain ⟨o, items, n, ho, _, hd, hi⟩ := hk
  unfold hashByValue
  refine wpAny_bind (wpAny_specialOf hT F.slot_tuple_hash.lookup ?_)
  show wpAny _ _ (seqItems? (.ref b) >>= _) _ _ s
  refine wpAny_bind (wpAny_seqItems ho hd ?_)
  refine wpAny_bind ?_
  show wpAny _ _ (forIn items _ _) _ _ s
  rw [← Array.forIn_toList]
  refine wpAny_forIn_list _ (fun rest r s' => r.1 = none ∧ s' = s ∧ ∀ v ∈ rest, (∃ i t, v = Value.int i t) ∨ ∃ x t, v = Value.str x t) _ ?_ ?_ _ _ ⟨rfl, rfl, items_plain hi⟩
  · rintro v rest r s' ⟨hr, rfl, hall⟩
    obtain ⟨b, hb⟩ := hashBy_plain 7 (hall v List.mem_cons_self)
    rw [hb]
    refine wpAny_bind (wpAny_pure ?_)
    cases b with
    | true =>
      simp only [Bool.not_true, Bool.false_eq_true, if_false]
      exact wpAny_pure ⟨rfl, rfl, fun u hu' => hall u (List.mem_cons_of_mem _ hu')⟩
    | false =>
      simp only [Bool.not_false, if_true]
      refine wpAny_pure ?_
      exact wpAny_pure (h false)
  · rintro ⟨r1, r2⟩ s' ⟨hr, rfl, _⟩
    simp only at hr
    subst hr
    exact wpAny_pure (h true)
/-- a search among tuples shows nothing -/
theorem seen_tup {k : List Key} {b : Addr} {Q : Bool → Shared → Prop} (hk : IsT P w s.heap k b) {ys : List Value} (hy : ∀ y ∈ ys, ∃ k' c, y = Value.ref c ∧ IsT P w s.heap k' c) (h : Q false s) :
    wpAny (model P w) A (searchCouldBeSeen (.ref b) ys) Q E s := by
  unfold searchCouldBeSeen
  refine wpAny_bind ?_
  refine wpAny_forIn_list _ (fun rest r s' => r.1 = none ∧ s' = s ∧ ∀ y ∈ rest, ∃ k' c, y = Value.ref c ∧ IsT P w s.heap k' c) _ ?_ ?_ _ _ ⟨rfl, rfl, hy⟩
  · rintro v rest r s' ⟨hr, rfl, hall⟩
    obtain ⟨k', c, rfl, hc⟩ := hall v List.mem_cons_self
    have rest' : ∀ y ∈ rest, ∃ k' c, y = Value.ref c ∧ IsT P w s'.heap k' c := fun u hu' => hall u (List.mem_cons_of_mem _ hu')
    dsimp only
    by_cases hv : (b == c || (carriedByValue (.ref b) && carriedByValue (.ref c))) = true
    · refine wp_if_pos hv ?_
      exact wpAny_pure ⟨rfl, rfl, rest'⟩
    · refine wp_if_neg hv ?_
      refine wpAny_bind (wpAny_eqIsQuiet_tuple hk ?_)
      simp only [Bool.not_true, Bool.false_eq_true, if_false]
      refine wpAny_bind (wpAny_eqIsQuiet_tuple hc ?_)
      simp only [Bool.not_true, Bool.false_eq_true, if_false]
      refine wpAny_bind (ofAClass_tup hk ?_)
      simp only [Bool.false_eq_true, if_false]
      refine wpAny_bind (ofAClass_tup hc ?_)
      simp only [Bool.false_eq_true, if_false]
      exact wpAny_pure ⟨rfl, rfl, rest'⟩
  · rintro ⟨r1, r2⟩ s' ⟨hr, rfl, _⟩
    simp only at hr
    subst hr
    exact wpAny_pure h

/-! ### the set of tuples -/
def rowsOf (P : Program) (w : World) (L : List (Addr × List Key)) : List (Int × Value) := L.map fun p => (thash P w p.2, Value.ref p.1)
structure SetTR (P : Program) (w : World) (h : Heap) (a : Addr) (L : List (Addr × List Key)) (es : Array (Int × Value)) (ep : Nat) (t : SetTable) : Prop where
  ob : ∃ o, h.get? a = some o ∧ o.ExactSet ∧ o.data = .set es ep t
  rows : es.toList = rowsOf P w L
  tab : TabOk t (L.map fun p => thash P w p.2)
  nd : (L.map (·.2)).Nodup
  tup : ∀ p ∈ L, IsT P w h p.2 p.1
  led : w.params.followText "set-order" = true ∨ t.led = true
  room : L.length * 5 < t.mask * 3
  few : L.length < 64
variable {a : Addr} {L : List (Addr × List Key)} {es : Array (Int × Value)} {ep : Nat} {t : SetTable}
theorem SetTR.size (R : SetTR P w s.heap a L es ep t) : es.size = L.length := by
  have h := congrArg List.length R.rows
  unfold rowsOf at h
  rw [Array.length_toList, List.length_map] at h
  exact h
theorem SetTR.fits (R : SetTR P w s.heap a L es ep t) : t.fits es.size = true := by
  have h1 := R.tab.sz
  rw [List.length_map] at h1
  have h2 := R.size
  have h3 := R.room
  unfold SetTable.fits SetTable.fill
  rw [R.tab.dm, Bool.and_eq_true, beq_iff_eq, decide_eq_true_eq]
  show t.place.size = es.size ∧ t.place.size + 0 ≤ t.mask
  omega
theorem SetTR.entry (R : SetTR P w s.heap a L es ep t) {i : Nat} {p : Addr × List Key} (h : L[i]? = some p) : es[i]? = some (thash P w p.2, Value.ref p.1) := by
  rw [← Array.getElem?_toList, R.rows]
  unfold rowsOf
  rw [List.getElem?_map, h] <;> rfl
theorem SetTR.gw (R : SetTR P w s.heap a L es ep t) : ¬ t.gaveWay = true := by
  unfold SetTable.gaveWay
  rw [mask_odd R.tab.mok]
  decide
theorem sameMem (t : SetTable) : t.sameMemory t.moves t.mask = some true := by
  unfold SetTable.sameMemory
  rw [if_pos (beq_self_eq_true _)]

/-- THE SEARCH: from the c-th step of the way on -/
theorem search_from (R : SetTR P w s.heap a L es ep t) {x : Addr} {k : List Key} (hx : IsT P w s.heap k x) (hu : A.units < cLine) {K : Nat} (hKf : K < 10 * SetTable.turns t.mask)
    (hK : way t.mask (thash P w k) K ∉ t.place.toList) (hKb : ∀ c, c < K → way t.mask (thash P w k) c ∈ t.place.toList) {Q : SetFound → Shared → Prop}
    (hin : k ∈ L.map (·.2) → Q (.there none) s) (hout : k ∉ L.map (·.2) → Q (.free (way t.mask (thash P w k) K) false) s) :
    ∀ (f c : Nat) (stand : Option SetTable.Probe), stand.getD (t.probeStart (thash P w k)) = nth t.mask (runAt t.mask (SetTable.bits (thash P w k) % (t.mask + 1)) (SetTable.bits (thash P w k))) c → c ≤ K → K - c < f →
      (∀ (i : Nat) p, L[i]? = some p → p.2 = k → ∃ c', c ≤ c' ∧ c' < K ∧ t.place.toList[i]? = some (way t.mask (thash P w k) c')) →
      wpAny (model P w) A (setSearchFrom a (.ref x) (thash P w k) true f stand) Q E s
  | 0, c, stand, _, _, hf, _ => absurd hf (Nat.not_lt_zero _)
  | f + 1, c, stand, hst, hc, hf, hre => by
    obtain ⟨o, ho, hex, hd⟩ := R.ob
    rw [setSearchFrom_succ]
    refine wpAny_bind (wpAny_setState_of ho hd R.fits ?_)
    dsimp only
    refine wp_if_neg R.gw ?_
    try refine wpAny_bind (wpAny_pure ?_)
    have hnd : (nth t.mask (runAt t.mask (SetTable.bits (thash P w k) % (t.mask + 1)) (SetTable.bits (thash P w k))) c).dummy = none := by
      have key : ∀ (n : Nat) (p : SetTable.Probe), p.dummy = none → (nth t.mask p n).dummy = none := by
        intro n
        induction n with
        | zero => intro p h; exact h
        | succ n ih =>
          intro p h
          refine ih (adv t.mask p) ?_
          unfold adv
          split <;> exact h
      exact key c _ rfl
    have sh : ∀ q, nth t.mask (nth t.mask (runAt t.mask (SetTable.bits (thash P w k) % (t.mask + 1)) (SetTable.bits (thash P w k))) c) q = nth t.mask (runAt t.mask (SetTable.bits (thash P w k) % (t.mask + 1)) (SetTable.bits (thash P w k))) (c + q) := fun q => (nth_add t.mask c _ q).symm
    have e1 : ∀ q, (nth t.mask (nth t.mask (runAt t.mask (SetTable.bits (thash P w k) % (t.mask + 1)) (SetTable.bits (thash P w k))) c) q).j = way t.mask (thash P w k) (c + q) := fun q => congrArg SetTable.Probe.j (sh q)
    have spec := go_spec t R.tab.ris R.tab.dm (fun i => (es[i]?.map (·.1)).getD 0) (thash P w k) (10 * SetTable.turns t.mask) (K - c) _ hnd (by omega)
      (fun q hq => by rw [e1]; exact hKb (c + q) (by omega)) (by rw [e1, show c + (K - c) = K by omega]; exact hK)
    have hashAt : ∀ (i : Nat) p, L[i]? = some p → (fun i => (es[i]?.map (·.1)).getD 0) i = thash P w p.2 := fun i p hp => by
      show (es[i]?.map (·.1)).getD 0 = _
      rw [R.entry hp] <;> rfl
    rcases spec with ⟨q, i, hq, hi, hh, hno, hpr⟩ | ⟨hno, hpr⟩
    · -- a candidate
      have hpr' : t.probe (fun i => (es[i]?.map (·.1)).getD 0) (thash P w k) (stand.getD (t.probeStart (thash P w k))) = some (.candidate (way t.mask (thash P w k) (c + q)) i (nth t.mask (runAt t.mask (SetTable.bits (thash P w k) % (t.mask + 1)) (SetTable.bits (thash P w k))) (c + (q + 1)))) := by
        rw [hst, ← e1, ← sh]
        exact hpr
      rw [hpr']
      dsimp only
      rw [e1] at hi
      -- the entry
      have hil : i < L.length := by
        have h1 : i < t.place.toList.length := (List.getElem?_eq_some_iff.mp hi).1
        have h2 := R.tab.sz
        rw [List.length_map] at h2
        rw [Array.length_toList] at h1
        omega
      have hp : L[i]? = some L[i] := List.getElem?_eq_getElem hil
      generalize hpe : L[i] = p at hp
      have hmem : p ∈ L := List.mem_of_getElem? hp
      have hpt := R.tup p hmem
      have rest : wpAny (model P w) A (searchRest a (.ref x) (thash P w k) true f es t (way t.mask (thash P w k) (c + q)) i (nth t.mask (runAt t.mask (SetTable.bits (thash P w k) % (t.mask + 1)) (SetTable.bits (thash P w k))) (c + (q + 1)))) Q E s := by
        unfold searchRest
        rw [R.entry hp]
        dsimp only
        refine wpAny_bind (wpAny_holding (wpAny_eqBool_tuple hu hpt hx ?_))
        refine wpAny_bind (wpAny_setState_of ho hd R.fits ?_)
        dsimp only
        by_cases hkk : p.2 = k
        · refine wp_if_pos (by simp [hkk]) ?_
          refine wpAny_pure (hin ?_)
          exact List.mem_map.mpr ⟨p, hmem, hkk⟩
        · refine wp_if_neg (by simp [hkk]) ?_
          try refine wpAny_bind (wpAny_pure ?_)
          rw [sameMem]
          dsimp only
          have hsl : t.slot (way t.mask (thash P w k) (c + q)) = .live i := slot_live R.tab.ris hi
          simp only [if_true, hsl, R.entry hp]
          refine wpAny_bind (wpAny_isSame_ref_self (wpAny_bind (wpAny_pure ?_)))
          simp only [if_true]
          refine wp_if_neg (by simp [hkk]) ?_
          refine search_from R hx hu hKf hK hKb hin hout f (c + (q + 1)) _ rfl (by omega) (by omega) fun i0 p0 h0 hk0 => ?_
          obtain ⟨c', a1, a2, a3⟩ := hre i0 p0 h0 hk0
          refine ⟨c', ?_, a2, a3⟩
          -- it isn't passed
          rcases Nat.lt_or_ge c' (c + q) with z | z
          · exfalso
            refine hno (c' - c) i0 (by omega) (by rw [e1, show c + (c' - c) = c' by omega]; exact a3) ?_
            exact (hashAt i0 p0 h0).trans (congrArg (thash P w) hk0)
          · rcases Nat.lt_or_ge (c + q) c' with y | y
            · omega
            · exfalso
              have ec : c' = c + q := Nat.le_antisymm y z
              rw [ec] at a3
              have s0 := slot_live R.tab.ris a3
              rw [hsl] at s0
              injection s0 with s0
              rw [← s0, hp] at h0
              exact hkk ((congrArg Prod.snd (Option.some.inj h0)).trans hk0)
      by_cases hl : t.led = true
      · refine wp_if_neg (by simp [hl]) ?_
        try refine wpAny_bind (wpAny_pure ?_)
        exact rest
      · refine wp_if_pos (by simp [hl]) ?_
        refine wpAny_bind (seen_tup hx (fun y hy => ?_) ?_)
        · obtain ⟨e, he, ee⟩ := List.mem_map.mp hy
          have he1 : e ∈ es ∧ e.1 = thash P w k := by simpa using he
          have he2 : e ∈ es.toList := by simpa using he1.1
          rw [R.rows] at he2
          obtain ⟨p2, hp2, e2⟩ := List.mem_map.mp he2
          refine ⟨p2.2, p2.1, ?_, R.tup p2 hp2⟩
          rw [← ee, ← e2]
        · refine wp_if_neg (by decide) ?_
          try refine wpAny_bind (wpAny_pure ?_)
          exact rest
    · -- the empty slot
      have hpr' : t.probe (fun i => (es[i]?.map (·.1)).getD 0) (thash P w k) (stand.getD (t.probeStart (thash P w k))) = some (.empty (way t.mask (thash P w k) K) none) := by
        have e2 : way t.mask (thash P w k) K = (nth t.mask (nth t.mask (runAt t.mask (SetTable.bits (thash P w k) % (t.mask + 1)) (SetTable.bits (thash P w k))) c) (K - c)).j := by
          rw [e1, show c + (K - c) = K by omega]
        rw [hst, e2]
        exact hpr
      rw [hpr']
      dsimp only
      refine wpAny_pure (hout fun hm => ?_)
      obtain ⟨p0, h0, hk0⟩ := List.mem_map.mp hm
      obtain ⟨i0, hi0, e0⟩ := List.getElem_of_mem h0
      have h00 : L[i0]? = some p0 := by rw [List.getElem?_eq_getElem hi0, e0]
      obtain ⟨c', a1, a2, a3⟩ := hre i0 p0 h00 hk0
      refine hno (c' - c) i0 (by omega) (by rw [e1, show c + (c' - c) = c' by omega]; exact a3) ?_
      exact (hashAt i0 p0 h00).trans (congrArg (thash P w) hk0)

/-- the search as adding asks for it -/
theorem search_at (R : SetTR P w s.heap a L es ep t) {x : Addr} {k : List Key} (hx : IsT P w s.heap k x) (hu : A.units < cLine) {Q : SetFound → Shared → Prop}
    (hin : k ∈ L.map (·.2) → Q (.there none) s)
    (hout : ∀ K, k ∉ L.map (·.2) → way t.mask (thash P w k) K ∉ t.place.toList → (∀ c, c < K → way t.mask (thash P w k) c ∈ t.place.toList) → Q (.free (way t.mask (thash P w k) K) false) s) :
    wpAny (model P w) A (setSearch a (.ref x) (thash P w k) true) Q E s := by
  have hroom := R.room
  obtain ⟨K, hKf, hK, hKb⟩ := R.tab.first (by rw [List.length_map]; omega) (thash P w k)
  have hbig : K < 100000 := by
    have : 10 * SetTable.turns t.mask ≤ 1420 := by
      unfold SetTable.turns
      rcases R.tab.mok with e | e | e <;> omega
    omega
  unfold setSearch
  refine search_from R hx hu hKf hK hKb hin (fun hn => hout K hn hK hKb) 100000 0 none rfl (Nat.zero_le _) (by omega) fun i p hp hk => ?_
  have hi : (L.map fun p => thash P w p.2)[i]? = some (thash P w k) := by rw [List.getElem?_map, hp, ← hk] <;> rfl
  have hil : i < t.place.toList.length := by
    have h1 : i < L.length := (List.getElem?_eq_some_iff.mp hp).1
    have h2 := R.tab.sz
    rw [List.length_map] at h2
    rw [Array.length_toList]
    omega
  have hj := List.getElem?_eq_getElem hil
  obtain ⟨c, hc, e⟩ := R.tab.before hK hi hj
  exact ⟨c, Nat.zero_le _, hc, by rw [hj, e]⟩
end
theorem setAddHashedIn_succ (a : Addr) (x : Value) (h : Int) (fuel : Nat) : setAddHashedIn a x h (fuel + 1) = (do
    let (es₀, _, t₀) ← setState a
    if byScan x es₀ then
      match ← setAddByScan a x h es₀ t₀ with
      | some added => return added
      | none => return ← setAddHashedIn a x h fuel
    let .free slot wasDummy ← setSearch a x h (adding := true) | return false
    let (es, _, t) ← setState a
    let (t, p) := t.put slot
    let byValue ← if t.plain then hashByValue 8 x else pure true
    let t := if byValue then t else { t with plain := false }
    storeSet a (SetTable.insertAt es p (h, x)) t
    if !wasDummy && t.tooFull then setRelay a (SetTable.grown (es.size + 1))
    return true) := by rfl
theorem setRelay_eq (a : Addr) (wanted : Nat) : setRelay a wanted = (do
    let (es, _, t) ← setState a
    if SetTable.sizeAbove wanted > sizeLine then unsupported "set:memory"
    let (es, t) ← (do
      let some (t, order) := t.relaid (es.map (·.1)) wanted | unsupported "internal:set-table-without-room"
      let es' := order.filterMap (es[·]?)
      if es'.size != es.size then unsupported "internal:set-table-lost-an-element"
      pure (es', t) : Sem (Array (Int × Value) × SetTable))
    storeSet a es t) := by rfl

section
variable {P : Program} {w : World} {A : Around} {E : Value → Shared → Prop} {s : Shared}
/-- a tuple isn't the set -/
theorem isT_same {h h' : Heap} {k : List Key} {a b : Addr} {o : Obj} {es : Array (Int × Value)} {ep : Nat} {t : SetTable} (hb : IsT P w h k b) (ho : h.get? a = some o) (hd : o.data = .set es ep t) (hs : Heap.SameBut a h h') : IsT P w h' k b := by
  obtain ⟨o', items, n, ho', hc, hd', hi⟩ := hb
  have hne : b ≠ a := by
    rintro rfl
    obtain rfl : o' = o := Option.some.inj (ho'.symm.trans ho)
    rw [hd] at hd'
    exact nomatch hd'
  exact ⟨o', items, n, (hs.2 b hne).trans ho', hc, hd', hi⟩
theorem rows_put (L : List (Addr × List Key)) (p : Nat) (x : Addr) (k : List Key) : rowsOf P w (L.take p ++ (x, k) :: L.drop p) = (rowsOf P w L).take p ++ (thash P w k, Value.ref x) :: (rowsOf P w L).drop p := by
  unfold rowsOf
  rw [List.map_append, List.map_cons, List.map_take, List.map_drop]
theorem put_perm {α : Type} (L : List α) (p : Nat) (x : α) : (L.take p ++ x :: L.drop p).Perm (x :: L) := by
  have h : (L.take p ++ x :: L.drop p).Perm (x :: (L.take p ++ L.drop p)) := List.perm_middle
  rw [List.take_append_drop] at h
  exact h
theorem order_rows (L : List (Addr × List Key)) (es : Array (Int × Value)) (order : Array Nat) (hr : es.toList = rowsOf P w L) (hp : order.toList.Perm (List.range L.length)) :
    ∃ L2, (order.filterMap (es[·]?)).toList = rowsOf P w L2 ∧ L2.Perm L ∧ (L2.map fun p => thash P w p.2) = order.toList.map fun i => (es.map (·.1)).getD i 0 := by
  have hsz : es.size = L.length := by
    have h := congrArg List.length hr
    unfold rowsOf at h
    rw [Array.length_toList, List.length_map] at h
    exact h
  have ent : ∀ i (h : i < L.length), es[i]? = some (thash P w (L[i]).2, Value.ref (L[i]).1) := fun i h => by
    rw [← Array.getElem?_toList, hr]
    unfold rowsOf
    rw [List.getElem?_map, List.getElem?_eq_getElem h] <;> rfl
  have key : ∀ l : List Nat, (∀ i ∈ l, i < L.length) → ∃ L2 : List (Addr × List Key), l.filterMap (fun i => es[i]?) = rowsOf P w L2 ∧ L2 = l.filterMap (fun i => L[i]?) ∧ (L2.map fun p => thash P w p.2) = l.map fun i => (es.map (·.1)).getD i 0 := by
    intro l
    induction l with
    | nil => intro _; exact ⟨[], rfl, rfl, rfl⟩
    | cons i l ih =>
      intro hl
      have hi := hl i List.mem_cons_self
      obtain ⟨L2, e1, e2, e3⟩ := ih fun j hj => hl j (List.mem_cons_of_mem _ hj)
      refine ⟨L[i] :: L2, ?_, ?_, ?_⟩
      · rw [List.filterMap_cons_some (ent i hi), e1] <;> rfl
      · rw [List.filterMap_cons_some (List.getElem?_eq_getElem hi), e2]
      · rw [List.map_cons, List.map_cons, e3]
        have hi2 : i < (es.map (·.1)).size := by rw [Array.size_map, hsz]; exact hi
        have e4 : (es.map (·.1)).getD i 0 = thash P w (L[i]).2 := by
          have e5 : (es.map (·.1))[i]? = some (thash P w (L[i]).2) := by rw [Array.getElem?_map, ent i hi] <;> rfl
          simp [Array.getD_eq_getD_getElem?, e5]
        rw [e4]
  obtain ⟨L2, e1, e2, e3⟩ := key order.toList fun i hi => List.mem_range.mp (hp.mem_iff.mp hi)
  refine ⟨L2, by first | (rw [Array.toList_filterMap]; exact e1) | simpa using e1, ?_, e3⟩
  have h1 : L2.Perm ((List.range L.length).filterMap fun i => L[i]?) := by
    rw [e2]
    exact hp.filterMap _
  have h2 : (List.range L.length).filterMap (fun i => L[i]?) = L := by
    have key2 : ∀ n, n ≤ L.length → (List.range n).filterMap (fun i => L[i]?) = L.take n := by
      intro n
      induction n with
      | zero => intro _; rfl
      | succ n ih =>
        intro hn
        have hlt : n < L.length := hn
        rw [List.range_succ, List.filterMap_append, ih (Nat.le_of_lt hlt), List.take_succ, List.getElem?_eq_getElem hlt]
        rw [List.filterMap_cons_some (List.getElem?_eq_getElem hlt)] <;> rfl
    rw [key2 L.length (Nat.le_refl _), List.take_length]
  rw [h2] at h1
  exact h1

variable {a : Addr} {L : List (Addr × List Key)} {es : Array (Int × Value)} {ep : Nat} {t : SetTable}
/-- the table laid anew, larger -/
theorem relay_at {o : Obj} (ho : s.heap.get? a = some o) (hex : o.ExactSet) (hd : o.data = .set es ep t) (hrows : es.toList = rowsOf P w L) (hsz : t.place.size = es.size) (hdm : t.dummies = #[]) (hfl : es.size ≤ t.mask)
    (nd : (L.map (·.2)).Nodup) (tup : ∀ p ∈ L, IsT P w s.heap p.2 p.1) (ld : w.params.followText "set-order" = true ∨ t.led = true) (few : L.length < 64) {wanted M : Nat}
    (hw : SetTable.sizeAbove wanted - 1 = M) (hM : MaskOk M) (hw2 : SetTable.sizeAbove wanted ≤ 128) (hn : L.length * 5 < M * 3) {Q : Unit → Shared → Prop}
    (hQ : ∀ h' L' es' ep' t', Heap.SameBut a s.heap h' → SetTR P w h' a L' es' ep' t' → L'.Perm L → Q () { s with heap := h' }) : wpAny (model P w) A (setRelay a wanted) Q E s := by
  have hsl : es.size = L.length := by
    have h := congrArg List.length hrows
    unfold rowsOf at h
    rw [Array.length_toList, List.length_map] at h
    exact h
  have hfits : t.fits es.size = true := by
    unfold SetTable.fits SetTable.fill
    rw [hdm, Bool.and_eq_true, beq_iff_eq, decide_eq_true_eq]
    show t.place.size = es.size ∧ t.place.size + 0 ≤ t.mask
    omega
  obtain ⟨t', order, e, hp, T, em, el, ep', ed⟩ := relaid_ok t (hs := es.map (·.1)) (wanted := wanted) hw hM (by rw [Array.size_map, hsl]; omega)
  rw [Array.size_map, hsl] at hp
  obtain ⟨L2, r1, r2, r3⟩ := order_rows L es order hrows hp
  rw [← r3] at T
  have hs2 : (order.filterMap (es[·]?)).size = es.size := by
    have h := congrArg List.length r1
    unfold rowsOf at h
    rw [Array.length_toList, List.length_map, r2.length_eq] at h
    rw [h, hsl]
  rw [setRelay_eq]
  refine wpAny_bind (wpAny_setState_of ho hd hfits ?_)
  dsimp only
  refine wp_if_neg (by rw [sizeLine_eq]; omega) ?_
  try refine wpAny_bind (wpAny_pure ?_)
  rw [e]
  dsimp only
  refine wpAny_bind ?_
  refine wp_if_neg (by rw [hs2]; simp) ?_
  try refine wpAny_bind (wpAny_pure ?_)
  refine wpAny_pure ?_
  dsimp only
  refine wpAny_storeSet_of ho hd ?_ (by rw [hs2, hsl, sizeLine_eq]; omega)
  have sb : Heap.SameBut a s.heap (s.heap.update a (Obj.putSet (order.filterMap (es[·]?)) t')) := Heap.SameBut.update ..
  refine hQ _ L2 (order.filterMap (es[·]?)) (ep + 1) t' sb ?_ r2
  refine ⟨⟨_, store_at ho hd, ⟨hex.1, hex.2.1, hex.2.2⟩, rfl⟩, r1, T, ?_, fun p hpm => isT_same (tup p (r2.mem_iff.mp hpm)) ho hd sb, by rw [el]; exact ld, ?_, by rw [r2.length_eq]; exact few⟩
  · exact (r2.map (·.2)).nodup_iff.mpr nd
  · rw [r2.length_eq, em]
    exact hn

/-- ADDING -/
theorem add_at (R : SetTR P w s.heap a L es ep t) {x : Addr} {k : List Key} (hx : IsT P w s.heap k x) (hu : A.units < cLine) (hfew : L.length + 1 < 64) {Q : Bool → Shared → Prop}
    (hQ : ∀ b h' L' es' ep' t', Heap.SameBut a s.heap h' → SetTR P w h' a L' es' ep' t' → (k ∈ L.map (·.2) → L' = L) → (k ∉ L.map (·.2) → L'.Perm ((x, k) :: L)) → Q b { s with heap := h' }) :
    wpAny (model P w) A (setAddHashed a (.ref x) (thash P w k)) Q E s := by
  obtain ⟨o, ho, hex, hd⟩ := R.ob
  have hsl := R.size
  have hroom := R.room
  unfold setAddHashed
  refine wpAny_holding ?_
  rw [show (100000 : Nat) = 99999 + 1 from rfl, setAddHashedIn_succ]
  refine wpAny_bind (wpAny_setState_of ho hd R.fits ?_)
  dsimp only
  refine wp_if_neg (by simp [byScan, Value.scannable]) ?_
  try refine wpAny_bind (wpAny_pure ?_)
  refine wpAny_bind (search_at R hx hu (fun hm => ?_) fun K hm hK hb => ?_)
  · dsimp only
    exact wpAny_pure (hQ false s.heap L es ep t (Heap.SameBut.refl a s.heap) R (fun _ => rfl) fun z => absurd hm z)
  · dsimp only
    refine wpAny_bind (wpAny_setState_of ho hd R.fits ?_)
    dsimp only
    obtain ⟨q1, q2, q3, q4, q5, q6, q7, q8, q9⟩ := R.tab.put hK hb
    generalize hpt : t.put (way t.mask (thash P w k) K) = pt at q1 q3 q4 q5 q6 q7 q8 q9 ⊢
    obtain ⟨t1, p⟩ := pt
    dsimp only at q1 q3 q4 q5 q6 q7 q8 q9 ⊢
    subst q1
    have cont : ∀ (Z : Bool → Sem Bool), (∀ bv, wpAny (model P w) A (Z bv) Q E s) → wpAny (model P w) A (if t1.plain = true then hashByValue 8 (.ref x) >>= Z else pure true >>= Z) Q E s := fun Z hZ => by
      by_cases hp : t1.plain = true
      · exact wp_if_pos hp (wpAny_bind (hashBy_tup hx hZ))
      · exact wp_if_neg hp (wpAny_bind (wpAny_pure (hZ true)))
    refine cont _ fun bv => ?_
    obtain ⟨t2, ht2⟩ : ∃ t2, t2 = (if bv = true then t1 else { t1 with plain := false }) := ⟨_, rfl⟩
    rw [← ht2]
    have same : TabOk t2 ((L.map fun p => thash P w p.2).take (SetTable.below t.place (way t.mask (thash P w k) K)) ++ thash P w k :: (L.map fun p => thash P w p.2).drop (SetTable.below t.place (way t.mask (thash P w k) K))) ∧ t2.mask = t.mask ∧ t2.led = t.led ∧ t2.fill = (L.map fun p => thash P w p.2).length + 1 := by
      rw [ht2]
      cases bv with
      | true => exact ⟨q3, q4, q5, q9⟩
      | false => exact ⟨⟨q3.ris, q3.dm, q3.sz, q3.mok, q3.bd, q3.reach⟩, q4, q5, q9⟩
    clear ht2 q3 q4 q5 q6 q7 q8 q9
    obtain ⟨q3, q4, q5, q9⟩ := same
    clear hpt
    clear cont t1
    have hin : (SetTable.insertAt es (SetTable.below t.place (way t.mask (thash P w k) K)) (thash P w k, Value.ref x)).toList = rowsOf P w (L.take (SetTable.below t.place (way t.mask (thash P w k) K)) ++ (x, k) :: L.drop (SetTable.below t.place (way t.mask (thash P w k) K))) := by
      rw [SetTable.toList_insertAt, rows_put, R.rows]
    generalize hpp : SetTable.below t.place (way t.mask (thash P w k) K) = p at q2 q3 hin ⊢
    have pm := put_perm L p (x, k)
    have hlen : (L.take p ++ (x, k) :: L.drop p).length = L.length + 1 := pm.length_eq
    have hhs : (L.take p ++ (x, k) :: L.drop p).map (fun p => thash P w p.2) = (L.map fun p => thash P w p.2).take p ++ thash P w k :: (L.map fun p => thash P w p.2).drop p := by
      rw [List.map_append, List.map_cons, List.map_take, List.map_drop]
    rw [← hhs] at q3
    have nd1 : ((L.take p ++ (x, k) :: L.drop p).map (·.2)).Nodup := by
      refine (pm.map (·.2)).nodup_iff.mpr ?_
      rw [List.map_cons]
      exact List.nodup_cons.mpr ⟨hm, R.nd⟩
    have hes : (SetTable.insertAt es p (thash P w k, Value.ref x)).size = L.length + 1 := by
      have h := congrArg List.length hin
      unfold rowsOf at h
      rw [Array.length_toList, List.length_map, hlen] at h
      exact h
    generalize SetTable.insertAt es p (thash P w k, Value.ref x) = es1 at hin hes ⊢
    generalize L.take p ++ (x, k) :: L.drop p = L1 at pm hlen q3 nd1 hin
    refine wpAny_bind (wpAny_storeSet_of ho hd ?_ (by rw [hes, sizeLine_eq]; omega))
    have sb : Heap.SameBut a s.heap (s.heap.update a (Obj.putSet es1 t2)) := Heap.SameBut.update ..
    have ho1 := store_at (es' := es1) (t' := t2) ho hd
    generalize s.heap.update a (Obj.putSet es1 t2) = h1 at sb ho1 ⊢
    have tup1 : ∀ p ∈ L1, IsT P w h1 p.2 p.1 := fun p hp => by
      rcases List.mem_cons.mp (pm.mem_iff.mp hp) with e | hp
      · rw [e]; exact isT_same hx ho hd sb
      · exact isT_same (R.tup p hp) ho hd sb
    have ld1 : w.params.followText "set-order" = true ∨ t2.led = true := by rw [q5]; exact R.led
    by_cases hf : t2.tooFull = true
    · first
        | (refine wpAny_bind ?_; refine wp_if_pos (by simp [hf]) ?_)
        | (refine wp_if_pos (by simp [hf]) ?_; refine wpAny_bind ?_)
      have hfull : (L.length + 1) * 5 ≥ t2.mask * 3 := by
        have h := hf
        unfold SetTable.tooFull at h
        rw [decide_eq_true_eq, q9, List.length_map] at h
        exact h
      rw [hsl]
      have hsz1 : t2.place.size = es1.size := by
        have h := q3.sz
        rw [List.length_map, hlen] at h
        rw [h, hes]
      have cases2 : (t.mask = 7 ∧ L.length = 4) ∨ (t.mask = 31 ∧ L.length = 18) := by
        rcases R.tab.mok with e | e | e
        · left; rw [q4, e] at hfull; rw [e] at hroom; exact ⟨e, by omega⟩
        · right; rw [q4, e] at hfull; rw [e] at hroom; exact ⟨e, by omega⟩
        · exfalso; rw [q4, e] at hfull; omega
      have go : ∀ M, SetTable.sizeAbove (SetTable.grown (L.length + 1)) - 1 = M → MaskOk M → SetTable.sizeAbove (SetTable.grown (L.length + 1)) ≤ 128 → (L.length + 1) * 5 < M * 3 →
          wpAny (model P w) A (setRelay a (SetTable.grown (L.length + 1))) (fun _ s' => wpAny (model P w) A (pure true) Q E s') E { s with heap := h1 } := fun M h1' h2' h3' h4' => by
        refine relay_at (s := { s with heap := h1 }) ho1 ⟨hex.1, hex.2.1, hex.2.2⟩ rfl hin hsz1 q3.dm (by rw [hes, q4]; rcases cases2 with ⟨e, e2⟩ | ⟨e, e2⟩ <;> omega) nd1 tup1 ld1 (by rw [hlen]; exact hfew) h1' h2' h3' (by rw [hlen]; exact h4') ?_
        intro h2 L2 es2 ep2 t2 sb2 R2 pm2
        refine wpAny_pure (hQ true h2 L2 es2 ep2 t2 (sb.trans sb2) R2 (fun z => absurd z hm) fun _ => pm2.trans pm)
      rcases cases2 with ⟨_, e2⟩ | ⟨_, e2⟩
      · refine go 31 (by rw [e2, size_20]) (.inr (.inl rfl)) (by rw [e2, size_20]; decide) (by omega)
      · refine go 127 (by rw [e2, size_76]) (.inr (.inr rfl)) (by rw [e2, size_76]; decide) (by omega)
    · first
        | refine wp_if_neg (by simp [hf]) ?_
        | (refine wpAny_bind ?_; refine wp_if_neg (by simp [hf]) ?_; refine wpAny_pure ?_)
      refine wpAny_pure (hQ true h1 L1 es1 (ep + 1) t2 sb ⟨⟨_, ho1, ⟨hex.1, hex.2.1, hex.2.2⟩, rfl⟩, hin, q3, nd1, tup1, ld1, ?_, by rw [hlen]; exact hfew⟩ (fun z => absurd z hm) fun _ => pm)
      have h := hf
      unfold SetTable.tooFull at h
      rw [decide_eq_true_eq, q9, List.length_map] at h
      rw [hlen]
      omega
end

theorem nodup_of_map {α β : Type} {f : α → β} {l : List α} (h : (l.map f).Nodup) : l.Nodup := List.Pairwise.of_map f (fun _ _ hne e => hne (congrArg f e)) h
open Classical in
/-- each once -/
noncomputable def once : List (List Key) → List (List Key)
  | [] => []
  | x :: r => if x ∈ r then once r else x :: once r
theorem mem_once : ∀ {l : List (List Key)} {x : List Key}, x ∈ once l ↔ x ∈ l
  | [], x => Iff.rfl
  | y :: r, x => by
    unfold once
    split
    · rename_i h
      rw [mem_once, List.mem_cons]
      exact ⟨.inr, fun z => z.elim (fun e => e ▸ h) id⟩
    · rw [List.mem_cons, mem_once, List.mem_cons]
theorem once_nodup : ∀ l : List (List Key), (once l).Nodup
  | [] => List.nodup_nil
  | y :: r => by
    unfold once
    split
    · exact once_nodup r
    · rename_i h
      exact List.nodup_cons.mpr ⟨fun z => h (mem_once.mp z), once_nodup r⟩
theorem once_le : ∀ l : List (List Key), (once l).length ≤ l.length
  | [] => Nat.le_refl _
  | y :: r => by
    unfold once
    split
    · exact Nat.le_succ_of_le (once_le r)
    · exact Nat.succ_le_succ (once_le r)
theorem once_len : ∀ {l : List (List Key)}, (once l).length = l.length ↔ l.Nodup
  | [] => ⟨fun _ => List.nodup_nil, fun _ => rfl⟩
  | y :: r => by
    unfold once
    split
    · rename_i h
      have := once_le r
      rw [List.length_cons, List.nodup_cons]
      exact ⟨fun z => by omega, fun z => absurd h z.1⟩
    · rename_i h
      rw [List.length_cons, List.length_cons, List.nodup_cons, Nat.succ_inj, once_len]
      exact ⟨fun z => ⟨h, z⟩, fun z => z.2⟩
/-- what the set has got from the first i items -/
structure Got (ks : List (Addr × List Key)) (i : Nat) (L : List (Addr × List Key)) : Prop where
  sub : ∀ p ∈ L, p ∈ ks.take i
  all : ∀ p ∈ ks.take i, p.2 ∈ L.map (·.2)
  len : L.length ≤ i
theorem Got.zero (ks : List (Addr × List Key)) : Got ks 0 [] := ⟨fun p h => (by cases h), fun p h => (by simp at h), Nat.le_refl _⟩
theorem take_next {α : Type} {l : List α} {i : Nat} {x : α} (h : l[i]? = some x) : l.take (i + 1) = l.take i ++ [x] := by
  rw [List.take_succ, h] <;> rfl
theorem Got.same {ks L : List (Addr × List Key)} {i : Nat} {x : Addr × List Key} (g : Got ks i L) (h : ks[i]? = some x) (hm : x.2 ∈ L.map (·.2)) : Got ks (i + 1) L := by
  refine ⟨fun p hp => ?_, fun p hp => ?_, Nat.le_succ_of_le g.len⟩
  · rw [take_next h]
    exact List.mem_append_left _ (g.sub p hp)
  · rw [take_next h] at hp
    rcases List.mem_append.mp hp with z | z
    · exact g.all p z
    · rw [List.mem_singleton.mp z]; exact hm
theorem Got.more {ks L L' : List (Addr × List Key)} {i : Nat} {x : Addr × List Key} (g : Got ks i L) (h : ks[i]? = some x) (pm : L'.Perm (x :: L)) : Got ks (i + 1) L' := by
  refine ⟨fun p hp => ?_, fun p hp => ?_, ?_⟩
  · rw [take_next h]
    rcases List.mem_cons.mp (pm.mem_iff.mp hp) with e | z
    · rw [e]; exact List.mem_append_right _ (List.mem_singleton.mpr rfl)
    · exact List.mem_append_left _ (g.sub p z)
  · rw [(pm.map (·.2)).mem_iff, List.map_cons]
    rw [take_next h] at hp
    rcases List.mem_append.mp hp with z | z
    · exact List.mem_cons_of_mem _ (g.all p z)
    · rw [List.mem_singleton.mp z]; exact List.mem_cons_self
  · rw [pm.length_eq, List.length_cons]
    exact Nat.succ_le_succ g.len

section
variable {P : Program} {w : World} {A : Around} {E : Value → Shared → Prop} {s : Shared}
theorem isT_keep {h h' : Heap} {k : List Key} {b : Addr} (x : IsT P w h k b) (hk : ∀ c o, h.get? c = some o → h'.get? c = some o) : IsT P w h' k b := by
  obtain ⟨o, items, n, ho, r⟩ := x
  exact ⟨o, items, n, hk b o ho, r⟩
theorem SetTR.keep {h h' : Heap} {a : Addr} {L : List (Addr × List Key)} {es : Array (Int × Value)} {ep : Nat} {t : SetTable} (R : SetTR P w h a L es ep t) (ha : ∀ o, h.get? a = some o → h'.get? a = some o) (ht : ∀ p ∈ L, IsT P w h' p.2 p.1) : SetTR P w h' a L es ep t := by
  obtain ⟨o, ho, r⟩ := R.ob
  exact ⟨⟨o, ha o ho, r⟩, R.rows, R.tab, R.nd, ht, R.led, R.room, R.few⟩
/-- a new set -/
theorem setTR_fresh {h : Heap} {a : Addr} (ho : h.get? a = some { cls := .type "set", dict := none, data := .set #[] 0 (.fresh 0 0 (!w.params.followText "set-order")) }) : SetTR P w h a [] #[] 0 (.fresh 0 0 (!w.params.followText "set-order")) where
  ob := ⟨_, ho, ⟨rfl, rfl, rfl⟩, rfl⟩
  rows := rfl
  tab := ⟨List.Pairwise.nil, rfl, rfl, .inl rfl, fun x hx => (by cases hx), fun i h j hi => (by simp at hi)⟩
  nd := List.nodup_nil
  tup := fun p hp => (by cases hp)
  led := by
    show _ ∨ (!w.params.followText "set-order") = true
    cases w.params.followText "set-order"
    · exact .inr rfl
    · exact .inl rfl
  room := by
    show 0 * 5 < 7 * 3
    decide
  few := by
    show 0 < 64
    decide

/-- set.update's loop -/
theorem set_update_tups {I : Addr} {fp wr : List Addr} {G : Array GenState → Array GenState → Prop} {n : Nat} {Pv : Nat → Value → Prop} {St : Nat → Shared → Prop} {R : Result → Shared → Prop}
    (W : WalksS P w A.in1 I fp wr G n Pv St) (S : Addr) (hSf : S ∉ fp) (ks : List (Addr × List Key)) (hn : n = ks.length) (hfew : ks.length < 64) (hval : ∀ i v, Pv i v → ∃ p, ks[i]? = some p ∧ v = .ref p.1)
    (h0 : Heap) (hk : ∀ p ∈ ks, IsT P w h0 p.2 p.1) (hS0 : h0.get? S = none) (hw0 : ∀ b ∈ wr, h0.get? b = none) (hu : A.in1.units < cLine) :
    ∀ (k i : Nat) (s : Shared), n - i = k → i ≤ n → St i s → (∀ b o, h0.get? b = some o → s.heap.get? b = some o) → (∃ L es ep t, SetTR P w s.heap S L es ep t ∧ Got ks i L) →
      (∀ s' L es ep t, Moved (S :: wr) G s s' → SetTR P w s'.heap S L es ep t → Got ks n L → (∀ b o, h0.get? b = some o → s'.heap.get? b = some o) → R (.ok (.ret .none)) s') →
      codeAny (model P w) A (.builtin "set.update.loop" ⟨[.ref S, .ref I], []⟩) R s := by
  have hSw : S ∉ wr := fun h => hSf (W.sub _ h)
  have hsub : ∀ b ∈ wr, b ∈ S :: wr := fun b hb => List.mem_cons_of_mem _ hb
  have keepM : ∀ {s s' : Shared}, Moved wr G s s' → (∀ b o, h0.get? b = some o → s.heap.get? b = some o) → ∀ b o, h0.get? b = some o → s'.heap.get? b = some o := fun hm hkp b o e =>
    hm.heap b o (fun hb => by rw [hw0 b hb] at e; cases e) (hkp b o e)
  intro k
  induction k with
  | zero =>
    intro i s hk' hi hst hkp ⟨L, es, ep, t, hS, g⟩ hR
    have hin : i = n := by omega
    subst hin
    refine codeAny_builtin F.entry_set_update_loop ?_
    rw [Around.under_plainId F.plain_set_update_loop _]
    show wpAny _ A.in1 (pyNext (.ref I) >>= _) _ _ s
    refine wpAny_bind (W.done s _ _ hst fun s' hm => ?_)
    show wpAny _ A.in1 (ret Value.none) _ _ s'
    have hkp' := keepM hm hkp
    have sub : ∀ p ∈ L, p ∈ ks := fun p hp => List.mem_of_mem_take (g.sub p hp)
    exact wpAny_pure (hR s' L es ep t (hm.mono hsub) (hS.keep (fun o e => hm.heap S o hSw e) fun p hp => isT_keep (hk p (sub p hp)) hkp') g hkp')
  | succ k ih =>
    intro i s hk' hi hst hkp ⟨L, es, ep, t, hS, g⟩ hR
    have hlt : i < n := by omega
    refine codeAny_builtin F.entry_set_update_loop ?_
    rw [Around.under_plainId F.plain_set_update_loop _]
    show wpAny _ A.in1 (pyNext (.ref I) >>= _) _ _ s
    refine wpAny_bind (W.item i s _ _ hlt hst fun v s' hP hst' hm => ?_)
    obtain ⟨p, hp, rfl⟩ := hval i v hP
    have hkp' := keepM hm hkp
    have sub : ∀ p ∈ L, p ∈ ks := fun p hp => List.mem_of_mem_take (g.sub p hp)
    have hS' : SetTR P w s'.heap S L es ep t := hS.keep (fun o e => hm.heap S o hSw e) fun q hq => isT_keep (hk q (sub q hq)) hkp'
    have hx : IsT P w s'.heap p.2 p.1 := isT_keep (hk p (List.mem_of_getElem? hp)) hkp'
    show wpAny _ A.in1 (holding [Value.ref p.1] (setAdd S (.ref p.1)) >>= _) _ _ s'
    refine wpAny_bind (wpAny_holding ?_)
    unfold setAdd
    refine wpAny_holding ?_
    refine wpAny_bind (wpAny_pyHash_tuple hu hx ?_)
    refine add_at (s := { s' with toks := s'.toks + (p.2.length + 1) }) hS' hx hu (by have := g.len; omega) fun b h' L' es' ep' t' hsb hS2 c1 c2 => ?_
    have g' : Got ks (i + 1) L' := by
      rcases Classical.em (p.2 ∈ L.map (·.2)) with c | c
      · rw [c1 c]; exact g.same hp c
      · exact g.more hp (c2 c)
    have hkp2 : ∀ b o, h0.get? b = some o → h'.get? b = some o := fun b o e => (hsb.2 b (fun z => by rw [z, hS0] at e; cases e)).trans (hkp' b o e)
    refine wpAny_pure ⟨plainId_quiet F.plain_set_update_loop _, ih (i + 1) _ (by omega) hlt (W.frame _ s' _ _ hst' (Nat.le_add_right _ _) fun b hb o e => ?_) hkp2 ⟨L', es', ep', t', hS2, g'⟩ fun s'' L2 es2 ep2 t2 hm'' hS'' g'' hkp'' => ?_⟩
    · rw [hsb.2 b (fun h : b = S => hSf (by rw [← h]; exact hb))]; exact e
    · refine hR s'' L2 es2 ep2 t2 (Moved.trans W.gtrans ((hm.mono hsub).then_heap (Nat.le_add_right _ _) fun b o hb e => ?_) hm'') hS'' g'' hkp''
      rw [hsb.2 b (fun h : b = S => hb (by rw [h]; exact List.mem_cons_self))]; exact e

set_option maxRecDepth 100000 in
set_option maxHeartbeats 3200000 in
/-- set(xs) -/
theorem call_set_tups {l : Addr} {items : Array Value} (ks : List (Addr × List Key)) {Q : Value → Shared → Prop} (hh : A.handled = none) (hl : s.heap.IsList l items) (hit : items.toList = ks.map fun p => Value.ref p.1)
    (hk : ∀ p ∈ ks, IsT P w s.heap p.2 p.1) (hfew : ks.length < 64) (hu : A.units + 3 < cLine)
    (h : ∀ (h' : Heap) (tk : Nat) L es ep t, SetTR P w h' s.heap.objs.size L es ep t → Got ks ks.length L → (∀ b o, s.heap.get? b = some o → h'.get? b = some o) → Q (.ref s.heap.objs.size) { s with heap := h', toks := tk }) :
    wpAny (model P w) A (call (.type "set") [.ref l]) Q E s := by
  have hisz : items.size = ks.length := by
    have q := congrArg List.length hit
    rw [Array.length_toList, List.length_map] at q
    exact q
  obtain ⟨c, tl, hmro⟩ := F.called_set.mro
  have hmade := F.called_set.made
  have hsub := F.called_set.sub
  refine wpAny_call (codeAny_of_tree ?_)
  show wpAny _ _ (callAny (.type "set") _) _ _ _
  refine wpAny_pure ⟨Code.quiet_builtin _ (by decide +kernel), codeAny_builtin F.entry_type_call ?_⟩
  rw [Around.under_plain (weight_type_call_type "set" [.ref l] []) rfl]
  have h1 := F.called_set.notType
  have h2 := F.called_set.canCreate
  have hct := F.typeCall_set_1 (.ref l)
  repeat (any_goals (first | assumption | wp_step))

  refine codeAny_mono (code_set_led1 (.ref l) (E := E) (Q₁ := fun obj s₁ => obj = .ref s.heap.objs.size ∧ s₁ = { s with heap := s.heap.push { cls := .type "set", dict := none, data := .set #[] 0 (.fresh 0 0 (!w.params.followText "set-order")) } }) ⟨rfl, rfl⟩) fun r s₁ hr => ?_
  cases r with
  | error e => exact hr
  | ok fl =>
    cases fl with
    | ret obj =>
      obtain ⟨rfl, rfl⟩ := hr
      have hS : (s.heap.push { cls := .type "set", dict := none, data := .set #[] 0 (.fresh 0 0 (!w.params.followText "set-order")) }).get? s.heap.objs.size = some { cls := .type "set", dict := none, data := .set #[] 0 (.fresh 0 0 (!w.params.followText "set-order")) } := Heap.get?_push_size _ rfl
      have hT : Shared.TypeIs { s with heap := s.heap.push { cls := .type "set", dict := none, data := .set #[] 0 (.fresh 0 0 (!w.params.followText "set-order")) } } (.ref s.heap.objs.size) "set" := ⟨_, hS, rfl⟩
      have hli := F.called_set.init.lookup
      have hbi := F.called_set.init.bind (.ref s.heap.objs.size)
      repeat (any_goals (first | assumption | wp_step))

      refine codeAny_mono (codeAny_call_builtin (R := wants (fun r s₂ => r = .none ∧ ∃ h' tk L es ep t, s₂ = { s with heap := h', toks := tk } ∧ SetTR P w h' s.heap.objs.size L es ep t ∧ Got ks ks.length L ∧
          (∀ b o, s.heap.get? b = some o → h'.get? b = some o)) E) F.called_set.init.plain F.entry_set_init (check_set_init_1 hT ?_)) fun r₂ s₂ hr₂ => ?_
      · obtain ⟨ol, hol, hcl, nl, hdl⟩ := hl
        obtain ⟨ocls, odict, odata, oslots⟩ := ol
        simp only at hcl hdl
        subst hcl; subst hdl
        have hol' : (s.heap.push { cls := .type "set", dict := none, data := .set #[] 0 (.fresh 0 0 (!w.params.followText "set-order")) }).get? l = some { cls := .type "list", dict := odict, data := .seq items nl, slots := oslots } := Heap.get?_push_of_some _ hol
        have hsls := F.sub_list_set
        have hslf := F.sub_list_frozenset
        have hne : (Value.type "list" == Value.type "dict") = false := by decide
        have hl1 : (s.heap.push { cls := .type "set", dict := none, data := .set #[] 0 (.fresh 0 0 (!w.params.followText "set-order")) }).IsList l items := ⟨_, hol', rfl, nl, rfl⟩
        unfold Builtin.«set.__init__» noKeywords Builtin.Frozenset.updateFrom
        generalize hPI : pyIter = PI
        wp_walk
        subst hPI

        refine wpAny_pyIter_list hl1 ?_
        refine wpAny_bind (wpAny_runValue ?_)
        have hlS : l < s.heap.objs.size := Heap.lt_size hol
        have hh3 : A.in1.in1.in1.handled = none := by simp [hh]
        have hz1 : (s.heap.push { cls := .type "set", dict := none, data := .set #[] 0 (.fresh 0 0 (!w.params.followText "set-order")) }).objs.size = s.heap.objs.size + 1 := Heap.size_push ..
        have hneI : l ≠ (s.heap.push { cls := .type "set", dict := none, data := .set #[] 0 (.fresh 0 0 (!w.params.followText "set-order")) }).objs.size := by
          rw [Heap.size_push]; exact Nat.ne_of_lt (Nat.lt_succ_of_lt hlS)
        have hSf : s.heap.objs.size ∉ [(s.heap.push { cls := .type "set", dict := none, data := .set #[] 0 (.fresh 0 0 (!w.params.followText "set-order")) }).objs.size, l] := by
          rw [Heap.size_push]; simp only [List.mem_cons, List.mem_singleton, List.not_mem_nil, or_false, not_or]
          exact ⟨Nat.ne_of_lt (Nat.lt_succ_self _), Nat.ne_of_gt hlS⟩
        have hval : ∀ (i : Nat) (v : Value), items[i]? = some v → ∃ p, ks[i]? = some p ∧ v = .ref p.1 := fun i v hv => by
          have q : items.toList[i]? = some v := by rw [Array.getElem?_toList]; exact hv
          rw [hit, List.getElem?_map] at q
          cases hq : ks[i]? with
          | none => rw [hq] at q; cases q
          | some p =>
            rw [hq] at q
            exact ⟨p, rfl, (Option.some.inj q).symm⟩
        have none_of : ∀ b, s.heap.objs.size ≤ b → s.heap.get? b = none := fun b hb => by
          cases q : s.heap.get? b with
          | none => rfl
          | some o => exact absurd (Nat.lt_of_lt_of_le (Heap.lt_size q) hb) (Nat.lt_irrefl _)
        refine set_update_tups ((Walks.list hh3 _ l hneI items).toS) s.heap.objs.size
          hSf ks hisz hfew hval s.heap hk (none_of _ (Nat.le_refl _)) (fun b hb => none_of b (by
            rw [List.mem_singleton.mp hb, Heap.size_push]
            exact Nat.le_succ _)) hu (items.size - 0) 0 _ (by omega) (Nat.zero_le _)
          ⟨⟨_, Heap.get?_push_size _ rfl, rfl, rfl⟩, (hl1.push _)⟩ (fun b o e => Heap.get?_push_of_some _ (Heap.get?_push_of_some _ e)) ?hS0 ?hR
        case hS0 =>
          have hget : ((s.heap.push { cls := .type "set", dict := none, data := .set #[] 0 (.fresh 0 0 (!w.params.followText "set-order")) }).push { cls := .type "list_iterator", data := .fields #[.ref l, .int 0 0] }).get? s.heap.objs.size
              = some { cls := .type "set", dict := none, data := .set #[] 0 (.fresh 0 0 (!w.params.followText "set-order")) } := Heap.get?_push_of_some _ hS
          exact ⟨[], #[], 0, _, setTR_fresh hget, Got.zero ks⟩
        case hR =>
          intro s' L es ep t hm hS' g' hkp
          obtain ⟨h', g2, d', tk', os'⟩ := s'
          have eg : g2 = s.gens := hm.gens
          have ed : d' = s.drawn := hm.drawn
          have eo : os' = s.os := hm.os
          subst eg; subst ed; subst eo
          show wpAny _ _ _ _ _ _
          refine wpAny_pure ?_
          show wpAny _ _ (ret Value.none) _ _ _
          rw [hisz] at g'
          exact wpAny_pure ⟨rfl, h', tk', L, es, ep, t, rfl, hS', g', hkp⟩

      · cases r₂ with
        | error e => exact hr₂
        | ok fl₂ =>
          cases fl₂ with
          | ret r =>
            obtain ⟨rfl, h', tk, L, es, ep, t, rfl, hS', g', hk'⟩ := hr₂
            repeat (any_goals (first | assumption | wp_step))
            exact h _ _ _ _ _ _ hS' g' hk'
          | _ => exact hr₂.elim
    | _ => exact hr.elim

end
/-- the list of keys behind the i-th: those met -/
theorem Got.lenD {ks : List (Addr × List Key)} {i : Nat} {L : List (Addr × List Key)} (g : Got ks i L) (nd : (L.map (·.2)).Nodup) : L.length = (once ((ks.take i).map (·.2))).length := by
  have h1 : ∀ x, x ∈ L.map (·.2) ↔ x ∈ (once ((ks.take i).map (·.2))) := fun x => by
    rw [mem_once]
    constructor
    · intro h
      obtain ⟨p, hp, rfl⟩ := List.mem_map.mp h
      exact List.mem_map.mpr ⟨p, g.sub p hp, rfl⟩
    · intro h
      obtain ⟨p, hp, rfl⟩ := List.mem_map.mp h
      exact g.all p hp
  have nd2 := once_nodup ((ks.take i).map (·.2))
  have hp : (L.map (·.2)).Perm (once ((ks.take i).map (·.2))) := (List.perm_ext_iff_of_nodup nd nd2).mpr h1
  have := hp.length_eq
  simpa using this
section
variable {X : Cx}
theorem isTk {pins : List (Addr × Obj)} {σ : L2.St} {H : Hp} {s : Shared} {b : Addr} {k : List Key} (I : Inv X pins σ H s) (h : SqT X.K H b (k.map kV)) : IsT X.prog X.w s.heap k b := by
  obtain ⟨its, r, ⟨o, ho, hc, n, hd⟩, _⟩ := I.tuple h
  exact ⟨o, its.toArray, n, ho, hc, hd, by simpa using items_are r⟩
theorem refs_of : ∀ {ks : List (Addr × List Key)} {us : List Value}, Vals (ks.map fun p => V.ref p.1) us → us = ks.map fun p => Value.ref p.1
  | [], _, .nil => rfl
  | p :: ks, _, .cons r t => by
    cases r
    rw [refs_of t] <;> rfl
def tLenSetK (K : PySem.W.Frag) (ta : TE) : TE := fun σ H Q => ta σ H fun x H1 => ∃ (l : Addr) (ks : List (Addr × List Key)), x = V.ref l ∧ SqL K H1 l (ks.map fun p => V.ref p.1) ∧ (∀ p ∈ ks, SqT K H1 p.1 (p.2.map kV)) ∧ ks.length < 64 ∧ Q (.int ((once (ks.map (·.2))).length : Nat)) H1
theorem pe_lenSetK {a : Expr} {ta : TE} {p p2 q pos : Pos} (hc : X.calm = true) (hu : X.A.units + 64 < cLine) (hg : Gl X "len") (hm : X.mg "len" = none) (hg2 : Gl X "set") (hm2 : X.mg "set" = none) (ha : PE X a ta)
    (na : starEach [a] X.env = (false, eval a X.env) :: starEach [] X.env := by rfl) : PE X (.Call (.Name "len" p) [.Call (.Name "set" p2) [a] [] q] [] pos) (tLenSetK X.K ta) := by
  refine ⟨fun pins s σ H Q I h => ?_⟩
  refine Call_ (ld_blt I hg hm PySem.boot_len ?_)
  refine PyProof.Rows.callWith_builtin1 (PyProof.Rows.args_cons ?_ rfl) rfl rfl
  refine Call_ (ld_blt I hg2 hm2 PyProof.Rows.boot_set ?_)
  refine PyProof.Rows.callWith_type1 (PyProof.Rows.args_cons (thn (ha.run pins s σ H _ I h) fun v s1 ⟨x, H1, I1, r1, q1⟩ => PyProof.Rows.args_nil ?_) na) na rfl
  obtain ⟨l, ks, rfl, hq, hk, h1, q1⟩ := q1
  cases r1
  obtain ⟨its, r, pl, hz⟩ := I1.list hq
  refine call_set_tups (P := X.prog) (w := X.w) ks (I1.ok.hd hc) pl.isList (by simpa using refs_of r) (fun p hp => isTk I1 (hk p hp)) h1 (by omega) fun h' tk L es ep t R g hkp => ?_
  refine PyProof.Rows.args_nil ?_
  obtain ⟨o, ho, hex, hd⟩ := R.ob
  have I2 : Inv X pins σ H1 { s1 with heap := h', toks := tk } := I1.kept hkp
  have hl := g.lenD R.nd
  rw [List.take_length] at hl
  have hz1 := SetTR.size (s := { s1 with heap := h' }) R
  refine call_len_set ho hex hd (SetTR.fits (s := { s1 with heap := h' }) R) (by rw [hz1]; have := R.few; omega) ⟨.int ((once (ks.map (·.2))).length : Nat), H1, I2.tok _, ⟨_, by rw [hz1, hl]⟩, q1⟩
end
end LfS
namespace Lf
open PySem PySem.Spec PyProof.Rows L2
def keysOf : List D → Option (List L2.Key)
  | [] => some []
  | .int i :: r => (keysOf r).map (Sum.inl i :: ·)
  | .str x :: r => (keysOf r).map (Sum.inr x :: ·)
  | _ :: _ => none
def tupsOf : List D → Option (List (List L2.Key))
  | [] => some []
  | .tup ds :: r => (match keysOf ds, tupsOf r with
    | some k, some l => some (k :: l)
    | _, _ => none)
  | _ :: _ => none
theorem keysOf_R {C : Ct} {g : Gh} : ∀ {ds : List D} {vs : List V} {k : List L2.Key}, RvA C g ds vs → keysOf ds = some k → vs = k.map kV
  | [], vs, k, r, e => by
    cases e
    rw [r.nil_inv]; rfl
  | d :: ds, vs, k, r, e => by
    obtain ⟨v, us, rfl, q, t⟩ := r.cons_inv
    cases d <;> simp only [keysOf, Option.map_eq_some_iff, reduceCtorEq] at e
    · obtain ⟨k', e, rfl⟩ := e
      rw [rv_int q, keysOf_R t e]; rfl
    · obtain ⟨k', e, rfl⟩ := e
      rw [rv_str q, keysOf_R t e]; rfl
theorem tupsOf_R {C : Ct} {g : Gh} {H : Hp} (le : ∀ a o, g.G a = some o → H a = some o) : ∀ {ds : List D} {vs : List V} {l : List (List L2.Key)}, RvA C g ds vs → tupsOf ds = some l →
    ∃ ks : List (Addr × List L2.Key), vs = ks.map (fun p => V.ref p.1) ∧ ks.map (·.2) = l ∧ ∀ p ∈ ks, SqT C.K H p.1 (p.2.map kV)
  | [], vs, l, r, e => by
    cases e
    exact ⟨[], r.nil_inv, rfl, fun p hp => by cases hp⟩
  | d :: ds, vs, l, r, e => by
    obtain ⟨v, us, rfl, q, t⟩ := r.cons_inv
    cases d <;> simp only [tupsOf, reduceCtorEq] at e
    split at e
    · rename_i k l' e1 e2
      cases e
      obtain ⟨ks, h1, h2, h3⟩ := tupsOf_R le t e2
      simp only [Rv] at q
      obtain ⟨a, ws, rfl, s, q⟩ := q
      refine ⟨(a, k) :: ks, by rw [h1]; rfl, by rw [List.map_cons, h2], fun p hp => ?_⟩
      rcases List.mem_cons.mp hp with rfl | hp
      · rw [keysOf_R q e1] at s
        exact .inl (.inl (le _ _ s))
      · exact h3 p hp
    · cases e
noncomputable def lenSetM (M : Mem) (x : D) : Option D := match lstOf M x with
  | some ds => (match tupsOf ds with
    | some l => if l.length < 64 then some (.int ((LfS.once l).length : Nat)) else none
    | none => none)
  | none => none
def rLenSet (K : PySem.W.Frag) : V → Hp → VK → Prop := fun x H Q => ∃ (l : Addr) (ks : List (Addr × List L2.Key)), x = V.ref l ∧ SqL K H l (ks.map fun p => V.ref p.1) ∧ (∀ p ∈ ks, SqT K H p.1 (p.2.map kV)) ∧ ks.length < 64 ∧ Q (.int ((LfS.once (ks.map (·.2))).length : Nat)) H
theorem lenSet_ok {C : Ct} : Op1 C lenSetM (rLenSet C.K) := by
  intro g σ σD M H x vx d Q c rx e k
  unfold lenSetM at e
  split at e
  · rename_i ds e1
    split at e
    · rename_i l e2
      split at e
      · rename_i hl
        cases e
        obtain ⟨a, vs, rfl, r, s⟩ := lst_at c rx e1
        obtain ⟨ks, rfl, rfl, h3⟩ := tupsOf_R c.le r e2
        exact ⟨a, ks, rfl, s, h3, by simpa using hl, k g _ H (Le.refl _ _) c rv_i⟩
      · cases e
    · cases e
  · cases e
section
variable {X : Cx} {W : WX} {pos : Pos}
theorem d_lenSet {a : Expr} {fa : SE} {p p2 q : Pos} {k : Nat} (hcalm : X.calm = true) (hr : Room k X.A) (hm : X.mg "len" = none) (hm2 : X.mg "set" = none) (ha : PD X W a fa) (hg : Gl X "len" := by rfl) (hg2 : Gl X "set" := by rfl)
    (na : starEach [a] X.env = (false, eval a X.env) :: starEach [] X.env := by rfl) : PD X W (.Call (.Name "len" p) [.Call (.Name "set" p2) [a] [] q] [] pos) (op1 lenSetM fa) :=
  PE.imp (LfS.pe_lenSetK hcalm hr.units hg hm hg2 hm2 ha na) (un_imp (lenSet_ok (C := ctx X)))
end
end Lf

/-! Lf13: x, *ys = a tuple. -/
namespace Lf
open PySem PySem.Spec PyProof.Rows L2 PySem.W
section
variable {prog : Program} {w : World} {A : Around} {E : Value → Shared → Prop} {s : Shared}
theorem unpack_star {l : Addr} {u : Value} {us : List Value} {Q : List Value → Shared → Prop} (hl : IsTup s.heap l (u :: us).toArray) (hh : A.handled = none) (hz : us.length ≤ 16000)
    (h : ∀ (h0 : Heap) (tk : Nat), (∀ b o, s.heap.get? b = some o → h0.get? b = some o) → Q [u, .ref h0.objs.size] { s with heap := h0.push { cls := .type "list", data := .seq us.toArray }, toks := tk }) : wpAny (model prog w) A (unpackItems (.ref l) 2 (some 1)) Q E s := by
  have hlt : l ≠ s.heap.objs.size := by obtain ⟨o, ho, _⟩ := hl; exact Nat.ne_of_lt (Heap.lt_size ho)
  have hll : l < s.heap.objs.size := by obtain ⟨o, ho, _⟩ := hl; exact Heap.lt_size ho
  have hsz : (u :: us).toArray.size = us.length + 1 := by simp
  unfold unpackItems
  refine wpAny_bind ?_
  unfold notIterableAtAll
  refine wpAny_bind (wpAny_specialOf hl.typeIs slot_tuple_iter.lookup ?_)
  refine wpAny_pure ?_
  simp only [Bool.false_eq_true, if_false]
  refine wpAny_bind (wpAny_holding (iter_tuple hl ?_))
  refine wpAny_bind (wpAny_holding (draw_tuple hlt 1 0 _ _ ⟨_, Heap.get?_push_size _ rfl, rfl, rfl⟩ (hl.push _) (by omega) fun h₁ hit₁ hs₁ => ?_))
  have hl₁ : IsTup h₁ l (u :: us).toArray := (hl.push _).extBut hs₁.extBut hlt
  rw [Nat.zero_add] at hit₁
  have hit₁' := hit₁
  obtain ⟨oi, hoi, _⟩ := hit₁'
  have hl₁' := hl₁
  obtain ⟨ol, hol, _⟩ := hl₁'
  rw [List.drop_zero]
  rw [if_neg (by simp)]
  refine wpAny_bind (wpAny_holding (kun_collect (s := { s with heap := h₁ }) (T := "tuple_iterator") (.inr (.inr (.inr rfl))) (Walks.tuple (A := A.in1) hh s.heap.objs.size l hlt (u :: us).toArray) (fun j u st => st.1.typeIs) (k := 1) (by omega) ⟨hit₁, hl₁⟩ (Heap.lt_size hoi) (Heap.lt_size hol) (fun h₂ tk hk => ?_) (by rw [sizeLine_eq]; omega)))
  have hd : ((u :: us).toArray.toList.drop 1) = us := by simp
  rw [hd]
  show wpAny _ _ (if us.length < 2 - 1 - 1 then _ else _) _ _ _
  rw [if_neg (by omega)]
  show wpAny _ _ (newList (us.take (us.length - (2 - 1 - 1))) >>= fun d => pure ((u :: us).toArray.toList.take 1 ++ [d] ++ us.drop (us.length - (2 - 1 - 1)))) _ _ _
  have e1 : us.take (us.length - (2 - 1 - 1)) = us := by simp
  have e2 : us.drop (us.length - (2 - 1 - 1)) = [] := by simp
  rw [e1, e2]
  refine wpAny_bind (wpAny_newList (wpAny_pure ?_) (by rw [sizeLine_eq]; omega))
  have q := h h₂ tk fun b o e => ?_
  · simpa using q
  · refine hk b o (Nat.ne_of_lt (Heap.lt_size e)) ?_
    exact hs₁.extBut b o (Nat.ne_of_lt (Heap.lt_size e)) (Heap.get?_push_of_some _ e)
end
def gStar (K : PySem.W.Frag) (i j : Nat) : TG := fun v σ H Q => ∃ a x xs, v = .ref a ∧ SqT K H a (x :: xs) ∧ xs.length ≤ 16000 ∧ ∀ p, H p = none → Q ((σ.set i (some x)).set j (some (.ref p))) (upd H p (.lst xs))
section
variable {X : Cx} {W : WX} {pos : Pos}
theorem pg_star {i j : Nat} {x y : Str} {px py sp : Pos} {k : Nat} (hc : X.calm = true) (hN : X.N.Nodup) (hi : X.N[i]? = some x) (hj : X.N[j]? = some y) (hx : Loc X.env.scope x) (hy : Loc X.env.scope y)
    (hfx : X.fn x = true ∨ X.env.scope.names.lookup x = some .local) (hfy : X.fn y = true ∨ X.env.scope.names.lookup y = some .local) : PG X (.Tuple [.Name x px, .Starred (.Name y py) sp] k pos) (gStar X.K i j) := by
  refine ⟨fun pins s σ H v u Q I r hw => ?_⟩
  obtain ⟨a, x1, xs, rfl, hq, hl, hw⟩ := hw
  cases r
  obtain ⟨its, rv, ht, hz⟩ := I.tuple hq
  cases rv with
  | cons r1 rs =>
    rename_i u1 us
    rw [assign_Tuple]
    refine wpAny_bind (wpAny_standAt ?_)
    unfold unpack
    refine wpAny_bind (wpAny_holding ?_)
    show wpAny _ _ (unpackItems (.ref a) 2 (some 1)) _ _ _
    refine unpack_star ht (I.ok.hd hc) (by rw [← rs.length]; exact hl) fun h0 tk hk => ?_
    have I0 : Inv X pins σ H { s with heap := h0, toks := tk } := I.kept hk
    have hf : H h0.objs.size = none := I0.hok.fresh (Nat.le_refl _)
    have I1 : Inv X pins σ (upd H h0.objs.size (.lst xs)) { s with heap := h0.push { cls := .type "list", data := .seq us.toArray }, toks := tk } :=
      I0.laid (t' := tk) (fun b u e => Heap.get?_push_of_some _ e) (Nat.le_refl _) ⟨Nat.le_trans hl (by rw [sizeLine_eq]; omega), us, 0, rs, Heap.get?_push_size _ rfl⟩
    have hp := pgs_cons (pg_name (pos := px) hN hi hx hfx) (pgs_cons (pg_name (pos := py) hN hj hy hfy) (pgs_nil (X := X)))
    exact hp.run pins _ σ _ [x1, .ref h0.objs.size] _ Q I1 (.cons r1 (.cons rfl .nil)) ⟨_, _, rfl, _, _, rfl, rfl, hw _ hf⟩
/-- x, *ys = e -/
def starS (i j : Nat) (f : SE) : SS := fun σ M => match f σ M with
  | .ok (.tup (d :: ds)) M1 => if ds.length ≤ 16000 then .nx ((σ.set i (some d)).set j (some (.lst ds))) M1 else .bad
  | .ok _ _ => .bad
  | .ex c M1 => .ex c σ M1
  | .bad => .bad
theorem s_star {i j : Nat} {x y : Str} {px py sp tp : Pos} {k : Nat} {e : Expr} {f : SE} (hc : X.calm = true) (hN : X.N.Nodup) (he : PD X W e f) (hi : X.N[i]? = some x := by rfl) (hj : X.N[j]? = some y := by rfl) (hx : Loc X.env.scope x := by first | exact Or.inl rfl | exact Or.inr rfl) (hy : Loc X.env.scope y := by first | exact Or.inl rfl | exact Or.inr rfl)
    (hfx : X.fn x = true ∨ X.env.scope.names.lookup x = some .local := by first | exact .inl rfl | exact .inr rfl) (hfy : X.fn y = true ∨ X.env.scope.names.lookup y = some .local := by first | exact .inl rfl | exact .inr rfl)
    (hs : swapsWithSole [.Tuple [.Name x px, .Starred (.Name y py) sp] k tp] e pos.line X.env = pure false := by rfl) (hw : swappedStores [.Tuple [.Name x px, .Starred (.Name y py) sp] k tp] e X.env = pure none := by rfl)
    (h1 : (assignEach [.Tuple [.Name x px, .Starred (.Name y py) sp] k tp] X.env).map (·.2) = [assign (.Tuple [.Name x px, .Starred (.Name y py) sp] k tp) X.env] := by rfl) : SD X W (.Assign [.Tuple [.Name x px, .Starred (.Name y py) sp] k tp] e pos) (starS i j f) :=
  PS.imp (ps_asg he (pg_star hc hN hi hj hx hy hfx hfy) hs hw h1) fun E σ H ⟨g, σD, M, c, h⟩ => ⟨g, σD, M, c, by
    unfold starS at h
    cases e : f σD M with
    | ok d M1 =>
      rw [e] at h
      intro g' H' l c' v r
      split at h
      · rename_i d0 ds M2 e2
        cases e2
        split at h
        · rename_i hl
          obtain ⟨a, vs, rfl, rs, hs⟩ := tup_at c' r
          obtain ⟨v0, us, rfl, r0, rt⟩ := rs.cons_inv
          refine ⟨a, v0, us, rfl, hs, by rw [← rt.length]; exact hl, fun p hp => ?_⟩
          refine frz_l (Q := fun v H2 => E.nx ((σ.set i (some v0)).set j (some v)) H2) c' hp rt fun g2 v2 H2 l2 c2 r2 => ?_
          exact h g2 _ H2 (l.trans l2) ((c2.set i (Rv.mono l2.gh _ _ r0)).set j r2)
        · exact h.elim
      · exact h.elim
      · rename_i e2; cases e2
      · rename_i e2; cases e2
    | ex x M1 =>
      rw [e] at h
      exact fun g' H' u l c' e => h g' σ H' u l c' e
    | bad => rw [e] at h; exact h⟩
end
end Lf

/-! Lf14: lists that will change, out of list(..) and of comprehensions; what is not walked; defs' facts. -/
namespace Lf
open PySem PySem.Spec PyProof.Rows L2
theorem Conc.adopt {C : Ct} {g : Gh} {σ : L2.St} {σD : Sl} {M : Mem} {H : Hp} (c : Conc C g σ σD M H) {p : Addr} {o : HO} {m : MO} (h1 : g.G p = none) (h2 : p ∉ g.rho) (e : H p = some o) (r : RO C g m o) :
    Conc C ⟨g.G, g.rho ++ [p]⟩ σ σD (M ++ [m]) H ∧ g ≤ ⟨g.G, g.rho ++ [p]⟩ ∧ Rv C ⟨g.G, g.rho ++ [p]⟩ (.ref M.length) (.ref p) := by
  have le : g ≤ ⟨g.G, g.rho ++ [p]⟩ := ⟨fun a u e => e, [p], rfl⟩
  have ne : ∀ a ∈ g.rho, a ≠ p := fun a ha e => h2 (e ▸ ha)
  have hl := c.len
  refine ⟨⟨c.le, by simp [c.len], ?_, fun a ha => ?_, fun i a m' e1 e2 e3 => ?_, fun i a m' e1 e2 e3 => ?_, c.sl.mono le⟩, le, ?_⟩
  · show (g.rho ++ [p]).Nodup
    rw [List.nodup_append]
    refine ⟨c.nd, by simp, fun a ha b hb => ?_⟩
    simp at hb
    subst hb
    exact ne a ha
  · rcases List.mem_append.mp ha with ha | ha
    · exact c.there a ha
    · simp at ha
      subst ha
      exact ⟨o, e⟩
  · show g.G a = none
    have e1' : (g.rho ++ [p])[i]? = some a := e1
    by_cases hi : i < g.rho.length
    · rw [List.getElem?_append_left hi] at e1'
      rw [List.getElem?_append_left (by rw [← c.len]; exact hi)] at e2
      exact c.out i a m' e1' e2 e3
    · rw [List.getElem?_append_right (by omega)] at e1'
      have : a ∈ [p] := List.mem_of_getElem? e1'
      simp at this
      subst this
      exact h1
  · have e1' : (g.rho ++ [p])[i]? = some a := e1
    by_cases hi : i < g.rho.length
    · rw [List.getElem?_append_left hi] at e1'
      rw [List.getElem?_append_left (by rw [← c.len]; exact hi)] at e2
      obtain ⟨o', e4, r'⟩ := c.obj i a m' e1' e2 e3
      exact ⟨o', e4, r'.mono le⟩
    · rw [List.getElem?_append_right (by omega)] at e1'
      rw [List.getElem?_append_right (by omega)] at e2
      have ha : a ∈ [p] := List.mem_of_getElem? e1'
      have hm : m' ∈ [m] := List.mem_of_getElem? e2
      simp at ha hm
      subst ha hm
      exact ⟨o, e, r.mono le⟩
  · simp only [Rv]
    refine ⟨p, rfl, ?_⟩
    rw [← c.len]
    simp
section
variable {X : Cx} {W : WX} {pos : Pos}
noncomputable def lcNS (fi : SI) (t : Tg) (vs : List Nat) (tt : ST) (f : SE) : SE := fun σ M => (fi σ M).bind fun z M1 => if z.all.length ≤ sizeLine then (lcLoop z t tt f z.all (wipeD σ vs) M1 []).bind fun ds M2 => .ok (.ref M2.length) (M2 ++ [.lst ds]) else .bad
theorem lc_impN {C : Ct} {fi : SI} {t : Tg} {vs : List Nat} {tt : ST} {f : SE} (ht : ∀ i ∈ Tg.ix t, i ∈ vs) : ∀ σ H Q, tE C W (lcNS fi t vs tt f) σ H Q → tLc (tI C W fi) (gT C.K t) (tT C W0 tt) (tE C W0 f) vs σ H Q := by
  rintro σ H Q ⟨g, σD, M, c, h⟩
  refine ⟨g, σD, M, c, (RE.post_bind h).imp fun z M1 g1 H1 _ l1 c1 h1 J ok P hD => ?_⟩
  split at h1
  case isFalse => exact h1.elim
  rename_i hz
  obtain ⟨hG, hR⟩ := c1.fresh hD
  let Wv : Nat → Nat → Hp → Prop := fun i m H' => m = z.all.length - i ∧ i ≤ z.all.length ∧ ∃ g' M' acc accV, Le g1 H1 g' H' ∧ P ∉ g'.rho ∧ g'.G P = none ∧ H' P = some (.lst accV) ∧ Conc C g' (wipe σ vs) (wipeD σD vs) M' H' ∧ RvA C g' acc accV ∧ acc.length ≤ i ∧
    ((lcLoop z t tt f (z.all.drop i) (wipeD σD vs) M' acc).bind fun ds M2 => .ok (.ref M2.length) (M2 ++ [.lst ds])).post C W g1 H1 σ σD fun g' d _ H' => ∀ v, Rv C g' d v → Q v H'
  refine ⟨Wv, ⟨_, rfl, Nat.zero_le _, g1, M1, [], [], (Le.refl g1 H1).other hD, hR, hG, upd_same, (c1.slots (c1.sl.wipe vs)).other hG hR, RvA.nil, Nat.le_refl _, by rw [List.drop_zero]; exact h1⟩, ?_⟩
  rintro i m H' ⟨rfl, hi, g', M', acc, accV, l', nD, gD, eD, c', ra, hacc, hp⟩
  by_cases hlt : i < z.all.length
  · right
    rw [List.drop_eq_getElem_cons hlt] at hp
    unfold lcLoop at hp
    split at hp
    case isFalse => exact hp.elim
    rename_i hk
    split at hp
    case h_2 => exact hp.elim
    rename_i σ1 e1
    obtain ⟨hgo, hy⟩ := (ok g' (wipe σ vs) (wipeD σD vs) M' H' l' c' hk i).1 _ (List.getElem?_eq_getElem hlt)
    refine ⟨hgo, fun H2 => Wv (i + 1) (z.all.length - (i + 1)) H2, fun H2 w => ⟨_, by omega, w⟩, fun x H2 hx => ?_⟩
    obtain ⟨g2, l2, c2, rx⟩ := hy x H2 hx
    obtain ⟨nD2, eD2, gD2⟩ := l2.out P _ eD nD
    refine gT_ok t _ x (wipe σ vs) (wipeD σD vs) σ1 _ c2 rx e1 fun σ2 c3 hl hk2 => ⟨?_, g2, σ1, M', c3, ?_⟩
    · rw [wipe_same hl fun j hj => hk2 j fun q => hj (ht j q), wipe_wipe_out]
    have fin : ∀ (g4 : Gh) (M4 : Mem) (H4 : Hp) (σ3 : L2.St) (σ4 : Sl) (acc' : List D) (accV' : List V), Le g2 H2 g4 H4 → Conc C g4 σ3 σ4 M4 H4 → RvA C g4 acc' accV' → acc'.length ≤ i + 1 →
        ((lcLoop z t tt f (z.all.drop (i + 1)) (wipeD σD vs) M4 acc').bind fun ds M2 => .ok (.ref M2.length) (M2 ++ [.lst ds])).post C W g1 H1 σ σD (fun g' d _ H' => ∀ v, Rv C g' d v → Q v H') →
        Wv (i + 1) (z.all.length - (i + 1)) (upd H4 P (.lst accV')) := fun g4 M4 H4 σ3 σ4 acc' accV' l4 c4 r4 hl4 hp4 => by
      obtain ⟨nD4, eD4, gD4⟩ := l4.out P _ eD2 nD2
      have gD4' : g4.G P = none := gD4.l.trans (gD2.l.trans gD)
      exact ⟨rfl, hlt, g4, M4, acc', accV', ((l'.trans l2).trans l4).other hD, nD4, gD4', upd_same, (c4.slots ((c2.sl).mono l4.gh)).other gD4' nD4, r4, hl4, hp4⟩
    cases et : tt σ1 M' with
    | ex y M2 => rw [et] at hp; exact hp.elim
    | bad => rw [et] at hp; exact hp.elim
    | ok b M2 =>
      rw [et] at hp
      intro g3 H3 l3 c4
      obtain ⟨nD3, eD3, gD3⟩ := l3.out P _ eD2 nD2
      cases b with
      | false =>
        have w := fin g3 M2 H3 σ2 σ1 acc accV l3 c4 (RvA.mono (Gh.le_trans l2.gh l3.gh) _ _ ra) (by omega) hp
        have e : upd H3 P (.lst accV) = H3 := by
          funext b
          by_cases hb : b = P
          · subst hb
            rw [upd_same, eD3]
          · rw [upd_ne hb]
        rw [e] at w
        exact w
      | true =>
        refine ⟨g3, σ1, M2, c4, ?_⟩
        simp only at hp
        cases ef : f σ1 M2 with
        | ex y M3 => rw [ef] at hp; exact hp.elim
        | bad => rw [ef] at hp; exact hp.elim
        | ok y M3 =>
          rw [ef] at hp
          intro g4 H4 l4 c5 v rv
          obtain ⟨nD4, eD4, gD4⟩ := l4.out P _ eD3 nD3
          refine ⟨accV, eD4, ?_, fin g4 M3 H4 σ2 σ1 (acc ++ [y]) (accV ++ [v]) (l3.trans l4) c5 ((RvA.mono (Gh.le_trans l2.gh (Gh.le_trans l3.gh l4.gh)) _ _ ra).append (RvA.cons rv RvA.nil)) (by simp; omega) hp⟩
          rw [← ra.length]
          omega
  · left
    have ei : i = z.all.length := by omega
    subst ei
    rw [List.drop_length] at hp
    unfold lcLoop at hp
    split at hp
    case isFalse => exact hp.elim
    rename_i hk
    refine ⟨(ok g' (wipe σ vs) (wipeD σD vs) M' H' l' c' hk _).2 (Nat.le_refl _), ?_⟩
    obtain ⟨c5, l5, r5⟩ := c'.adopt gD nD eD (.lst ra)
    have l6 : Le g1 H1 ⟨g'.G, g'.rho ++ [P]⟩ H' := ⟨Gh.le_trans l'.gh l5, fun a o e n => by
      obtain ⟨n1, e1, q1⟩ := l'.out a o e n
      refine ⟨fun z => ?_, e1, q1⟩
      have z' : a ∈ g'.rho ++ [P] := z
      rcases List.mem_append.mp z' with z | z
      · exact n1 z
      · exact ne_of_none e hD (by simpa using z), l'.frz⟩
    exact hp _ _ l6 (c5.slots (c1.sl.mono l6.gh)) _ r5
theorem d_lcN {elt tg iter : Expr} {ifs : List Expr} {scope : Scope} {own : List (Str × Nat)} {fi : SI} {t : Tg} {tt : ST} {f : SE} (hc : X.calm = true) (hN : X.N.Nodup) (ok : BlkOk X.N X.env.scope scope own) (ht : ∀ i ∈ Tg.ix t, i ∈ own.map (·.2)) (hi : ID X W tg iter fi)
    (hg : ∀ (s : Shared) (H : Hp) (C : Addr) (cl : List (Str × Addr)) (fp : List Addr), GD (X.blk s H scope (compEnvC scope cl C X.env) fp) tg t) (htt : ∀ (s : Shared) (H : Hp) (C : Addr) (cl : List (Str × Addr)) (fp : List Addr), TDs (X.blk s H scope (compEnvC scope cl C X.env) fp) W0 ifs tt)
    (he : ∀ (s : Shared) (H : Hp) (C : Addr) (cl : List (Str × Addr)) (fp : List Addr), PD (X.blk s H scope (compEnvC scope cl C X.env) fp) W0 elt f) (hs : ∀ x, foldedSetIterable iter X.env x = pure x := by intro _; rfl) :
    PD X W (.ListComp elt [⟨tg, iter, ifs, 0⟩] scope pos) (lcNS fi t (own.map (·.2)) tt f) :=
  PE.imp (pe_lc (te := tE (ctx X) W0 f) (tt := tT (ctx X) W0 tt) (g := gT X.K t) hc hN hi ok hg htt he hs) (lc_impN (C := ctx X) ht)
/-- list(xs), to change -/
def newOfS (fa : SA) : SE := fun σ M => (fa σ M).bind fun ds M1 => match ds with
  | [x] => (match seqOf M1 x with
    | some es => .ok (.ref M1.length) (M1 ++ [.lst es])
    | none => .bad)
  | _ => .bad
theorem d_listN {e : Expr} {fa : SA} {p : Pos} (hm : X.mg "list" = none) (ha : AD X W [e] fa) (hg : Gl X "list" := by rfl) (he : starEach [e] X.env = (false, eval e X.env) :: starEach [] X.env := by rfl) (hpl : (backTo pos (starEach [] X.env)).any (·.1) = false := by rfl) : PD X W (.Call (.Name "list" p) [e] [] pos) (newOfS fa) :=
  PE.imp (pe_callTy call_list_of hg hm (by decide +kernel) ha (by decide) (by decide) he hpl) fun σ H Q ⟨g, σD, M, c, h⟩ => ⟨g, σD, M, c, (RE.post_bind h).imp fun ds M1 g1 H1 _ l1 c1 h1 vs rs => by
    split at h1
    · split at h1
      · rename_i x _ es e1
        obtain ⟨v, rfl, r⟩ := rvA1 rs
        obtain ⟨a, ws, rfl, rq, hq⟩ := seq_case c1 r e1
        refine ⟨a, ws, rfl, hq.elim (fun z => .inr z.1) .inl, fun l hl => ?_⟩
        obtain ⟨l2, c2, r2⟩ := c1.newL (o := .lst ws) hl (.lst rq)
        exact h1 _ _ l2 c2 _ r2
      · exact h1.elim
    · exact h1.elim⟩
/-- what is not walked: nothing is promised -/
def badS : SS := fun _ _ => .bad
theorem s_bad {st : Stmt} : SD X W st badS := ⟨fun pins s σ H E I ⟨g, σD, M, c, h⟩ => h.elim⟩
def badE : SE := fun _ _ => .bad
theorem d_bad {e : Expr} : PD X W e badE := ⟨fun pins s σ H Q I ⟨g, σD, M, c, h⟩ => h.elim⟩
end
theorem sets_len : ∀ (ts : List Tg) (ds : List D) (σ σ' : Sl), Tg.sets ts ds σ = some σ' → ts.length = ds.length
  | [], ds, σ, σ', z => by cases ds <;> simp [Tg.sets] at z ⊢
  | t :: ts, ds, σ, σ', z => by
    cases ds with
    | nil => simp [Tg.sets] at z
    | cons d ds =>
      simp only [Tg.sets] at z
      split at z
      · simp [sets_len ts _ _ _ z]
      · cases z
/-- x, y, .. = a list -/
def unlS (ts : List Tg) (f : SE) : SS := fun σ M => match f σ M with
  | .ok d M1 => (match lstOf M1 d with
    | some ds => (match Tg.sets ts ds σ with
      | some σ1 => .nx σ1 M1
      | none => .bad)
    | none => .bad)
  | .ex c M1 => .ex c σ M1
  | .bad => .bad
theorem s_unl {X : Cx} {W : WX} {pos tp : Pos} {es : List Expr} {k : Nat} {e : Expr} {ts : List Tg} {f : SE} (hc : X.calm = true) (he : PD X W e f) (hg : GDs X es ts) (hn : (assignEach es X.env).length = ts.length := by rfl) (hst : (assignEach es X.env).findIdx? (·.1) = none := by rfl)
    (hs : swapsWithSole [.Tuple es k tp] e pos.line X.env = pure false := by rfl) (hw : swappedStores [.Tuple es k tp] e X.env = pure none := by rfl)
    (h1 : (assignEach [.Tuple es k tp] X.env).map (·.2) = [assign (.Tuple es k tp) X.env] := by rfl) : SD X W (.Assign [.Tuple es k tp] e pos) (unlS ts f) :=
  PS.imp (ps_asg he (pg_unl hc hg hn hst) hs hw h1) fun E σ H ⟨g, σD, M, c, h⟩ => ⟨g, σD, M, c, by
    unfold unlS at h
    cases e : f σD M with
    | ok d M1 =>
      rw [e] at h
      intro g' H' l c' v r
      simp only at h
      split at h
      · rename_i ds e1
        split at h
        · rename_i σ1 e2
          obtain ⟨a, vs, rfl, rs, hq⟩ := lst_at c' r e1
          exact ⟨a, vs, rfl, hq, by rw [← rs.length]; exact (sets_len _ _ _ _ e2).symm, gTs_ok ts ds vs σ σD σ1 _ c' rs e2 fun σ' c2 _ _ => h g' σ' H' l c2⟩
        · exact h.elim
      · exact h.elim
    | ex x M1 =>
      rw [e] at h
      exact fun g' H' u l c' e => h g' σ H' u l c' e
    | bad => rw [e] at h; exact h⟩
theorem DefOk.mk0 {P : Program} {w : World} {C : Ct} {base : Heap} {x : Str} {k : Nat} {F : SF} {f : Addr} {fd : FuncData} {ps : List Str} (hm : C.mg x = some (.ref f)) (hk : PySem.W.keepIn C.K (.ref f) = true) (hb : Binds C.K fd ps [])
    (ok : FnG P w C.K C.mg base (L2.CX P w) k f fd ps (spD C F)) : DefOk P w C base x k F := ⟨f, fd, ps, [], [], [], F, hm, hk, hb, .nil, fun _ => RvA.nil, fun es M => by rw [List.append_nil], ok⟩
theorem DefOk.mono {P : Program} {w : World} {C : Ct} {base : Heap} {x : Str} {j k : Nat} {F : SF} (D : DefOk P w C base x j F) (h : j ≤ k) : DefOk P w C base x k F := by
  obtain ⟨f, fd, ps, ds, dvs, dfs, F0, hm, hk, hb, hd, hdf, hF, ok⟩ := D.ex
  exact ⟨f, fd, ps, ds, dvs, dfs, F0, hm, hk, hb, hd, hdf, hF, ok.mono h⟩
theorem DefOk.mkD {P : Program} {w : World} {C : Ct} {base : Heap} {x : Str} {k : Nat} {F : SF} {f : Addr} {fd : FuncData} {ps : List Str} {ds : List Value} {dvs : List V} (dfs : List D) (hm : C.mg x = some (.ref f)) (hk : PySem.W.keepIn C.K (.ref f) = true) (hb : Binds C.K fd ps ds) (hd : Vals dvs ds) (hr : ∀ g, RvA C g dfs dvs)
    (ok : FnG P w C.K C.mg base (L2.CX P w) k f fd ps (spD C F)) : DefOk P w C base x k (fun es M => F (es ++ dfs) M) := ⟨f, fd, ps, ds, dvs, dfs, F, hm, hk, hb, hd, hr, fun _ _ => rfl, ok⟩
theorem gd_str {C : Ct} {x z : Str} (h : ∃ t, C.mg x = some (.str z t)) : Gd C x (.str z) := let ⟨t, e⟩ := h; ⟨_, .str z, e, ⟨t, rfl⟩, fun _ => by simp only [Rv]⟩
theorem gd_int {C : Ct} {x : Str} {z : Int} (h : ∃ t, C.mg x = some (.int z t)) : Gd C x (.int z) := let ⟨t, e⟩ := h; ⟨_, .int z, e, ⟨t, rfl⟩, fun _ => by simp only [Rv]⟩
theorem gd_fn {C : Ct} {x : Str} {a : Addr} (h : C.mg x = some (.ref a)) : Gd C x (.gl x) := ⟨_, .ref a, h, rfl, fun _ => by simp only [Rv]; exact ⟨_, h, rfl⟩⟩
theorem gd_tup {C : Ct} {x : Str} {a : Addr} {ds : List D} {vs : List V} (h : C.mg x = some (.ref a)) (s : ∀ H, SqT C.K H a vs) (r : ∀ g, RvA C g ds vs) : Gd C x (.kt ds) := ⟨_, .ref a, h, rfl, fun g => by simp only [Rv]; exact ⟨a, vs, rfl, s _, r g⟩⟩
end Lf

/-! Lf15: own exceptions raised, caught and held, asked for their class; zip; int of a truth. -/
namespace Lf
open PySem PySem.Spec PyProof.Rows L2

abbrev Sub : Type := Str → Str → Option Bool
/-- what the class D says, by a Bool of the text's part K -/
def excCB (K : PySem.W.Frag) (D : Addr) : Bool :=
  decide (PySem.W.findIn K (.ref D) "__getattribute__" = some (some (.builtin "BaseException.__getattribute__"))) && (decide (PySem.W.findIn K (.ref D) "__getattr__" = some none) &&
  (decide (PySem.W.subIn K (.ref D) (.type "BaseException") = some true) && (PySem.W.hasDictIn K D && (decide (PySem.W.findIn K (.ref D) "__class__" = some (some (.builtin "object.__class__"))) &&
  (decide (PySem.W.specialIn K (.builtin "object.__class__") "__get__" = some (some (.builtin "getset_descriptor.__get__"))) && (decide (PySem.W.takesIn K (.builtin "object.__class__") = some true) &&
  decide (PySem.W.mroIn K D (.type "object") = some true)))))))
theorem excCB_ok {K : PySem.W.Frag} {D : Addr} (h : excCB K D = true) : ExcC K D := by
  simp only [excCB, Bool.and_eq_true, decide_eq_true_eq] at h
  obtain ⟨h1, h2, h3, h4, h5, h6, h7, h8⟩ := h
  exact ⟨h1, h2, h3, h4, h5, h6, h7, h8⟩
/-- the class of the name c can be raised -/
structure RaiseOk (C : Ct) (c : Str) : Prop where
  ok : ∃ D, C.mg c = some (.ref D) ∧ PySem.W.excIn C.K D He.veBase "ValueError.__new__" = true ∧ PySem.W.keepIn C.K (.ref D) = true ∧ PySem.W.subIn C.K (.ref D) (.type "BaseException") = some true ∧ PySem.W.typeIn C.K (.ref D) = some (.type "type")
/-- what sub tells of two classes' names, or of one's and a built-in class, is so -/
structure SubOk (C : Ct) (sub : Sub) : Prop where
  two : ∀ c y b, sub c y = some b → ∃ D E, C.mg c = some (.ref D) ∧ C.mg y = some (.ref E) ∧ ExcC C.K D ∧ PySem.W.exmOne C.K (.ref D) (.ref E) = some b ∧ PySem.W.kitOne C.K (.ref D) (.ref E) = some b
  ve : ∀ c y b, sub c y = some b → ∃ D, C.mg c = some (.ref D) ∧ PySem.W.kitOne C.K (.ref D) (.type "ValueError") = some true
/-- the same by a Bool: cs the classes that are raised, ys those that are asked for -/
def subOf (cs ys : List Str) : Sub := fun c y => if cs.contains c = true ∧ ys.contains y = true then some (decide (c = y) || decide (y = "LeanError")) else none
def subB (K : PySem.W.Frag) (cs ys : List Str) : Bool := cs.all fun c => He.Fa.ok K (.glo c) && (He.Fa.ok K (.exc c) && (excCB K (He.ga K c) && (decide (PySem.W.kitOne K (.ref (He.ga K c)) (.type "ValueError") = some true) &&
  ys.all fun y => He.Fa.ok K (.glo y) && (decide (PySem.W.exmOne K (.ref (He.ga K c)) (.ref (He.ga K y)) = some (decide (c = y) || decide (y = "LeanError"))) &&
    decide (PySem.W.kitOne K (.ref (He.ga K c)) (.ref (He.ga K y)) = some (decide (c = y) || decide (y = "LeanError")))))))
section
variable {K : PySem.W.Frag} {mg : Str → Option Value} {h : Heap} {cs ys : List Str}
theorem subB_ok (X : K.In h) (G : h.Ns mainGlobals mg) (q : subB K cs ys = true) : SubOk ⟨K, mg⟩ (subOf cs ys) := by
  simp only [subB, List.all_eq_true, Bool.and_eq_true, decide_eq_true_eq] at q
  refine ⟨fun c y b e => ?_, fun c y b e => ?_⟩
  · unfold subOf at e
    split at e
    · rename_i hh
      cases e
      obtain ⟨h1, h2, h3, h4, h5⟩ := q c (by simpa using hh.1)
      obtain ⟨k1, k2, k3⟩ := h5 y (by simpa using hh.2)
      exact ⟨_, _, He.glo_ok X G h1, He.glo_ok X G k1, excCB_ok h3, k2, k3⟩
    · cases e
  · unfold subOf at e
    split at e
    · rename_i hh
      obtain ⟨h1, h2, h3, h4, h5⟩ := q c (by simpa using hh.1)
      exact ⟨_, He.glo_ok X G h1, h4⟩
    · cases e
theorem raiseB_ok (X : K.In h) (G : h.Ns mainGlobals mg) (q : subB K cs ys = true) {c : Str} (hc : cs.contains c = true) : RaiseOk ⟨K, mg⟩ c := by
  simp only [subB, List.all_eq_true, Bool.and_eq_true, decide_eq_true_eq] at q
  obtain ⟨h1, h2, h3, h4, h5⟩ := q c (by simpa using hc)
  obtain ⟨e1, e2, e3, e4⟩ := He.exc_ok h2
  exact ⟨_, He.glo_ok X G h1, e1, e2, e3, e4⟩
end

section
variable {X : Cx} {W : WX}
theorem s_raiseO {c m : Str} {j : Nat} {p p2 pos pos2 : Pos} (r : RaiseOk (ctx X) c) (hc : X.calm = true) (tk : Takes X W) (hg : Gl X c := by rfl) (hdb : (c == ("__debug__" : Str)) = false := by decide) :
    SD X W (.Raise (some (.Call (.Name c p) [.Constant (.str m) j p2] [] pos)) none pos2) (raiseS c) := by
  obtain ⟨D, h1, h2, h3, h4, h5⟩ := r.ok
  exact s_raise hc tk PySem.F.excBase_ValueError h2 h1 h3 (raises_own h4 h5) hg hdb

/-! ### isinstance of a held exception -/
def isxM (sub : Sub) (_ : Mem) (ds : List D) : Option D := match ds with
  | [.exc c, .gl y] => (sub c y).map .bl
  | [.exc c, .ty n] => if n = "ValueError" ∧ (sub c "LeanError").isSome = true then some (.bl true) else none
  | _ => none
def rIsx (K : PySem.W.Frag) : List V → Hp → VK → Prop := fun xs H Q => ∃ (a D : Addr) (c : V) (cv : Value) (b : Bool), xs = [.ref a, c] ∧ H a = some (ExH (.ref D) a) ∧ ExcC K D ∧ (∀ u, L2.RelV c u → u = cv) ∧ PySem.W.kitOne K (.ref D) cv = some b ∧ Q (.bl b) H
theorem call_isx : CallR X (.builtin "isinstance") (rIsx X.K) := by
  intro pins s σ H xs us Q I r h
  obtain ⟨a, D, c, cv, b, rfl, ha, C, hcv, e, q⟩ := h
  obtain ⟨u1, u2, rfl, r1, r2⟩ := vals2 r
  cases (show u1 = Value.ref a from r1)
  have ec := hcv _ r2
  subst ec
  obtain ⟨⟨oe, vs, ⟨hget, h1, h2⟩, hv⟩, _, _⟩ := I.hok a _ ha
  have J : PySem.W.InstAt s.heap a oe D none := by
    obtain ⟨oc, od, oda, osl⟩ := oe
    dsimp only at h1 h2 hv
    subst h1 h2 hv
    exact ⟨hget, rfl, rfl, trivial⟩
  exact PySem.W.kia_one (PySem.W.handS_kitx_exc C.hg C.hk C.hs C.hd C.ha C.hn C.ht C.hm) I.kIn J e (fun z => nomatch z) fun tk => ⟨.bl b, H, I.tok tk, rfl, q⟩
theorem isx_ok {C : Ct} {sub : Sub} (S : SubOk C sub) : OpC C (isxM sub) (rIsx C.K) := by
  intro g σ σD M H ds vs d Q c rs e k
  unfold isxM at e
  split at e
  · rename_i x y
    simp only [Option.map_eq_some_iff] at e
    obtain ⟨b, e, rfl⟩ := e
    obtain ⟨v, u, rfl, rx, ru⟩ := rvA2 rs
    obtain ⟨D, E, m1, m2, ec, _, kk⟩ := S.two _ _ _ e
    simp only [Rv] at rx ru
    obtain ⟨a, w, rfl, e1, e2⟩ := rx
    obtain ⟨w2, e3, e4⟩ := ru
    rw [m1] at e1
    cases e1
    rw [m2] at e3
    cases e3
    refine ⟨a, D, u, .ref E, b, rfl, c.le _ _ e2, ec, fun z hz => ?_, kk, k g _ H (Le.refl _ _) c rv_b⟩
    have eu : u = .ref E := by
      cases u <;> first
        | (have e5 : (Value.ref E) = _ := e4; cases e5; done)
        | (have e5 : (Value.ref E) = _ := e4; cases e5; rfl)
        | (obtain ⟨_, e5⟩ := e4; cases e5)
    subst eu
    exact hz
  · rename_i x n
    split at e
    · rename_i hh
      cases e
      obtain ⟨v, u, rfl, rx, ru⟩ := rvA2 rs
      obtain ⟨rfl, hs⟩ := hh
      obtain ⟨b, hb⟩ := Option.isSome_iff_exists.mp hs
      obtain ⟨D, m1, kk⟩ := S.ve _ _ _ hb
      obtain ⟨D', E, m1', _, ec, _, _⟩ := S.two _ _ _ hb
      simp only [Rv] at rx ru
      obtain ⟨a, w, rfl, e1, e2⟩ := rx
      subst ru
      rw [m1] at e1
      cases e1
      rw [m1] at m1'
      cases m1'
      exact ⟨a, D, .ty "ValueError", .type "ValueError", true, rfl, c.le _ _ e2, ec, fun z hz => hz, kk, k g _ H (Le.refl _ _) c rv_b⟩
    · cases e
  · cases e
theorem d_isx {pos : Pos} {e e2 : Expr} {fa : SA} {p : Pos} {sub : Sub} (S : SubOk (ctx X) sub) (hm : X.mg "isinstance" = none) (ha : AD X W [e, e2] fa) (hg : Gl X "isinstance" := by rfl) (he : starEach [e, e2] X.env = (false, eval e X.env) :: starEach [e2] X.env := by rfl) (hpl : (backTo pos (starEach [e2] X.env)).any (·.1) = false := by rfl) : PD X W (.Call (.Name "isinstance" p) [e, e2] [] pos) (callV (isxM sub) fa) :=
  d_callB (isx_ok S) call_isx hm (by decide +kernel) ha hg (by decide) (by decide) he hpl

/-! ### int of a truth, of an int -/
def intbM (_ : Mem) (ds : List D) : Option D := match ds with
  | [.int i] => some (.int i)
  | [.bl k] => some (.int (if k then 1 else 0))
  | _ => none
theorem intb_ok {C : Ct} : OpC C intbM (fun xs H Q => (∃ i, xs = [.int i] ∧ Q (.int i) H) ∨ ∃ k, xs = [.bl k] ∧ Q (.int (if k then 1 else 0)) H) := by
  intro g σ σD M H ds vs d Q c rs e k
  unfold intbM at e
  split at e
  · cases e
    obtain ⟨v, rfl, r⟩ := rvA1 rs
    rw [rv_int r]
    exact .inl ⟨_, rfl, k g _ H (Le.refl _ _) c rv_i⟩
  · cases e
    obtain ⟨v, rfl, r⟩ := rvA1 rs
    rw [rv_bl r]
    exact .inr ⟨_, rfl, k g _ H (Le.refl _ _) c rv_i⟩
  · cases e
theorem d_intb {pos : Pos} {e : Expr} {fa : SA} {p : Pos} (hm : X.mg "int" = none) (ha : AD X W [e] fa) (hg : Gl X "int" := by rfl) (he : starEach [e] X.env = (false, eval e X.env) :: starEach [] X.env := by rfl) (hpl : (backTo pos (starEach [] X.env)).any (·.1) = false := by rfl) : PD X W (.Call (.Name "int" p) [e] [] pos) (callV intbM fa) :=
  d_callTy (intb_ok (C := ctx X)) call_int1 hm (by decide +kernel) ha hg (by decide) (by decide) he hpl

/-! ### zip of two lists, or of two tuples -/
def pairUp : List D → List D → List D
  | x :: xs, y :: ys => .tup [x, y] :: pairUp xs ys
  | _, _ => []
theorem pairUp_get : ∀ (xs ys : List D) (i : Nat), (pairUp xs ys)[i]? = (xs[i]?).bind fun x => (ys[i]?).map fun y => .tup [x, y]
  | [], ys, i => by simp [pairUp]
  | x :: xs, [], i => by cases h : (x :: xs)[i]? <;> simp [pairUp]
  | x :: xs, y :: ys, 0 => by simp [pairUp]
  | x :: xs, y :: ys, i + 1 => by simpa [pairUp] using pairUp_get xs ys i
theorem pairUp_len : ∀ xs ys : List D, (pairUp xs ys).length = min xs.length ys.length
  | [], ys => by simp [pairUp]
  | x :: xs, [] => by simp [pairUp]
  | x :: xs, y :: ys => by
    have := pairUp_len xs ys
    simp only [pairUp, List.length_cons]
    omega
def izipS (fa : SA) : SI := fun σ M => (fa σ M).bind fun ds M1 => match ds with
  | [x, y] => (match lstOf M1 x, lstOf M1 y with
    | some xs, some ys => .ok ⟨pairUp xs ys, fun M2 => lstOf M2 x = some xs ∧ lstOf M2 y = some ys⟩ M1
    | _, _ => .bad)
  | _ => .bad
theorem itOk_z {C : Ct} {g : Gh} {H0 : Hp} {x y : D} {a b : Addr} {xs ys : List D} (r : Rv C g x (.ref a)) (r2 : Rv C g y (.ref b)) : ItOk C g H0 (Itz C.K a b) ⟨pairUp xs ys, fun M => lstOf M x = some xs ∧ lstOf M y = some ys⟩ := fun g' σ σD M H l c k i => by
  obtain ⟨k1, k2⟩ := k
  obtain ⟨a', vs, ea, ra, sa⟩ := lst_at c (Rv.mono l.gh _ _ r) k1
  obtain ⟨b', us, eb, rb, sb⟩ := lst_at c (Rv.mono l.gh _ _ r2) k2
  cases ea
  cases eb
  refine ⟨fun d hd => ?_, fun hi => ?_⟩
  · rw [show (ItD.all ⟨pairUp xs ys, fun M => lstOf M x = some xs ∧ lstOf M y = some ys⟩) = pairUp xs ys from rfl, pairUp_get] at hd
    obtain ⟨p, hp, hd⟩ := Option.bind_eq_some_iff.mp hd
    obtain ⟨q, hq, rfl⟩ := Option.map_eq_some_iff.mp hd
    obtain ⟨v, hv, rv⟩ := ra.get hp
    obtain ⟨u, hu, ru⟩ := rb.get hq
    refine ⟨⟨vs, us, v, u, sa, sb, hv, hu⟩, fun w H' hy => ?_⟩
    obtain ⟨T, x', y', rfl, hT, rfl, f1, f2⟩ := hy
    have e1 := f1 vs sa
    have e2 := f2 us sb
    rw [hv] at e1
    rw [hu] at e2
    cases e1
    cases e2
    obtain ⟨l2, c2⟩ := c.frzL (o := .tup [v, u]) hT
    refine ⟨_, l2, c2, ?_⟩
    simp only [Rv]
    exact ⟨T, [v, u], rfl, upd_same, RvA.cons (Rv.mono l2.gh _ _ rv) (RvA.cons (Rv.mono l2.gh _ _ ru) RvA.nil)⟩
  · refine ⟨vs, us, sa, sb, ?_⟩
    have h2 : min xs.length ys.length ≤ i := by rw [← pairUp_len]; exact hi
    have l1 := ra.length
    have l2 := rb.length
    omega
theorem i_zip {elts : List Expr} {kk : Nat} {tpos pos : Pos} {e e2 : Expr} {fa : SA} {p : Pos} (hm : X.mg "zip" = none) (ha : AD X W [e, e2] fa) (hg : Gl X "zip" := by rfl) (hs : starEach [e, e2] X.env = (false, eval e X.env) :: starEach [e2] X.env := by rfl) (hpl : (backTo pos (starEach [e2] X.env)).any (·.1) = false := by rfl) :
    ID X W (.Tuple elts kk tpos) (.Call (.Name "zip" p) [e, e2] [] pos) (izipS fa) :=
  PI.imp (pi_zip hg hm ha hs hpl) fun σ H R ⟨g, σD, M, c, h⟩ => ⟨g, σD, M, c, (RE.post_bind h).imp fun ds M1 g1 H1 _ l1 c1 h1 vs rs => by
    split at h1
    · rename_i x y
      split at h1
      · rename_i xs ys e1 e2
        obtain ⟨v, u, rfl, rx, ry⟩ := rvA2 rs
        obtain ⟨a, ws, rfl, ra, sa⟩ := lst_at c1 rx e1
        obtain ⟨b, zs, rfl, rb, sb⟩ := lst_at c1 ry e2
        exact ⟨a, b, ws, zs, rfl, sa, sb, h1 g1 H1 (Le.refl _ _) c1 _ (itOk_z rx ry)⟩
      · exact h1.elim
    · exact h1.elim⟩
end
end Lf

/-! Lf16: try .. except X as n, the exception held; try .. except X. -/
namespace Lf
open PySem PySem.Spec PyProof.Rows L2

/-- an object that stands beside what is tracked, and is no frame, cell, pin, is tracked from now on -/
theorem inv_adopt {X : Cx} {pins : List (Addr × Obj)} {σ : L2.St} {H : Hp} {s : Shared} {a : Addr} {o : HO} (I : Inv X pins σ H s) (h0 : X.s_0.heap.get? a = none) (ha : H a = none) (nL : a ≠ X.env.locals) (nc : ∀ x c, X.env.cells.lookup x = some c → c ≠ a)
    (np : ∀ p ∈ X.pn ++ pins, p.1 ≠ a) (new : ObjOk X.prog X.w (upd H a o) s.heap a o) : Inv X pins σ (upd H a o) s := by
  have b := I.base
  refine ⟨I.ok, I.os, I.bare, ⟨b.keep, b.slot, fun c u e n hx => ?_, b.there, fun c xs e => ?_, fun c u xs e => ?_, fun c ps e => ?_⟩, I.loc, I.cell, ?_, fun x c e => ?_, fun p hp => ?_, I.hok.laidN (fun _ _ q => q) ha new, I.len⟩
  · rw [upd_ne (fun z => by rw [z, h0] at e; cases e)]
    exact b.free c u e n hx
  · have q := b.tups c xs e
    rw [upd_ne (ne_of_none q ha)]
    exact q
  · have q := b.frzs c u xs e
    rw [upd_ne (ne_of_none q ha)]
    exact q
  · obtain ⟨m, q⟩ := b.tbls c ps e
    refine ⟨m, ?_⟩
    rw [upd_ne (ne_of_none q ha)]
    exact q
  · rw [upd_ne (Ne.symm nL)]
    exact I.free
  · rw [upd_ne (nc x c e)]
    exact I.freeC x c e
  · obtain ⟨e1, e2, e3, e4, e5⟩ := I.pin p hp
    refine ⟨e1, ?_, e3, e4, e5⟩
    rw [upd_ne (np p hp)]
    exact e2
theorem exH_ok {P : Program} {w : World} {H : Hp} {h : Heap} {a : Addr} {cls : Value} {oe : Obj} {vs : Array Value} (e : h.get? a = some oe) (z : Zc cls none oe) (d : oe.data = .fields vs) : ObjOk P w H h a (ExH cls a) :=
  ⟨⟨oe, vs, ⟨e, z⟩, d⟩, ⟨oe, e⟩, fun _ _ ⟨o, v, ⟨q, z⟩, r⟩ k => ⟨o, v, ⟨k o q, z⟩, r⟩⟩
/-- a suite that knows nothing of the exception's object -/
theorem inv_suite {X : Cx} {pins : List (Addr × Obj)} {σ : L2.St} {H : Hp} {s : Shared} (I : Inv X pins σ H s) (a : Addr) : Inv (X.suite a (X.pn ++ pins)) [] σ H s :=
  ⟨I.ok.suite _ _, I.os, I.bare, I.base, I.loc, I.cell, I.free, I.freeC, fun p hp => I.pin p (by rw [List.append_nil] at hp; exact hp), I.hok, I.len⟩
theorem inv_unsuite {X : Cx} {pins pn' : List (Addr × Obj)} {σ : L2.St} {H : Hp} {s : Shared} {a : Addr} (I : Inv (X.suite a (X.pn ++ pins)) pn' σ H s) (ok : X.Ok) : Inv X pins σ H s :=
  ⟨ok, I.os, I.bare, I.base, I.loc, I.cell, I.free, I.freeC, fun p hp => I.pin p (List.mem_append_left _ hp), I.hok, I.len⟩
/-- the ends of a suite whose name, in slot i, goes -/
def endsW (i : Nat) (D : Ends) : Ends := { nx := fun σ' H' => D.nx (σ'.set i none) H', rt := D.rt, bk := fun σ' H' => D.bk (σ'.set i none) H', ct := fun σ' H' => D.ct (σ'.set i none) H' }
/-- what a clause that holds the exception wishes -/
def wHeld (K : PySem.W.Frag) (c : Value) (i : Nat) (ts : TS) (Wout : WX) (D : Ends) : WX := fun cls d σ H =>
  ∃ b, PySem.W.exmOne K cls c = some b ∧ (b = true → d = none ∧ ∀ a, H a = none → ts (endsW i D) (σ.set i (some (.ref a))) (upd H a (ExH cls a))) ∧ (b = false → Wout cls d σ H)
section
variable {X : Cx} {x n : Str} {c : Value} {i : Nat} {body suite : List Stmt} {b₀ : Stmt} {np pos pos' : Pos} {tb : WX → TS} {ts : TS} {Wout : WX}
theorem ps_try_held (hs : X.stack = X.env :: X.outer) (hf : X.env.frame = some X.env.locals) (hex : X.ex = []) (hN : X.N.Nodup) (hi : X.N[i]? = some n) (hln : X.env.kindOf n = some .local) (hc : Names X x c) (tk : Takes X Wout)
    (hb : ∀ (W : WX) (pn : List (Addr × Obj)) (xe : Value → Shared → Prop), Takes (X.tr pn xe) W → PassesOwn (model X.prog X.w) X.A X.env xe → PSs (X.tr pn xe) body (tb W))
    (hsu : ∀ (a : Addr) (pn : List (Addr × Obj)), PSs (X.suite a pn) (b₀ :: suite) ts) :
    PS X (.Try body [.ExceptHandler (some (.Name x np)) (some n) (b₀ :: suite) pos'] [] [] pos) (fun D σ H => tb (wHeld X.K c i ts Wout D) D σ H) := by
  refine ⟨fun pins s σ H D I h => ?_⟩
  have ok := I.ok
  have hfr : X.A.frames = some (X.env :: X.outer) := by rw [ok.frames, hs]
  have hloc : Loc X.env.scope n := .inl hln
  refine wpAny_Try_except ?_
  refine wpAny_mono ((hb (wHeld X.K c i ts Wout D) (X.pn ++ pins) (fun e s₁ => wpAny (model X.prog X.w) X.A (noteFrame e X.env) (fun _ s₂ => wpAny (model X.prog X.w) X.A (setFlight e none) (fun _ s₃ =>
    wpAny (model X.prog X.w) X.A (handleBy e X.env [.ExceptHandler (some (.Name x np)) (some n) (b₀ :: suite) pos']) (SP X pins D) X.xe s₃) X.xe s₂) X.xe s₁) (fun u s' xx => ?_) PassesOwn.looking).run [] s σ H D (I.toTry _) h) (fun f s1 hsp => ?_) (fun e s1 he => he)
  · obtain ⟨a, B, sI, pins', σ', H', cls, d, rfl, J', nb, up, sky, na, os, ag, b, hb1, hyes, hno⟩ := xx
    have J : Inv X pins σ' H' sI := J'.ofTry ok
    have sk : Sky B (X.env :: X.outer) a (Zc cls d) X.env.locals s'.heap := by rw [← hs]; exact sky
    show wpAny (model X.prog X.w) X.A (noteFrame (.ref a) X.env) _ _ _
    refine Sky.land Zc.steady hfr hf sk fun h3 fl3 up3 => ?_
    have J3 : Inv X pins σ' H' { s' with heap := h3 } := J.landed nb fl3.1 (up.trans up3) os ag
    obtain ⟨oe3, vs3, he3, hz3, hd3⟩ := fl3.there
    have nfr : a ∉ frs (X.env :: X.outer) := fun hm => by
      obtain ⟨_, o', e', hnf⟩ := fl3.2.2.1.mem hm
      rw [he3] at e'; cases e'
      exact hnf _ hd3
    have nL : a ≠ X.env.locals := fun z => nfr (List.mem_filterMap.mpr ⟨X.env, List.mem_cons_self, by rw [hf, z]⟩)
    have nF : a ∉ X.fs := fun hm => by
      obtain ⟨e, he, q⟩ := List.mem_filterMap.mp hm
      exact nfr (List.mem_filterMap.mpr ⟨e, List.mem_cons_of_mem _ he, q⟩)
    have S3 := J3.suite he3 hd3 na nL nF
    refine wpAny_handleBy_cons (codeAny_handlers_test ?_) (by intro q; cases q)
    have LT : PySem.W.Looks (model X.prog X.w) h3 (typeOf (.ref a)) cls := fun A Q E s k q => wpAny_typeOf_ref (k _ _ he3) (by rw [hz3.1]; exact q)
    have LM := PySem.W.exm_one (M := model X.prog X.w) (J3.kIn) LT hb1
    have test : ∀ {Q : Value → Shared → Prop} {E : Value → Shared → Prop}, Q c { s' with heap := h3 } → wpAny (model X.prog X.w) (X.A.mark (some (.ref a))) (eval (.Name x np) X.env) Q E { s' with heap := h3 } := fun {Q E} q => by
      obtain ⟨hg, hdbg, hm | ⟨hm, hv, hnn⟩⟩ := hc
      · exact ld_glob (X := X.suite a ((a, oe3) :: (X.pn ++ pins))) S3 hg hm q hdbg
      · exact ld_blt (X := X.suite a ((a, oe3) :: (X.pn ++ pins))) S3 hg hm hv q hnn hdbg
    refine test (LM.here ?_)
    cases b with
    | true =>
      refine codeAny_handlers_suite_as ?_
      refine HandSPX.lands_againZ fl3 fun h4 fl4 up4 => ?_
      have J4 : Inv X pins σ' H' { s' with heap := h4 } := J.landed nb fl4.1 ((up.trans up3).trans up4) os ag
      obtain ⟨oe4, vs4, he4, hz4, hd4⟩ := fl4.there
      obtain ⟨hd0, hys⟩ := hyes rfl
      subst hd0
      have nI : ∀ o, sI.heap.get? a ≠ some o := fun o e => by
        have z := nb a o e (by rw [hs]; exact nfr)
        rw [fl4.2.1] at z
        cases z
      have n0 : X.s_0.heap.get? a = none := by
        cases e : X.s_0.heap.get? a with
        | none => rfl
        | some o =>
          obtain ⟨o', e'⟩ := J.base.there a o e (by rw [hex]; exact fun z => nomatch z)
          exact absurd e' (nI o')
      have J5 : Inv X pins σ' (upd H' a (ExH cls a)) { s' with heap := h4 } := by
        refine inv_adopt J4 n0 na nL (fun y k e z => ?_) (fun p hp z => ?_) (exH_ok he4 hz4 hd4)
        · obtain ⟨v, o, ho, hdat⟩ := J4.cell y k e
          have he4' : h4.get? k = some oe4 := by rw [z]; exact he4
          have ho' : h4.get? k = some o := ho
          rw [he4'] at ho'
          cases ho'
          rw [hd4] at hdat
          cases hdat
        · obtain ⟨e1, _⟩ := J.pin p hp
          rw [z] at e1
          exact nI _ e1
      have S5 := inv_suite J5 a
      refine store_ok (X := X.suite a (X.pn ++ pins)) (v := .ref a) S5 hN hi hloc rfl (fun s5 S6 => ?_) (.inr hln)
      refine wpAny_mono ((hsu a (X.pn ++ pins)).run [] s5 _ _ _ S6 (hys a na)) (fun f s6 hsp => ?_) (fun _ _ z => False.elim z)
      have fin : ∀ {σ6 : L2.St} {H6 : Hp} {Q : Shared → Prop}, Inv (X.suite a (X.pn ++ pins)) [] σ6 H6 s6 → (∀ s7, Inv X pins (σ6.set i none) H6 s7 → Q s7) →
          wpAny (model X.prog X.w) X.A (do bindName X.env n .none; unbindBehindTheSuite X.env n pos') (fun _ s7 => Q s7) X.xe s6 := fun {σ6 H6 Q} S6 hq => gone_ok (inv_unsuite S6 ok) hN hi hln hq
      cases f with
      | next =>
        obtain ⟨σ6, H6, S6, q6⟩ := hsp
        exact fin S6 fun s7 J7 => ⟨_, _, J7, q6⟩
      | brk =>
        obtain ⟨σ6, H6, S6, q6⟩ := hsp
        exact fin S6 fun s7 J7 => ⟨_, _, J7, q6⟩
      | cont =>
        obtain ⟨σ6, H6, S6, q6⟩ := hsp
        exact fin S6 fun s7 J7 => ⟨_, _, J7, q6⟩
      | ret u =>
        obtain ⟨v6, σ6, H6, S6, r6, q6⟩ := hsp
        exact fin S6 fun s7 J7 => ⟨_, _, _, J7, r6, q6⟩
    | false =>
      show wpAny _ X.A (handleBy (.ref a) X.env []) _ _ _
      refine wpAny_handleBy_nil ?_
      obtain ⟨k1, k2, k3, oe, vs, T, oT, ts', he, hz, hd, h1, hr⟩ := id fl3
      unfold PySem.passOn
      refine wpAny_bind (wpAny_field he hd h1 ?_)
      rw [if_neg (show ¬ ((Value.ref T == Value.none) = true) from by simp)]
      have fin : wpAny (model X.prog X.w) X.A (setFlight (.ref a) X.env.frame) (fun _ s4 => wpAny (model X.prog X.w) X.A (throw (.ref a) : Sem Flow) (SP X pins D) X.xe s4) X.xe { s' with heap := h3 } := by
        rw [hf]
        refine HandSPX.setFlight_upZ fl3 fun h4 hh4 up4 => wpAny_throw (tk _ _ ?_)
        exact ⟨a, B, sI, pins, σ', H', cls, d, rfl, J, nb, (up.trans up3).trans up4, .inr (.inr (by rw [hs]; exact hh4)), na, os, ag, hno rfl⟩
      first
        | exact wpAny_bind (wpAny_pure (wpAny_bind fin))
        | exact wpAny_bind fin
  · cases f with
    | next =>
      obtain ⟨σ', H', J', q⟩ := hsp
      exact wpAny_execs_nil ⟨σ', H', J'.ofTry ok, q⟩
    | brk =>
      obtain ⟨σ', H', J', q⟩ := hsp
      exact ⟨σ', H', J'.ofTry ok, q⟩
    | cont =>
      obtain ⟨σ', H', J', q⟩ := hsp
      exact ⟨σ', H', J'.ofTry ok, q⟩
    | ret u =>
      obtain ⟨v, σ', H', J', r, q⟩ := hsp
      exact ⟨v, σ', H', J'.ofTry ok, r, q⟩
end

/-! ### as readings -/
def wipeR (i : Nat) : RS → RS
  | .nx σ M => .nx (σ.set i none) M
  | .rt d M => .rt d M
  | .bk σ M => .bk (σ.set i none) M
  | .ct σ M => .ct (σ.set i none) M
  | .ex _ _ _ => .bad
  | .bad => .bad
theorem wipeR_post {C : Ct} {W : WX} {g : Gh} {H : Hp} {E : Ends} {i : Nat} {r : RS} (h : (wipeR i r).post C W g H E) : r.post C W0 g H (endsW i E) := by
  cases r with
  | nx σD M => exact fun g' σ H' l c => h g' _ H' l (c.slots (c.sl.wipe1 i))
  | rt d M => exact h
  | bk σD M => exact fun g' σ H' l c => h g' _ H' l (c.slots (c.sl.wipe1 i))
  | ct σD M => exact fun g' σ H' l c => h g' _ H' l (c.slots (c.sl.wipe1 i))
  | ex c σD M => exact h.elim
  | bad => exact h.elim
def tryAsS (sub : Sub) (x : Str) (i : Nat) (f k : SS) : SS := fun σ M => match f σ M with
  | .ex c σ1 M1 => (match sub c x with
    | some true => wipeR i (k (σ1.set i (some (.exc c))) M1)
    | some false => .ex c σ1 M1
    | none => .bad)
  | r => r
def noexR : RS → RS
  | .ex _ _ _ => .bad
  | r => r
theorem noexR_post {C : Ct} {W : WX} {g : Gh} {H : Hp} {E : Ends} {r : RS} (h : (noexR r).post C W g H E) : r.post C W0 g H E := by
  cases r with
  | ex c σD M => exact h.elim
  | nx σD M => exact h
  | rt d M => exact h
  | bk σD M => exact h
  | ct σD M => exact h
  | bad => exact h
def tryS (sub : Sub) (x : Str) (f k : SS) : SS := fun σ M => match f σ M with
  | .ex c σ1 M1 => (match sub c x with
    | some true => noexR (k σ1 M1)
    | some false => .ex c σ1 M1
    | none => .bad)
  | r => r
section
variable {X : Cx} {W : WX} {x n : Str} {i : Nat} {body suite : List Stmt} {b₀ : Stmt} {np pos pos' : Pos} {f k : SS} {sub : Sub}
theorem s_tryAs (S : SubOk (ctx X) sub) (hx : ∃ D, X.mg x = some (.ref D)) (hs : X.stack = X.env :: X.outer) (hf : X.env.frame = some X.env.locals) (hex : X.ex = []) (hN : X.N.Nodup) (hg : Gl X x) (tk : Takes X W)
    (hb : ∀ (W : WX) (pn : List (Addr × Obj)) (xe : Value → Shared → Prop), Takes (X.tr pn xe) W → PassesOwn (model X.prog X.w) X.A X.env xe → SDs (X.tr pn xe) W body f)
    (hsu : ∀ (a : Addr) (pn : List (Addr × Obj)), SDs (X.suite a pn) W0 (b₀ :: suite) k)
    (hi : X.N[i]? = some n := by rfl) (hln : X.env.kindOf n = some .local := by rfl) (hdb : (x == ("__debug__" : Str)) = false := by decide) :
    SD X W (.Try body [.ExceptHandler (some (.Name x np)) (some n) (b₀ :: suite) pos'] [] [] pos) (tryAsS sub x i f k) := by
  obtain ⟨DX, hx⟩ := hx
  refine PS.imp (ps_try_held (c := .ref DX) (tb := fun W => tS (ctx X) W f) (ts := tS (ctx X) W0 k) hs hf hex hN hi hln ⟨hg, hdb, .inl hx⟩ tk hb hsu) fun E σ H ⟨g, σD, M, c, h⟩ => ⟨g, σD, M, c, ?_⟩
  unfold tryAsS at h
  cases e : f σD M with
  | nx s M1 => rw [e] at h; exact h
  | rt d M1 => rw [e] at h; exact h
  | bk s M1 => rw [e] at h; exact h
  | ct s M1 => rw [e] at h; exact h
  | bad => rw [e] at h; exact h
  | ex y s M1 =>
    rw [e] at h
    simp only at h
    intro g' σ' H' u l c' eu
    cases es : sub y x with
    | none => rw [es] at h; exact h.elim
    | some b =>
      rw [es] at h
      obtain ⟨D1, E1, m1, m2, _, em, _⟩ := S.two _ _ _ es
      have e1 : u = .ref D1 := Option.some.inj (eu.symm.trans m1)
      have e2 : E1 = DX := Value.ref.inj (Option.some.inj ((show X.mg x = some (.ref E1) from m2).symm.trans hx))
      subst e1 e2
      refine ⟨b, em, fun hb' => ?_, fun hb' => ?_⟩
      · subst hb'
        refine ⟨rfl, fun a na => ?_⟩
        obtain ⟨l2, c2⟩ := c'.frzL (o := ExH (.ref D1) a) na
        refine ⟨_, _, M1, c2.set i (d := .exc y) (v := .ref a) ?_, wipeR_post (RS.post.mono h (l.trans l2))⟩
        simp only [Rv]
        exact ⟨a, .ref D1, rfl, m1, upd_same⟩
      · subst hb'
        exact h g' σ' H' _ l c' m1
theorem s_try (S : SubOk (ctx X) sub) (hx : ∃ D, X.mg x = some (.ref D)) (hs : X.stack = X.env :: X.outer) (hf : X.env.frame = some X.env.locals) (hg : Gl X x) (tk : Takes X W)
    (hb : ∀ (W : WX) (pn : List (Addr × Obj)) (xe : Value → Shared → Prop), Takes (X.tr pn xe) W → PassesOwn (model X.prog X.w) X.A X.env xe → SDs (X.tr pn xe) W body f)
    (hsu : ∀ (a : Addr) (pn : List (Addr × Obj)), SDs (X.suite a pn) W0 (b₀ :: suite) k)
    (hdb : (x == ("__debug__" : Str)) = false := by decide) :
    SD X W (.Try body [.ExceptHandler (some (.Name x np)) none (b₀ :: suite) pos'] [] [] pos) (tryS sub x f k) := by
  obtain ⟨DX, hx⟩ := hx
  refine PS.imp (ps_try_only (c := .ref DX) (tb := fun W => tS (ctx X) W f) (ts := fun _ _ _ => tS (ctx X) W0 k) hs hf ⟨hg, hdb, .inl hx⟩ tk hb (fun a oe cls d pn _ _ => hsu a _)) fun E σ H ⟨g, σD, M, c, h⟩ => ⟨g, σD, M, c, ?_⟩
  unfold tryS at h
  cases e : f σD M with
  | nx s M1 => rw [e] at h; exact h
  | rt d M1 => rw [e] at h; exact h
  | bk s M1 => rw [e] at h; exact h
  | ct s M1 => rw [e] at h; exact h
  | bad => rw [e] at h; exact h
  | ex y s M1 =>
    rw [e] at h
    simp only at h
    intro g' σ' H' u l c' eu
    cases es : sub y x with
    | none => rw [es] at h; exact h.elim
    | some b =>
      rw [es] at h
      obtain ⟨D1, E1, m1, m2, _, em, _⟩ := S.two _ _ _ es
      have e1 : u = .ref D1 := Option.some.inj (eu.symm.trans m1)
      have e2 : E1 = DX := Value.ref.inj (Option.some.inj ((show X.mg x = some (.ref E1) from m2).symm.trans hx))
      subst e1 e2
      refine ⟨b, em, fun hb' => ?_, fun hb' => ?_⟩
      · subst hb'
        exact fun a na => ⟨g', _, M1, c', noexR_post (RS.post.mono h l)⟩
      · subst hb'
        exact h g' σ' H' _ l c' m1
end
end Lf

/-! Lf17: -a. -/
namespace Lf
open PySem PySem.Spec PyProof.Rows L2
section
variable {X : Cx} {W : WX} {pos : Pos}
def negM (_ : Mem) (x : D) : Option D := match x with
  | .int i => some (.int (-i))
  | _ => none
theorem neg_ok {C : Ct} : Op1 C negM (fun x H Q => ∃ i, x = .int i ∧ Q (.int (-i)) H) := by
  intro g σ σD M H x vx d Q c r e k
  unfold negM at e
  split at e
  · cases e
    exact ⟨_, rv_int r, k g _ H (Le.refl _ _) c rv_i⟩
  · cases e
theorem d_neg {a : Expr} {fa : SE} (ha : PD X W a fa) : PD X W (.UnaryOp .USub a pos) (op1 negM fa) := PE.imp (pe_un un_neg ha) (un_imp (neg_ok (C := ctx X)))
theorem s_setLcN {i : Nat} {y : Str} {py : Pos} {elt tg iter : Expr} {ifs : List Expr} {scope : Scope} {own : List (Str × Nat)} {spos : Pos} {fi : SI} {t : Tg} {tt : ST} {f : SE} (hc : X.calm = true) (hN : X.N.Nodup) (hsw : swapsWith (.ListComp elt [⟨tg, iter, ifs, 0⟩] scope pos) (some (.Name y py)) spos.line X.env = pure true) (ok : BlkOk X.N X.env.scope scope own) (ht : ∀ i ∈ Tg.ix t, i ∈ own.map (·.2)) (hi : ID X W tg iter fi)
    (hg : ∀ (s : Shared) (H : Hp) (C : Addr) (cl : List (Str × Addr)) (fp : List Addr), GD (X.blk s H scope (compEnvC scope cl C X.env) fp) tg t) (htt : ∀ (s : Shared) (H : Hp) (C : Addr) (cl : List (Str × Addr)) (fp : List Addr), TDs (X.blk s H scope (compEnvC scope cl C X.env) fp) W0 ifs tt)
    (he : ∀ (s : Shared) (H : Hp) (C : Addr) (cl : List (Str × Addr)) (fp : List Addr), PD (X.blk s H scope (compEnvC scope cl C X.env) fp) W0 elt f) (hy : X.N[i]? = some y := by rfl) (hyl : X.env.scope.names.lookup y = some .local := by rfl) (hs : ∀ x, foldedSetIterable iter X.env x = pure x := by intro _; rfl) :
    SD X W (.Assign [.Name y py] (.ListComp elt [⟨tg, iter, ifs, 0⟩] scope pos) spos) (setS i (lcNS fi t (own.map (·.2)) tt f)) := by
  refine PS.imp (ps_setLc (te := tE (ctx X) W0 f) (tt := tT (ctx X) W0 tt) (g := gT X.K t) hc hN hy hyl hsw hi ok hg htt he hs) fun E σ H ⟨g, σD, M, c, h⟩ => ?_
  refine lc_impN (C := ctx X) ht σ H _ ⟨g, σD, M, c, ?_⟩
  unfold setS at h
  cases e : lcNS fi t (own.map (·.2)) tt f σD M with
  | ok d M1 =>
    rw [e] at h
    exact fun g' H' l c' v r => h g' _ H' l (c'.set i r)
  | ex x M1 =>
    rw [e] at h
    exact fun g' H' u l c' e => h g' σ H' u l c' e
  | bad => rw [e] at h; exact h
end
end Lf

/-! Lf18: a list put together that will change; xs[::-1]; upper; isinstance of two classes; dicts that stay; repr of any data. -/
namespace Lf
open PySem PySem.Spec PyProof.Rows L2
section
variable {X : Cx} {W : WX} {pos : Pos}
def addNS (fa fb : SE) : SE := fun σ M => (fa σ M).bind fun x M1 => (fb σ M1).bind fun y M2 => match dirOf M2 x, dirOf M2 y with
  | some a, some b => if a.length + b.length ≤ 16000000 then .ok (.ref M2.length) (M2 ++ [.lst (a ++ b)]) else .bad
  | _, _ => .bad
theorem d_addN {a b : Expr} {fa fb : SE} (ha : PD X W a fa) (hb : PD X W b fb) : PD X W (.BinOp a .Add b pos) (addNS fa fb) :=
  PE.imp (pe_op opr_add ha hb) fun σ H Q ⟨g, σD, M, c, h⟩ => ⟨g, σD, M, c, (RE.post_bind h).imp fun x M1 g1 H1 _ l1 c1 h1 vx rx => ⟨g1, σD, M1, c1, (RE.post_bind h1).imp fun y M2 g2 H2 _ l2 c2 h2 vy ry => by
    split at h2
    · rename_i a b ea eb
      split at h2
      · rename_i hl
        obtain ⟨p, vs, rfl, rs, hp⟩ := dir_at c2 (Rv.mono l2.gh _ _ rx) ea
        obtain ⟨q, us, rfl, ru, hq⟩ := dir_at c2 ry eb
        refine .inr (.inr (.inr ⟨p, q, vs, us, rfl, rfl, hp, hq, line_le (by rw [← rs.length, ← ru.length]; exact hl), fun r hr => ?_⟩))
        obtain ⟨l3, c3, r3⟩ := c2.newL (o := .lst (vs ++ us)) hr (.lst (rs.append ru))
        exact h2 _ _ l3 c3 _ r3
      · exact h2.elim
    · exact h2.elim⟩⟩

/-! ### xs[::-1] -/
theorem adjust_rev (n : Nat) : Builtin.Slice.sliceAdjust none none (-1) (n : Int) = ((n : Int) - 1, -1) := by
  unfold Builtin.Slice.sliceAdjust
  rfl
theorem places_rev (n : Nat) : Builtin.Slice.slicePlaces ((n : Int) - 1) (-1) (-1) = n := by
  unfold Builtin.Slice.slicePlaces
  have h1 : ¬ ((-1 : Int) > 0) := by decide
  simp only [h1, if_false]
  have e : (-(-1 : Int)) = 1 := by decide
  rw [e, Int.ediv_one]
  split <;> omega
section
variable {prog : Program} {w : World} {A : Around} {E : Value → Shared → Prop} {s : Shared}
theorem sliceApplied_rev {sl : Addr} {vl vu vs : Value} {n : Nat} {Q : Int × Int × Nat → Shared → Prop} (hs : s.heap.IsSliceOf sl vl vu vs) (pl : IsPart vl none) (pu : IsPart vu none) (ps : IsPart vs (some (-1)))
    (h : Q ((n : Int) - 1, -1, n) s) : wpAny (model prog w) A (Builtin.Slice.sliceApplied (.ref sl) (pure (n : Int))) Q E s := by
  obtain ⟨os, hos, hcs, hds⟩ := id hs
  unfold Builtin.Slice.sliceApplied Builtin.Slice.sliceFields
  refine wpAny_bind (wpAny_bind (wpAny_field hos hds (x := vl) rfl (wpAny_bind (wpAny_field hos hds (x := vu) rfl (wpAny_bind (wpAny_field hos hds (x := vs) rfl (wpAny_pure ?_)))))))
  refine wpAny_bind (HT.slicePart_ ps ?_)
  show wpAny _ _ (if ((-1 : Int) == 0) = true then _ else _) _ _ s
  rw [if_neg (by decide)]
  refine wpAny_bind (HT.slicePart_ pl (wpAny_bind (HT.slicePart_ pu (wpAny_bind (wpAny_pure ?_)))))
  show wpAny _ _ (match Builtin.Slice.sliceAdjust none none (-1) (n : Int) with | (lo, hi) => pure (lo, (-1 : Int), Builtin.Slice.slicePlaces lo hi (-1))) _ _ s
  rw [adjust_rev n]
  show wpAny _ _ (pure ((n : Int) - 1, (-1 : Int), Builtin.Slice.slicePlaces ((n : Int) - 1) (-1) (-1))) _ _ s
  rw [places_rev]
  exact wpAny_pure h
theorem fm_congr {α β : Type} {f g : α → Option β} : ∀ {l : List α}, (∀ m ∈ l, f m = g m) → l.filterMap f = l.filterMap g
  | [], _ => rfl
  | a :: l, h => by
    have ih := fm_congr (l := l) fun m hm => h m (by simp [hm])
    simp only [List.filterMap_cons, h a (by simp), ih]
theorem pick_rev (xs : Array Value) : ((List.range xs.size).filterMap fun (m : Nat) => xs[(((xs.size : Int) - 1) + (m : Int) * (-1)).toNat]?).toArray = xs.toList.reverse.toArray := by
  have e : ((List.range xs.size).filterMap fun (m : Nat) => xs[(((xs.size : Int) - 1) + (m : Int) * (-1)).toNat]?) = (List.range xs.size).filterMap fun m => xs[xs.size - 1 - m]? := by
    refine fm_congr fun m hm => ?_
    have := List.mem_range.mp hm
    have e2 : (((xs.size : Int) - 1) + (m : Int) * (-1)).toNat = xs.size - 1 - m := by omega
    exact congrArg (fun i => xs[i]?) e2
  rw [e]
  have e3 : ((List.range xs.size).filterMap fun m => xs[xs.size - 1 - m]?) = ((List.range xs.size).map fun m => xs.size - 1 - m).filterMap (xs[·]?) := by
    rw [List.filterMap_map]
    rfl
  rw [e3, PySem.W.krv_range, List.filterMap_reverse, PySem.W.krv_all]
theorem getItem_tuple_rev {t sl : Addr} {items : Array Value} {vl vu vs : Value} {Q : Value → Shared → Prop} (ht : IsTup s.heap t items) (hs : s.heap.IsSliceOf sl vl vu vs) (pl : IsPart vl none) (pu : IsPart vu none) (ps : IsPart vs (some (-1)))
    (h : Q (.ref s.heap.objs.size) { s with heap := s.heap.push { cls := .type "tuple", data := .seq items.toList.reverse.toArray } })
    (hsz : items.size ≤ sizeLine) : wpAny (model prog w) A (getItem (.ref t) (.ref sl)) Q E s := by
  have htake : sizeOk (.seq items.toList.reverse.toArray) := by
    show items.toList.reverse.toArray.size ≤ sizeLine
    rw [List.size_toArray, List.length_reverse, Array.length_toList]
    exact hsz
  obtain ⟨os, hos, hcs, hds⟩ := id hs
  have hTs : s.TypeIs (.ref sl) "slice" := ⟨os, hos, hcs⟩
  unfold getItem
  try with_reducible refine wpAny_holding ?_
  first | refine wpAny_bind (wpAny_pure ?_) | skip
  refine wpAny_bind (wpAny_sequenceKey ht.typeIs (by decide) ?_)
  refine wpAny_bind (wpAny_callSpecial?_slot (name := Str.ofString "__getitem__") ht.typeIs PyProof.Rows.slot_tuple_getitem
    (wpAny_call_entry PyProof.Rows.slot_tuple_getitem ht.typeIs entry_tuple_getitem ?_ (args_tuple_getitem _ _)))
  show wpAny _ _ (Builtin.Tuple.tupleItemsOf (.ref t) >>= _) _ _ s
  refine wpAny_bind (tupleItemsOf_ ht ?_)
  refine wpAny_bind (wpAny_typeOf hTs ?_)
  rw [if_pos (by decide)]
  refine wpAny_bind (sliceApplied_rev hs pl pu ps ?_)
  have hno : ¬ ((((items.size : Int) - 1) == 0 && (-1 : Int) == 1 && items.size == items.size) = true) := by
    intro q
    rw [Bool.and_eq_true, Bool.and_eq_true] at q
    exact absurd q.1.2 (by decide)
  show wpAny _ _ (if (((items.size : Int) - 1) == 0 && (-1 : Int) == 1 && items.size == items.size) = true then _ else _) _ _ s
  rw [if_neg hno, pick_rev]
  first
    | exact wpAny_bind (m := Builtin.Tuple.tupleExact _) (wpAny_newObj_type (wpAny_pure ⟨_, rfl, wpAny_pure h⟩) htake)
    | exact wpAny_bind (m := Builtin.Tuple.tupleExact _) (wpAny_newObj_type (wpAny_bind (wpAny_pure (wpAny_pure ⟨_, rfl, wpAny_pure h⟩))) htake)
    | exact wpAny_bind (wpAny_bind (m := Builtin.Tuple.tupleExact _) (wpAny_newObj_type (wpAny_pure (wpAny_pure ⟨_, rfl, wpAny_pure h⟩)) htake))
    | exact wpAny_bind (wpAny_bind (m := Builtin.Tuple.tupleExact _) (wpAny_newObj_type (wpAny_pure ⟨_, rfl, wpAny_pure h⟩) htake))
end
def tRevA (K : PySem.W.Frag) (te : TE) : TE := fun σ H Q => te σ H fun x H1 => ∃ a xs, x = .ref a ∧ ((SqL K H1 a xs ∧ ∀ p, H1 p = none → Q (.ref p) (upd H1 p (.lst xs.reverse))) ∨ (SqT K H1 a xs ∧ ∀ p, H1 p = none → Q (.ref p) (upd H1 p (.tup xs.reverse))))
theorem pe_revA {e : Expr} {te : TE} {k : Nat} {p1 p2 p3 : Pos} (he : PE X e te) : PE X (.Subscript e (.Slice none none (some (.UnaryOp .USub (.Constant (.int 1) k p1) p2)) p3) pos) (tRevA X.K te) := by
  refine ⟨fun pins s σ H Q I h => ?_⟩
  refine Subscript_ (thn (he.run pins s σ H _ I h) fun v s1 ⟨x, H1, I1, r1, q1⟩ => ?_)
  obtain ⟨a, xs, ex, hx⟩ := q1
  subst ex
  cases r1
  have hst : PO X (some (.UnaryOp .USub (.Constant (.int 1) k p1) p2)) (tPart (tUn (rU fun i => .int (-i)) (tC (.int 1)))) := po_some (pe_un un_neg pe_int)
  refine wpAny_Slice (thn (po_none.run pins s1 σ H1 (fun o H2 => o = none ∧ H2 = H1) I1 ⟨rfl, rfl⟩) fun vl s2 ⟨l, H2, I2, pl, el, e2⟩ => ?_)
  subst el e2
  refine thn (po_none.run pins s2 σ H2 (fun o H3 => o = none ∧ H3 = H2) I2 ⟨rfl, rfl⟩) fun vu s3 ⟨u, H3, I3, pu, eu, e3⟩ => ?_
  subst eu e3
  refine thn (hst.run pins s3 σ H3 (fun o H4 => o = some (-1) ∧ H4 = H3) I3 ⟨1, rfl, -1, rfl, rfl, rfl⟩) fun vs s4 ⟨o, H4, I4, ps, eo, e4⟩ => ?_
  subst eo e4
  have I5 : Inv X pins σ H4 { s4 with heap := s4.heap.push { cls := .type "slice", data := .fields #[vl, vu, vs] } } := I4.kept (t' := s4.toks) fun b ob q => Heap.get?_push_of_some _ q
  show wpAny (model X.prog X.w) X.A (subscriptTail e (.Slice none none (some (.UnaryOp .USub (.Constant (.int 1) k p1) p2)) p3) (.ref a) (.ref s4.heap.objs.size)) (EP X pins σ Q) X.xe { s4 with heap := s4.heap.push { cls := .type "slice", data := .fields #[vl, vu, vs] } }
  rcases hx with ⟨hx, q⟩ | ⟨hx, q⟩
  · obtain ⟨its, r, ht, hz⟩ := I5.list hx
    have hlen := r.length
    refine tail_any (ops := [.ref a, .ref s4.heap.objs.size]) ht.isList.typeIs (PySem.slot_list_getitem.lookup) ?_ (by with_unfolding_all rfl)
    refine wpAny_getItem_list_slice ht.isList (Heap.IsSliceOf.new _ vl vu vs) pl pu ps (by decide) ?_ (by rw [List.size_toArray]; omega)
    rw [PySem.W.krv_pick]
    refine ⟨.ref _, _, I5.laid (t' := s4.toks) (o := .lst xs.reverse) (fun b ob q => Heap.get?_push_of_some _ q) (Nat.le_refl _) ?_, rfl, q _ (I5.hok.fresh (Nat.le_refl _))⟩
    exact ⟨by rw [List.length_reverse]; exact hz, _, 0, r.reverse, Heap.get?_push_size _ rfl⟩
  · obtain ⟨its, r, ht, hz⟩ := I5.tuple hx
    have hlen := r.length
    refine tail_any (ops := [.ref a, .ref s4.heap.objs.size]) ht.typeIs (PyProof.Rows.slot_tuple_getitem.lookup) ?_ (by with_unfolding_all rfl)
    refine getItem_tuple_rev ht (Heap.IsSliceOf.new _ vl vu vs) pl pu ps ?_ (by rw [List.size_toArray]; omega)
    refine ⟨.ref _, _, I5.laid (t' := s4.toks) (o := .tup xs.reverse) (fun b ob q => Heap.get?_push_of_some _ q) (Nat.le_refl _) ?_, rfl, q _ (I5.hok.fresh (Nat.le_refl _))⟩
    exact ⟨by rw [List.length_reverse]; exact hz, _, r.reverse, _, Heap.get?_push_size _ rfl, rfl, 0, rfl⟩
def revM (M : Mem) (x : D) : Option D := match x with
  | .tup ds => some (.tup ds.reverse)
  | x => (lstOf M x).map fun ds => .lst ds.reverse
theorem d_rev {e : Expr} {f : SE} {k : Nat} {p1 p2 p3 : Pos} (he : PD X W e f) : PD X W (.Subscript e (.Slice none none (some (.UnaryOp .USub (.Constant (.int 1) k p1) p2)) p3) pos) (op1 revM f) :=
  PE.imp (pe_revA he) fun σ H Q ⟨g, σD, M, c, h⟩ => ⟨g, σD, M, c, (RE.post_bind h).imp fun x M1 g1 H1 _ l1 c1 h1 vx rx => by
    split at h1
    · rename_i d e
      unfold revM at e
      split at e
      · cases e
        obtain ⟨a, vs, rfl, rs, hs⟩ := tup_at c1 rx
        exact ⟨a, vs, rfl, .inr ⟨hs, fun p hp => frz_t c1 hp rs.reverse fun g' v H' l c r => h1 g' H' l c v r⟩⟩
      · simp only [Option.map_eq_some_iff] at e
        obtain ⟨ds, e, rfl⟩ := e
        obtain ⟨a, vs, rfl, rs, hs⟩ := lst_at c1 rx e
        exact ⟨a, vs, rfl, .inl ⟨hs, fun p hp => frz_l c1 hp rs.reverse fun g' v H' l c r => h1 g' H' l c v r⟩⟩
    · exact h1.elim⟩
end
end Lf

/-! Lf19: upper; isinstance of two classes; dicts that stay; repr of any data; the hook that knows sys.modules. -/
namespace Lf
open PySem PySem.Spec PyProof.Rows L2
section
variable {X : Cx} {W : WX} {pos : Pos}
def upperM (_ : Mem) (x : D) : Option D := match x with
  | .str a => if a.length ≤ 5000000 then some (.str (Txt.upper a)) else none
  | _ => none
theorem d_upper {o : Expr} {fo : SE} {apos : Pos} (ho : PD X W o fo) (hbase : attributeBase o "upper" X.env (eval o X.env) = eval o X.env := by rfl) (hline : (apos.endLine == pos.line) = true := by rfl) :
    PD X W (.Call (.Attribute o "upper" apos) [] [] pos) (op1 upperM fo) :=
  PE.imp (pe_upper ho hbase hline) fun σ H Q ⟨g, σD, M, c, h⟩ => ⟨g, σD, M, c, (RE.post_bind h).imp fun x M1 g1 H1 _ l1 c1 h1 vx rx => by
    split at h1
    · rename_i d e
      unfold upperM at e
      split at e
      · rename_i a _
        split at e
        · rename_i hl
          cases e
          rw [rv_str rx]
          exact ⟨⟨a, rfl⟩, a, rfl, rfl, by omega, h1 g1 H1 (Le.refl _ _) c1 _ rv_s⟩
        · cases e
      · cases e
    · exact h1.elim⟩

/-! ### isinstance(x, (S, T)) -/
def isB (t n : String) : Bool := t == n || (t == "bool" && n == "int")
def isi2S (n1 n2 : String) (fe : SE) : SE := fun σ M => (fe σ M).bind fun x M1 => if tyL.contains n1 = true ∧ tyL.contains n2 = true then (match tyN M1 x with
  | some t => .ok (.bl (isB t n1 || isB t n2)) M1
  | none => .bad) else .bad
theorem d_isi2 {n1 n2 : String} {x1 x2 : Str} {e : Expr} {fe : SE} {k : Nat} {p p1 p2 tpos : Pos} (hm : X.mg "isinstance" = none) (hm1 : X.mg x1 = none) (hm2 : X.mg x2 = none) (he : PD X W e fe)
    (hv1 : bootBuiltins x1 = some (.type n1)) (hv2 : bootBuiltins x2 = some (.type n2)) (hg1 : Gl X x1 := by rfl) (hg2 : Gl X x2 := by rfl) (hn1 : x1 ≠ "__name__" := by decide) (hn2 : x2 ≠ "__name__" := by decide) (hd1 : (x1 == ("__debug__" : Str)) = false := by decide) (hd2 : (x2 == ("__debug__" : Str)) = false := by decide)
    (hg : Gl X "isinstance" := by rfl) (hs1 : starEach [e, .Tuple [.Name x1 p1, .Name x2 p2] k tpos] X.env = (false, eval e X.env) :: starEach [.Tuple [.Name x1 p1, .Name x2 p2] k tpos] X.env := by rfl)
    (hs2 : starEach [.Tuple [.Name x1 p1, .Name x2 p2] k tpos] X.env = (false, eval (.Tuple [.Name x1 p1, .Name x2 p2] k tpos) X.env) :: starEach [] X.env := by rfl)
    (hs3 : starEach [.Name x1 p1, .Name x2 p2] X.env = (false, eval (.Name x1 p1) X.env) :: starEach [.Name x2 p2] X.env := by rfl)
    (hs4 : starEach [.Name x2 p2] X.env = (false, eval (.Name x2 p2) X.env) :: starEach [] X.env := by rfl)
    (hpl : (backTo pos (starEach [.Tuple [.Name x1 p1, .Name x2 p2] k tpos] X.env)).any (·.1) = false := by rfl) :
    PD X W (.Call (.Name "isinstance" p) [e, .Tuple [.Name x1 p1, .Name x2 p2] k tpos] [] pos) (isi2S n1 n2 fe) :=
  PE.imp (pe_callB call_isiT hg hm (by decide +kernel) (pa_cons he (pa_cons (pe_tup (pa_cons (pe_bltn (v := .ty n1) hg1 hm1 hv1 rfl hn1 hd1) (pa_cons (pe_bltn (v := .ty n2) hg2 hm2 hv2 rfl hn2 hd2) pa_nil hs4) hs3)) pa_nil hs2) hs1) (by decide) (by decide) hs1 hpl)
    fun σ H Q ⟨g, σD, M, c, h⟩ => ⟨g, σD, M, c, (RE.post_bind h).imp fun x M1 g1 H1 _ l1 c1 h1 vx rx => by
      split at h1
      case isFalse => exact h1.elim
      rename_i hn
      split at h1
      case h_2 => exact h1.elim
      rename_i t e
      refine ⟨small_line (by simp), fun q hq => ?_⟩
      obtain ⟨l2, c2⟩ := c1.frzL (o := .tup [.ty n1, .ty n2]) hq
      obtain ⟨h2, h3⟩ := tyN_R c2 (Rv.mono l2.gh _ _ rx) e
      refine ⟨vx, q, [.ty n1, .ty n2], .type t, [.type n1, .type n2], _, rfl, upd_same, .cons (.ty n1) (.cons (.ty n2) .nil), h2, ?_, h1 _ _ l2 c2 _ rv_b⟩
      refine kitAny_cons (kit_ty (kit_of_ty h3 hn.1)) (fun hb => ?_) fun hb => ?_
      · have hb' : isB t n1 = false := hb
        rw [hb', Bool.false_or]
        refine kitAny_cons (kit_ty (kit_of_ty h3 hn.2)) (fun hb => ?_) fun hb => ?_
        · have hb' : isB t n2 = false := hb
          rw [hb']
          rfl
        · exact hb
      · have hb' : isB t n1 = true := hb
        rw [hb', Bool.true_or]⟩

/-! ### dicts that stay -/
theorem d_dic0 : PD X W (.Dict [] [] pos) (cS (.dct [] [])) :=
  PE.imp pe_dnewK fun σ H Q ⟨g, σD, M, c, h⟩ => fun p hp => by
    obtain ⟨l2, c2⟩ := c.frzL (o := .dK []) hp
    refine h _ _ l2 c2 _ ?_
    simp only [Rv]
    exact ⟨p, [], rfl, upd_same, rfl, RvA.nil⟩
theorem d_dic1 {k v : Str} {j1 j2 : _} {q1 q2 : Pos} : PD X W (.Dict [some (.Constant (.str k) j1 q1)] [.Constant (.str v) j2 q2] pos) (cS (.dct [.inr k] [.str v])) :=
  PE.imp (pe_disp (pps_cons pe_str pe_str pps_nil) rfl rfl (by simp) (by simp)) fun σ H Q ⟨g, σD, M, c, h⟩ => fun p hp => by
    show upd H p (.dK []) p = some (.dK []) ∧ _
    refine ⟨upd_same, [(.inr k, .str v)], rfl, by simp, ?_⟩
    rw [upd_upd]
    obtain ⟨l2, c2⟩ := c.frzL (o := .dK (mergeK [] [(.inr k, .str v)])) hp
    refine h _ _ l2 c2 _ ?_
    simp only [Rv]
    exact ⟨p, [(.inr k, .str v)], rfl, upd_same, rfl, RvA.cons rv_s RvA.nil⟩
end

/-! ### repr of any data -/
def keyP : L2.Key → PyData
  | .inl i => .int i
  | .inr x => .str x
mutual
/-- plain data, dicts that stay among them -/
def toQ : D → Option PyData
  | .non => some .none
  | .bl b => some (.bool b)
  | .int i => some (.int i)
  | .str x => some (.str x)
  | .tup ds => (toQA ds).map .tuple
  | .lst ds => (toQA ds).map .list
  | .dct ks ds => (toQA ds).map fun ps => .dict ((ks.map keyP).zip ps)
  | .scr _ => none
  | .ref _ => none
  | .gl _ => none
  | .ty _ => none
  | .exc _ => none
  | .kt _ => none
def toQA : List D → Option (List PyData)
  | [] => some []
  | d :: ds => match toQ d, toQA ds with
    | some p, some ps => some (p :: ps)
    | _, _ => none
end
section
variable {X : Cx} {pins : List (Addr × Obj)} {σ : L2.St} {H : Hp} {s : Shared}
theorem readsKeys {h : Heap} {P : Program} {w : World} : ∀ {es : List DictEntry} {kvs : List (L2.Key × Value)}, Pairs (mixKind P w) es kvs → ReadsAll h (es.map (·.key)) (kvs.map fun q => keyP q.1) []
  | _, _, .nil => ReadsAll.nil
  | e :: es, kv :: kvs, .cons h1 h2 t => by
    have r := readsKeys (h := h) t
    have q : Reads h e.key (keyP kv.1) [] := by
      rcases keyIs_shape h1 with ⟨i, t, e1, e2⟩ | ⟨x, t, e1, e2⟩
      · rw [e1, e2]
        exact Reads.int i t
      · rw [e1, e2]
        exact Reads.str x t
    exact ReadsAll.cons (as := []) (bs := []) q r
theorem pairsVals {P : Program} {w : World} : ∀ {es : List DictEntry} {kvs : List (L2.Key × Value)}, Pairs (mixKind P w) es kvs → es.map (·.val) = kvs.map (·.2)
  | _, _, .nil => rfl
  | e :: es, kv :: kvs, .cons h1 h2 t => by
    simp only [List.map_cons, h2, pairsVals t]
theorem kvVals : ∀ {t : List (L2.Key × V)} {vs : List (L2.Key × Value)}, L2.KV t vs → Vals (t.map (·.2)) (vs.map (·.2)) ∧ t.map (fun q => keyP q.1) = vs.map (fun q => keyP q.1)
  | _, _, .nil => ⟨.nil, rfl⟩
  | _, _, .cons h t => by
    obtain ⟨r, e⟩ := kvVals t
    exact ⟨.cons h.2 r, by simp only [List.map_cons, h.1, e]⟩
theorem zip_fst {α β : Type} : ∀ {l : List α} {r : List β}, l.length = r.length → (l.zip r).map (·.1) = l ∧ (l.zip r).map (·.2) = r
  | [], [], _ => ⟨rfl, rfl⟩
  | a :: l, b :: r, h => by
    obtain ⟨h1, h2⟩ := zip_fst (l := l) (r := r) (by simpa using h)
    exact ⟨by simp [h1], by simp [h2]⟩
theorem toQA_len : ∀ {ds : List D} {ps : List PyData}, toQA ds = some ps → ds.length = ps.length
  | [], ps, e => by
    simp only [toQA, Option.some.injEq] at e
    subst e
    rfl
  | d :: ds, ps, e => by
    simp only [toQA] at e
    split at e
    · rename_i p ps' e1 e2
      cases e
      simp [toQA_len e2]
    · cases e
mutual
theorem q_reads {g : Gh} (I : Inv X pins σ H s) (le : ∀ a o, g.G a = some o → H a = some o) (hS : ∃ o, s.heap.get? sysModules = some o ∧ o.cls = .type "dict") : ∀ (d : D) (p : PyData) (v : V) (u : Value), Rv (ctx X) g d v → toQ d = some p → RelV v u → ∃ as, Reads s.heap u p as ∧ sysModules ∉ as
  | .non, p, v, u, q, e, r => by
    rw [rv_non q] at r
    simp only [toQ, Option.some.injEq] at e
    subst e
    cases r
    exact ⟨_, Reads.none, by simp⟩
  | .bl b, p, v, u, q, e, r => by
    rw [rv_bl q] at r
    simp only [toQ, Option.some.injEq] at e
    subst e
    cases r
    exact ⟨_, Reads.bool b, by simp⟩
  | .int i, p, v, u, q, e, r => by
    rw [rv_int q] at r
    simp only [toQ, Option.some.injEq] at e
    subst e
    obtain ⟨t, rfl⟩ := r
    exact ⟨_, Reads.int i t, by simp⟩
  | .str x, p, v, u, q, e, r => by
    rw [rv_str q] at r
    simp only [toQ, Option.some.injEq] at e
    subst e
    obtain ⟨t, rfl⟩ := r
    exact ⟨_, Reads.str x t, by simp⟩
  | .lst ds, p, v, u, q, e, r => by
    simp only [toQ, Option.map_eq_some_iff] at e
    obtain ⟨ps, e, rfl⟩ := e
    simp only [Rv] at q
    obtain ⟨a, vs, rfl, hs, q⟩ := q
    cases r
    obtain ⟨its, rv, ⟨o, n, ho, hc, _, hd⟩, _⟩ := I.list (SqL.of (le _ _ hs))
    obtain ⟨as, hr, na⟩ := q_readsA I le hS ds ps _ its q e rv
    refine ⟨_, Reads.list ho hc hd hr, fun hm => ?_⟩
    rcases List.mem_cons.mp hm with e | hm
    · obtain ⟨o2, h1, h2⟩ := hS
      rw [e] at h1
      rw [ho] at h1
      cases h1
      rw [hc] at h2
      exact absurd h2 (by decide)
    · exact na hm
  | .tup ds, p, v, u, q, e, r => by
    simp only [toQ, Option.map_eq_some_iff] at e
    obtain ⟨ps, e, rfl⟩ := e
    simp only [Rv] at q
    obtain ⟨a, vs, rfl, hs, q⟩ := q
    cases r
    obtain ⟨its, rv, ⟨o, ho, hc, n, hd⟩, _⟩ := I.tuple (.inl (.inl (le _ _ hs)))
    obtain ⟨as, hr, na⟩ := q_readsA I le hS ds ps _ its q e rv
    exact ⟨_, Reads.tuple ho hc hd hr, na⟩
  | .dct ks ds, p, v, u, q, e, r => by
    simp only [toQ, Option.map_eq_some_iff] at e
    obtain ⟨ps, e, rfl⟩ := e
    simp only [Rv] at q
    obtain ⟨a, t, rfl, hs, hk, q⟩ := q
    cases r
    obtain ⟨_, hna, vs, kv, o, es, ep, ho, hx, hd, _, pr, _⟩ := dk_of I.hok (le _ _ hs)
    obtain ⟨rv, ek⟩ := kvVals kv
    have hl : (ks.map keyP).length = ps.length := by
      rw [← toQA_len e, q.length, ← hk]
      simp
    obtain ⟨z1, z2⟩ := zip_fst hl
    obtain ⟨as, hr, na⟩ := q_readsA I le hS ds ps _ _ q e rv
    have hkk := readsKeys (h := s.heap) pr
    rw [← ek] at hkk
    have ek2 : ks.map keyP = t.map fun q => keyP q.1 := by rw [← hk, List.map_map]; rfl
    refine ⟨_, Reads.dict (es := es) (n := ep) (as := []) (bs := as) ho hx.1 hd (by rw [z1, ek2]; exact hkk) (by rw [z2, pairsVals pr]; exact hr), fun hm => ?_⟩
    rcases List.mem_cons.mp hm with e | hm
    · rw [← e] at hna
      exact absurd hna (by decide)
    · exact na (by simpa using hm)
  | .scr _, _, _, _, _, e, _ => by simp [toQ] at e
  | .ref _, _, _, _, _, e, _ => by simp [toQ] at e
  | .gl _, _, _, _, _, e, _ => by simp [toQ] at e
  | .ty _, _, _, _, _, e, _ => by simp [toQ] at e
  | .exc _, _, _, _, _, e, _ => by simp [toQ] at e
  | .kt _, _, _, _, _, e, _ => by simp [toQ] at e
theorem q_readsA {g : Gh} (I : Inv X pins σ H s) (le : ∀ a o, g.G a = some o → H a = some o) (hS : ∃ o, s.heap.get? sysModules = some o ∧ o.cls = .type "dict") : ∀ (ds : List D) (ps : List PyData) (vs : List V) (us : List Value), RvA (ctx X) g ds vs → toQA ds = some ps → Vals vs us → ∃ as, ReadsAll s.heap us ps as ∧ sysModules ∉ as
  | [], ps, vs, us, q, e, r => by
    rw [q.nil_inv] at r
    simp only [toQA, Option.some.injEq] at e
    subst e
    cases r
    exact ⟨_, ReadsAll.nil, by simp⟩
  | d :: ds, ps, vs, us, q, e, r => by
    obtain ⟨v, vs', rfl, q1, q2⟩ := q.cons_inv
    simp only [toQA] at e
    split at e
    · rename_i p ps' e1 e2
      cases e
      cases r with
      | cons r1 r2 =>
        obtain ⟨as, w1, n1⟩ := q_reads I le hS d p _ _ q1 e1 r1
        obtain ⟨bs, w2, n2⟩ := q_readsA I le hS ds ps' _ _ q2 e2 r2
        exact ⟨_, ReadsAll.cons w1 w2, by simp [n1, n2]⟩
    · cases e
end
end
def showQ (p : PyData) : Bool := p.showable && decide (p.depth ≤ 100) && decide (p.shown.length ≤ 16000000)
def reprQ (_ : Mem) (ds : List D) : Option D := match ds with
  | [x] => (match toQ x with
    | some p => if showQ p = true then some (.str p.shown) else none
    | none => none)
  | _ => none
def rReprQ (C : Ct) : List V → Hp → VK → Prop := fun xs H Q => ∃ x p g d, xs = [x] ∧ (∀ a o, g.G a = some o → H a = some o) ∧ Rv C g d x ∧ toQ d = some p ∧ showQ p = true ∧ Q (.str p.shown) H
section
variable {X : Cx} {W : WX} {pos : Pos}
theorem call_reprQ {k : Nat} (hr : RoomG k X.A) (hS : ∃ o, X.K.lookup sysModules = some o ∧ o.cls = .type "dict") : CallR X (.builtin "repr") (rReprQ (ctx X)) := by
  intro pins s σ H xs us Q I r h
  obtain ⟨x, p, g, d, rfl, le, rd, e, hs, q⟩ := h
  obtain ⟨u, rfl, rx⟩ := vals1 r
  obtain ⟨o, ho, hoc⟩ := hS
  obtain ⟨as, rr, na⟩ := q_reads I le ⟨o, I.kIn _ _ ho, hoc⟩ d p x u rd e rx
  simp only [showQ, Bool.and_eq_true, decide_eq_true_eq] at hs
  obtain ⟨⟨hs, hdep⟩, hlen⟩ := hs
  have hu := hr.r.un
  have done : ∀ {u : Value}, RelV x u → (∃ a, u = .ref a) → Reads s.heap u p as → wpAny (model X.prog X.w) X.A (call (.builtin "repr") [u]) (EP X pins σ Q) X.xe s := fun {u} rx ⟨a, ea⟩ rr => by
    subst ea
    refine repr_of_reads' rr hs (fun _ => na) hr.g (by omega) (fun _ _ e => e) (fun h' u tk hk => ?_) (line_le hlen)
    exact ⟨.str p.shown, H, I.kept hk, ⟨_, rfl⟩, q⟩
  cases rr with
  | none => exact PySem.P.repr_of_none ⟨.str _, H, I.tok _, ⟨_, rfl⟩, q⟩
  | bool b => exact PySem.P.repr_of_bool ⟨.str _, H, I.tok _, ⟨_, rfl⟩, by simpa only [PyData.shown] using q⟩
  | int i t =>
    simp only [PyData.showable, decide_eq_true_eq] at hs
    exact PySem.P.repr_of_int hs ⟨.str _, H, I.tok _, ⟨_, rfl⟩, by simpa only [PyData.shown] using q⟩
  | str y t => exact PySem.P.repr_of_str ⟨.str _, H, I.tok _, ⟨_, rfl⟩, by simpa only [PyData.shown] using q⟩ (line_le (by simpa only [PyData.shown] using hlen))
  | list h1 h2 h3 h4 => exact done rx ⟨_, rfl⟩ (.list h1 h2 h3 h4)
  | tuple h1 h2 h3 h4 => exact done rx ⟨_, rfl⟩ (.tuple h1 h2 h3 h4)
  | dict h1 h2 h3 h4 h5 => exact done rx ⟨_, rfl⟩ (.dict h1 h2 h3 h4 h5)
theorem reprQ_ok {C : Ct} : OpC C reprQ (rReprQ C) := by
  intro g σ σD M H ds vs d Q c rs e k
  unfold reprQ at e
  split at e
  · split at e
    · rename_i p hp
      split at e
      · rename_i hs
        cases e
        obtain ⟨v, rfl, r⟩ := rvA1 rs
        exact ⟨v, p, g, _, rfl, c.le, r, hp, hs, k g _ H (Le.refl _ _) c rv_s⟩
      · cases e
    · cases e
  · cases e
theorem d_reprQ {e : Expr} {fa : SA} {p : Pos} {k : Nat} (hr : RoomG k X.A) (hS : ∃ o, X.K.lookup sysModules = some o ∧ o.cls = .type "dict") (hm : X.mg "repr" = none) (ha : AD X W [e] fa) (hg : Gl X "repr" := by rfl) (he : starEach [e] X.env = (false, eval e X.env) :: starEach [] X.env := by rfl) (hpl : (backTo pos (starEach [] X.env)).any (·.1) = false := by rfl) : PD X W (.Call (.Name "repr" p) [e] [] pos) (callV reprQ fa) :=
  d_callB (reprQ_ok (C := ctx X)) (call_reprQ hr hS) hm (by decide +kernel) ha hg (by decide) (by decide) he hpl
end
/-! ### the hook that knows sys.modules as well -/
def asY (g : Addr → Option Obj) (n : Nat) : List Addr := sysModules :: He.asD g n
def smB (K : PySem.W.Frag) : Bool := match K.lookup sysModules with
  | some o => (match o.cls with
    | .type n => n == "dict"
    | _ => false)
  | none => false
theorem smB_ok {K : PySem.W.Frag} (h : smB K = true) : ∃ o, K.lookup sysModules = some o ∧ o.cls = .type "dict" := by
  unfold smB at h
  split at h
  · rename_i o e
    split at h
    · rename_i n e2
      exact ⟨o, e, by rw [e2, eq_of_beq h]⟩
    · cases h
  · cases h
def obsY (n : Nat) (fa : List He.Fa) (fn : List He.DefD) (ex : PySem.W.Frag → Bool) (g : Addr → Option Obj) : He.AlX := (He.obsT fa fn [] (He.frT g (asY g n)), ex (He.frT g (asY g n)))
theorem saysY_of {n : Nat} {fa : List He.Fa} {fn : List He.DefD} {ex : PySem.W.Frag → Bool} {w : World} {h : Heap} (e : obsY n fa fn ex h.get? = He.valX fn [] w) : He.SaysX fa fn [] [] ex w h (He.frT h.get? (asY h.get? n)) := by
  have e1 : He.obsT fa fn [] (He.frT h.get? (asY h.get? n)) = He.valT fn [] w := congrArg (fun z : He.AlX => z.1) e
  have e2 : ex (He.frT h.get? (asY h.get? n)) = true := congrArg (fun z : He.AlX => z.2) e
  exact ⟨e1, e2, fun p hp => by simp at hp, fun p hp => by simp at hp, fun p hp => by simp at hp⟩
def hookY (n : Nat) (fa : List He.Fa) (fn : List He.DefD) (ex : PySem.W.Frag → Bool) : PySem.W.Hook where
  α := He.AlX
  obs := fun s => obsY n fa fn ex s.heap.get?
  val := fun w => He.valX fn [] w
  says := fun w h => ∃ K : PySem.W.Frag, K.In h ∧ He.SaysX fa fn [] [] ex w h K
  of := fun _ _ e => ⟨_, He.frT_in, saysY_of e⟩
  keeps := fun _ _ _ ⟨K, hK, c⟩ k => ⟨K, PySem.W.Frag.In.keeps hK k, ⟨c.t, c.more, c.hd, c.out, fun p hp => k _ _ (c.empty p hp)⟩⟩
theorem obsY_eq {n : Nat} {fa : List He.Fa} {fn : List He.DefD} {ex : PySem.W.Frag → Bool} {g : Addr → Option Obj} {s : Shared} (h : ∀ a, g a = s.heap.get? a) : obsY n fa fn ex g = (hookY n fa fn ex).obs s := by
  have e : g = s.heap.get? := funext h
  rw [e] <;> rfl
/-- what a def does whose calls of itself end at a depth that is not walked: nothing is promised -/
theorem badF_sp {C : Ct} {vs : List V} {H : Hp} {Q : VK} {E : XK} {n : Nat} (h : spD C (lenF n fun _ _ => .bad) vs H Q E) : False := by
  obtain ⟨g, ds, M, _, _, h⟩ := h
  unfold lenF at h
  split at h <;> exact h
theorem badF_ok {P : Program} {w : World} {K : PySem.W.Frag} {mg : Str → Option Value} {base : Heap} {CX : CXT} {k n : Nat} {f : Addr} {fd : FuncData} {ps : List Str} : FnG P w K mg base CX k f fd ps (spD ⟨K, mg⟩ (lenF n fun _ _ => .bad)) :=
  ⟨fun _ _ _ _ h => (badF_sp h).elim, fun _ _ _ _ _ _ _ _ _ _ _ _ _ h => (badF_sp h).elim⟩
end Lf

/-! Lm: the readings computed. -/
namespace Lf
open PySem PySem.Spec PyProof.Rows L2
section
variable {σ : Sl} {M : Mem}
@[simp] theorem varS_ap (i : Nat) : varS i σ M = match σ[i]? with
  | some (some d) => .ok d M
  | _ => .bad := rfl
@[simp] theorem cS_ap (d : D) : cS d σ M = .ok d M := rfl
@[simp] theorem op2_ap (r : Mem → D → D → Option D) (fa fb : SE) : op2 r fa fb σ M = (fa σ M).bind fun x M1 => (fb σ M1).bind fun y M2 => match r M2 x y with
  | some d => .ok d M2
  | none => .bad := rfl
@[simp] theorem op1_ap (r : Mem → D → Option D) (fa : SE) : op1 r fa σ M = (fa σ M).bind fun x M1 => match r M1 x with
  | some d => .ok d M1
  | none => .bad := rfl
@[simp] theorem nilA_ap : nilA σ M = .ok [] M := rfl
@[simp] theorem consA_ap (f : SE) (r : SA) : consA f r σ M = (f σ M).bind fun d M1 => (r σ M1).bind fun ds M2 => .ok (d :: ds) M2 := rfl
@[simp] theorem callV_ap (r : Mem → List D → Option D) (fa : SA) : callV r fa σ M = (fa σ M).bind fun ds M1 => match r M1 ds with
  | some d => .ok d M1
  | none => .bad := rfl
@[simp] theorem callS_ap (F : SF) (fa : SA) : callS F fa σ M = (fa σ M).bind fun ds M1 => F ds M1 := rfl
@[simp] theorem asT_ap (f : SE) : asT f σ M = (f σ M).bind fun d M1 => match d with
  | .bl b => .ok b M1
  | _ => .bad := rfl
@[simp] theorem notT_ap (f : ST) : notT f σ M = (f σ M).bind fun b M1 => .ok (!b) M1 := rfl
@[simp] theorem andT_ap (f k : ST) : andT f k σ M = (f σ M).bind fun b M1 => if b = true then k σ M1 else .ok false M1 := rfl
@[simp] theorem orT_ap (f k : ST) : orT f k σ M = (f σ M).bind fun b M1 => if b = true then .ok true M1 else k σ M1 := rfl
@[simp] theorem andV_ap (f k : SE) : andV f k σ M = (f σ M).bind fun d M1 => match d with
  | .bl true => k σ M1
  | .bl false => .ok (.bl false) M1
  | _ => .bad := rfl
@[simp] theorem orV_ap (f k : SE) : orV f k σ M = (f σ M).bind fun d M1 => match d with
  | .bl true => .ok (.bl true) M1
  | .bl false => k σ M1
  | _ => .bad := rfl
@[simp] theorem notV_ap (f : SE) : notV f σ M = (f σ M).bind fun d M1 => match d with
  | .bl b => .ok (.bl (!b)) M1
  | _ => .bad := rfl
@[simp] theorem ifE_ap (t : ST) (a b : SE) : ifE t a b σ M = (t σ M).bind fun c M1 => if c = true then a σ M1 else b σ M1 := rfl
@[simp] theorem nextS_ap : nextS σ M = .nx σ M := rfl
@[simp] theorem seqS_ap (a b : SS) : seqS a b σ M = match a σ M with
  | .nx σ1 M1 => b σ1 M1
  | r => r := rfl
@[simp] theorem retS_ap (f : SE) : retS f σ M = match f σ M with
  | .ok d M1 => .rt d M1
  | .ex c M1 => .ex c σ M1
  | .bad => .bad := rfl
@[simp] theorem exprS_ap (f : SE) : exprS f σ M = match f σ M with
  | .ok _ M1 => .nx σ M1
  | .ex c M1 => .ex c σ M1
  | .bad => .bad := rfl
@[simp] theorem ifS_ap (t : ST) (a b : SS) : ifS t a b σ M = match t σ M with
  | .ok c M1 => if c = true then a σ M1 else b σ M1
  | .ex c M1 => .ex c σ M1
  | .bad => .bad := rfl
@[simp] theorem setS_ap (i : Nat) (f : SE) : setS i f σ M = match f σ M with
  | .ok d M1 => .nx (σ.set i (some d)) M1
  | .ex c M1 => .ex c σ M1
  | .bad => .bad := rfl
@[simp] theorem tupS_ap (fa : SA) : tupS fa σ M = (fa σ M).bind fun ds M1 => if ds.length ≤ 1000 then .ok (.tup ds) M1 else .bad := rfl
@[simp] theorem lstS_ap (fa : SA) : lstS fa σ M = (fa σ M).bind fun ds M1 => if ds.length ≤ 1000 then .ok (.lst ds) M1 else .bad := rfl
@[simp] theorem newS_ap (fa : SA) : newS fa σ M = (fa σ M).bind fun ds M1 => if ds.length ≤ 1000 then .ok (.ref M1.length) (M1 ++ [.lst ds]) else .bad := rfl
@[simp] theorem chS_ap (r1 r2 : Mem → D → D → Option D) (fa fb fc : SE) : chS r1 r2 fa fb fc σ M = (fa σ M).bind fun x M1 => (fb σ M1).bind fun y M2 => match r1 M2 x y with
  | some (.bl true) => (fc σ M2).bind fun z M3 => (match r2 M3 y z with
    | some d => .ok d M3
    | none => .bad)
  | some (.bl false) => .ok (.bl false) M2
  | _ => .bad := rfl
@[simp] theorem asgS_ap (t : Tg) (f : SE) : asgS t f σ M = match f σ M with
  | .ok d M1 => (match Tg.set t d σ with
    | some σ1 => .nx σ1 M1
    | none => .bad)
  | .ex c M1 => .ex c σ M1
  | .bad => .bad := rfl
@[simp] theorem iseqS_ap (f : SE) : iseqS f σ M = (f σ M).bind fun d M1 => match seqOf M1 d with
  | some ds => .ok ⟨ds, fun M => seqOf M d = some ds⟩ M1
  | none => .bad := rfl
@[simp] theorem istrS_ap (f : SE) : istrS f σ M = (f σ M).bind fun d M1 => match d with
  | .str x => .ok ⟨signs x, fun _ => True⟩ M1
  | _ => .bad := rfl
@[simp] theorem m1S_ap (r : Mem → D → D → Option D) (fo fe : SE) : m1S r fo fe σ M = (fo σ M).bind fun x M1 => if isStr x = true then (fe σ M1).bind fun y M2 => (match r M2 x y with
  | some d => .ok d M2
  | none => .bad) else .bad := rfl
@[simp] theorem partS_ap (f : SE) : partS f σ M = (f σ M).bind fun d M1 => match d with
  | .int i => .ok (some i) M1
  | _ => .bad := rfl
@[simp] theorem sliceS_ap (f : SE) (l h : SO) : sliceS f l h σ M = (f σ M).bind fun x M1 => (l σ M1).bind fun lo M2 => (h σ M2).bind fun hi M3 => match slM M3 x lo hi with
  | some d => .ok d M3
  | none => .bad := rfl
/-! ### comprehensions, loops -/
theorem lcLoop_map {z : ItD} {i : Nat} {f : SE} {M : Mem} (h : D → D) : ∀ (xs : List D) (acc : List D), z.chk M → (∀ x ∈ xs, f (σ.set i (some x)) M = .ok (h x) M) → lcLoop z (.nm i) yesT f xs σ M acc = .ok (acc ++ xs.map h) M
  | [], acc, hc, _ => by
    unfold lcLoop
    rw [if_pos hc]
    simp
  | x :: xs, acc, hc, hf => by
    unfold lcLoop
    rw [if_pos hc]
    have e : Tg.set (.nm i) x σ = some (σ.set i (some x)) := by simp only [Tg.set]
    rw [e]
    show (match yesT (σ.set i (some x)) M with
      | .ok true M1 => (match f (σ.set i (some x)) M1 with
        | .ok y M2 => lcLoop z (.nm i) yesT f xs σ M2 (acc ++ [y])
        | _ => .bad)
      | .ok false M1 => lcLoop z (.nm i) yesT f xs σ M1 acc
      | _ => .bad) = _
    have ey : yesT (σ.set i (some x)) M = .ok true M := rfl
    rw [ey]
    dsimp only
    rw [hf x (List.mem_cons_self ..)]
    dsimp only
    rw [lcLoop_map h xs (acc ++ [h x]) hc fun y hy => hf y (List.mem_cons_of_mem _ hy)]
    simp
/-- [f for x in ..], f pure -/
theorem lcS_map {fi : SI} {i : Nat} {vs : List Nat} {f : SE} {z : ItD} (h : D → D) (hi : fi σ M = .ok z M) (hl : z.all.length ≤ 16000000) (hc : z.chk M) (hf : ∀ x ∈ z.all, f ((wipeD σ vs).set i (some x)) M = .ok (h x) M) :
    lcS fi (.nm i) vs yesT f σ M = .ok (.lst (z.all.map h)) M := by
  unfold lcS
  rw [hi]
  show (if z.all.length ≤ sizeLine then _ else _) = _
  rw [if_pos (line_le hl), lcLoop_map h _ _ hc hf]
  simp
theorem lcNS_map {fi : SI} {i : Nat} {vs : List Nat} {f : SE} {z : ItD} (h : D → D) (hi : fi σ M = .ok z M) (hl : z.all.length ≤ 16000000) (hc : z.chk M) (hf : ∀ x ∈ z.all, f ((wipeD σ vs).set i (some x)) M = .ok (h x) M) :
    lcNS fi (.nm i) vs yesT f σ M = .ok (.ref M.length) (M ++ [.lst (z.all.map h)]) := by
  unfold lcNS
  rw [hi]
  show (if z.all.length ≤ sizeLine then _ else _) = _
  rw [if_pos (line_le hl), lcLoop_map h _ _ hc hf]
  simp
end
/-- a def that makes nothing and leaves all as it is -/
theorem fn_pure {n m : Nat} {b : SS} {ds : List D} {M : Mem} {d : D} (hl : ds.length = m) (hb : endF (b (ds.map some ++ List.replicate (n - ds.length) none) M) = .ok d M) (hlo : d.lo M.length = true) : lenF m (fnS n b) ds M = .ok d M := by
  rw [lenF_eq hl]
  unfold fnS
  rw [hb, truncF_id hlo]
theorem fn_ex {n m : Nat} {b : SS} {ds : List D} {M M' : Mem} {c : Str} (hl : ds.length = m) (hb : endF (b (ds.map some ++ List.replicate (n - ds.length) none) M) = .ex c M') : lenF m (fnS n b) ds M = .ex c M' := by
  rw [lenF_eq hl]
  unfold fnS
  rw [hb]
  rfl
/-- a def that leaves all as it was -/
theorem fn_back {n m : Nat} {b : SS} {ds : List D} {M M' : Mem} {d : D} (hl : ds.length = m) (hb : endF (b (ds.map some ++ List.replicate (n - ds.length) none) M) = .ok d M') (hlo : d.lo M.length = true) (h : M'.take M.length = M) : lenF m (fnS n b) ds M = .ok d M := by
  rw [lenF_eq hl]
  unfold fnS
  rw [hb, truncF_same hlo h]
theorem fn_to {n m : Nat} {b : SS} {ds : List D} {M M' M1 : Mem} {d : D} (hl : ds.length = m) (hb : endF (b (ds.map some ++ List.replicate (n - ds.length) none) M) = .ok d M') (hlo : d.lo M.length = true) (h : M'.take M.length = M1) (k : OkT M M1) : lenF m (fnS n b) ds M = .ok d M1 := by
  rw [lenF_eq hl]
  unfold fnS
  rw [hb, truncF_to hlo h k]
end Lf

/-! Lf20: dicts of the memory: new ones, d[k], d[k] = v, in, get. -/
namespace Lf
open PySem PySem.Spec PyProof.Rows L2
def k1Of : D → Option L2.Key
  | .int i => some (.inl i)
  | .str x => some (.inr x)
  | _ => none
def kOf : D → Option (List L2.Key)
  | .tup ds => keysOf ds
  | _ => none
section
variable {κ : Type} [DecidableEq κ]
def valG (kvs : List (κ × D)) (k : κ) : Option D := (kvs.find? fun kv => decide (kv.1 = k)).map (·.2)
def putG (kvs : List (κ × D)) (k : κ) (d : D) : List (κ × D) := if (kvs.any fun kv => decide (kv.1 = k)) = true then kvs.map (fun kv => if kv.1 = k then (kv.1, d) else kv) else kvs ++ [(k, d)]
def dropG (kvs : List (κ × D)) (k : κ) : List (κ × D) := kvs.filter fun kv => decide (kv.1 ≠ k)
variable {C : Ct} {g : Gh}
theorem RKv.length {kvs : List (κ × D)} {t : List (κ × V)} (r : RKv C g kvs t) : kvs.length = t.length := by
  induction r with
  | nil => rfl
  | cons _ _ ih => simp [ih]
theorem RKv.val {kvs : List (κ × D)} {t : List (κ × V)} (r : RKv C g kvs t) (k : κ) : (valG kvs k = none ∧ valV t k = none) ∨ ∃ d v, valG kvs k = some d ∧ valV t k = some v ∧ Rv C g d v := by
  induction r with
  | nil => exact .inl ⟨rfl, rfl⟩
  | @cons k' d v r t h _ ih =>
    by_cases e : k' = k
    · refine .inr ⟨d, v, ?_, ?_, h⟩ <;> simp [valG, valV, e]
    · have e1 : valG ((k', d) :: r) k = valG r k := by simp [valG, e]
      have e2 : valV ((k', v) :: t) k = valV t k := by simp [valV, e]
      rw [e1, e2]
      exact ih
theorem RKv.any {kvs : List (κ × D)} {t : List (κ × V)} (r : RKv C g kvs t) (k : κ) : (kvs.any fun kv => decide (kv.1 = k)) = (t.any fun kv => decide (kv.1 = k)) := by
  induction r with
  | nil => rfl
  | cons _ _ ih => simp [ih]
theorem RKv.app {kvs kvs' : List (κ × D)} {t t' : List (κ × V)} (r : RKv C g kvs t) (q : RKv C g kvs' t') : RKv C g (kvs ++ kvs') (t ++ t') := by
  induction r with
  | nil => exact q
  | cons h _ ih => exact .cons h ih
theorem RKv.put {kvs : List (κ × D)} {t : List (κ × V)} (r : RKv C g kvs t) (k : κ) {d : D} {v : V} (h : Rv C g d v) : RKv C g (putG kvs k d) (putK t k v) := by
  unfold putG putK
  rw [r.any k]
  split
  · induction r with
    | nil => exact .nil
    | @cons k' d' v' r t h' _ ih =>
      rename_i hs
      simp only [List.map_cons]
      by_cases e : k' = k
      · rw [if_pos e, if_pos e]
        refine .cons h ?_
        clear ih
        rename_i q
        induction q with
        | nil => exact .nil
        | @cons k2 d2 v2 r t h2 _ ih =>
          simp only [List.map_cons]
          by_cases e2 : k2 = k
          · rw [if_pos e2, if_pos e2]
            exact .cons h (ih (by simp [e]))
          · rw [if_neg e2, if_neg e2]
            exact .cons h2 (ih (by simp [e]))
      · rw [if_neg e, if_neg e]
        refine .cons h' (ih ?_)
        simpa [e] using hs
  · exact r.app (.cons h .nil)
theorem RKv.drop {kvs : List (κ × D)} {t : List (κ × V)} (r : RKv C g kvs t) (k : κ) : RKv C g (dropG kvs k) (dropK t k) := by
  unfold dropG dropK
  induction r with
  | nil => exact .nil
  | @cons k' d v r t h _ ih =>
    by_cases e : k' = k
    · simp only [List.filter_cons, e, ne_eq, not_true_eq_false, decide_false, Bool.false_eq_true, if_false]
      exact ih
    · simp only [List.filter_cons, e, ne_eq, not_false_eq_true, decide_true, if_true]
      exact .cons h ih
end
def dgetM (M : Mem) (x y : D) : Option (Option D) := match x with
  | .ref i => (match M[i]? with
    | some (.dK kvs) => (k1Of y).map (valG kvs)
    | some (.dT kvs) => (kOf y).map (valG kvs)
    | some (.lk (.dK kvs)) => (k1Of y).map (valG kvs)
    | some (.lk (.dT kvs)) => (kOf y).map (valG kvs)
    | _ => none)
  | _ => none
def isD (M : Mem) (x : D) : Bool := match x with
  | .ref i => (match M[i]? with
    | some (.dK _) => true
    | some (.dT _) => true
    | some (.lk (.dK _)) => true
    | some (.lk (.dT _)) => true
    | _ => false)
  | _ => false
section
variable {C : Ct} {g : Gh} {σ : L2.St} {σD : Sl} {M : Mem} {H : Hp}
theorem k1_at {y : D} {v : V} {k : L2.Key} (r : Rv C g y v) (e : k1Of y = some k) : v = kV k := by
  cases y <;> simp only [k1Of, Option.some.injEq, reduceCtorEq] at e
  · subst e; rw [rv_int r]; rfl
  · subst e; rw [rv_str r]; rfl
theorem k_at {y : D} {v : V} {k : List L2.Key} (c : Conc C g σ σD M H) (r : Rv C g y v) (e : kOf y = some k) : ∃ b, v = .ref b ∧ H b = some (.tup (k.map kV)) := by
  cases y <;> simp only [kOf, reduceCtorEq] at e
  obtain ⟨b, vs, rfl, rs, h⟩ := tup_ex c r
  rw [keysOf_R rs e] at h
  exact ⟨b, rfl, h⟩
theorem dget_at {x y : D} {vx vy : V} {o : Option D} (c : Conc C g σ σD M H) (rx : Rv C g x vx) (ry : Rv C g y vy) (e : dgetM M x y = some o) :
    ∃ a ov, vx = .ref a ∧ DGet H a vy ov ∧ ((o = none ∧ ov = none) ∨ ∃ d v, o = some d ∧ ov = some v ∧ Rv C g d v) := by
  unfold dgetM at e
  split at e
  · rename_i i
    simp only [Rv] at rx
    obtain ⟨a, rfl, q⟩ := rx
    split at e
    · rename_i kvs e2
      simp only [Option.map_eq_some_iff] at e
      obtain ⟨k, ek, rfl⟩ := e
      obtain ⟨ob, ho, ro⟩ := c.obj i a _ q e2 (by intro z; cases z)
      cases ro with
      | dK ro =>
        rw [k1_at ry ek]
        exact ⟨a, _, rfl, DGet.k ho, ro.val k⟩
    · rename_i kvs e2
      simp only [Option.map_eq_some_iff] at e
      obtain ⟨k, ek, rfl⟩ := e
      obtain ⟨ob, ho, ro⟩ := c.obj i a _ q e2 (by intro z; cases z)
      cases ro with
      | dT ro =>
        obtain ⟨b, rfl, hb⟩ := k_at c ry ek
        exact ⟨a, _, rfl, DGet.t ho hb, ro.val k⟩
    · rename_i kvs e2
      simp only [Option.map_eq_some_iff] at e
      obtain ⟨k, ek, rfl⟩ := e
      obtain ⟨ob, ho, ro⟩ := c.obj i a _ q e2 (by intro z; cases z)
      cases ro with
      | lk ro =>
        cases ro with
        | dK ro =>
          rw [k1_at ry ek]
          exact ⟨a, _, rfl, .inl ⟨_, k, .inr ⟨_, ho⟩, rfl, rfl⟩, ro.val k⟩
    · rename_i kvs e2
      simp only [Option.map_eq_some_iff] at e
      obtain ⟨k, ek, rfl⟩ := e
      obtain ⟨ob, ho, ro⟩ := c.obj i a _ q e2 (by intro z; cases z)
      cases ro with
      | lk ro =>
        cases ro with
        | dT ro =>
          obtain ⟨b, rfl, hb⟩ := k_at c ry ek
          exact ⟨a, _, rfl, .inr ⟨_, k, b, .inr ⟨_, ho⟩, rfl, hb, rfl⟩, ro.val k⟩
    · cases e
  · cases e
theorem isD_R {x : D} {v : V} (c : Conc C g σ σD M H) (r : Rv C g x v) (e : isD M x = true) : ∃ a, v = .ref a ∧ IsD H a := by
  unfold isD at e
  split at e
  · rename_i i
    simp only [Rv] at r
    obtain ⟨a, rfl, q⟩ := r
    split at e
    · rename_i kvs e2
      obtain ⟨ob, ho, ro⟩ := c.obj i a _ q e2 (by intro z; cases z)
      cases ro with
      | dK ro => exact ⟨a, rfl, .inl ⟨_, .inl ho⟩⟩
    · rename_i kvs e2
      obtain ⟨ob, ho, ro⟩ := c.obj i a _ q e2 (by intro z; cases z)
      cases ro with
      | dT ro => exact ⟨a, rfl, .inr ⟨_, .inl ho⟩⟩
    · rename_i kvs e2
      obtain ⟨ob, ho, ro⟩ := c.obj i a _ q e2 (by intro z; cases z)
      cases ro with
      | lk ro =>
        cases ro with
        | dK ro => exact ⟨a, rfl, .inl ⟨_, .inr ⟨_, ho⟩⟩⟩
    · rename_i kvs e2
      obtain ⟨ob, ho, ro⟩ := c.obj i a _ q e2 (by intro z; cases z)
      cases ro with
      | lk ro =>
        cases ro with
        | dT ro => exact ⟨a, rfl, .inr ⟨_, .inr ⟨_, ho⟩⟩⟩
    · cases e
  · cases e
end
section
variable {X : Cx} {W : WX} {pos : Pos} {o i e value : Expr} {fo fi f fd : SE} {k : Nat}
/-- d[k] -/
def dixM (M : Mem) (x y : D) : Option D := (dgetM M x y).bind id
def dinM (M : Mem) (y x : D) : Option D := (dgetM M x y).map fun o => .bl o.isSome
def dninM (M : Mem) (y x : D) : Option D := (dgetM M x y).map fun o => .bl (!o.isSome)
theorem dix_ok {C : Ct} : Op2 C dixM (fun x y H Q => ∃ a v, x = .ref a ∧ DGet H a y (some v) ∧ Q v H) := by
  intro g σ σD M H x y vx vy d Q c rx ry e k
  unfold dixM at e
  rw [Option.bind_eq_some_iff] at e
  obtain ⟨o, e1, e2⟩ := e
  obtain ⟨a, ov, rfl, hg, q⟩ := dget_at c rx ry e1
  rcases q with ⟨rfl, rfl⟩ | ⟨d', v, rfl, rfl, r⟩
  · cases e2
  · cases e2
    exact ⟨a, v, rfl, hg, k g _ H (Le.refl _ _) c r⟩
theorem isSome_eq {C : Ct} {g : Gh} {o : Option D} {ov : Option V} (q : (o = none ∧ ov = none) ∨ ∃ d v, o = some d ∧ ov = some v ∧ Rv C g d v) : o.isSome = ov.isSome := by
  rcases q with ⟨rfl, rfl⟩ | ⟨d, v, rfl, rfl, _⟩ <;> rfl
theorem din_ok {C : Ct} : Op2 C dinM (fun y x H Q => ∃ a o, x = .ref a ∧ DGet H a y o ∧ Q (.bl o.isSome) H) := by
  intro g σ σD M H y x vy vx d Q c ry rx e k
  unfold dinM at e
  rw [Option.map_eq_some_iff] at e
  obtain ⟨o, e1, rfl⟩ := e
  obtain ⟨a, ov, rfl, hg, q⟩ := dget_at c rx ry e1
  refine ⟨a, ov, rfl, hg, ?_⟩
  rw [← isSome_eq q]
  exact k g _ H (Le.refl _ _) c rv_b
theorem dnin_ok {C : Ct} : Op2 C dninM (fun y x H Q => ∃ a o, x = .ref a ∧ DGet H a y o ∧ Q (.bl (!o.isSome)) H) := by
  intro g σ σD M H y x vy vx d Q c ry rx e k
  unfold dninM at e
  rw [Option.map_eq_some_iff] at e
  obtain ⟨o, e1, rfl⟩ := e
  obtain ⟨a, ov, rfl, hg, q⟩ := dget_at c rx ry e1
  refine ⟨a, ov, rfl, hg, ?_⟩
  rw [← isSome_eq q]
  exact k g _ H (Le.refl _ _) c rv_b
theorem d_dix (hr : Room k X.A) (ho : PD X W o fo) (hi : PD X W i fi) (hs : NoSl i := by intro _ _; rfl) : PD X W (.Subscript o i pos) (op2 dixM fo fi) :=
  PE.imp (pe_dget (by have := hr.un; omega) ho hi hs) (bin_imp (R := fun x y H Q => ∃ a v, x = .ref a ∧ DGet H a y (some v) ∧ Q v H) (dix_ok (C := ctx X)))
theorem d_din (hr : Room k X.A) (hi : PD X W i fi) (ho : PD X W o fo) (hm : behindInMarks .In o = false := by rfl) : PD X W (.Compare i [.In] [o] pos) (op2 dinM fi fo) :=
  PE.imp (pe_cmp (pc_din (by have := hr.un; omega) hi ho) hm) (bin_imp (R := fun y x H Q => ∃ a o, x = .ref a ∧ DGet H a y o ∧ Q (.bl o.isSome) H) (din_ok (C := ctx X)))
theorem d_dnin (hr : Room k X.A) (hi : PD X W i fi) (ho : PD X W o fo) (hm : behindInMarks .NotIn o = false := by rfl) : PD X W (.Compare i [.NotIn] [o] pos) (op2 dninM fi fo) :=
  PE.imp (pe_cmp (pc_dnotin (by have := hr.un; omega) hi ho) hm) (bin_imp (R := fun y x H Q => ∃ a o, x = .ref a ∧ DGet H a y o ∧ Q (.bl (!o.isSome)) H) (dnin_ok (C := ctx X)))
theorem t_din (hr : Room k X.A) (hi : PD X W i fi) (ho : PD X W o fo) (hm : behindInMarks .In o = false := by rfl) : TD X W (.Compare i [.In] [o] pos) (asT (op2 dinM fi fo)) := by
  refine PT.imp (pt_cmp (pc_din (by have := hr.un; omega) hi ho) hm) fun σ H Q ⟨g, σD, M, c, h⟩ => ?_
  refine bin_imp (X := X) (W := W) (R := fun y x H Q => ∃ a o, x = .ref a ∧ DGet H a y o ∧ Q (.bl o.isSome) H) (din_ok (C := ctx X)) σ H (fun x H1 => ∃ c, x = .bl c ∧ Q c H1) ⟨g, σD, M, c, (RE.post_bind h).imp fun x M1 g1 H1 _ l1 c1 h1 vx rx => ?_⟩
  cases x <;> first
      | exact h1.elim
      | (simp only [Rv] at rx
         subst rx
         exact ⟨_, rfl, h1 g1 H1 (Le.refl _ _) c1⟩)
theorem t_dnin (hr : Room k X.A) (hi : PD X W i fi) (ho : PD X W o fo) (hm : behindInMarks .NotIn o = false := by rfl) : TD X W (.Compare i [.NotIn] [o] pos) (asT (op2 dninM fi fo)) := by
  refine PT.imp (pt_cmp (pc_dnotin (by have := hr.un; omega) hi ho) hm) fun σ H Q ⟨g, σD, M, c, h⟩ => ?_
  refine bin_imp (X := X) (W := W) (R := fun y x H Q => ∃ a o, x = .ref a ∧ DGet H a y o ∧ Q (.bl (!o.isSome)) H) (dnin_ok (C := ctx X)) σ H (fun x H1 => ∃ c, x = .bl c ∧ Q c H1) ⟨g, σD, M, c, (RE.post_bind h).imp fun x M1 g1 H1 _ l1 c1 h1 vx rx => ?_⟩
  cases x <;> first
      | exact h1.elim
      | (simp only [Rv] at rx
         subst rx
         exact ⟨_, rfl, h1 g1 H1 (Le.refl _ _) c1⟩)
/-- {} -/
def dnewKS : SE := fun _ M => .ok (.ref M.length) (M ++ [.dK []])
def dnewTS : SE := fun _ M => .ok (.ref M.length) (M ++ [.dT []])
theorem d_dnewK : PD X W (.Dict [] [] pos) dnewKS := PE.imp pe_dnewK fun σ H Q ⟨g, σD, M, c, h⟩ => fun p hp => by
  obtain ⟨l2, c2, r2⟩ := c.newL (o := .dK []) hp (.dK .nil)
  exact h _ _ l2 c2 _ r2
theorem d_dnewT : PD X W (.Dict [] [] pos) dnewTS := PE.imp pe_dnewT fun σ H Q ⟨g, σD, M, c, h⟩ => fun p hp => by
  obtain ⟨l2, c2, r2⟩ := c.newL (o := .dT []) hp (.dT .nil)
  exact h _ _ l2 c2 _ r2
/-- d[k] = v -/
def dputM (M : Mem) (x y d : D) : Option Mem := match x with
  | .ref i => (match M[i]? with
    | some (.dK kvs) => (k1Of y).bind fun k => if kvs.length < 16000000 then some (M.set i (.dK (putG kvs k d))) else none
    | some (.dT kvs) => (kOf y).bind fun k => if kvs.length < 16000000 then some (M.set i (.dT (putG kvs k d))) else none
    | _ => none)
  | _ => none
def dputS (fo fi f : SE) : SS := fun σ M => match f σ M with
  | .ex c M1 => .ex c σ M1
  | .bad => .bad
  | .ok d M1 => (match fo σ M1 with
    | .ex c M2 => .ex c σ M2
    | .bad => .bad
    | .ok x M2 => (match fi σ M2 with
      | .ex c M3 => .ex c σ M3
      | .bad => .bad
      | .ok y M3 => (match dputM M3 x y d with
        | some M4 => .nx σ M4
        | none => .bad)))
theorem dput_at {C : Ct} {g : Gh} {σ : L2.St} {σD : Sl} {M M' : Mem} {H : Hp} {x y d : D} {vx vy v : V} (c : Conc C g σ σD M H) (rx : Rv C g x vx) (ry : Rv C g y vy) (rd : Rv C g d v) (e : dputM M x y d = some M') :
    ∃ a H', vx = .ref a ∧ DPut H a vy v H' ∧ Le g H g H' ∧ Conc C g σ σD M' H' := by
  unfold dputM at e
  split at e
  · rename_i i
    simp only [Rv] at rx
    obtain ⟨a, rfl, q⟩ := rx
    split at e
    · rename_i kvs e2
      rw [Option.bind_eq_some_iff] at e
      obtain ⟨k, ek, e⟩ := e
      split at e
      · rename_i hl
        cases e
        obtain ⟨ob, ho, ro⟩ := c.obj i a _ q e2 (by intro z; cases z)
        cases ro with
        | dK ro =>
          rw [k1_at ry ek]
          obtain ⟨l, c2⟩ := c.writeL q e2 (by intro z; cases z) (.dK (ro.put k rd))
          exact ⟨a, _, rfl, DPut.k ho (line_lt (by rw [← ro.length]; exact hl)), l, c2⟩
      · cases e
    · rename_i kvs e2
      rw [Option.bind_eq_some_iff] at e
      obtain ⟨k, ek, e⟩ := e
      split at e
      · rename_i hl
        cases e
        obtain ⟨ob, ho, ro⟩ := c.obj i a _ q e2 (by intro z; cases z)
        cases ro with
        | dT ro =>
          obtain ⟨b, rfl, hb⟩ := k_at c ry ek
          obtain ⟨l, c2⟩ := c.writeL q e2 (by intro z; cases z) (.dT (ro.put k rd))
          exact ⟨a, _, rfl, DPut.t ho hb (line_lt (by rw [← ro.length]; exact hl)), l, c2⟩
      · cases e
    · cases e
  · cases e
theorem s_dput {p : Pos} (hr : Room k X.A) (he : PD X W value f) (ho : PD X W o fo) (hi : PD X W i fi) (hs : swapsWith value (some (.Subscript o i p)) pos.line X.env = pure false := by rfl) :
    SD X W (.Assign [.Subscript o i p] value pos) (dputS fo fi f) :=
  PS.imp (ps_dput (by have := hr.un; omega) ho hi he hs) fun E σ H ⟨g, σD, M, c, h⟩ => ⟨g, σD, M, c, by
    unfold dputS at h
    cases e : f σD M with
    | ex x M1 => rw [e] at h; exact fun g' H' u l c' e => h g' σ H' u l c' e
    | bad => rw [e] at h; exact h
    | ok d M1 =>
      rw [e] at h
      intro g1 H1 l1 c1 v rv
      refine ⟨g1, σD, M1, c1, ?_⟩
      simp only at h
      cases e2 : fo σD M1 with
      | ex x M2 => rw [e2] at h; exact fun g' H' u l c' e => h g' σ H' u (l1.trans l) c' e
      | bad => rw [e2] at h; exact h
      | ok x M2 =>
        rw [e2] at h
        intro g2 H2 l2 c2 vo ro
        refine ⟨g2, σD, M2, c2, ?_⟩
        simp only at h
        cases e3 : fi σD M2 with
        | ex x M3 => rw [e3] at h; exact fun g' H' u l c' e => h g' σ H' u ((l1.trans l2).trans l) c' e
        | bad => rw [e3] at h; exact h
        | ok y M3 =>
          rw [e3] at h
          intro g3 H3 l3 c3 vi ri
          simp only at h
          split at h
          · rename_i M4 e4
            obtain ⟨a, H4, rfl, hp, l4, c4⟩ := dput_at c3 (Rv.mono l3.gh _ _ ro) ri (Rv.mono (Gh.le_trans l2.gh l3.gh) _ _ rv) e4
            exact ⟨a, H4, rfl, hp, h g3 σ H4 (((l1.trans l2).trans l3).trans l4) c4⟩
          · exact h.elim⟩
/-- d.get(k), d.get(k, x) -/
def dget1S (fo fi : SE) : SE := fun σ M => (fo σ M).bind fun x M1 => if isD M1 x = true then (fi σ M1).bind fun y M2 => (match dgetM M2 x y with
  | some o => .ok (o.getD .non) M2
  | none => .bad) else .bad
def dget2S (fo fi fd : SE) : SE := fun σ M => (fo σ M).bind fun x M1 => if isD M1 x = true then (fi σ M1).bind fun y M2 => (fd σ M2).bind fun z M3 => (match dgetM M3 x y with
  | some o => .ok (o.getD z) M3
  | none => .bad) else .bad
theorem getD_R {C : Ct} {g : Gh} {o : Option D} {ov : Option V} {z : D} {w : V} (q : (o = none ∧ ov = none) ∨ ∃ d v, o = some d ∧ ov = some v ∧ Rv C g d v) (r : Rv C g z w) : Rv C g (o.getD z) (ov.getD w) := by
  rcases q with ⟨rfl, rfl⟩ | ⟨d, v, rfl, rfl, r'⟩
  · exact r
  · exact r'
theorem m1_of {apos cpos : Pos} {m : Str} (h1 : attributeBase o m X.env (eval o X.env) = eval o X.env) (h2 : ((backTo cpos (starEach [e] X.env)).all (fun x => !x.1) && (backToKw cpos (keywordEach [] X.env)).all (fun x => x.1.isSome)
    && decide (([e] : List Expr).length + ([] : List Keyword).length + (if ([] : List Keyword).isEmpty then 0 else 1) < 30)) = true) (h3 : (apos.endLine == cpos.line) = true) (h4 : backTo cpos (starEach [e] X.env) = [(false, eval e X.env)]) : M1 X o m apos e cpos := ⟨h1, h2, h3, h4⟩
theorem d_dget1 {apos cpos : Pos} (hr : Room k X.A) (ho : PD X W o fo) (he : PD X W e fi) (h1 : attributeBase o "get" X.env (eval o X.env) = eval o X.env := by rfl) (h2 : ((backTo cpos (starEach [e] X.env)).all (fun x => !x.1) && (backToKw cpos (keywordEach [] X.env)).all (fun x => x.1.isSome)
    && decide (([e] : List Expr).length + ([] : List Keyword).length + (if ([] : List Keyword).isEmpty then 0 else 1) < 30)) = true := by rfl) (h3 : (apos.endLine == cpos.line) = true := by rfl) (h4 : backTo cpos (starEach [e] X.env) = [(false, eval e X.env)] := by rfl) :
    PD X W (.Call (.Attribute o "get" apos) [e] [] cpos) (dget1S fo fi) :=
  PE.imp (pe_dget1 (by have := hr.un; omega) ho he ⟨h1, h2, h3, h4⟩) fun σ H Q ⟨g, σD, M, c, h⟩ => ⟨g, σD, M, c, (RE.post_bind h).imp fun x M1 g1 H1 _ l1 c1 h1 vx rx => by
    split at h1
    case isFalse => exact h1.elim
    rename_i hd
    obtain ⟨a, rfl, ha⟩ := isD_R c1 rx hd
    refine ⟨a, rfl, ha, g1, σD, M1, c1, (RE.post_bind h1).imp fun y M2 g2 H2 _ l2 c2 h2 vy ry => ?_⟩
    split at h2
    case h_2 => exact h2.elim
    rename_i o e
    obtain ⟨a', ov, e', hg, q⟩ := dget_at c2 (Rv.mono l2.gh _ _ rx) ry e
    cases e'
    exact ⟨ov, hg, h2 g2 H2 (Le.refl _ _) c2 _ (getD_R q rv_n)⟩⟩
theorem d_dget2 {e2 : Expr} {apos cpos : Pos} (hr : Room k X.A) (ho : PD X W o fo) (he : PD X W e fi) (hf : PD X W e2 fd) (h1 : attributeBase o "get" X.env (eval o X.env) = eval o X.env := by rfl) (h2 : ((backTo cpos (starEach [e, e2] X.env)).all (fun x => !x.1) && (backToKw cpos (keywordEach [] X.env)).all (fun x => x.1.isSome)
    && decide (([e, e2] : List Expr).length + ([] : List Keyword).length + (if ([] : List Keyword).isEmpty then 0 else 1) < 30)) = true := by rfl) (h3 : (apos.endLine == cpos.line) = true := by rfl) (h4 : backTo cpos (starEach [e, e2] X.env) = [(false, eval e X.env), (false, eval e2 X.env)] := by rfl) :
    PD X W (.Call (.Attribute o "get" apos) [e, e2] [] cpos) (dget2S fo fi fd) :=
  PE.imp (pe_dget2 (by have := hr.un; omega) ho he hf ⟨h1, h2, h3, h4⟩) fun σ H Q ⟨g, σD, M, c, h⟩ => ⟨g, σD, M, c, (RE.post_bind h).imp fun x M1 g1 H1 _ l1 c1 h1 vx rx => by
    split at h1
    case isFalse => exact h1.elim
    rename_i hd
    obtain ⟨a, rfl, ha⟩ := isD_R c1 rx hd
    refine ⟨a, rfl, ha, g1, σD, M1, c1, (RE.post_bind h1).imp fun y M2 g2 H2 _ l2 c2 h2 vy ry => ⟨g2, σD, M2, c2, (RE.post_bind h2).imp fun z M3 g3 H3 _ l3 c3 h3 vz rz => ?_⟩⟩
    split at h3
    case h_2 => exact h3.elim
    rename_i o e
    obtain ⟨a', ov, e', hg, q⟩ := dget_at c3 (Rv.mono (Gh.le_trans l2.gh l3.gh) _ _ rx) (Rv.mono l3.gh _ _ ry) e
    cases e'
    exact ⟨ov, hg, h3 g3 H3 (Le.refl _ _) c3 _ (getD_R q rz)⟩⟩
end
end Lf

/-! Lf21: a dict of the memory walked over: it is locked while a statement or an expression walks it. -/
namespace Lf
open PySem PySem.Spec PyProof.Rows L2
/-- a tuple that stands is tracked -/
theorem Conc.adoptT {C : Ct} {g : Gh} {σ : L2.St} {σD : Sl} {M : Mem} {H : Hp} (c : Conc C g σ σD M H) {q : Addr} {vs : List V} (e : H q = some (.tup vs)) :
    ∃ g', Le g H g' H ∧ Conc C g' σ σD M H ∧ g'.G q = some (.tup vs) := by
  have le : g ≤ ⟨upd g.G q (.tup vs), g.rho⟩ := ⟨fun b u z => by
    show upd g.G q _ b = some u
    by_cases hb : b = q
    · subst hb
      have := c.le b u z
      rw [e] at this
      cases this
      exact upd_same
    · rw [upd_ne hb]
      exact z, [], by simp⟩
  refine ⟨⟨upd g.G q (.tup vs), g.rho⟩, ⟨le, fun a o ha n => ⟨n, ha, ?_⟩, fun _ _ _ z => z⟩, ⟨fun b u z => ?_, c.len, c.nd, c.there, fun i a m e1 e2 e3 => ?_, fun i a m e1 e2 e3 => ?_, c.sl.mono le⟩, upd_same⟩
  · by_cases hb : a = q
    · subst hb
      rw [e] at ha
      cases ha
      exact .inr ⟨_, rfl⟩
    · exact .inl (upd_ne hb)
  · have z' : upd g.G q (.tup vs) b = some u := z
    by_cases hb : b = q
    · subst hb
      rw [upd_same] at z'
      cases z'
      exact e
    · rw [upd_ne hb] at z'
      exact c.le b u z'
  · show upd g.G q _ a = none
    by_cases hb : a = q
    · subst hb
      obtain ⟨o, ho, ro⟩ := c.obj i a m e1 e2 e3
      rw [e] at ho
      cases ho
      cases ro
    · rw [upd_ne hb]
      exact c.out i a m e1 e2 e3
  · obtain ⟨o, ho, ro⟩ := c.obj i a m e1 e2 e3
    exact ⟨o, ho, ro.mono le⟩
theorem rvA_keys {C : Ct} {g : Gh} : ∀ k : List L2.Key, RvA C g (k.map keyD) (k.map kV)
  | [] => RvA.nil
  | .inl i :: k => RvA.cons rv_i (rvA_keys k)
  | .inr x :: k => RvA.cons rv_s (rvA_keys k)
theorem rv_key {C : Ct} {g : Gh} (k : L2.Key) : Rv C g (keyD k) (kV k) := by
  cases k with
  | inl i => exact rv_i
  | inr x => exact rv_s
/-! ### the lock -/
def lkM (M : Mem) (j : Nat) : Option Mem := match M[j]? with
  | some (.dK kvs) => some (M.set j (.lk (.dK kvs)))
  | some (.dT kvs) => some (M.set j (.lk (.dT kvs)))
  | _ => none
def unM (M : Mem) (j : Nat) : Option Mem := match M[j]? with
  | some (.lk m) => some (M.set j m)
  | _ => none
def lockS (i : Nat) (s : SS) : SS := fun σ M => match σ[i]? with
  | some (some (.ref j)) => (match lkM M j with
    | some M1 => (match s σ M1 with
      | .nx σ' M' => (match unM M' j with
        | some M2 => .nx σ' M2
        | none => .bad)
      | .rt d M' => (match unM M' j with
        | some M2 => .rt d M2
        | none => .bad)
      | .bk σ' M' => (match unM M' j with
        | some M2 => .bk σ' M2
        | none => .bad)
      | .ct σ' M' => (match unM M' j with
        | some M2 => .ct σ' M2
        | none => .bad)
      | .ex _ _ _ => .bad
      | .bad => .bad)
    | none => .bad)
  | _ => .bad
def lockE (i : Nat) (f : SE) : SE := fun σ M => match σ[i]? with
  | some (some (.ref j)) => (match lkM M j with
    | some M1 => (match f σ M1 with
      | .ok d M' => (match unM M' j with
        | some M2 => .ok d M2
        | none => .bad)
      | .ex _ _ => .bad
      | .bad => .bad)
    | none => .bad)
  | _ => .bad
theorem lk_at {C : Ct} {g : Gh} {σ : L2.St} {σD : Sl} {M M1 : Mem} {H : Hp} {j : Nat} {a : Addr} (c : Conc C g σ σD M H) (e1 : g.rho[j]? = some a) (e : lkM M j = some M1) :
    ∃ u, H a = some u ∧ Mut (some u) ∧ ∀ od, Le g (upd H a (.frz od u)) g (upd H a (.frz od u)) ∧ Conc C g σ σD M1 (upd H a (.frz od u)) := by
  unfold lkM at e
  split at e
  · rename_i kvs e2
    cases e
    obtain ⟨o, ho, ro⟩ := c.obj j a _ e1 e2 (by intro z; cases z)
    cases ro with
    | dK ro => exact ⟨_, ho, trivial, fun od => ⟨Le.refl _ _, c.write e1 e2 (by intro z; cases z) (.lk (.dK ro))⟩⟩
  · rename_i kvs e2
    cases e
    obtain ⟨o, ho, ro⟩ := c.obj j a _ e1 e2 (by intro z; cases z)
    cases ro with
    | dT ro => exact ⟨_, ho, trivial, fun od => ⟨Le.refl _ _, c.write e1 e2 (by intro z; cases z) (.lk (.dT ro))⟩⟩
  · cases e
/-- behind it the dict is as it was -/
theorem un_at {C : Ct} {g g' : Gh} {σ' : L2.St} {σD' : Sl} {M' M2 : Mem} {H H' : Hp} {j : Nat} {a : Addr} {u : HO} {od : Obj} (e1 : g.rho[j]? = some a) (hu : H a = some u) (mu : Mut (some u)) (l : Le g (upd H a (.frz od u)) g' H') (c' : Conc C g' σ' σD' M' H') (e : unM M' j = some M2) :
    H' a = some (.frz od u) ∧ Le g H g' (upd H' a u) ∧ Conc C g' σ' σD' M2 (upd H' a u) := by
  have hf : H' a = some (.frz od u) := l.frz a od u upd_same
  have e1' := Gh.le_get l.gh e1
  unfold unM at e
  split at e
  · rename_i m e2
    cases e
    obtain ⟨o, ho, ro⟩ := c'.obj j a _ e1' e2 (by intro z; cases z)
    rw [hf] at ho
    cases ho
    cases ro with
    | lk ro =>
      refine ⟨hf, ⟨l.gh, fun b o hb n => ?_, fun b o' u' hb => ?_⟩, c'.write e1' e2 (by intro z; cases z) ro⟩
      · have hba : b ≠ a := fun z => n (by rw [z]; exact List.mem_of_getElem? e1)
        obtain ⟨n1, h1, q1⟩ := l.out b o (by rw [upd_ne hba]; exact hb) n
        exact ⟨n1, by rw [upd_ne hba]; exact h1, q1⟩
      · have hba : b ≠ a := fun z => by
          subst z
          rw [hu] at hb
          cases hb
          exact mu
        rw [upd_ne hba]
        exact l.frz b o' u' (by rw [upd_ne hba]; exact hb)
  · cases e
section
variable {X : Cx} {W : WX} {pos : Pos}
theorem s_lock {st : Stmt} {s : SS} (i : Nat) (h : SD X W st s) : SD X W st (lockS i s) :=
  PS.imp (ps_lock h) fun E σ H ⟨g, σD, M, c, h⟩ => by
    unfold lockS at h
    split at h
    case h_2 => exact h.elim
    rename_i j ej
    obtain ⟨v, _, rv⟩ := c.var ej
    simp only [Rv] at rv
    obtain ⟨a, rfl, ea⟩ := rv
    split at h
    case h_2 => exact h.elim
    rename_i M1 eM
    obtain ⟨u, hu, mu, hc⟩ := lk_at c ea eM
    refine ⟨a, u, hu, mu, fun od => ⟨g, σD, M1, (hc od).2, ?_⟩⟩
    cases es : s σD M1 with
    | nx σ' M' =>
      rw [es] at h
      simp only at h
      split at h
      case h_2 => exact h.elim
      rename_i M2 eu
      intro g' σ2 H' l c'
      obtain ⟨q1, q2, q3⟩ := un_at ea hu mu l c' eu
      exact ⟨q1, h g' σ2 _ q2 q3⟩
    | rt d M' =>
      rw [es] at h
      simp only at h
      split at h
      case h_2 => exact h.elim
      rename_i M2 eu
      intro g' H' v l c' rv
      obtain ⟨q1, q2, q3⟩ := un_at ea hu mu l c' eu
      exact ⟨q1, h g' _ v q2 q3 rv⟩
    | bk σ' M' =>
      rw [es] at h
      simp only at h
      split at h
      case h_2 => exact h.elim
      rename_i M2 eu
      intro g' σ2 H' l c'
      obtain ⟨q1, q2, q3⟩ := un_at ea hu mu l c' eu
      exact ⟨q1, h g' σ2 _ q2 q3⟩
    | ct σ' M' =>
      rw [es] at h
      simp only at h
      split at h
      case h_2 => exact h.elim
      rename_i M2 eu
      intro g' σ2 H' l c'
      obtain ⟨q1, q2, q3⟩ := un_at ea hu mu l c' eu
      exact ⟨q1, h g' σ2 _ q2 q3⟩
    | ex x σ' M' => rw [es] at h; exact h.elim
    | bad => rw [es] at h; exact h.elim
theorem d_lock {e : Expr} {f : SE} (i : Nat) (h : PD X W e f) : PD X W e (lockE i f) :=
  PE.imp (pe_lock h) fun σ H Q ⟨g, σD, M, c, h⟩ => by
    unfold lockE at h
    split at h
    case h_2 => exact h.elim
    rename_i j ej
    obtain ⟨v, _, rv⟩ := c.var ej
    simp only [Rv] at rv
    obtain ⟨a, rfl, ea⟩ := rv
    split at h
    case h_2 => exact h.elim
    rename_i M1 eM
    obtain ⟨u, hu, mu, hc⟩ := lk_at c ea eM
    refine ⟨a, u, hu, mu, fun od => ⟨g, σD, M1, (hc od).2, ?_⟩⟩
    cases es : f σD M1 with
    | ok d M' =>
      rw [es] at h
      simp only at h
      split at h
      case h_2 => exact h.elim
      rename_i M2 eu
      intro g' H' l c' v rv
      obtain ⟨q1, q2, q3⟩ := un_at ea hu mu l c' eu
      exact ⟨q1, h g' _ q2 q3 v rv⟩
    | ex x M' => rw [es] at h; exact h.elim
    | bad => rw [es] at h; exact h.elim
/-! ### for k in d -/
def keysD (M : Mem) (x : D) : Option (List D) := match x with
  | .ref i => (match M[i]? with
    | some (.lk (.dK kvs)) => some (kvs.map fun p => keyD p.1)
    | some (.lk (.dT kvs)) => some (kvs.map fun p => .tup (p.1.map keyD))
    | _ => none)
  | _ => none
def ikeysS (f : SE) : SI := fun σ M => (f σ M).bind fun d M1 => match keysD M1 d with
  | some ds => .ok ⟨ds, fun M' => keysD M' d = some ds⟩ M1
  | none => .bad
theorem RKv.get {κ : Type} {C : Ct} {g : Gh} {kvs : List (κ × D)} {t : List (κ × V)} (r : RKv C g kvs t) : ∀ {i : Nat} {p : κ × D}, kvs[i]? = some p → ∃ v, t[i]? = some (p.1, v) ∧ Rv C g p.2 v := by
  induction r with
  | nil => intro i p e; simp at e
  | @cons k d v r t h _ ih =>
    intro i p e
    cases i with
    | zero =>
      simp only [List.getElem?_cons_zero, Option.some.injEq] at e
      subst e
      exact ⟨v, rfl, h⟩
    | succ i =>
      obtain ⟨u, e1, e2⟩ := ih (i := i) (p := p) (by simpa using e)
      exact ⟨u, by simpa using e1, e2⟩
theorem RKv.keys {κ : Type} {C : Ct} {g : Gh} {kvs : List (κ × D)} {t : List (κ × V)} (r : RKv C g kvs t) : kvs.map (·.1) = t.map (·.1) := by
  induction r with
  | nil => rfl
  | cons _ _ ih => simp [ih]
theorem RKv.length' {κ : Type} {C : Ct} {g : Gh} {kvs : List (κ × D)} {t : List (κ × V)} (r : RKv C g kvs t) : kvs.length = t.length := by
  have := congrArg List.length r.keys
  simpa using this
/-- the walk of a locked dict's keys -/
theorem itOk_k {C : Ct} {g : Gh} {σ : L2.St} {σD : Sl} {M : Mem} {H : Hp} {i : Nat} {a : Addr} {kvs : List (L2.Key × D)} (c : Conc C g σ σD M H) (e1 : g.rho[i]? = some a) (e2 : M[i]? = some (.lk (.dK kvs))) :
    ∃ o t, H a = some (.frz o (.dK t)) ∧ ItOk C g H (Itk a o t) ⟨kvs.map fun p => keyD p.1, fun M' => keysD M' (.ref i) = some (kvs.map fun p => keyD p.1)⟩ := by
  obtain ⟨ob, ho, ro⟩ := c.obj i a _ e1 e2 (by intro z; cases z)
  cases ro with
  | lk ro =>
    cases ro with
    | dK ro =>
      rename_i od t
      refine ⟨od, t, ho, fun g' σ' σD' M' H' l c' k j => ?_⟩
      have hf := l.frz a _ _ ho
      have hl := ro.length'
      refine ⟨fun d hd => ?_, fun hj => ⟨hf, by rw [← hl]; simpa using hj⟩⟩
      simp only [List.getElem?_map, Option.map_eq_some_iff] at hd
      obtain ⟨p, hp, rfl⟩ := hd
      have hlt := (List.getElem?_eq_some_iff.mp hp).1
      refine ⟨⟨hf, by rw [← hl]; exact hlt⟩, fun x H2 ⟨e3, k2, v2, e4, e5⟩ => ?_⟩
      subst e3 e5
      obtain ⟨v, hv, _⟩ := ro.get hp
      rw [hv] at e4
      cases e4
      exact ⟨g', Le.refl _ _, c', rv_key _⟩
theorem itOk_kt {C : Ct} {g : Gh} {σ : L2.St} {σD : Sl} {M : Mem} {H : Hp} {i : Nat} {a : Addr} {kvs : List (List L2.Key × D)} (c : Conc C g σ σD M H) (e1 : g.rho[i]? = some a) (e2 : M[i]? = some (.lk (.dT kvs))) :
    ∃ o t, H a = some (.frz o (.dT t)) ∧ ItOk C g H (Itkt a o t) ⟨kvs.map fun p => .tup (p.1.map keyD), fun M' => keysD M' (.ref i) = some (kvs.map fun p => .tup (p.1.map keyD))⟩ := by
  obtain ⟨ob, ho, ro⟩ := c.obj i a _ e1 e2 (by intro z; cases z)
  cases ro with
  | lk ro =>
    cases ro with
    | dT ro =>
      rename_i od t
      refine ⟨od, t, ho, fun g' σ' σD' M' H' l c' k j => ?_⟩
      have hf := l.frz a _ _ ho
      have hl := ro.length'
      refine ⟨fun d hd => ?_, fun hj => ⟨hf, by rw [← hl]; simpa using hj⟩⟩
      simp only [List.getElem?_map, Option.map_eq_some_iff] at hd
      obtain ⟨p, hp, rfl⟩ := hd
      have hlt := (List.getElem?_eq_some_iff.mp hp).1
      refine ⟨⟨hf, by rw [← hl]; exact hlt⟩, fun x H2 ⟨e3, k2, v2, q, e4, e5, e6⟩ => ?_⟩
      subst e3 e5
      obtain ⟨v, hv, _⟩ := ro.get hp
      rw [hv] at e4
      cases e4
      obtain ⟨g2, l2, c2, hq⟩ := c'.adoptT e6
      refine ⟨g2, l2, c2, ?_⟩
      simp only [Rv]
      exact ⟨q, _, rfl, hq, rvA_keys _⟩
theorem i_keys {tg e : Expr} {f : SE} (h : PD X W e f) : ID X W tg e (ikeysS f) :=
  PI.imp (pi_keys h) fun σ H R ⟨g, σD, M, c, h⟩ => ⟨g, σD, M, c, (RE.post_bind h).imp fun d M1 g1 H1 _ l1 c1 h1 v r => by
    split at h1
    case h_2 => exact h1.elim
    rename_i ds e
    have hh := h1 g1 H1 (Le.refl _ _) c1
    unfold keysD at e
    split at e
    · rename_i i
      simp only [Rv] at r
      obtain ⟨a, rfl, ea⟩ := r
      split at e
      · rename_i kvs e2
        cases e
        obtain ⟨o, t, ho, ok⟩ := itOk_k c1 ea e2
        exact ⟨a, o, rfl, .inl ⟨t, ho, hh _ ok⟩⟩
      · rename_i kvs e2
        cases e
        obtain ⟨o, t, ho, ok⟩ := itOk_kt c1 ea e2
        exact ⟨a, o, rfl, .inr ⟨t, ho, hh _ ok⟩⟩
      · cases e
    · cases e⟩
end
end Lf

/-! Lf22: comprehensions of dicts (turned from HandS.DictComp: keys that are tuples, too). -/
namespace Lf
open PySem PySem.Spec PyProof.Rows L2
theorem d_dictSetD {X : Cx} {pins : List (Addr × Obj)} {σ : L2.St} {H H' : Hp} {s : Shared} {E : Value → Shared → Prop} {D : Addr} {y v : V} {u r : Value} {Q : Unit → Shared → Prop} (hu : X.A.units + 1 < cLine) (I : Inv X pins σ H s) (g : DPut H D y v H') (ry : RelV y u) (rv : RelV v r)
    (h : ∀ s', Inv X pins σ H' s' → Q () s') : wpAny (model X.prog X.w) X.A (dictSet D u r) Q E s := by
  rcases g with ⟨kvs, k, e, ey, l, eH⟩ | ⟨kvs, k, b, e, ey, eb, l, eH⟩
  · subst ey eH
    exact d_dictSet I e l ry rv h
  · subst ey eH
    cases (show u = Value.ref b from ry)
    obtain ⟨z, hd, xs, rel, dd⟩ := dt_of I.hok e
    have hz : xs.length ≤ sizeLine := by rw [← Paired.length rel]; exact z
    have hl : (putK kvs k v).length ≤ sizeLine := by have := length_putK kvs k v; omega
    refine wpAny_dictSet_heap (hsz := hz) (show X.A.units < cLine by omega) (key_of I.hok eb) dd fun h' dd' hs => h _ ?_
    obtain ⟨q, es, ep, hq, h2, h3, h4, _, h5⟩ := dd'
    refine d_write I (by rw [e]; exact True.intro) hs ⟨q, hq⟩ ⟨hl, hd, _, (rel.put k eb rv).keeps fun c ys ec => ?_, q, es, ep, hq, h2, h3, h4, h5⟩
    rw [upd_ne (ne_of ec e (fun z => nomatch z))]
    exact ec
section
variable {X : Cx}
/-- {k: v for target in iter if ..}, keys ints or texts: D the new dict -/
def tDcD (o0 : HO) (wi : TI) (g : TG) (tt : TT) (tk tv : TE) (vs : List Nat) : TE := fun σ H Q => wi σ H fun J H1 => ∀ D, H1 D = none → ∃ W : Nat → Nat → Hp → Prop, (∃ m, W 0 m (upd H1 D o0)) ∧ ∀ i m H, W i m H →
  (J.stop i H ∧ Q (.ref D) H) ∨ (J.go i H ∧ ∃ Nx : Hp → Prop, (∀ H', Nx H' → ∃ m', m' < m ∧ W (i + 1) m' H') ∧ ∀ x H', J.yld i H x H' → g x (wipe σ vs) H' fun σ2 H2 => wipe σ2 vs = wipe σ vs ∧ tt σ2 H2 fun b H3 =>
    if b = true then tk σ2 H3 fun y H4 => tv σ2 H4 fun z H5 => ∃ H6, DPut H5 D y z H6 ∧ Nx H6 else Nx H3)
theorem dc_coreD {o0 : HO} (h0 : o0 = .dK [] ∨ o0 = .dT []) (hu : X.A.units + 1 < cLine) {pins : List (Addr × Obj)} {s : Shared} {σ : L2.St} {H : Hp} {Q : VK} {kx vx tg iter : Expr} {ifs : List Expr} {scope : Scope} {own : List (Str × Nat)} {pos pos' : Pos} {wi : TI} {g : TG} {tt : TT} {tk tv : TE} {use : Option (Value → Sem Unit)} {Qf : Value → Shared → Prop}
    (hc : X.calm = true) (hN : X.N.Nodup) (I : Inv X pins σ H s) (hi : PI X tg iter wi) (ok : BlkOk X.N X.env.scope scope own)
    (hg : ∀ (s : Shared) (H : Hp) (C : Addr) (cl : List (Str × Addr)) (fp : List Addr), PG (X.blk s H scope (compEnvC scope cl C X.env) fp) tg g) (ht : ∀ (s : Shared) (H : Hp) (C : Addr) (cl : List (Str × Addr)) (fp : List Addr), PTs (X.blk s H scope (compEnvC scope cl C X.env) fp) ifs tt)
    (hk : ∀ (s : Shared) (H : Hp) (C : Addr) (cl : List (Str × Addr)) (fp : List Addr), PE (X.blk s H scope (compEnvC scope cl C X.env) fp) kx tk)
    (he : ∀ (s : Shared) (H : Hp) (C : Addr) (cl : List (Str × Addr)) (fp : List Addr), PE (X.blk s H scope (compEnvC scope cl C X.env) fp) vx tv) (hs : ∀ x, foldedSetIterable iter X.env x = pure x)
    (h : tDcD o0 wi g tt tk tv (own.map (·.2)) σ H Q)
    (hRR : ∀ D C s' m H', Inv X pins σ H' s' → Q (.ref D) H' → s'.heap.Ns C m → FpOk X pins H' C → compPost (model X.prog X.w) X.A X.xe use Qf (.ref D) C (.ok .next) s') :
    wpAny (model X.prog X.w) X.A (comprehension (.DictComp kx vx [⟨tg, iter, ifs, 0⟩] scope pos) scope X.env pos' newDict false (eval iter X.env) use) Qf X.xe s := by
  have hfree : ∀ y ∈ scope.names, y.2 = .free → ∃ c, X.env.cells.lookup y.1 = some c := fun y hy e => by
    rcases ok.free y hy e with k | k
    · exact I.ok.has _ (.inl k)
    · exact I.ok.has _ (.inr k)
  refine wpAny_comprehension_free (use := use) rfl hs (closure_ok hfree) ok.kind (fun y hy e => by rw [ok.uniq y hy, e])
    (thn (hi.run pins s σ H _ I h) fun xv s1 hx => thn hx fun itv s2 h2 => ?_)
  obtain ⟨it, fp, tn, J, H2, e, I2, T, st2, f2, q⟩ := h2
  subst e
  refine wpAny_newObj_type (newEnv_comp ?_)
  generalize hD : s2.heap.objs.size = D
  have hDn : H2 D = none := I2.hok.fresh (Nat.le_of_eq hD)
  obtain ⟨W, ⟨m0, w0⟩, turn⟩ := q D hDn
  -- the new list
  generalize hs3 : ({ s2 with heap := s2.heap.push { cls := .type "dict", data := .dict #[] } } : Shared) = s3
  have I3 : Inv X pins σ (upd H2 D o0) s3 := by
    rw [← hs3]
    refine I2.laid (t' := s2.toks) (fun b o e => Heap.get?_push_of_some _ e) (Nat.le_of_eq hD) ?_
    rw [← hD]
    rcases h0 with rfl | rfl
    · exact dk_empty s2.heap I2.big
    · exact dt_empty s2.heap I2.big
  have h3 : s3.heap = s2.heap.push { cls := .type "dict", data := .dict #[] } := by rw [← hs3]
  have sz : ∀ b ∈ fp, b < s2.heap.objs.size := fun b hb => by
    obtain ⟨o, e, _⟩ := T.obj _ _ st2 b hb
    exact Heap.lt_size e
  have f3 : ∀ b ∈ fp, FpOk X pins (upd H2 D o0) b ∧ b < s3.heap.objs.size := fun b hb => by
    have hlt := sz b hb
    refine ⟨⟨?_, (f2 b hb).2⟩, by rw [h3, Heap.size_push]; exact Nat.lt_succ_of_lt hlt⟩
    rw [upd_ne (by rw [← hD]; exact Nat.ne_of_lt hlt)]
    exact (f2 b hb).1
  have st3 : tn 0 s3.heap := T.keep _ _ _ st2 fun b _ o e => by rw [h3]; exact Heap.get?_push_of_some _ e
  have I4 := block_start I3 ok hN f3
  have pg := hg s3 (upd H2 D o0) s3.heap.objs.size (cellsFrom (s3.heap.objs.size + 1) scope.names (cloFrom X.env.cells scope.names [])) fp
  have pt := ht s3 (upd H2 D o0) s3.heap.objs.size (cellsFrom (s3.heap.objs.size + 1) scope.names (cloFrom X.env.cells scope.names [])) fp
  have pk := hk s3 (upd H2 D o0) s3.heap.objs.size (cellsFrom (s3.heap.objs.size + 1) scope.names (cloFrom X.env.cells scope.names [])) fp
  have pe := he s3 (upd H2 D o0) s3.heap.objs.size (cellsFrom (s3.heap.objs.size + 1) scope.names (cloFrom X.env.cells scope.names [])) fp
  show codeAny _ _ (.compStart (.DictComp kx vx [⟨tg, iter, ifs, 0⟩] scope pos) 0 (.ref it) (.ref D) (compEnvC scope (cellsFrom (s3.heap.objs.size + 1) scope.names (cloFrom X.env.cells scope.names [])) s3.heap.objs.size X.env)) (compPost (model X.prog X.w) X.A X.xe use Qf (.ref D) s3.heap.objs.size) { s3 with heap := pushCells (s3.heap.push { cls := .type "dict", data := .dict #[] }) scope.names }
  have nfp : ∀ b ∈ fp, (upd H2 D o0) b = none := fun b hb => (f3 b hb).1.1
  generalize hce : compEnvC scope (cellsFrom (s3.heap.objs.size + 1) scope.names (cloFrom X.env.cells scope.names [])) s3.heap.objs.size X.env = ce at I4 pg pt pk pe ⊢
  have cL : ce.locals = s3.heap.objs.size := by subst hce; rfl
  generalize hH3 : upd H2 D o0 = H3 at I3 I4 pg pt pk pe w0 nfp f3
  generalize hs4 : ({ s3 with heap := pushCells (s3.heap.push { cls := .type "dict", data := .dict #[] }) scope.names } : Shared) = s4 at I4 ⊢
  have st4 : tn 0 s4.heap := T.keep _ _ _ st3 fun b _ o e => by rw [← hs4]; exact pushCells_keeps _ _ _ _ (Heap.get?_push_of_some _ e)
  have stat : ∀ {σ' : L2.St} {H' : Hp} {s' : Shared}, Inv (X.blk s3 H3 scope ce fp) [] σ' H' s' → (∀ b ∈ fp, H' b = none) → ∀ b ∈ fp, FpOk (X.blk s3 H3 scope ce fp) [] H' b := fun {σ' H' s'} I' hn b hb =>
    ⟨hn b hb, (I'.ok.exf b hb).1, I'.ok.exfs b hb, .inl hb, fun x c e => (I'.ok.exf b hb).2 x c e, fun p hp => absurd (show p ∈ ([] : List (Addr × Obj)) ++ [] from hp) (by simp)⟩
  have loop : codeAny (model X.prog X.w) X.A (.compLoop (.DictComp kx vx [⟨tg, iter, ifs, 0⟩] scope pos) 0 (.ref it) (.ref D) ce) (compPost (model X.prog X.w) X.A X.xe use Qf (.ref D) s3.heap.objs.size) s4 := by
    refine compLoop_anyD (fun n s' => ∃ i H', Inv (X.blk s3 H3 scope ce fp) [] (wipe σ (own.map (·.2))) H' s' ∧ tn i s'.heap ∧ (∀ b ∈ fp, H' b = none) ∧ W i n H') ?_ m0 ⟨0, H3, I4, st4, nfp, w0⟩
    rintro n s5 ⟨i, H5, I5, st5, n5, w5⟩
    rcases turn i n H5 w5 with ⟨stop, qq⟩ | ⟨go, Nx, hNx, step⟩
    · have td := T.done (X.blk s3 H3 scope ce fp) rfl rfl rfl hc i [] s5 _ H5 (fun _ _ => False) I5 (stat I5 n5) st5 stop
      refine thnF td fun r s6 ⟨hr, I6⟩ => ?_
      subst hr
      -- back in the def's context
      have I7 : Inv X pins σ H5 s6 := I3.call' (ch := fp) I6.os I6.base I6.hok I6.bare fun b hb => ⟨(f3 b hb).1.2.2.2.1, (f3 b hb).1.2.1, (f3 b hb).1.2.2.2.2.1, (f3 b hb).1.2.2.2.2.2⟩
      have nC : H5 s3.heap.objs.size = none := by
        have z : H5 ce.locals = none := I6.free
        rw [cL] at z
        exact z
      obtain ⟨m, hn, _⟩ := I6.loc
      have hn : s6.heap.Ns ce.locals m := hn
      rw [cL] at hn
      exact hRR D s3.heap.objs.size s6 m H5 I7 qq hn (I3.fpOk (Nat.le_refl _) nC)
    · have ti := T.item (X.blk s3 H3 scope ce fp) rfl rfl rfl hc i [] s5 _ H5 (fun _ _ => False) I5 (stat I5 n5) st5 go
      refine thnF ti fun r s6 ⟨u, hr, h6⟩ => ?_
      subst hr
      refine thnF h6 fun _ s7 ⟨x, H7, I7, r7, y7, st7, n7⟩ => ?_
      have I7' := I7.pinned (stat I7 n7) (T.obj _ _ st7)
      refine thnF (pg.run _ s7 _ H7 x u _ I7' r7 (step x H7 y7)) fun _ s8 ⟨σ8, H8, I8, hw8, q8⟩ => ?_
      refine thnF (pt.run _ s8 σ8 H8 _ I8 q8) fun b s9 ⟨H9, I9, q9⟩ => ?_
      -- the turn's end
      have fin : ∀ {s' : Shared} {H' : Hp}, Inv (X.blk s3 H3 scope ce fp) ([] ++ pinsAt fp s7.heap) σ8 H' s' → Nx H' → ∃ m, m < n ∧ ∃ i H', Inv (X.blk s3 H3 scope ce fp) [] (wipe σ (own.map (·.2))) H' s' ∧ tn i s'.heap ∧ (∀ b ∈ fp, H' b = none) ∧ W i m H' := fun {s' H'} I' nx => by
        obtain ⟨m', hm, w'⟩ := hNx H' nx
        have pin' : ∀ b ∈ fp, ∀ o, s7.heap.get? b = some o → s'.heap.get? b = some o ∧ H' b = none := fun b hb o e =>
          let z := I'.pin (b, o) (List.mem_append_right _ (List.mem_append_right _ (mem_pinsAt hb e)))
          ⟨z.1, z.2.1⟩
        have hl : (wipe σ (own.map (·.2))).length = σ8.length := by rw [← hw8, wipe_length]
        refine ⟨m', hm, i + 1, H', (I'.unpinned (pins := [])).weak hl (fun j v e => ?_), T.keep _ _ _ st7 fun b hb o e => (pin' b hb o e).1, fun b hb => ?_, w'⟩
        · rw [← hw8] at e
          exact (wipe_some e).1
        · obtain ⟨o, e, _⟩ := T.obj _ _ st7 b hb
          exact (pin' b hb o e).2
      cases b with
      | false =>
        simp only [Bool.false_eq_true, if_false] at q9 ⊢
        exact fin I9 q9
      | true =>
        simp only [if_true] at q9 ⊢
        refine thnF (pk.run _ s9 σ8 H9 _ I9 q9) fun z s10 ⟨yk, H10, I10, r10, q10⟩ => ?_
        refine thnF (pe.run _ s10 σ8 H10 _ I10 q10) fun z2 s11 ⟨yv, H11, I11, r11, H12, hp, nx⟩ => ?_
        exact d_dictSetD (X := X.blk s3 H3 scope ce fp) hu I11 hp r10 r11 fun s12 I12 => fin I12 nx
  exact codeAny_compStart_dict loop (T.self X.A 0 _ _ _ st4 loop)
/-- as a value -/
theorem pe_dcD {o0 : HO} (h0 : o0 = .dK [] ∨ o0 = .dT []) (hu : X.A.units + 1 < cLine) {kx vx tg iter : Expr} {ifs : List Expr} {scope : Scope} {own : List (Str × Nat)} {pos : Pos} {wi : TI} {g : TG} {tt : TT} {tk tv : TE} (hc : X.calm = true) (hN : X.N.Nodup) (hi : PI X tg iter wi) (ok : BlkOk X.N X.env.scope scope own)
    (hg : ∀ (s : Shared) (H : Hp) (C : Addr) (cl : List (Str × Addr)) (fp : List Addr), PG (X.blk s H scope (compEnvC scope cl C X.env) fp) tg g) (ht : ∀ (s : Shared) (H : Hp) (C : Addr) (cl : List (Str × Addr)) (fp : List Addr), PTs (X.blk s H scope (compEnvC scope cl C X.env) fp) ifs tt)
    (hk : ∀ (s : Shared) (H : Hp) (C : Addr) (cl : List (Str × Addr)) (fp : List Addr), PE (X.blk s H scope (compEnvC scope cl C X.env) fp) kx tk)
    (he : ∀ (s : Shared) (H : Hp) (C : Addr) (cl : List (Str × Addr)) (fp : List Addr), PE (X.blk s H scope (compEnvC scope cl C X.env) fp) vx tv) (hs : ∀ x, foldedSetIterable iter X.env x = pure x := by intro _; rfl) :
    PE X (.DictComp kx vx [⟨tg, iter, ifs, 0⟩] scope pos) (tDcD o0 wi g tt tk tv (own.map (·.2))) := by
  refine ⟨fun pins s σ H Q I h => ?_⟩
  rw [arm_eval_DictComp]
  refine dc_coreD h0 hu hc hN I hi ok hg ht hk he hs h fun D C s' m H' I' q hn f => ⟨m, hn, fun h'' sb => ?_⟩
  obtain ⟨f0, f1, f2, f3, f4, f5⟩ := f
  exact ⟨.ref D, H', I'.turned (t' := s'.toks) (fun b o hb e => (sb.2 b hb).trans e) f0 f1 f3 f4 f5, rfl, q⟩
end
end Lf

/-! Lf23: comprehensions of dicts as readings. -/
namespace Lf
open PySem PySem.Spec PyProof.Rows L2
theorem RO.gk {C : Ct} {g : Gh} {m : MO} {o : HO} {x y : Option HO} (r : RO C g m o) (h : GK o x y) : x = y := by
  rcases h with h | ⟨vs, rfl⟩
  · exact h
  · cases r
def putMO (m : MO) (y d : D) : Option MO := match m with
  | .dK kvs => (k1Of y).bind fun k => if kvs.length < 16000000 then some (.dK (putG kvs k d)) else none
  | .dT kvs => (kOf y).bind fun k => if kvs.length < 16000000 then some (.dT (putG kvs k d)) else none
  | _ => none
theorem putMO_at {C : Ct} {g : Gh} {σ : L2.St} {σD : Sl} {M : Mem} {H : Hp} {m m' : MO} {y d : D} {vy v : V} {p : Addr} {o : HO} (c : Conc C g σ σD M H) (hp : H p = some o) (ro : RO C g m o) (ry : Rv C g y vy) (rd : Rv C g d v) (e : putMO m y d = some m') :
    ∃ o', DPut H p vy v (upd H p o') ∧ RO C g m' o' := by
  unfold putMO at e
  split at e
  · rename_i kvs
    rw [Option.bind_eq_some_iff] at e
    obtain ⟨k, ek, e⟩ := e
    split at e
    · rename_i hl
      cases e
      cases ro with
      | dK ro =>
        rw [k1_at ry ek]
        exact ⟨_, DPut.k hp (line_lt (by rw [← ro.length]; exact hl)), .dK (ro.put k rd)⟩
    · cases e
  · rename_i kvs
    rw [Option.bind_eq_some_iff] at e
    obtain ⟨k, ek, e⟩ := e
    split at e
    · rename_i hl
      cases e
      cases ro with
      | dT ro =>
        obtain ⟨b, rfl, hb⟩ := k_at c ry ek
        exact ⟨_, DPut.t hp hb (line_lt (by rw [← ro.length]; exact hl)), .dT (ro.put k rd)⟩
    · cases e
  · cases e
open Classical in
noncomputable def dcLoop (z : ItD) (t : Tg) (tt : ST) (fk fv : SE) : List D → Sl → Mem → MO → RE MO
  | [], _, M, acc => if z.chk M then .ok acc M else .bad
  | x :: xs, σ, M, acc => if z.chk M then (match Tg.set t x σ with
    | some σ1 => (match tt σ1 M with
      | .ok true M1 => (match fk σ1 M1 with
        | .ok y M2 => (match fv σ1 M2 with
          | .ok d M3 => (match putMO acc y d with
            | some acc' => dcLoop z t tt fk fv xs σ M3 acc'
            | none => .bad)
          | _ => .bad)
        | _ => .bad)
      | .ok false M1 => dcLoop z t tt fk fv xs σ M1 acc
      | _ => .bad)
    | none => .bad) else .bad
noncomputable def dcS (m0 : MO) (fi : SI) (t : Tg) (vs : List Nat) (tt : ST) (fk fv : SE) : SE := fun σ M => (fi σ M).bind fun z M1 => (dcLoop z t tt fk fv z.all (wipeD σ vs) M1 m0).bind fun m M2 => .ok (.ref M2.length) (M2 ++ [m])
theorem dc_imp {C : Ct} {W : WX} {fi : SI} {t : Tg} {vs : List Nat} {tt : ST} {fk fv : SE} {m0 : MO} {o0 : HO} (h0 : ∀ g, RO C g m0 o0) (ht : ∀ i ∈ Tg.ix t, i ∈ vs) : ∀ σ H Q, tE C W (dcS m0 fi t vs tt fk fv) σ H Q → tDcD o0 (tI C W fi) (gT C.K t) (tT C W0 tt) (tE C W0 fk) (tE C W0 fv) vs σ H Q := by
  rintro σ H Q ⟨g, σD, M, c, h⟩
  refine ⟨g, σD, M, c, (RE.post_bind h).imp fun z M1 g1 H1 _ l1 c1 h1 J ok P hD => ?_⟩
  obtain ⟨hG, hR⟩ := c1.fresh hD
  let Wv : Nat → Nat → Hp → Prop := fun i m H' => m = z.all.length - i ∧ i ≤ z.all.length ∧ ∃ g' M' acc o, Le g1 H1 g' H' ∧ P ∉ g'.rho ∧ g'.G P = none ∧ H' P = some o ∧ Conc C g' (wipe σ vs) (wipeD σD vs) M' H' ∧ RO C g' acc o ∧
    ((dcLoop z t tt fk fv (z.all.drop i) (wipeD σD vs) M' acc).bind fun m M2 => .ok (.ref M2.length) (M2 ++ [m])).post C W g1 H1 σ σD fun g' d _ H' => ∀ v, Rv C g' d v → Q v H'
  refine ⟨Wv, ⟨_, rfl, Nat.zero_le _, g1, M1, m0, o0, (Le.refl g1 H1).other hD, hR, hG, upd_same, (c1.slots (c1.sl.wipe vs)).other hG hR, h0 _, by rw [List.drop_zero]; exact h1⟩, ?_⟩
  rintro i m H' ⟨rfl, hi, g', M', acc, o, l', nD, gD, eD, c', ra, hp⟩
  by_cases hlt : i < z.all.length
  · right
    rw [List.drop_eq_getElem_cons hlt] at hp
    unfold dcLoop at hp
    split at hp
    case isFalse => exact hp.elim
    rename_i hk
    split at hp
    case h_2 => exact hp.elim
    rename_i σ1 e1
    obtain ⟨hgo, hy⟩ := (ok g' (wipe σ vs) (wipeD σD vs) M' H' l' c' hk i).1 _ (List.getElem?_eq_getElem hlt)
    refine ⟨hgo, fun H2 => Wv (i + 1) (z.all.length - (i + 1)) H2, fun H2 w => ⟨_, by omega, w⟩, fun x H2 hx => ?_⟩
    obtain ⟨g2, l2, c2, rx⟩ := hy x H2 hx
    obtain ⟨nD2, eD2, gD2⟩ := l2.out P _ eD nD
    have gD2 := ra.gk gD2
    have ra2 := ra.mono l2.gh
    refine gT_ok t _ x (wipe σ vs) (wipeD σD vs) σ1 _ c2 rx e1 fun σ2 c3 hl hk2 => ⟨?_, g2, σ1, M', c3, ?_⟩
    · rw [wipe_same hl fun j hj => hk2 j fun q => hj (ht j q), wipe_wipe_out]
    have fin : ∀ (g4 : Gh) (M4 : Mem) (H4 : Hp) (σ3 : L2.St) (σ4 : Sl) (acc' : MO) (o' : HO), Le g2 H2 g4 H4 → Conc C g4 σ3 σ4 M4 H4 → RO C g4 acc' o' →
        ((dcLoop z t tt fk fv (z.all.drop (i + 1)) (wipeD σD vs) M4 acc').bind fun m M2 => .ok (.ref M2.length) (M2 ++ [m])).post C W g1 H1 σ σD (fun g' d _ H' => ∀ v, Rv C g' d v → Q v H') →
        Wv (i + 1) (z.all.length - (i + 1)) (upd H4 P o') := fun g4 M4 H4 σ3 σ4 acc' o' l4 c4 r4 hp4 => by
      obtain ⟨nD4, eD4, gD4⟩ := l4.out P _ eD2 nD2
      have gD4 := ra.gk gD4
      have gD4' : g4.G P = none := gD4.trans (gD2.trans gD)
      exact ⟨rfl, hlt, g4, M4, acc', o', ((l'.trans l2).trans l4).other hD, nD4, gD4', upd_same, (c4.slots ((c2.sl).mono l4.gh)).other gD4' nD4, r4, hp4⟩
    cases et : tt σ1 M' with
    | ex y M2 => rw [et] at hp; exact hp.elim
    | bad => rw [et] at hp; exact hp.elim
    | ok b M2 =>
      rw [et] at hp
      intro g3 H3 l3 c4
      obtain ⟨nD3, eD3, gD3⟩ := l3.out P _ eD2 nD2
      cases b with
      | false =>
        have w := fin g3 M2 H3 σ2 σ1 acc o l3 c4 (ra2.mono l3.gh) hp
        have e : upd H3 P o = H3 := by
          funext b
          by_cases hb : b = P
          · subst hb
            rw [upd_same, eD3]
          · rw [upd_ne hb]
        rw [e] at w
        exact w
      | true =>
        refine ⟨g3, σ1, M2, c4, ?_⟩
        simp only at hp
        cases ef : fk σ1 M2 with
        | ex y M3 => rw [ef] at hp; exact hp.elim
        | bad => rw [ef] at hp; exact hp.elim
        | ok y M3 =>
          rw [ef] at hp
          intro g4 H4 l4 c5 vy ry
          obtain ⟨nD4, eD4, gD4⟩ := l4.out P _ eD3 nD3
          refine ⟨g4, σ1, M3, c5, ?_⟩
          simp only at hp
          cases eg : fv σ1 M3 with
          | ex y M4 => rw [eg] at hp; exact hp.elim
          | bad => rw [eg] at hp; exact hp.elim
          | ok d M4 =>
            rw [eg] at hp
            intro g5 H5 l5 c6 vd rd
            obtain ⟨nD5, eD5, gD5⟩ := l5.out P _ eD4 nD4
            simp only at hp
            split at hp
            case h_2 => exact hp.elim
            rename_i acc' ea
            obtain ⟨o', hput, ro'⟩ := putMO_at c6 eD5 (ra2.mono (Gh.le_trans l3.gh (Gh.le_trans l4.gh l5.gh))) (Rv.mono l5.gh _ _ ry) rd ea
            exact ⟨_, hput, fin g5 M4 H5 σ2 σ1 acc' o' ((l3.trans l4).trans l5) c6 ro' hp⟩
  · left
    have ei : i = z.all.length := by omega
    subst ei
    rw [List.drop_length] at hp
    unfold dcLoop at hp
    split at hp
    case isFalse => exact hp.elim
    rename_i hk
    refine ⟨(ok g' (wipe σ vs) (wipeD σD vs) M' H' l' c' hk _).2 (Nat.le_refl _), ?_⟩
    obtain ⟨c5, l5, r5⟩ := c'.adopt gD nD eD ra
    have l6 : Le g1 H1 ⟨g'.G, g'.rho ++ [P]⟩ H' := ⟨Gh.le_trans l'.gh l5, fun a o e n => by
      obtain ⟨n1, e1, q1⟩ := l'.out a o e n
      refine ⟨fun z => ?_, e1, q1⟩
      have z' : a ∈ g'.rho ++ [P] := z
      rcases List.mem_append.mp z' with z | z
      · exact n1 z
      · exact ne_of_none e hD (by simpa using z), l'.frz⟩
    exact hp _ _ l6 (c5.slots (c1.sl.mono l6.gh)) _ r5
section
variable {X : Cx} {W : WX} {pos : Pos}
theorem d_dc {kx vx tg iter : Expr} {ifs : List Expr} {scope : Scope} {own : List (Str × Nat)} {fi : SI} {t : Tg} {tt : ST} {fk fv : SE} {m0 : MO} {o0 : HO} {k : Nat} (hr : Room k X.A) (hm : (m0 = .dK [] ∧ o0 = .dK []) ∨ (m0 = .dT [] ∧ o0 = .dT [])) (hc : X.calm = true) (hN : X.N.Nodup) (ok : BlkOk X.N X.env.scope scope own) (ht : ∀ i ∈ Tg.ix t, i ∈ own.map (·.2)) (hi : ID X W tg iter fi)
    (hg : ∀ (s : Shared) (H : Hp) (C : Addr) (cl : List (Str × Addr)) (fp : List Addr), GD (X.blk s H scope (compEnvC scope cl C X.env) fp) tg t) (htt : ∀ (s : Shared) (H : Hp) (C : Addr) (cl : List (Str × Addr)) (fp : List Addr), TDs (X.blk s H scope (compEnvC scope cl C X.env) fp) W0 ifs tt)
    (hk : ∀ (s : Shared) (H : Hp) (C : Addr) (cl : List (Str × Addr)) (fp : List Addr), PD (X.blk s H scope (compEnvC scope cl C X.env) fp) W0 kx fk)
    (he : ∀ (s : Shared) (H : Hp) (C : Addr) (cl : List (Str × Addr)) (fp : List Addr), PD (X.blk s H scope (compEnvC scope cl C X.env) fp) W0 vx fv) (hs : ∀ x, foldedSetIterable iter X.env x = pure x := by intro _; rfl) :
    PD X W (.DictComp kx vx [⟨tg, iter, ifs, 0⟩] scope pos) (dcS m0 fi t (own.map (·.2)) tt fk fv) :=
  PE.imp (pe_dcD (o0 := o0) (by rcases hm with ⟨_, h⟩ | ⟨_, h⟩ <;> simp [h]) (by have := hr.un; omega) hc hN hi ok (g := gT X.K t) (tt := tT (ctx X) W0 tt) (tk := tE (ctx X) W0 fk) (tv := tE (ctx X) W0 fv) hg htt hk he hs) (dc_imp (C := ctx X) (by
    rcases hm with ⟨rfl, rfl⟩ | ⟨rfl, rfl⟩
    · exact fun g => .dK .nil
    · exact fun g => .dT .nil) ht)
end
end Lf

/-! Lf24: the pairs of a locked dict walked (turned from HandS.Iter turn_items, pi_items: keys that are tuples, too). -/
namespace Lf
open PySem PySem.Spec PyProof.Rows L2
section
variable {X : Cx} {pins : List (Addr × Obj)} {σ : L2.St} {H : Hp} {s : Shared} {d : Addr} {o : Obj}
theorem frzTV {kvs : List (List Key × V)} (I : Inv X pins σ H s) (h : H d = some (.frz o (.dT kvs))) :
    (d == sysModules) = false ∧ s.heap.get? d = some o ∧ o.ExactDict ∧ kvs.length ≤ sizeLine ∧ ∃ (es : Array DictEntry) (ep : Nat), o.data = .dict es ep ∧ es.size = kvs.length ∧
      ∀ (i : Nat) (k : List Key) (v : V), kvs[i]? = some (k, v) → ∃ (en : DictEntry) (q : Addr), es[i]? = some en ∧ en.key = .ref q ∧ H q = some (.tup (k.map kV)) ∧ RelV v en.val := by
  obtain ⟨hd, z, hs, xs, pr, o', es, ep, ho, hx, hdt, he, _⟩ := I.hok d _ h
  rw [hd] at ho
  cases ho
  have hl := Paired.length pr
  refine ⟨hs, hd, hx, z, es, ep, hdt, ?_, fun i k v e => ?_⟩
  · have := congrArg List.length he
    rw [List.length_map, Array.length_toList] at this
    omega
  · have key : ∀ {l : List (List Key × V)} {m : List (List Key × Addr × Value)}, KT H l m → ∀ {i : Nat} {k : List Key} {v : V}, l[i]? = some (k, v) → ∃ q u, m[i]? = some (k, q, u) ∧ H q = some (.tup (k.map kV)) ∧ RelV v u := by
      intro l m r
      induction r with
      | nil => intro i k v e; simp at e
      | @cons p q ps qs h t ih =>
        intro i k v e
        cases i with
        | zero =>
          simp only [List.getElem?_cons_zero, Option.some.injEq] at e
          subst e
          obtain ⟨h1, h2, h3⟩ := h
          obtain ⟨q1, q2, q3⟩ := q
          simp only at h1 h2 h3
          subst h1
          exact ⟨q2, q3, rfl, h2, h3⟩
        | succ i => exact ih (by simpa using e)
    obtain ⟨q, u, e1, e2, e3⟩ := key pr e
    have e4 : es[i]? = (es.toList)[i]? := by simp
    rw [he, List.getElem?_map, e1] at e4
    exact ⟨_, q, e4, rfl, e2, e3⟩
end
/-- the pairs, each a new tuple of the key's own tuple and the value -/
def Itit (d : Addr) (o : Obj) (kvs : List (List Key × V)) : It :=
  ⟨fun i H => H d = some (.frz o (.dT kvs)) ∧ i < kvs.length, fun i H x H' => ∃ T k v q, kvs[i]? = some (k, v) ∧ x = .ref T ∧ H T = none ∧ H q = some (.tup (k.map kV)) ∧ H' = upd H T (.tup [.ref q, v]), fun i H => H d = some (.frz o (.dT kvs)) ∧ kvs.length ≤ i⟩
section
variable {P : Program} {w : World} {K : PySem.W.Frag} {d : Addr} {o : Obj} {es : Array DictEntry} {ep : Nat}
theorem turn_itemsT {kvs : List (List Key × V)} {elts : List Expr} {kk : Nat} {tpos : Pos} (it : Addr) (hod : o.data = .dict es ep) :
    Turn P w K (.Tuple elts kk tpos) (Itit d o kvs) [it] it (fun i h => ∃ ok ov, IsItemIter h it d i kvs.length ep ok ov) where
  mem := by simp
  obj := fun i h st b hb => by
    have e : b = it := by simpa using hb
    subst e
    obtain ⟨ok, ov, e⟩ := st
    exact ⟨_, e, fun v z => nomatch z⟩
  keep := fun i h h' st k => let ⟨ok, ov, e⟩ := st; ⟨ok, ov, k it (by simp) _ e⟩
  item := by
    intro X hP hw hK hc i pins s σ H E I hf st hg
    subst hP hw hK
    obtain ⟨hd, hi⟩ := hg
    obtain ⟨hs, hgd, hx, hsz, es', ep', hdt, hl, hval⟩ := frzTV I hd
    obtain ⟨rfl, rfl⟩ := dict_ep hod hdt
    obtain ⟨⟨k, v⟩, hkv⟩ : ∃ p, kvs[i]? = some p := ⟨kvs[i], List.getElem?_eq_getElem hi⟩
    obtain ⟨en, q, hen, hkey, hq, rv⟩ := hval i k v hkv
    obtain ⟨ok, ov, he⟩ := st
    rw [← hl] at he hi
    have hen' : es'[i] = en := by
      rw [Array.getElem?_eq_getElem hi] at hen
      exact Option.some.inj hen
    have hlt : it < s.heap.objs.size := Heap.lt_size he
    refine DT.nextI he ⟨o, hgd, hx, hdt⟩ hi fun h' ho hT hz hk => ?_
    refine ⟨_, rfl, wpAny_letOwnedTupleGo_items (s := { s with heap := h' }) ho fun h'' he' sb => ?_⟩
    have hT2 : h''.get? s.heap.objs.size = some { cls := .type "tuple", data := .seq #[es'[i].key, es'[i].val] } := (sb.2 _ (Nat.ne_of_gt hlt)).trans hT
    rw [hen'] at hT2
    have new : ObjOk X.prog X.w (upd H s.heap.objs.size (.tup [.ref q, v])) h'' s.heap.objs.size (.tup [.ref q, v]) :=
      ⟨by show 2 ≤ sizeLine; decide, [en.key, en.val], .cons (by rw [hkey]; rfl) (.cons rv .nil), ⟨_, hT2, rfl, _, rfl⟩⟩
    have I1 : Inv X pins σ (upd H s.heap.objs.size (.tup [.ref q, v])) { s with heap := h'' } :=
      I.turnedNew (t' := s.toks) (ch := [it]) (fun b ob hb e => (sb.2 b (by simpa using hb)).trans (hk b ob (by simpa using hb) e)) hf (Nat.le_refl _) new
    refine ⟨.ref s.heap.objs.size, _, I1, rfl, ⟨_, k, v, q, hkv, rfl, I.hok.fresh (Nat.le_refl _), hq, rfl⟩, ⟨es'[i].key, es'[i].val, ?_⟩, fun b hb => ?_⟩
    · rw [← hl]; exact he'
    · have e : b = it := by simpa using hb
      rw [e, upd_ne (Nat.ne_of_lt hlt)]
      exact (hf it (by simp)).1
  done := by
    intro X hP hw hK hc i pins s σ H E I hf st hg
    subst hP hw hK
    obtain ⟨hd, hi⟩ := hg
    obtain ⟨f0, f1, f2, f3, f4, f5⟩ := hf it (by simp)
    obtain ⟨hs, hgd, hx, hsz, es', ep', hdt, hl, hval⟩ := frzTV I hd
    obtain ⟨rfl, rfl⟩ := dict_ep hod hdt
    obtain ⟨ok, ov, he⟩ := st
    rw [← hl] at he hi
    exact DT.endI (I.ok.hd hc) he ⟨o, hgd, hx, hdt⟩ hi fun h' eb => ⟨rfl, I.turned (t' := s.toks) (fun b ob hb e => eb b ob hb e) f0 f1 f3 f4 f5⟩
  self := fun A i s Q E st h => let ⟨_, _, e⟩ := st; PySem.W.kcp_self e h
end
/-- for k, v in d.items(), d locked -/
def iItemsD (td : TE) : TI := fun σ H R => td σ H fun x H1 => ∃ d o, x = .ref d ∧ ((∃ kvs, H1 d = some (.frz o (.dK kvs)) ∧ R (Iti d o kvs) H1) ∨ ∃ kvs, H1 d = some (.frz o (.dT kvs)) ∧ R (Itit d o kvs) H1)
section
variable {X : Cx} {W : WX} {e : Expr} {td : TE} {apos cpos : Pos}
theorem pi_itemsD {elts : List Expr} {kk : Nat} {tpos : Pos} (he : PE X e td) (hbase : attributeBase e "items" X.env (eval e X.env) = eval e X.env := by rfl) (hline : (apos.endLine == cpos.line) = true := by rfl) :
    PI X (.Tuple elts kk tpos) (.Call (.Attribute e "items" apos) [] [] cpos) (iItemsD td) := by
  refine ⟨fun pins s σ H R I h => ?_⟩
  refine wpAny_Call_method (T := "dict") (id := "dict.items") hbase rfl hline F.plainAttrs_dict F.slot_dict_items F.type_dict_items (thn (he.run pins s σ H _ I h) fun u s1 ⟨x, H1, I1, rx, d, o, ex, q⟩ => ?_)
  subst ex
  obtain rfl : u = Value.ref d := rx
  rcases q with ⟨kvs, hd, q⟩ | ⟨kvs, hd, q⟩
  · obtain ⟨hs, hgd, hx, es, ep, vs, hdt, hsz, kv, hm⟩ := I1.frzK hd
    have hl : kvs.length = vs.length := Paired.length kv
    refine ⟨hm.dictOf.typeIs, hm.dictOf.mapOf.noDict, ?_⟩
    have I2 : Inv X pins σ H1 { s1 with heap := s1.heap.push { cls := .type "dict_items", data := .fields #[.ref d] } } := I1.kept (t' := s1.toks) fun b ob q => Heap.get?_push_of_some _ q
    have fin : wpAny (model X.prog X.w) X.A (pyIter (.ref s1.heap.objs.size)) (PIE X pins σ (.Tuple elts kk tpos) R) X.xe { s1 with heap := s1.heap.push { cls := .type "dict_items", data := .fields #[.ref d] } } := by
      refine wpAny_pyIter_items (d := d) (knd := mixKind X.prog X.w) ⟨_, Heap.get?_push_size _ rfl, rfl, rfl⟩ (hm.push _) (pi_one (tk := s1.toks) I2 _ (turn_items _ hdt) ⟨.none, .none, ?_⟩ q)
      rw [hl]
      exact Heap.get?_push_size _ rfl
    show wpAny _ _ (callWith cpos (.builtin "dict.items") [.ref d] [] []) _ X.xe s1
    exact method_meetsIn F.slot_dict_items F.entry_dict_items rfl (PySem.evalArgs_none ⟨rfl, hm.dictOf.typeIs, F.args_dict_items_1 _, _, meets_dict_items (mixKind X.prog X.w) d hs, ⟨vs, hm.dictOf⟩, fin⟩)
  · obtain ⟨hs, hgd, hx, hsz, es, ep, hdt, hl, hval⟩ := frzTV I1 hd
    have hraw : DT.Raw s1.heap d es ep := ⟨o, hgd, hx, hdt⟩
    refine ⟨hraw.typeIs, fun b q => by cases q; exact ⟨o, hgd, hx.2.1⟩, ?_⟩
    have I2 : Inv X pins σ H1 { s1 with heap := s1.heap.push { cls := .type "dict_items", data := .fields #[.ref d] } } := I1.kept (t' := s1.toks) fun b ob q => Heap.get?_push_of_some _ q
    have fin : wpAny (model X.prog X.w) X.A (pyIter (.ref s1.heap.objs.size)) (PIE X pins σ (.Tuple elts kk tpos) R) X.xe { s1 with heap := s1.heap.push { cls := .type "dict_items", data := .fields #[.ref d] } } := by
      refine DT.iterI (d := d) ⟨_, Heap.get?_push_size _ rfl, rfl, rfl⟩ (hraw.push _) (pi_one (tk := s1.toks) I2 _ (turn_itemsT _ hdt) ⟨.none, .none, ?_⟩ q)
      rw [← hl]
      exact Heap.get?_push_size _ rfl
    show wpAny _ _ (callWith cpos (.builtin "dict.items") [.ref d] [] []) _ X.xe s1
    exact method_meetsIn F.slot_dict_items F.entry_dict_items rfl (PySem.evalArgs_none ⟨rfl, hraw.typeIs, F.args_dict_items_1 _, _, DT.meetsItems (es := es) (ep := ep) hs, ⟨hraw, fin⟩⟩)
def itemsDM (M : Mem) (x : D) : Option (List D) := match x with
  | .ref i => (match M[i]? with
    | some (.lk (.dK kvs)) => some (kvs.map fun p => .tup [keyD p.1, p.2])
    | some (.lk (.dT kvs)) => some (kvs.map fun p => .tup [.tup (p.1.map keyD), p.2])
    | _ => none)
  | _ => none
def iitemsS (f : SE) : SI := fun σ M => (f σ M).bind fun d M1 => match itemsDM M1 d with
  | some ds => .ok ⟨ds, fun M' => itemsDM M' d = some ds⟩ M1
  | none => .bad
theorem itOk_it {C : Ct} {g : Gh} {σ : L2.St} {σD : Sl} {M : Mem} {H : Hp} {i : Nat} {a : Addr} {kvs : List (L2.Key × D)} (c : Conc C g σ σD M H) (e1 : g.rho[i]? = some a) (e2 : M[i]? = some (.lk (.dK kvs))) :
    ∃ o t, H a = some (.frz o (.dK t)) ∧ ItOk C g H (Iti a o t) ⟨kvs.map fun p => .tup [keyD p.1, p.2], fun M' => itemsDM M' (.ref i) = some (kvs.map fun p => .tup [keyD p.1, p.2])⟩ := by
  obtain ⟨ob, ho, ro⟩ := c.obj i a _ e1 e2 (by intro z; cases z)
  cases ro with
  | lk ro =>
    cases ro with
    | dK ro =>
      rename_i od t
      refine ⟨od, t, ho, fun g' σ' σD' M' H' l c' k j => ?_⟩
      have hf := l.frz a _ _ ho
      have hl := ro.length'
      refine ⟨fun d hd => ?_, fun hj => ⟨hf, by rw [← hl]; simpa using hj⟩⟩
      simp only [List.getElem?_map, Option.map_eq_some_iff] at hd
      obtain ⟨p, hp, rfl⟩ := hd
      have hlt := (List.getElem?_eq_some_iff.mp hp).1
      refine ⟨⟨hf, by rw [← hl]; exact hlt⟩, fun x H2 ⟨T, k2, v2, e4, e5, e6, e7⟩ => ?_⟩
      subst e5 e7
      obtain ⟨v, hv, rv⟩ := ro.get hp
      rw [hv] at e4
      cases e4
      obtain ⟨l2, c2⟩ := c'.frzL (o := .tup [kV p.1, v2]) e6
      refine ⟨_, l2, c2, ?_⟩
      simp only [Rv]
      exact ⟨T, _, rfl, upd_same, RvA.cons (rv_key _) (RvA.cons (Rv.mono (Gh.le_trans l.gh l2.gh) _ _ rv) RvA.nil)⟩
theorem itOk_itT {C : Ct} {g : Gh} {σ : L2.St} {σD : Sl} {M : Mem} {H : Hp} {i : Nat} {a : Addr} {kvs : List (List L2.Key × D)} (c : Conc C g σ σD M H) (e1 : g.rho[i]? = some a) (e2 : M[i]? = some (.lk (.dT kvs))) :
    ∃ o t, H a = some (.frz o (.dT t)) ∧ ItOk C g H (Itit a o t) ⟨kvs.map fun p => .tup [.tup (p.1.map keyD), p.2], fun M' => itemsDM M' (.ref i) = some (kvs.map fun p => .tup [.tup (p.1.map keyD), p.2])⟩ := by
  obtain ⟨ob, ho, ro⟩ := c.obj i a _ e1 e2 (by intro z; cases z)
  cases ro with
  | lk ro =>
    cases ro with
    | dT ro =>
      rename_i od t
      refine ⟨od, t, ho, fun g' σ' σD' M' H' l c' k j => ?_⟩
      have hf := l.frz a _ _ ho
      have hl := ro.length'
      refine ⟨fun d hd => ?_, fun hj => ⟨hf, by rw [← hl]; simpa using hj⟩⟩
      simp only [List.getElem?_map, Option.map_eq_some_iff] at hd
      obtain ⟨p, hp, rfl⟩ := hd
      have hlt := (List.getElem?_eq_some_iff.mp hp).1
      refine ⟨⟨hf, by rw [← hl]; exact hlt⟩, fun x H2 ⟨T, k2, v2, q, e4, e5, e6, e8, e7⟩ => ?_⟩
      subst e5 e7
      obtain ⟨v, hv, rv⟩ := ro.get hp
      rw [hv] at e4
      cases e4
      obtain ⟨g1, l1, c1, hq⟩ := c'.adoptT e8
      obtain ⟨l2, c2⟩ := c1.frzL (o := .tup [.ref q, v2]) e6
      refine ⟨_, l1.trans l2, c2, ?_⟩
      have rq : Rv C g1 (.tup (p.1.map keyD)) (.ref q) := by
        simp only [Rv]
        exact ⟨q, _, rfl, hq, rvA_keys _⟩
      simp only [Rv]
      refine ⟨T, _, rfl, upd_same, RvA.cons ?_ (RvA.cons (Rv.mono (Gh.le_trans l.gh (Gh.le_trans l1.gh l2.gh)) _ _ rv) RvA.nil)⟩
      exact Rv.mono l2.gh _ _ rq
theorem i_items {elts : List Expr} {kk : Nat} {tpos : Pos} {f : SE} (h : PD X W e f) (hbase : attributeBase e "items" X.env (eval e X.env) = eval e X.env := by rfl) (hline : (apos.endLine == cpos.line) = true := by rfl) :
    ID X W (.Tuple elts kk tpos) (.Call (.Attribute e "items" apos) [] [] cpos) (iitemsS f) :=
  PI.imp (pi_itemsD h hbase hline) fun σ H R ⟨g, σD, M, c, h⟩ => ⟨g, σD, M, c, (RE.post_bind h).imp fun d M1 g1 H1 _ l1 c1 h1 v r => by
    split at h1
    case h_2 => exact h1.elim
    rename_i ds e
    have hh := h1 g1 H1 (Le.refl _ _) c1
    unfold itemsDM at e
    split at e
    · rename_i i
      simp only [Rv] at r
      obtain ⟨a, rfl, ea⟩ := r
      split at e
      · rename_i kvs e2
        cases e
        obtain ⟨o, t, ho, ok⟩ := itOk_it c1 ea e2
        exact ⟨a, o, rfl, .inl ⟨t, ho, hh _ ok⟩⟩
      · rename_i kvs e2
        cases e
        obtain ⟨o, t, ho, ok⟩ := itOk_itT c1 ea e2
        exact ⟨a, o, rfl, .inr ⟨t, ho, hh _ ok⟩⟩
      · cases e
    · cases e⟩
end
end Lf

/-! Lf25: == and != of two dicts with tuples as keys that hold the same (turned from HandS.DictEq). -/
namespace Lf
open PySem PySem.Spec PyProof.Rows L2 PySem.W
section
variable {prog : Program} {w : World} {K : Type} [DecidableEq K] {knd : HeapKind prog w K} {A : Around} {E : Value → Shared → Prop} {s : Shared}
theorem samePairsH {nm : String} {a b : Addr} {ka kb : List (K × Addr × Value)} {Q : Bool → Shared → Prop} (ha : (a == sysModules) = false) (hb : (b == sysModules) = false) (hu : knd.room A)
    (da : s.heap.DictOfH knd a ka) (db : s.heap.DictOfH knd b kb) (hl : ka.length = kb.length) (hits : ∀ (i : Nat) (k : K) (q : Addr) (v : Value), ka[i]? = some (k, q, v) → ∃ (j : Nat) (q' : Addr) (y : Value), kb[j]? = some (k, q', y) ∧ SeqAt.EqP prog w A s v y true) (h : Q true s) :
    wpAny (model prog w) A (Builtin.Dict.samePairs nm a b) Q E s := by
  obtain ⟨oa, es, ep, hoa, _, hda, hea, hia, hna⟩ := da
  obtain ⟨ob, es', ep', hob, _, hdb, heb, hib, hnb⟩ := db
  have hla : ka.length = es.size := (size_of_entries hea).symm
  have hlb : kb.length = es'.size := (size_of_entries heb).symm
  have hsz : es.size = es'.size := by omega
  unfold Builtin.Dict.samePairs Builtin.Dict.showsAll
  rw [if_neg (show ¬ (a == sysModules) = true by rw [ha]; exact Bool.false_ne_true), if_neg (show ¬ (b == sysModules) = true by rw [hb]; exact Bool.false_ne_true)]
  refine wpAny_bind (wpAny_pure (wpAny_bind (wpAny_pure ?_)))
  refine wpAny_bind (wpAny_dictEntries hoa hda ?_)
  dsimp only
  refine wpAny_bind (wpAny_dictEntries hob hdb ?_)
  rw [if_neg (by rw [hsz]; simp)]
  refine wpAny_bind (wpAny_dictEpoch hoa hda ?_)
  refine wpAny_bind ?_
  rw [Std.Legacy.Range.forIn_eq_forIn_range']
  simp only [Std.Legacy.Range.size, Nat.sub_zero, Nat.add_sub_cancel, Nat.div_one]
  refine wpAny_forIn_list _
    (fun rest q s' => s' = s ∧ q = (none, ()) ∧ ∃ i, rest = List.range' i (es.size - i) ∧ i ≤ es.size)
    _ ?_ ?_ _ _ ⟨rfl, rfl, 0, by simp, Nat.zero_le _⟩
  · rintro x rest q s' ⟨rfl, rfl, i, hr, hi⟩
    have hlt : i < es.size := by
      rcases Nat.lt_or_ge i es.size with h | h
      · exact h
      · rw [Nat.sub_eq_zero_of_le h] at hr; simp at hr
    obtain ⟨rfl, hrest⟩ : x = i ∧ rest = List.range' (i + 1) (es.size - (i + 1)) := by
      have e : es.size - i = (es.size - (i + 1)) + 1 := by omega
      rw [e, List.range'_succ] at hr
      injection hr with h1 h2
      exact ⟨h1, h2⟩
    refine wpAny_bind (wpAny_dictEntries hoa hda ?_)
    rw [Array.getElem?_eq_getElem hlt]
    have hlt' : x < ka.length := by omega
    obtain ⟨k, qa, v, hkv⟩ : ∃ k qa v, ka[x]? = some (k, qa, v) := ⟨ka[x].1, ka[x].2.1, ka[x].2.2, List.getElem?_eq_getElem hlt'⟩
    have hent : es[x] = entryOfKey knd (k, qa, v) := by
      have e := entry_at hea x
      rw [hkv, Array.getElem?_eq_getElem hlt] at e
      exact Option.some.inj e
    obtain ⟨j, q', y, hj, hey⟩ := hits x k qa v hkv
    have hjlt : j < es'.size := by
      have := (List.getElem?_eq_some_iff.mp hj).1
      omega
    have hent' : es'[j] = entryOfKey knd (k, q', y) := by
      have e := entry_at heb j
      rw [hj, Array.getElem?_eq_getElem hjlt] at e
      exact Option.some.inj e
    have hisk : knd.is s'.heap k qa := hia _ (List.mem_of_getElem? hkv)
    show wpAny _ _ (holding [es[x].key, es[x].val] _ >>= _) _ _ _
    rw [hent]
    refine wpAny_bind (wpAny_holding (wpAny_bind (wpAny_dictFind_heap hu hisk hob hdb heb hib hnb (fun hno => absurd hj (hno j _)) fun j2 p hj2 => ?_)))
    have ej : j2 = j := by
      have h1 := (List.getElem?_eq_some_iff.mp hj).1
      have h2 := (List.getElem?_eq_some_iff.mp hj2).1
      have m1 : (kb.map (·.1))[j]? = some k := by rw [List.getElem?_map, hj]; rfl
      have m2 : (kb.map (·.1))[j2]? = some k := by rw [List.getElem?_map, hj2]; rfl
      obtain ⟨l1, g1⟩ := List.getElem?_eq_some_iff.mp m1
      obtain ⟨l2, g2⟩ := List.getElem?_eq_some_iff.mp m2
      exact (List.getElem_inj hnb).mp (g2.trans g1.symm)
    subst ej
    refine wpAny_bind (wpAny_dictEntries hob hdb ?_)
    rw [Array.getElem?_eq_getElem hjlt, hent']
    refine wpAny_holding (hey _ _ ?_)
    show wpAny _ _ (if (!true) = true then _ else _) _ _ _
    rw [if_neg (by decide)]
    refine wpAny_bind (wpAny_dictEpoch hoa hda ?_)
    rw [if_neg (by simp)]
    exact wpAny_pure ⟨rfl, rfl, x + 1, hrest, hlt⟩
  · rintro q s' ⟨rfl, rfl, i, hr, hi⟩
    exact wpAny_pure h
theorem rc_dictsH {wanted : Bool} {op : CmpOp} {a b : Addr} {ka kb : List (K × Addr × Value)} (hop : (op = .Eq ∧ wanted = true) ∨ (op = .NotEq ∧ wanted = false)) (ha : (a == sysModules) = false) (hb : (b == sysModules) = false) (hr : knd.room A.in1)
    (da : s.heap.DictOfH knd a ka) (db : s.heap.DictOfH knd b kb) (hu : A.units < cLine) (hl : ka.length = kb.length) (hits : ∀ (i : Nat) (k : K) (q : Addr) (v : Value), ka[i]? = some (k, q, v) → ∃ (j : Nat) (q' : Addr) (y : Value), kb[j]? = some (k, q', y) ∧ SeqAt.EqP prog w A.in1 s v y true) (Q : Value → Shared → Prop) (h : Q (.bool wanted) s) :
    wpAny (model prog w) A (compareOp op (.ref a) (.ref b)) Q E s := by
  rcases hop with ⟨rfl, rfl⟩ | ⟨rfl, rfl⟩
  · refine wpAny_richCompare_same_room (op := .Eq) da.typeIs db.typeIs PySem.F.slot_dict_eq (wpAny_call_entry PySem.F.slot_dict_eq da.typeIs PySem.F.entry_dict_eq ?_ (PySem.F.args_dict_eq_2 _ _)) hu
    show wpAny _ _ (Builtin.Dict.dictSlotArgs "__eq__" ⟨[.ref a, .ref b], []⟩ >>= _) _ _ s
    refine wpAny_bind ?_
    unfold Builtin.Dict.dictSlotArgs
    refine wpAny_bind (wpAny_notOrdered_dict da.typeIs ?_)
    show wpAny _ _ (pure (Value.ref a, Value.ref b)) _ _ s
    refine wpAny_pure ?_
    refine wpAny_bind (wpAny_isInstance (T := "dict") db.typeIs PySem.F.sub_dict_dict ?_)
    simp only [Bool.not_true, Bool.false_eq_true, if_false]
    refine wpAny_bind (wpAny_pure (wpAny_bind (wpAny_pure ?_)))
    refine wpAny_bind (samePairsH ha hb hr da db hl hits ?_)
    refine wpAny_pure ⟨_, rfl, ?_, ?_⟩
    · exact fun x => nomatch x
    · simpa using h
  · refine wpAny_richCompare_same_room (op := .NotEq) da.typeIs db.typeIs PySem.F.slot_dict_ne (wpAny_call_entry PySem.F.slot_dict_ne da.typeIs PySem.F.entry_dict_ne ?_ (PySem.F.args_dict_ne_2 _ _)) hu
    show wpAny _ _ (Builtin.Dict.dictSlotArgs "__ne__" ⟨[.ref a, .ref b], []⟩ >>= _) _ _ s
    refine wpAny_bind ?_
    unfold Builtin.Dict.dictSlotArgs
    refine wpAny_bind (wpAny_notOrdered_dict da.typeIs ?_)
    show wpAny _ _ (pure (Value.ref a, Value.ref b)) _ _ s
    refine wpAny_pure ?_
    refine wpAny_bind (wpAny_isInstance (T := "dict") db.typeIs PySem.F.sub_dict_dict ?_)
    simp only [Bool.not_true, Bool.false_eq_true, if_false]
    refine wpAny_bind (wpAny_pure (wpAny_bind (wpAny_pure ?_)))
    refine wpAny_bind (samePairsH ha hb hr da db hl hits ?_)
    refine wpAny_pure ⟨_, rfl, ?_, ?_⟩
    · exact fun x => nomatch x
    · simpa using h
end
end Lf

/-! Lf26: == and != of two dicts with tuples as keys that hold the same, as readings. -/
namespace Lf
open PySem PySem.Spec PyProof.Rows L2
def rSameT (wanted : Bool) : R2 := fun x y H Q => ∃ a b ks ls, x = .ref a ∧ y = .ref b ∧ H a = some (.dT ks) ∧ H b = some (.dT ls) ∧ ks.length = ls.length ∧ (∀ p ∈ ks, valV ls p.1 = some p.2 ∧ flatB p.2 = true) ∧ Q (.bl wanted) H
theorem kt_get {H : Hp} : ∀ {l : List (List Key × V)} {m : List (List Key × Addr × Value)}, KT H l m → ∀ {i : Nat} {k : List Key} {v : V}, l[i]? = some (k, v) → ∃ q u, m[i]? = some (k, q, u) ∧ RelV v u := by
  intro l m r
  induction r with
  | nil => intro i k v e; simp at e
  | @cons p q ps qs h t ih =>
    intro i k v e
    cases i with
    | zero =>
      simp only [List.getElem?_cons_zero, Option.some.injEq] at e
      subst e
      obtain ⟨h1, h2, h3⟩ := h
      obtain ⟨q1, q2, q3⟩ := q
      simp only at h1 h2 h3
      subst h1
      exact ⟨q2, q3, rfl, h3⟩
    | succ i => exact ih (by simpa using e)
theorem val_get {κ : Type} [DecidableEq κ] {l : List (κ × V)} {k : κ} {v : V} (h : valV l k = some v) : ∃ j : Nat, l[j]? = some (k, v) := by
  unfold valV at h
  obtain ⟨p, hp, rfl⟩ := Option.map_eq_some_iff.mp h
  have h1 := List.find?_some hp
  have h2 := List.mem_of_find?_eq_some hp
  obtain ⟨j, hj, e⟩ := List.mem_iff_getElem.mp h2
  refine ⟨j, ?_⟩
  rw [List.getElem?_eq_getElem hj, e]
  have : p.1 = k := by simpa using h1
  rw [← this]
theorem op_sameT {X : Cx} {op : CmpOp} {wanted : Bool} (hop : (op = .Eq ∧ wanted = true) ∨ (op = .NotEq ∧ wanted = false)) (hu : X.A.units + 1 < cLine) : OpR X (compareOp op) (rSameT wanted) := by
  intro pins s σ H x y v u Q I rx ry h
  obtain ⟨a, b, ks, ls, rfl, rfl, ea, eb, hlen, hp, q⟩ := h
  obtain rfl : v = Value.ref a := rx
  obtain rfl : u = Value.ref b := ry
  obtain ⟨_, ya, xa, ra, da⟩ := dt_of I.hok ea
  obtain ⟨_, yb, xb, rb, db⟩ := dt_of I.hok eb
  have l1 := Paired.length ra
  have l2 := Paired.length rb
  refine rc_dictsH hop ya yb (tupleKind_room_in1 hu) da db (by omega) (by omega) (fun i k q w hi => ?_) _ ⟨.bl wanted, H, I, rfl, q⟩
  have hlt : i < ks.length := by have := (List.getElem?_eq_some_iff.mp hi).1; omega
  obtain ⟨⟨k', z⟩, hk⟩ : ∃ p, ks[i]? = some p := ⟨_, List.getElem?_eq_getElem hlt⟩
  obtain ⟨q2, u2, e2, r2⟩ := kt_get ra hk
  rw [hi] at e2
  cases e2
  obtain ⟨hv, hf⟩ := hp _ (List.mem_of_getElem? hk)
  obtain ⟨j, hj⟩ := val_get hv
  obtain ⟨q3, u3, e3, r3⟩ := kt_get rb hj
  exact ⟨j, q3, u3, e3, (eqAt_same r2 r3 hf).eqP⟩
def flatDB : D → Bool
  | .non => true
  | .bl _ => true
  | .int _ => true
  | .str _ => true
  | _ => false
/-- what both hold is the same (what the keys hold is plain) -/
def sameKv {κ : Type} [DecidableEq κ] (ks ls : List (κ × D)) : Prop := ks.length = ls.length ∧ ∀ p ∈ ks, valG ls p.1 = some p.2 ∧ flatDB p.2 = true
open Classical in
noncomputable def dsameM (w : Bool) (M : Mem) (x y : D) : Option D := match x, y with
  | .ref i, .ref j => (match M[i]?, M[j]? with
    | some (.dT ks), some (.dT ls) => if sameKv ks ls then some (.bl w) else none
    | _, _ => none)
  | _, _ => none
theorem flat_rel {C : Ct} {g : Gh} {d : D} {v u : V} (h : flatDB d = true) (r : Rv C g d v) (q : Rv C g d u) : v = u ∧ flatB v = true := by
  cases d <;> simp only [flatDB, Bool.false_eq_true] at h <;> simp only [Rv] at r q <;> subst r <;> subst q <;> exact ⟨rfl, rfl⟩
theorem dsame_ok {C : Ct} (w : Bool) : Op2 C (dsameM w) (rSameT w) := by
  intro g σ σD M H x y vx vy d Q c rx ry e k
  unfold dsameM at e
  split at e
  · rename_i i j
    simp only [Rv] at rx ry
    obtain ⟨a, rfl, qa⟩ := rx
    obtain ⟨b, rfl, qb⟩ := ry
    split at e
    · rename_i ks ls e1 e2
      split at e
      · rename_i hs
        cases e
        obtain ⟨o1, h1, r1⟩ := c.obj i a _ qa e1 (by intro z; cases z)
        obtain ⟨o2, h2, r2⟩ := c.obj j b _ qb e2 (by intro z; cases z)
        cases r1 with
        | dT r1 =>
          rename_i t1
          cases r2 with
          | dT r2 =>
            rename_i t2
            refine ⟨a, b, _, _, rfl, rfl, h1, h2, by rw [← r1.length', ← r2.length']; exact hs.1, fun p hp => ?_, k g _ H (Le.refl _ _) c rv_b⟩
            obtain ⟨n, hn, en⟩ := List.mem_iff_getElem.mp hp
            have hn2 : n < ks.length := by rw [r1.length']; exact hn
            obtain ⟨v, hv, rv⟩ := r1.get (i := n) (p := ks[n]) (List.getElem?_eq_getElem hn2)
            rw [List.getElem?_eq_getElem hn, en] at hv
            cases hv
            obtain ⟨s1, s2⟩ := hs.2 ks[n] (List.getElem_mem hn2)
            rcases r2.val ks[n].1 with ⟨z, _⟩ | ⟨d', v', z1, z2, z3⟩
            · rw [s1] at z; cases z
            · rw [s1] at z1
              cases z1
              obtain ⟨ev, fv⟩ := flat_rel s2 rv z3
              exact ⟨by rw [z2, ← ev], fv⟩
      · cases e
    · cases e
  · cases e
section
variable {X : Cx} {W : WX} {pos : Pos} {a b : Expr} {fa fb : SE} {k : Nat}
theorem d_dsameE (hr : Room k X.A) (ha : PD X W a fa) (hb : PD X W b fb) : PD X W (.Compare a [.Eq] [b] pos) (op2 (dsameM true) fa fb) := d_cmp (dsame_ok (C := ctx X) true) (op_sameT (.inl ⟨rfl, rfl⟩) (by have := hr.un; omega)) ha hb (nobehind _ (by decide) (by decide))
theorem d_dsameN (hr : Room k X.A) (ha : PD X W a fa) (hb : PD X W b fb) : PD X W (.Compare a [.NotEq] [b] pos) (op2 (dsameM false) fa fb) := d_cmp (dsame_ok (C := ctx X) false) (op_sameT (.inr ⟨rfl, rfl⟩) (by have := hr.un; omega)) ha hb (nobehind _ (by decide) (by decide))
theorem t_dsameE (hr : Room k X.A) (ha : PD X W a fa) (hb : PD X W b fb) : TD X W (.Compare a [.Eq] [b] pos) (asT (op2 (dsameM true) fa fb)) := t_cmp (dsame_ok (C := ctx X) true) (op_sameT (.inl ⟨rfl, rfl⟩) (by have := hr.un; omega)) ha hb (nobehind _ (by decide) (by decide))
theorem t_dsameN (hr : Room k X.A) (ha : PD X W a fa) (hb : PD X W b fb) : TD X W (.Compare a [.NotEq] [b] pos) (asT (op2 (dsameM false) fa fb)) := t_cmp (dsame_ok (C := ctx X) false) (op_sameT (.inr ⟨rfl, rfl⟩) (by have := hr.un; omega)) ha hb (nobehind _ (by decide) (by decide))
end
end Lf

/-! Lf27: an order of data: each datum's code is a row of whole numbers; rows in lexicographic order stand as Python's do. -/
namespace Lf
open PySem PySem.Spec PyProof.Rows L2
/-- the lesser row -/
def lexLt : List Int → List Int → Bool
  | _, [] => false
  | [], _ :: _ => true
  | x :: xs, y :: ys => if x = y then lexLt xs ys else decide (x < y)
theorem lexLt_irr : ∀ a, lexLt a a = false
  | [] => rfl
  | x :: a => by simp [lexLt, lexLt_irr a]
theorem lexLt_asym : ∀ a b, lexLt a b = true → lexLt b a = false
  | _, [], h => by cases ‹List Int› <;> simp [lexLt] at h
  | [], _ :: _, _ => rfl
  | x :: a, y :: b, h => by
    simp only [lexLt] at h ⊢
    by_cases e : x = y
    · subst e
      simp only [if_true] at h ⊢
      exact lexLt_asym a b h
    · rw [if_neg e] at h
      rw [if_neg (fun z => e z.symm)]
      simp at h ⊢
      omega
theorem lexLt_tr : ∀ a b c, lexLt b a = false → lexLt c b = false → lexLt c a = false
  | [], b, c, _, _ => by cases c <;> rfl
  | x :: a, [], c, h, _ => by simp [lexLt] at h
  | x :: a, y :: b, [], _, h => by simp [lexLt] at h
  | x :: a, y :: b, z :: c, h1, h2 => by
    simp only [lexLt] at h1 h2 ⊢
    by_cases e1 : y = x
    · subst e1
      by_cases e2 : z = y
      · subst e2
        simp only [if_true] at h1 h2 ⊢
        exact lexLt_tr a b c h1 h2
      · rw [if_neg e2] at h2 ⊢
        exact h2
    · rw [if_neg e1] at h1
      simp at h1
      by_cases e2 : z = y
      · subst e2
        rw [if_neg e1]
        simp
        omega
      · rw [if_neg e2] at h2
        simp at h2
        have e3 : z ≠ x := by omega
        rw [if_neg e3]
        simp
        omega
theorem lexLt_swo {α : Type} (k : α → List Int) : SrtO.Swo fun x y => lexLt (k x) (k y) := ⟨fun x y h => lexLt_asym _ _ h, fun x y z h1 h2 => lexLt_tr _ _ _ h1 h2⟩
mutual
/-- the code: kinds first; a text's and a row's end is less than all that could stand there -/
def kcode : PyData → List Int
  | .int i => [0, i]
  | .str z => 1 :: (z.cps.toList.map (fun (c : Nat) => ((c : Nat) : Int) + 1) ++ [0])
  | .tuple ds => 2 :: kcodeA ds
  | .list ds => 3 :: kcodeA ds
  | .none => [4]
  | .bool _ => [4]
  | .dict _ => [4]
def kcodeA : List PyData → List Int
  | [] => [0]
  | d :: ds => 1 :: (kcode d ++ kcodeA ds)
end
theorem txt_unique : ∀ (a b : List Nat) (s t : List Int), a.map (fun (c : Nat) => ((c : Nat) : Int) + 1) ++ 0 :: s = b.map (fun (c : Nat) => ((c : Nat) : Int) + 1) ++ 0 :: t → a = b ∧ s = t
  | [], [], s, t, h => by simpa using h
  | [], y :: b, s, t, h => by
    simp only [List.map_nil, List.nil_append, List.map_cons, List.cons_append, List.cons.injEq] at h
    omega
  | x :: a, [], s, t, h => by
    simp only [List.map_nil, List.nil_append, List.map_cons, List.cons_append, List.cons.injEq] at h
    omega
  | x :: a, y :: b, s, t, h => by
    simp only [List.map_cons, List.cons_append, List.cons.injEq] at h
    obtain ⟨h1, h2⟩ := txt_unique a b s t h.2
    subst h1
    have : x = y := by omega
    subst this
    exact ⟨rfl, h2⟩
mutual
/-- a code is no other one's beginning -/
theorem kcode_unique : ∀ (d e : PyData) (s t : List Int), kcode d ++ s = kcode e ++ t → kcode d = kcode e ∧ s = t
  | .int i, e, s, t, h => by
    cases e <;> simp [kcode] at h ⊢
    exact h
  | .str z, e, s, t, h => by
    cases e <;> simp only [kcode, List.cons_append, List.cons.injEq, List.append_assoc, List.nil_append, reduceCtorEq, false_and] at h ⊢ <;> first
      | (exfalso; obtain ⟨h, _⟩ := h; omega)
      | skip
    obtain ⟨_, h⟩ := h
    obtain ⟨h1, h2⟩ := txt_unique _ _ _ _ h
    simp [h1, h2]
  | .tuple ds, e, s, t, h => by
    cases e <;> simp only [kcode, List.cons_append, List.cons.injEq, List.nil_append] at h ⊢ <;> first
      | (exfalso; obtain ⟨h, _⟩ := h; omega)
      | skip
    obtain ⟨h1, h2⟩ := kcodeA_unique ds _ s t h.2
    simp [h1, h2]
  | .list ds, e, s, t, h => by
    cases e <;> simp only [kcode, List.cons_append, List.cons.injEq, List.nil_append] at h ⊢ <;> first
      | (exfalso; obtain ⟨h, _⟩ := h; omega)
      | skip
    obtain ⟨h1, h2⟩ := kcodeA_unique ds _ s t h.2
    simp [h1, h2]
  | .none, e, s, t, h => by cases e <;> simp [kcode] at h ⊢ <;> exact h
  | .bool _, e, s, t, h => by cases e <;> simp [kcode] at h ⊢ <;> exact h
  | .dict _, e, s, t, h => by cases e <;> simp [kcode] at h ⊢ <;> exact h
theorem kcodeA_unique : ∀ (ds es : List PyData) (s t : List Int), kcodeA ds ++ s = kcodeA es ++ t → kcodeA ds = kcodeA es ∧ s = t
  | [], es, s, t, h => by
    cases es with
    | nil => simpa [kcodeA] using h
    | cons e es =>
      simp only [kcodeA, List.cons_append, List.nil_append, List.cons.injEq] at h
      omega
  | d :: ds, es, s, t, h => by
    cases es with
    | nil =>
      simp only [kcodeA, List.cons_append, List.nil_append, List.cons.injEq] at h
      omega
    | cons e es =>
      simp only [kcodeA, List.cons_append, List.append_assoc, List.cons.injEq, true_and] at h
      obtain ⟨h1, h2⟩ := kcode_unique d e _ _ h
      obtain ⟨h3, h4⟩ := kcodeA_unique ds es s t h2
      simp only [kcodeA, h1, h3, h4, and_self]
end
/-- behind unlike beginnings nothing counts -/
theorem lexLt_app : ∀ (a b s t : List Int), (∀ s t, a ++ s = b ++ t → a = b ∧ s = t) → lexLt (a ++ s) (b ++ t) = if a = b then lexLt s t else lexLt a b
  | [], [], s, t, _ => by simp
  | [], y :: b, s, t, h => by
    have := h (y :: b) [] (by simp)
    simp at this
  | x :: a, [], s, t, h => by
    have := h [] (x :: a) (by simp)
    simp at this
  | x :: a, y :: b, s, t, h => by
    simp only [List.cons_append, lexLt]
    by_cases e : x = y
    · subst e
      simp only [if_true, List.cons.injEq, true_and]
      exact lexLt_app a b s t fun s t q => by
        have := h s t (by simp [q])
        simpa using this
    · rw [if_neg e, if_neg e]
      rw [if_neg (by simp [e])]
theorem lexLt_code (d e : PyData) (s t : List Int) : lexLt (kcode d ++ s) (kcode e ++ t) = if kcode d = kcode e then lexLt s t else lexLt (kcode d) (kcode e) := lexLt_app _ _ s t (kcode_unique d e)
end Lf

/-! Lf28: sorted of a list of alike data, of any length. -/
namespace Lf
open PySem PySem.Spec PyProof.Rows L2
/-- a datum's plain form -/
def pyOf (d : D) : PyData := (toPy0 d).getD .none
/-- in Python's order, equal ones as they stood -/
def sortD (ds : List D) : List D := ds.mergeSort (PySem.W.dataLe false pyOf)
def fullT : PyData → Bool
  | .tuple (_ :: _) => true
  | _ => false
def noTup : PyData → Bool
  | .tuple _ => false
  | .none => false
  | _ => true
def sortOk (ds : List D) : Bool :=
  ds.all (fun d => (toPy0 d).isSome) && (ds.map pyOf).all (fun p => (ds.map pyOf).all fun q => PySem.W.alike p q) && ((ds.map pyOf).all fullT || (ds.map pyOf).all noTup) && ds.all (fun d => decide ((pyOf d).depth ≤ 100))
def sortM (M : Mem) (ds : List D) : Option D := match ds with
  | [x] => (match lstOf M x with
    | some es => if sortOk es = true then some (.lst (sortD es)) else none
    | none => none)
  | _ => none
def rSortD (C : Ct) : List V → Hp → VK → Prop := fun vs H Q => ∃ a xs g ds, vs = [V.ref a] ∧ SqL C.K H a xs ∧ RvA C g ds xs ∧ (∀ a o, g.G a = some o → H a = some o) ∧ sortOk ds = true ∧
  ∀ ys p, RvA C g (sortD ds) ys → H p = none → Q (.ref p) (upd H p (.lst ys))
theorem pyOfA : ∀ {ds : List D}, ds.all (fun d => (toPy0 d).isSome) = true → toPy0A ds = some (ds.map pyOf)
  | [], _ => rfl
  | d :: ds, h => by
    simp only [List.all_cons, Bool.and_eq_true] at h
    obtain ⟨p, hp⟩ := Option.isSome_iff_exists.mp h.1
    simp only [toPy0A, hp, pyOfA h.2, List.map_cons, pyOf, Option.getD_some]
theorem each_rel {C : Ct} {g : Gh} : ∀ {ds : List D} {xs : List V} {us : List Value}, RvA C g ds xs → Vals xs us → PySem.W.EachIs (fun u d => ∃ x, RelV x u ∧ Rv C g d x) us ds
  | [], xs, us, r, v => by
    cases r.nil_inv
    cases v
    exact .nil
  | d :: ds, xs, us, r, v => by
    obtain ⟨x, t, rfl, q, rt⟩ := r.cons_inv
    cases v with
    | cons r1 r2 => exact .cons ⟨x, r1, q⟩ (each_rel rt r2)
theorem rel_each {C : Ct} {g : Gh} : ∀ {ds : List D} {us : List Value}, PySem.W.EachIs (fun u d => ∃ x, RelV x u ∧ Rv C g d x) us ds → ∃ xs, RvA C g ds xs ∧ Vals xs us
  | [], us, e => by
    cases e
    exact ⟨[], RvA.nil, .nil⟩
  | d :: ds, us, e => by
    cases e with
    | cons h t =>
      obtain ⟨x, r1, q⟩ := h
      obtain ⟨xs, r, v⟩ := rel_each t
      exact ⟨x :: xs, RvA.cons q r, .cons r1 v⟩
section
variable {X : Cx} {W : WX} {pos : Pos}
theorem call_sortD {k : Nat} (hr : RoomG k X.A) : CallR X (.builtin "sorted") (rSortD (ctx X)) := by
  intro pins s σ H vs us Q I r h
  obtain ⟨a, xs, g, ds, rfl, hs, rd, le, ok, q⟩ := h
  obtain ⟨its, rv, hl, hz⟩ := I.list hs
  obtain ⟨u, rfl, ru⟩ := vals1 r
  obtain rfl : u = Value.ref a := ru
  simp only [sortOk, Bool.and_eq_true, Bool.or_eq_true] at ok
  obtain ⟨⟨⟨o1, o2⟩, o3⟩, o4⟩ := ok
  have hu := hr.r.un
  have hlen : its.length = xs.length := by rw [← rv.length]
  have hld : ds.length = xs.length := rd.length
  obtain ⟨as, ra⟩ := Dp.readsAll I _ xs its (dp0A le ds xs _ rd (pyOfA o1)) rv
  refine PySem.W.sorted_data (bs := ds) (enc := pyOf) hl.isList (each_rel rd rv) (PySem.W.readsAll_each pyOf ra) (fun p hp p' hp' => ?_) ?_ (by rw [hld]; exact hz) (fun b hb => ?_) fun out ho eo => ?_
  · exact (List.all_eq_true.mp (List.all_eq_true.mp o2 p hp)) p' hp'
  · rcases o3 with o3 | o3
    · refine .inl fun d hd => ?_
      have := List.all_eq_true.mp o3 d hd
      unfold fullT at this
      split at this
      · exact ⟨_, _, rfl⟩
      · cases this
    · refine .inr fun d hd => ?_
      have := List.all_eq_true.mp o3 d hd
      refine ⟨?_, ?_⟩
      · rintro rfl
        cases this
      · rintro xs rfl
        cases this
  · have := of_decide_eq_true (List.all_eq_true.mp o4 b hb)
    omega
  · obtain ⟨ys, ry, vy⟩ := rel_each eo
    obtain ⟨c, hc⟩ := PyProof.Rows.sortedAll_at s.heap its out.toArray
    refine ⟨.ref _, upd H _ (.lst ys), I.laid (t' := s.toks) (fun _ _ => PyProof.Rows.sortedAll_old) (Nat.le_succ _) ⟨?_, out, c, vy, hc⟩, rfl, q ys _ ry (I.hok.fresh (Nat.le_succ _))⟩
    rw [vy.length, ho, hld]
    exact hz
theorem sort_ok {C : Ct} : OpC C sortM (rSortD C) := by
  intro g σ σD M H ds vs d Q c rs e k
  unfold sortM at e
  split at e
  · split at e
    · rename_i es he
      split at e
      · rename_i hs
        cases e
        obtain ⟨v, rfl, r⟩ := rvA1 rs
        obtain ⟨a, us, rfl, ru, s⟩ := lst_at c r he
        exact ⟨a, us, g, es, rfl, s, ru, c.le, hs, fun ys p ry hp => frz_l c hp ry k⟩
      · cases e
    · cases e
  · cases e
theorem d_sorted {e : Expr} {fa : SA} {p : Pos} {k : Nat} (hr : RoomG k X.A) (hm : X.mg "sorted" = none) (ha : AD X W [e] fa) (hg : Gl X "sorted" := by rfl) (he : starEach [e] X.env = (false, eval e X.env) :: starEach [] X.env := by rfl) (hpl : (backTo pos (starEach [] X.env)).any (·.1) = false := by rfl) : PD X W (.Call (.Name "sorted" p) [e] [] pos) (callV sortM fa) :=
  d_callB (sort_ok (C := ctx X)) (call_sortD hr) hm (by decide +kernel) ha hg (by decide) (by decide) he hpl
end
end Lf

/-! Lf29: sorted of a dict's keys, tuples of numbers and texts (turned from HandS.Conv call_list_dT, HandS.More call_sortedD). -/
namespace Lf
open PySem PySem.Spec PyProof.Rows L2
def toKD (k : List L2.Key) : D := .tup (k.map keyD)
def keyE (k : List L2.Key) : PyData := pyOf (toKD k)
def sortK (ks : List (List L2.Key)) : List (List L2.Key) := ks.mergeSort (PySem.W.dataLe false keyE)
theorem sortK_D (ks : List (List L2.Key)) : (sortK ks).map toKD = sortD (ks.map toKD) := by
  unfold sortK sortD
  exact List.map_mergeSort (fun a _ b _ => rfl)
def TupAt (H : Hp) (u : Value) (k : List L2.Key) : Prop := ∃ b, u = .ref b ∧ H b = some (.tup (k.map kV))
def IsK (H : Hp) (ks : List (List L2.Key)) (bs : List Addr) : Prop := PySem.W.EachIs (fun b k => H b = some (.tup (k.map kV))) bs ks
theorem isK_of {H : Hp} : ∀ {ks : List (List L2.Key)} {us : List Value}, PySem.W.EachIs (TupAt H) us ks → ∃ bs, us = bs.map Value.ref ∧ IsK H ks bs
  | [], us, e => by
    cases e
    exact ⟨[], rfl, .nil⟩
  | k :: ks, us, e => by
    cases e with
    | cons h t =>
      obtain ⟨b, rfl, hb⟩ := h
      obtain ⟨bs, rfl, r⟩ := isK_of t
      exact ⟨b :: bs, rfl, .cons hb r⟩
theorem each_kt {H : Hp} {kvs : List (List L2.Key × V)} {xs : List (List L2.Key × Addr × Value)} (r : KT H kvs xs) : PySem.W.EachIs (TupAt H) (xs.map fun x => Value.ref x.2.1) (kvs.map (·.1)) := by
  induction r with
  | nil => exact .nil
  | cons h t ih => exact .cons ⟨_, rfl, h.2.1⟩ ih
theorem pyOf_toKD (k : List L2.Key) : keyE k = .tuple (k.map fun q => pyOf (keyD q)) := by
  have : (k.map keyD).all (fun d => (toPy0 d).isSome) = true := by
    rw [List.all_map]
    refine List.all_eq_true.mpr fun q _ => ?_
    cases q <;> rfl
  have e := pyOfA this
  show (toPy0 (.tup (k.map keyD))).getD .none = _
  simp only [toPy0, e, Option.map_some, Option.getD_some, List.map_map]
  rfl
theorem readsK {h : Heap} : ∀ {k : List L2.Key} {its : List Value}, Vals (k.map kV) its → ReadsAll h its (k.map fun q => pyOf (keyD q)) []
  | [], its, r => by
    cases r
    exact .nil
  | q :: k, its, r => by
    cases r with
    | cons h t =>
      cases q with
      | inl i =>
        obtain ⟨tk, rfl⟩ := h
        exact .cons (as := []) (bs := []) (.int i tk) (readsK t)
      | inr z =>
        obtain ⟨tk, rfl⟩ := h
        exact .cons (as := []) (bs := []) (.str z tk) (readsK t)
section
variable {X : Cx} {W : WX} {pos : Pos}
def rSortT : List V → Hp → VK → Prop := fun vs H Q => ∃ d kvs, vs = [V.ref d] ∧ Rd H d (.dT kvs) ∧ sortOk ((kvs.map (·.1)).map toKD) = true ∧ ∀ bs p, IsK H (sortK (kvs.map (·.1))) bs → H p = none → Q (.ref p) (upd H p (.lst (bs.map V.ref)))
theorem call_sortT {k : Nat} (hr : RoomG k X.A) (hc : X.calm = true) : CallR X (.builtin "sorted") rSortT := by
  intro pins s σ H xs us Q I r h
  obtain ⟨d, kvs, rfl, hd, ok, q⟩ := h
  obtain ⟨u, rfl, rx⟩ := r.one
  cases rx
  obtain ⟨z, hs, ks, pr, o, es, ep, ho, hx, hdt, he, hn⟩ := (show ObjOk X.prog X.w H s.heap d (.dT kvs) from hd.ok I.hok)
  have l1 : es.size = ks.length := size_of_entries he
  have l2 : kvs.length = ks.length := Paired.length pr
  have hu := hr.r.un
  simp only [sortOk, Bool.and_eq_true, Bool.or_eq_true] at ok
  obtain ⟨⟨⟨o1, o2⟩, o3⟩, o4⟩ := ok
  have em : ((kvs.map (·.1)).map toKD).map pyOf = (kvs.map (·.1)).map keyE := by
    rw [List.map_map]
    rfl
  rw [em] at o2 o3
  refine Calls.call_function_entry PyProof.Rows.kind_sorted PyProof.Rows.plain_sorted PyProof.Rows.entry_sorted (PyProof.Rows.args_sorted1 _) ?_
  unfold Builtin.«sorted»
  refine wpAny_bind (m := checkCount "sorted" 1 1 _) (wpAny_pure ?_)
  refine wpAny_bind (PySem.W.kdu_collect (A := X.A.in1) (kdl_raw hs hx hdt) (I.ok.hd hc) ho (by omega) fun h' tk acc hk it => ?_)
  have ea : acc.toList = ks.map fun x => Value.ref x.2.1 := by
    have hl : acc.toList.length = ks.length := by rw [Array.length_toList, it.1]; exact l1
    apply List.ext_getElem?
    intro j
    rw [List.getElem?_map]
    cases hj : acc.toList[j]? with
    | none =>
      have h1 := List.getElem?_eq_none_iff.mp hj
      rw [List.getElem?_eq_none (by omega)]
      all_goals rfl
    | some v =>
      obtain ⟨en, hen, hv⟩ := it.2 j v (by rw [← Array.getElem?_toList]; exact hj)
      have qe := entry_at he j
      rw [hen] at qe
      cases hb : ks[j]? with
      | none =>
        rw [hb] at qe
        exact nomatch (show some en = none from qe)
      | some b =>
        rw [hb] at qe
        have e2 : en = entryOfKey (tupleKind (mixKind X.prog X.w)) b := Option.some.inj qe
        rw [hv, e2]
        all_goals rfl
  have I1 : Inv X pins σ H { s with heap := h', toks := tk } := I.kept hk
  have hal : acc.toList.length = kvs.length := by rw [ea, List.length_map, l2]
  have e1 : PySem.W.EachIs (TupAt H) acc.toList (kvs.map (·.1)) := by rw [ea]; exact each_kt pr
  refine wpAny_bind (wpAny_newList ?_ (by rw [hal]; exact z))
  have hoL : (h'.push (seqObj "list" acc.toList.toArray 0)).get? h'.objs.size = some (seqObj "list" acc.toList.toArray 0) := Heap.get?_push_size _ rfl
  show wpAny _ _ _ _ _ { s with heap := h'.push (seqObj "list" acc.toList.toArray 0), toks := tk }
  have er : PySem.W.EachIs (fun v k => ∃ as, Reads (h'.push (seqObj "list" acc.toList.toArray 0)) v (keyE k) as ∧ h'.objs.size ∉ as) acc.toList (kvs.map (·.1)) := by
    refine e1.mono fun v k q => ?_
    obtain ⟨b, eb, hb⟩ := q
    subst eb
    obtain ⟨_, its, rv, o2, h1, h2, n, h3⟩ := (show ObjOk X.prog X.w H h' b (.tup (k.map kV)) from I1.hok b _ hb)
    rw [pyOf_toKD]
    exact ⟨[], Reads.tuple (Heap.get?_push_of_some _ h1) h2 h3 (readsK rv), by simp⟩
  refine wpAny_bind (wpAny_holding (PySem.W.list_sort_data (s := { s with heap := h'.push (seqObj "list" acc.toList.toArray 0), toks := tk }) (bs := kvs.map (·.1)) (enc := keyE) (R := TupAt H) hoL e1 er (fun p hp p' hp' => ?_) ?_ (by rw [List.length_map]; exact z) (fun b hb => ?_) fun out hlo eo => ?_))
  · exact (List.all_eq_true.mp (List.all_eq_true.mp o2 p hp)) p' hp'
  · rcases o3 with o3 | o3
    · refine .inl fun d hd => ?_
      have := List.all_eq_true.mp o3 d hd
      unfold fullT at this
      split at this
      · exact ⟨_, _, rfl⟩
      · cases this
    · refine .inr fun d hd => ?_
      have := List.all_eq_true.mp o3 d hd
      refine ⟨?_, ?_⟩
      · rintro rfl
        cases this
      · rintro xs rfl
        cases this
  · have := of_decide_eq_true (List.all_eq_true.mp o4 (toKD b) (List.mem_map.mpr ⟨b, hb, rfl⟩))
    have e9 : (keyE b).depth = (pyOf (toKD b)).depth := rfl
    show X.A.units + _ + _ + _ < _
    omega
  · obtain ⟨bs, rfl, hbs⟩ := isK_of eo
    obtain ⟨c, hc'⟩ := PyProof.Rows.sortedHeap_at (vs := acc.toList) (out := (bs.map Value.ref).toArray) hoL
    have hlb : bs.length = kvs.length := by simpa using hlo
    refine wpAny_pure ⟨_, rfl, .ref h'.objs.size, upd H h'.objs.size (.lst (bs.map V.ref)), I1.laid (t' := tk) (fun b u e => ?_) (Nat.le_refl _) (show ObjOk X.prog X.w _ _ _ (.lst (bs.map V.ref)) from ⟨by rw [List.length_map, hlb]; exact z, bs.map Value.ref, c, vals_refs bs, hc'⟩), rfl, q bs _ hbs (I1.hok.fresh (Nat.le_refl _))⟩
    have hb : b < h'.objs.size := Heap.lt_size e
    rw [PyProof.Rows.sortedHeap_old (Nat.ne_of_lt hb) (by rw [size_push']; exact Nat.lt_succ_of_lt hb)]
    exact Heap.get?_push_of_some _ e
theorem adoptK {C : Ct} {σ : L2.St} {σD : Sl} {M : Mem} {H : Hp} : ∀ {ks : List (List L2.Key)} {bs : List Addr} {g : Gh}, Conc C g σ σD M H → IsK H ks bs → ∃ g', Le g H g' H ∧ Conc C g' σ σD M H ∧ RvA C g' (ks.map toKD) (bs.map V.ref)
  | [], bs, g, c, h => by
    cases h
    exact ⟨g, Le.refl _ _, c, RvA.nil⟩
  | k :: ks, bs, g, c, h => by
    cases h with
    | cons hb t =>
      obtain ⟨g1, l1, c1, hq⟩ := c.adoptT hb
      obtain ⟨g2, l2, c2, r⟩ := adoptK c1 t
      refine ⟨g2, l1.trans l2, c2, RvA.cons ?_ r⟩
      refine Rv.mono l2.gh _ _ ?_
      simp only [toKD, Rv]
      exact ⟨_, _, rfl, hq, rvA_keys _⟩
def sortTM (M : Mem) (ds : List D) : Option D := match ds with
  | [.ref i] => (match M[i]? with
    | some (.dT kvs) => if sortOk ((kvs.map (·.1)).map toKD) = true then some (.lst (sortD ((kvs.map (·.1)).map toKD))) else none
    | _ => none)
  | _ => none
theorem sortT_ok {C : Ct} : OpC C sortTM rSortT := by
  intro g σ σD M H ds vs d Q c rs e k
  unfold sortTM at e
  split at e
  · rename_i i
    split at e
    · rename_i kvs e2
      split at e
      · rename_i hs
        cases e
        obtain ⟨v, rfl, r⟩ := rvA1 rs
        simp only [Rv] at r
        obtain ⟨a, rfl, ea⟩ := r
        obtain ⟨ob, ho, ro⟩ := c.obj i a _ ea e2 (by intro z; cases z)
        cases ro with
        | dT ro =>
          rename_i t
          have ek : kvs.map (·.1) = t.map (·.1) := ro.keys
          rw [ek] at hs k
          refine ⟨a, t, rfl, .inl ho, hs, fun bs p hb hp => ?_⟩
          obtain ⟨g1, l1, c1, r1⟩ := adoptK c hb
          rw [sortK_D] at r1
          exact frz_l c1 hp r1 fun g' v H' l c r => k g' v H' (l1.trans l) c r
      · cases e
    · cases e
  · cases e
theorem d_sortedT {e : Expr} {fa : SA} {p : Pos} {k : Nat} (hr : RoomG k X.A) (hc : X.calm = true) (hm : X.mg "sorted" = none) (ha : AD X W [e] fa) (hg : Gl X "sorted" := by rfl) (he : starEach [e] X.env = (false, eval e X.env) :: starEach [] X.env := by rfl) (hpl : (backTo pos (starEach [] X.env)).any (·.1) = false := by rfl) : PD X W (.Call (.Name "sorted" p) [e] [] pos) (callV sortTM fa) :=
  d_callB (sortT_ok (C := ctx X)) (call_sortT hr hc) hm (by decide +kernel) ha hg (by decide) (by decide) he hpl
end
end Lf

/-! Lf30: x < y of alike data; `is` of truth values; max of a list of numbers. -/
namespace Lf
open PySem PySem.Spec PyProof.Rows L2
def notN : PyData → Bool
  | .none => false
  | _ => true
def ltDM (M : Mem) (x y : D) : Option D := match toPy M x, toPy M y with
  | some p, some q => if PySem.W.alike p q = true ∧ notN p = true ∧ p.depth ≤ 100 then some (.bl (PySem.W.dataLt p q)) else none
  | _, _ => none
def rLtD (K : PySem.W.Frag) : R2 := fun x y H Q => ∃ p q, Dp K H x p ∧ Dp K H y q ∧ PySem.W.alike p q = true ∧ p ≠ .none ∧ p.depth ≤ 100 ∧ Q (.bl (PySem.W.dataLt p q)) H
section
variable {X : Cx} {W : WX} {pos : Pos}
theorem opr_ltD {k : Nat} (hr : RoomG k X.A) : OpR X (compareOp .Lt) (rLtD X.K) := by
  intro pins s σ H x y v u Q I rx ry h
  obtain ⟨p, q, h1, h2, h3, h4, h5, h⟩ := h
  obtain ⟨as, r1⟩ := Dp.reads I p x v h1 rx
  obtain ⟨bs, r2⟩ := Dp.reads I q y u h2 ry
  have hu := hr.r.un
  have hm : min p.depth q.depth ≤ 100 := Nat.le_trans (Nat.min_le_left _ _) h5
  exact PySem.W.rcLt_alike p q X.A s v u as bs r1 r2 h3 h4 (by omega) _ _ _ _ ⟨.bl _, H, I, rfl, h⟩
theorem ltD_ok {C : Ct} : Op2 C ltDM (rLtD C.K) := by
  intro g σ σD M H x y vx vy d Q c rx ry e k
  unfold ltDM at e
  split at e
  · rename_i p q e1 e2
    split at e
    · rename_i h
      cases e
      exact ⟨p, q, dp1 c _ _ _ rx e1, dp1 c _ _ _ ry e2, h.1, (by rintro rfl; cases h.2.1), h.2.2, k g _ H (Le.refl _ _) c rv_b⟩
    · cases e
  · cases e
theorem d_ltD {a b : Expr} {fa fb : SE} {k : Nat} (hr : RoomG k X.A) (ha : PD X W a fa) (hb : PD X W b fb) : PD X W (.Compare a [.Lt] [b] pos) (op2 ltDM fa fb) := d_cmp (ltD_ok (C := ctx X)) (opr_ltD hr) ha hb (nobehind _ (by decide) (by decide))
theorem t_ltD {a b : Expr} {fa fb : SE} {k : Nat} (hr : RoomG k X.A) (ha : PD X W a fa) (hb : PD X W b fb) : TD X W (.Compare a [.Lt] [b] pos) (asT (op2 ltDM fa fb)) := t_cmp (ltD_ok (C := ctx X)) (opr_ltD hr) ha hb (nobehind _ (by decide) (by decide))
/-- max of a list of numbers -/
def intsD : List D → Option (List Int)
  | [] => some []
  | .int i :: ds => (intsD ds).map (i :: ·)
  | _ :: _ => none
theorem intsD_eq : ∀ {ds : List D} {ns : List Int}, intsD ds = some ns → ds = ns.map D.int
  | [], ns, e => by
    cases e
    rfl
  | d :: ds, ns, e => by
    cases d <;> simp only [intsD, Option.map_eq_some_iff, reduceCtorEq] at e
    obtain ⟨m, e1, rfl⟩ := e
    rw [intsD_eq e1]
    rfl
theorem rvA_ints {C : Ct} {g : Gh} : ∀ {ns : List Int} {vs : List V}, RvA C g (ns.map D.int) vs → vs = ns.map V.int
  | [], vs, r => by
    rw [List.map_nil] at r
    rw [r.nil_inv]
    rfl
  | n :: ns, vs, r => by
    rw [List.map_cons] at r
    obtain ⟨v, t, rfl, q, rt⟩ := r.cons_inv
    rw [rvA_ints rt, rv_int q]
    rfl
def maxI : List Int → Int
  | [] => 0
  | [n] => n
  | n :: ns => if maxI ns < n then n else maxI ns
theorem maxI_ge : ∀ {ns : List Int} {y : Int}, y ∈ ns → y ≤ maxI ns
  | [n], y, h => by
    simp only [List.mem_singleton] at h
    simp only [maxI, h]
    exact Int.le_refl _
  | n :: m :: ns, y, h => by
    simp only [maxI]
    rcases List.mem_cons.mp h with rfl | h
    · split <;> omega
    · have := maxI_ge h
      split <;> omega
theorem maxI_mem : ∀ {ns : List Int}, ns ≠ [] → maxI ns ∈ ns
  | [n], _ => by simp [maxI]
  | n :: m :: ns, _ => by
    have := maxI_mem (ns := m :: ns) (by simp)
    simp only [maxI]
    split
    · exact List.mem_cons_self
    · exact List.mem_cons_of_mem _ this
def maxLM (M : Mem) (ds : List D) : Option D := match ds with
  | [x] => (match lstOf M x with
    | some es => (match intsD es with
      | some (n :: ns) => some (.int (maxI (n :: ns)))
      | _ => none)
    | none => none)
  | _ => none
theorem maxL_ok {C : Ct} : OpC C maxLM (rMax C.K) := by
  intro g σ σD M H ds vs d Q c rs e k
  unfold maxLM at e
  split at e
  · split at e
    · rename_i es he
      split at e
      · rename_i n ns hi
        cases e
        obtain ⟨v, rfl, r⟩ := rvA1 rs
        obtain ⟨a, us, rfl, ru, s⟩ := lst_at c r he
        rw [intsD_eq hi] at ru
        have eu := rvA_ints ru
        subst eu
        refine ⟨a, n :: ns, rfl, s, by simp, fun m hm hall => ?_⟩
        have e1 : m = maxI (n :: ns) := Int.le_antisymm (maxI_ge hm) (hall _ (maxI_mem (by simp)))
        rw [e1]
        exact k g _ H (Le.refl _ _) c rv_i
      · cases e
    · cases e
  · cases e
theorem d_maxL {e : Expr} {fa : SA} {p : Pos} (hcalm : X.calm = true) (hm : X.mg "max" = none) (ha : AD X W [e] fa) (hg : Gl X "max" := by rfl) (he : starEach [e] X.env = (false, eval e X.env) :: starEach [] X.env := by rfl) (hpl : (backTo pos (starEach [] X.env)).any (·.1) = false := by rfl) : PD X W (.Call (.Name "max" p) [e] [] pos) (callV maxLM fa) :=
  d_callB (maxL_ok (C := ctx X)) (cr_max hcalm) hm (by decide +kernel) ha hg (by decide) (by decide) he hpl
end
end Lf

/-! Lf31: max, min of two texts (turned from PyProof.WalkInts max_two_ints); `is`, `is not` of truth values. -/
namespace Lf
open PySem PySem.Spec PyProof.Rows L2
section
variable {prog : Program} {w : World} {A : Around} {E : Value → Shared → Prop} {s : Shared}
def two (a b : Str) (t u : Tok) : Array Value := #[.str a t, .str b u]
def txtAt (a b : Str) (i : Nat) : Str := if i = 0 then a else b
theorem two_at {a b : Str} {t u : Tok} {i : Nat} {v : Value} (h : (two a b t u)[i]? = some v) : ∃ k, v = .str (txtAt a b i) k := by
  match i with
  | 0 =>
    simp [two] at h
    exact ⟨t, h.symm⟩
  | 1 =>
    simp [two] at h
    exact ⟨u, h.symm⟩
  | i + 2 => simp [two] at h
theorem txt_gt (a b : Str) (t u : Tok) : CmpOf prog w A .Gt (fun i v => (two a b t u)[i]? = some v) (fun i j => decide ((txtAt a b j).cps.toList < (txtAt a b i).cps.toList)) := fun i j vi vj s Q E hi hj h => by
  obtain ⟨t, rfl⟩ := two_at hi
  obtain ⟨u, rfl⟩ := two_at hj
  exact PySem.P.gt_str h
theorem txt_lt (a b : Str) (t u : Tok) : CmpOf prog w A .Lt (fun i v => (two a b t u)[i]? = some v) (fun i j => decide ((txtAt a b i).cps.toList < (txtAt a b j).cps.toList)) := fun i j vi vj s Q E hi hj h => by
  obtain ⟨t, rfl⟩ := two_at hi
  obtain ⟨u, rfl⟩ := two_at hj
  exact lt_str h
theorem max_two_txt {a b : Str} {t u : Tok} {Q : Value → Shared → Prop} (hh : A.handled = none)
    (h : ∀ h' tk, (∀ c o, s.heap.get? c = some o → h'.get? c = some o) → Q (if ltStr a b = true then .str b u else .str a t) { s with heap := h', toks := tk }) :
    wpAny (model prog w) A (call (.builtin "max") [.str a t, .str b u]) Q E s := by
  have hT : (s.heap.push { cls := .type "tuple", data := .seq #[.str a t, .str b u] }).IsTuple s.heap.objs.size (two a b t u) := ⟨_, Heap.get?_push_size _ rfl, rfl, 0, rfl⟩
  refine call_max_two (wpAny_pyIter_tuple hT ?_)
  have hsz : (s.heap.push { cls := .type "tuple", data := .seq #[.str a t, .str b u] }).objs.size = s.heap.objs.size + 1 := Heap.size_push ..
  refine ⟨_, [_, s.heap.objs.size], [_], _, _, _, _, rfl, Walks.tuple (A := A.in1) hh _ s.heap.objs.size (by rw [hsz]; exact Nat.ne_of_lt (Nat.lt_succ_self _)) (two a b t u),
    ⟨⟨_, Heap.get?_push_size _ rfl, rfl, rfl⟩, hT.push _⟩, fun c hc => ?_, by simp [two], txt_gt a b t u, fun v h' tk hP hk => ?_⟩
  · show c < ((s.heap.push _).push _).objs.size
    rw [Heap.size_push, hsz]
    rcases List.mem_cons.mp hc with rfl | hc
    · rw [hsz]; exact Nat.lt_succ_self _
    · rcases List.mem_cons.mp hc with rfl | hc
      · exact Nat.lt_succ_of_lt (Nat.lt_succ_self _)
      · cases hc
  · have hold : ∀ c o, s.heap.get? c = some o → h'.get? c = some o := fun c o e => by
      refine hk c o (fun hm => ?_) (Heap.get?_push_of_some _ (Heap.get?_push_of_some _ e))
      rcases List.mem_cons.mp hm with e1 | hm
      · have := Heap.lt_size e; rw [e1, hsz] at this; exact Nat.lt_irrefl _ (Nat.lt_of_succ_lt this)
      · cases hm
    have := h h' tk hold
    have hv : v = if ltStr a b = true then Value.str b u else Value.str a t := by
      have hP' : (two a b t u)[argBest (fun i j => decide ((txtAt a b j).cps.toList < (txtAt a b i).cps.toList)) 1]? = some v := by
        have hsz2 : (two a b t u).size - 1 = 1 := by simp [two]
        rw [← hsz2]; exact hP
      by_cases hba : a.cps.toList < b.cps.toList
      · have e : argBest (fun i j => decide ((txtAt a b j).cps.toList < (txtAt a b i).cps.toList)) 1 = 1 := by simp [argBest, txtAt, hba]
        rw [e] at hP'
        simpa [two, hba, ltStr] using hP'.symm
      · have e : argBest (fun i j => decide ((txtAt a b j).cps.toList < (txtAt a b i).cps.toList)) 1 = 0 := by simp [argBest, txtAt, hba]
        rw [e] at hP'
        simpa [two, hba, ltStr] using hP'.symm
    rw [hv]; exact this
theorem min_two_txt {a b : Str} {t u : Tok} {Q : Value → Shared → Prop} (hh : A.handled = none)
    (h : ∀ h' tk, (∀ c o, s.heap.get? c = some o → h'.get? c = some o) → Q (if ltStr b a = true then .str b u else .str a t) { s with heap := h', toks := tk }) :
    wpAny (model prog w) A (call (.builtin "min") [.str a t, .str b u]) Q E s := by
  have hT : (s.heap.push { cls := .type "tuple", data := .seq #[.str a t, .str b u] }).IsTuple s.heap.objs.size (two a b t u) := ⟨_, Heap.get?_push_size _ rfl, rfl, 0, rfl⟩
  refine call_min_two (wpAny_pyIter_tuple hT ?_)
  have hsz : (s.heap.push { cls := .type "tuple", data := .seq #[.str a t, .str b u] }).objs.size = s.heap.objs.size + 1 := Heap.size_push ..
  refine ⟨_, [_, s.heap.objs.size], [_], _, _, _, _, rfl, Walks.tuple (A := A.in1) hh _ s.heap.objs.size (by rw [hsz]; exact Nat.ne_of_lt (Nat.lt_succ_self _)) (two a b t u),
    ⟨⟨_, Heap.get?_push_size _ rfl, rfl, rfl⟩, hT.push _⟩, fun c hc => ?_, by simp [two], txt_lt a b t u, fun v h' tk hP hk => ?_⟩
  · show c < ((s.heap.push _).push _).objs.size
    rw [Heap.size_push, hsz]
    rcases List.mem_cons.mp hc with rfl | hc
    · rw [hsz]; exact Nat.lt_succ_self _
    · rcases List.mem_cons.mp hc with rfl | hc
      · exact Nat.lt_succ_of_lt (Nat.lt_succ_self _)
      · cases hc
  · have hold : ∀ c o, s.heap.get? c = some o → h'.get? c = some o := fun c o e => by
      refine hk c o (fun hm => ?_) (Heap.get?_push_of_some _ (Heap.get?_push_of_some _ e))
      rcases List.mem_cons.mp hm with e1 | hm
      · have := Heap.lt_size e; rw [e1, hsz] at this; exact Nat.lt_irrefl _ (Nat.lt_of_succ_lt this)
      · cases hm
    have := h h' tk hold
    have hv : v = if ltStr b a = true then Value.str b u else Value.str a t := by
      have hP' : (two a b t u)[argBest (fun i j => decide ((txtAt a b i).cps.toList < (txtAt a b j).cps.toList)) 1]? = some v := by
        have hsz2 : (two a b t u).size - 1 = 1 := by simp [two]
        rw [← hsz2]; exact hP
      by_cases hba : b.cps.toList < a.cps.toList
      · have e : argBest (fun i j => decide ((txtAt a b i).cps.toList < (txtAt a b j).cps.toList)) 1 = 1 := by simp [argBest, txtAt, hba]
        rw [e] at hP'
        simpa [two, hba, ltStr] using hP'.symm
      · have e : argBest (fun i j => decide ((txtAt a b i).cps.toList < (txtAt a b j).cps.toList)) 1 = 0 := by simp [argBest, txtAt, hba]
        rw [e] at hP'
        simpa [two, hba, ltStr] using hP'.symm
    rw [hv]; exact this
end
section
variable {X : Cx} {W : WX} {pos : Pos}
theorem call_max2T (hc : X.calm = true) : CallR X (.builtin "max") (fun xs H Q => ∃ i j, xs = [.str i, .str j] ∧ Q (.str (if ltStr i j = true then j else i)) H) := by
  intro pins s σ H xs us Q I r h
  obtain ⟨i, j, rfl, q⟩ := h
  obtain ⟨u, w', rfl, ⟨t, rfl⟩, ⟨t', rfl⟩⟩ := vals2 r
  refine max_two_txt (I.ok.hd hc) fun h' tk k => ⟨_, H, I.kept k, ?_, q⟩
  split
  · exact ⟨_, rfl⟩
  · exact ⟨_, rfl⟩
theorem call_min2T (hc : X.calm = true) : CallR X (.builtin "min") (fun xs H Q => ∃ i j, xs = [.str i, .str j] ∧ Q (.str (if ltStr j i = true then j else i)) H) := by
  intro pins s σ H xs us Q I r h
  obtain ⟨i, j, rfl, q⟩ := h
  obtain ⟨u, w', rfl, ⟨t, rfl⟩, ⟨t', rfl⟩⟩ := vals2 r
  refine min_two_txt (I.ok.hd hc) fun h' tk k => ⟨_, H, I.kept k, ?_, q⟩
  split
  · exact ⟨_, rfl⟩
  · exact ⟨_, rfl⟩
def max2TM (_ : Mem) (ds : List D) : Option D := match ds with
  | [.str i, .str j] => some (.str (if ltStr i j = true then j else i))
  | _ => none
def min2TM (_ : Mem) (ds : List D) : Option D := match ds with
  | [.str i, .str j] => some (.str (if ltStr j i = true then j else i))
  | _ => none
theorem max2T_ok {C : Ct} : OpC C max2TM (fun xs H Q => ∃ i j, xs = [.str i, .str j] ∧ Q (.str (if ltStr i j = true then j else i)) H) := by
  intro g σ σD M H ds vs d Q c rs e k
  unfold max2TM at e
  split at e
  · cases e
    obtain ⟨v, u, rfl, r1, r2⟩ := rvA2 rs
    rw [rv_str r1, rv_str r2]
    exact ⟨_, _, rfl, k g _ H (Le.refl _ _) c rv_s⟩
  · cases e
theorem min2T_ok {C : Ct} : OpC C min2TM (fun xs H Q => ∃ i j, xs = [.str i, .str j] ∧ Q (.str (if ltStr j i = true then j else i)) H) := by
  intro g σ σD M H ds vs d Q c rs e k
  unfold min2TM at e
  split at e
  · cases e
    obtain ⟨v, u, rfl, r1, r2⟩ := rvA2 rs
    rw [rv_str r1, rv_str r2]
    exact ⟨_, _, rfl, k g _ H (Le.refl _ _) c rv_s⟩
  · cases e
theorem d_max2T {e e2 : Expr} {fa : SA} {p : Pos} (hcalm : X.calm = true) (hm : X.mg "max" = none) (ha : AD X W [e, e2] fa) (hg : Gl X "max" := by rfl) (he : starEach [e, e2] X.env = (false, eval e X.env) :: starEach [e2] X.env := by rfl) (hpl : (backTo pos (starEach [e2] X.env)).any (·.1) = false := by rfl) : PD X W (.Call (.Name "max" p) [e, e2] [] pos) (callV max2TM fa) :=
  d_callB (max2T_ok (C := ctx X)) (call_max2T hcalm) hm (by decide +kernel) ha hg (by decide) (by decide) he hpl
theorem d_min2T {e e2 : Expr} {fa : SA} {p : Pos} (hcalm : X.calm = true) (hm : X.mg "min" = none) (ha : AD X W [e, e2] fa) (hg : Gl X "min" := by rfl) (he : starEach [e, e2] X.env = (false, eval e X.env) :: starEach [e2] X.env := by rfl) (hpl : (backTo pos (starEach [e2] X.env)).any (·.1) = false := by rfl) : PD X W (.Call (.Name "min" p) [e, e2] [] pos) (callV min2TM fa) :=
  d_callB (min2T_ok (C := ctx X)) (call_min2T hcalm) hm (by decide +kernel) ha hg (by decide) (by decide) he hpl
/-! is of truth values -/
def isBM (_ : Mem) (x y : D) : Option D := match x, y with
  | .bl a, .bl b => some (.bl (decide (a = b)))
  | _, _ => none
def isnotBM (_ : Mem) (x y : D) : Option D := match x, y with
  | .bl a, .bl b => some (.bl (!decide (a = b)))
  | _, _ => none
theorem isB_ok {C : Ct} : Op2 C isBM (fun x y H Q => ∃ a b, x = .bl a ∧ y = .bl b ∧ Q (.bl (decide (a = b))) H) := by
  intro g σ σD M H x y vx vy d Q c rx ry e k
  unfold isBM at e
  split at e
  · cases e
    simp only [Rv] at rx ry
    exact ⟨_, _, rx, ry, k g _ H (Le.refl _ _) c rv_b⟩
  · cases e
theorem isnotB_ok {C : Ct} : Op2 C isnotBM (fun x y H Q => ∃ a b, x = .bl a ∧ y = .bl b ∧ Q (.bl (!decide (a = b))) H) := by
  intro g σ σD M H x y vx vy d Q c rx ry e k
  unfold isnotBM at e
  split at e
  · cases e
    simp only [Rv] at rx ry
    exact ⟨_, _, rx, ry, k g _ H (Le.refl _ _) c rv_b⟩
  · cases e
theorem d_isB {a b : Expr} {fa fb : SE} (ha : PD X W a fa) (hb : PD X W b fb) : PD X W (.Compare a [.Is] [b] pos) (op2 isBM fa fb) := d_cmp (isB_ok (C := ctx X)) op_is_bl ha hb (nobehind _ (by decide) (by decide))
theorem d_isnotB {a b : Expr} {fa fb : SE} (ha : PD X W a fa) (hb : PD X W b fb) : PD X W (.Compare a [.IsNot] [b] pos) (op2 isnotBM fa fb) := d_cmp (isnotB_ok (C := ctx X)) op_isnot_bl ha hb (nobehind _ (by decide) (by decide))
theorem t_isB {a b : Expr} {fa fb : SE} (ha : PD X W a fa) (hb : PD X W b fb) : TD X W (.Compare a [.Is] [b] pos) (asT (op2 isBM fa fb)) := t_cmp (isB_ok (C := ctx X)) op_is_bl ha hb (nobehind _ (by decide) (by decide))
theorem t_isnotB {a b : Expr} {fa fb : SE} (ha : PD X W a fa) (hb : PD X W b fb) : TD X W (.Compare a [.IsNot] [b] pos) (asT (op2 isnotBM fa fb)) := t_cmp (isnotB_ok (C := ctx X)) op_isnot_bl ha hb (nobehind _ (by decide) (by decide))
end
end Lf

/-! Lf32: name += list. -/
namespace Lf
open PySem PySem.Spec PyProof.Rows L2
def augExtS (i : Nat) (fe : SE) : SS := fun σ M => match σ[i]? with
  | some (some (.ref j)) => (match fe σ M with
    | .ok y M1 => (match M1[j]?, dirOf M1 y with
      | some (.lst es), some fs => if es.length + fs.length ≤ 16000000 then .nx (σ.set i (some (.ref j))) (M1.set j (.lst (es ++ fs))) else .bad
      | _, _ => .bad)
    | .ex c M1 => .ex c σ M1
    | .bad => .bad)
  | _ => .bad
section
variable {X : Cx} {W : WX} {pos : Pos}
theorem s_augExt {i : Nat} {x : Str} {e : Expr} {fe : SE} {pos' : Pos} (hN : X.N.Nodup) (he : PD X W e fe) (hi : X.N[i]? = some x := by rfl) (hx : Loc X.env.scope x := by first | exact Or.inl rfl | exact Or.inr rfl) (hf : X.fn x = true ∨ X.env.scope.names.lookup x = some .local := by first | exact .inl rfl | exact .inr rfl) :
    SD X W (.AugAssign (.Name x pos') .Add e pos) (augExtS i fe) :=
  PS.imp (ps_aug hN hi hx he iop_ext hf) fun E σ H ⟨g, σD, M, c, h⟩ => by
    unfold augExtS at h
    split at h
    case h_2 => exact h.elim
    rename_i j e1
    obtain ⟨v, ev, rv⟩ := c.var e1
    refine ⟨v, ev, g, σD, M, c, ?_⟩
    cases e2 : fe σD M with
    | ok y M1 =>
      rw [e2] at h
      intro g1 H1 l1 c1 vy ry
      simp only at h
      split at h
      case h_2 => exact h.elim
      rename_i es fs e3 e4
      split at h
      case isFalse => exact h.elim
      rename_i hl
      have rv1 := Rv.mono l1.gh _ _ rv
      obtain ⟨a, us, rfl, q, ho, ru⟩ := lst_of c1 rv1 e3
      obtain ⟨b, ws, rfl, rw', hb⟩ := dir_at c1 ry e4
      obtain ⟨l, c2⟩ := c1.writeL q e3 (by intro z; cases z) (.lst (ru.append rw'))
      exact ⟨a, b, us, ws, rfl, rfl, ho, hb, line_le (by rw [← ru.length, ← rw'.length]; exact hl), h _ _ _ (l1.trans l) (c2.set i (Rv.mono l.gh _ _ rv1))⟩
    | ex x M1 =>
      rw [e2] at h
      exact fun g' H' u l c' e => h g' σ H' u l c' e
    | bad => rw [e2] at h; exact h
end
end Lf

/-! Lf33: list.insert. -/
namespace Lf
open PySem PySem.Spec PyProof.Rows L2
def insertM (M : Mem) (x : D) (ds : List D) : Option (D × Mem) := match x, ds with
  | .ref i, [.int j, y] => (match M[i]? with
    | some (.lst es) => if 0 ≤ j ∧ j < 16000000 ∧ es.length < 16000000 then some (.non, M.set i (.lst (es.take j.toNat ++ [y] ++ es.drop j.toNat))) else none
    | _ => none)
  | _, _ => none
theorem insert_ok {C : Ct} : OpM C insertM (fun x vs H Q => ∃ (l : Addr) (xs : List V) (i : Int) (y : V), x = .ref l ∧ vs = [.int i, y] ∧ H l = some (.lst xs) ∧ xs.length < sizeLine ∧ 0 ≤ i ∧ i < 2 ^ 63 ∧
    Q .non (upd H l (.lst (xs.take i.toNat ++ [y] ++ xs.drop i.toNat)))) := by
  intro g σ σD M H x ds vx vs d M' Q c rx rs e k
  unfold insertM at e
  split at e
  · rename_i i j y
    split at e
    · rename_i es e2
      split at e
      · rename_i hj
        cases e
        obtain ⟨a, us, rfl, q, ho, ru⟩ := lst_of c rx e2
        obtain ⟨v0, v1, rfl, r0, r1⟩ := rvA2 rs
        rw [rv_int r0]
        obtain ⟨l, c2⟩ := c.writeL q e2 (by intro z; cases z) (.lst (((ru.take j.toNat).append (RvA.cons r1 RvA.nil)).append (ru.drop j.toNat)))
        have hl := ru.length
        exact ⟨a, us, j, v1, rfl, rfl, ho, line_lt (by rw [← hl]; exact hj.2.2), hj.1, by omega, k _ _ _ l c2 rv_n⟩
      · cases e
    · cases e
  · cases e
section
variable {X : Cx} {W : WX} {o e : Expr} {es : List Expr} {fo : SE} {fa : SA} {apos cpos : Pos}
theorem d_insert (ho : PD X W o fo) (ha : AD X W (e :: es) fa) (hbase : attributeBase o "insert" X.env (eval o X.env) = eval o X.env := by rfl)
    (hfew : ((backTo cpos (starEach (e :: es) X.env)).all (fun x => !x.1) && (backToKw cpos (keywordEach [] X.env)).all (fun x => x.1.isSome) && decide ((e :: es).length + ([] : List Keyword).length + (if ([] : List Keyword).isEmpty then 0 else 1) < 30)) = true := by rfl)
    (hline : (apos.endLine == cpos.line) = true := by rfl) (hs : starEach (e :: es) X.env = (false, eval e X.env) :: starEach es X.env := by rfl) (hplain : (backTo cpos (starEach es X.env)).any (·.1) = false := by rfl) :
    PD X W (.Call (.Attribute o "insert" apos) (e :: es) [] cpos) (mtdS isLst insertM fo fa) :=
  PE.imp (pe_bm PySem.F.plainAttrs_list PySem.F.slot_list_insert PySem.F.type_list_insert mt_insert ho ha hbase hfew hline hs hplain) (mtd_imp (insert_ok (C := ctx X)) fun _ _ _ _ _ _ _ => isLst_ty)
end
end Lf

/-! Lf34: enumerate of a list. -/
namespace Lf
open PySem PySem.Spec PyProof.Rows L2
def numUp : Nat → List D → List D
  | _, [] => []
  | n, x :: xs => .tup [.int (n : Nat), x] :: numUp (n + 1) xs
theorem numUp_get : ∀ (xs : List D) (n i : Nat), (numUp n xs)[i]? = (xs[i]?).map fun x => .tup [.int ((n + i : Nat) : Int), x]
  | [], n, i => by simp [numUp]
  | x :: xs, n, 0 => by simp [numUp]
  | x :: xs, n, i + 1 => by
    have h := numUp_get xs (n + 1) i
    have e : n + 1 + i = n + (i + 1) := by omega
    rw [e] at h
    simpa [numUp] using h
theorem numUp_len : ∀ (xs : List D) (n : Nat), (numUp n xs).length = xs.length
  | [], n => rfl
  | x :: xs, n => by simp [numUp, numUp_len xs]
def ienumS (fa : SA) : SI := fun σ M => (fa σ M).bind fun ds M1 => match ds with
  | [x] => (match lstOf M1 x with
    | some xs => .ok ⟨numUp 0 xs, fun M2 => lstOf M2 x = some xs⟩ M1
    | none => .bad)
  | _ => .bad
section
variable {X : Cx} {W : WX} {pos : Pos}
theorem itOk_e {C : Ct} {g : Gh} {H0 : Hp} {x : D} {a : Addr} {xs : List D} (r : Rv C g x (.ref a)) : ItOk C g H0 (Ite C.K a) ⟨numUp 0 xs, fun M => lstOf M x = some xs⟩ := fun g' σ σD M H l c k i => by
  obtain ⟨a', vs, ea, ra, sa⟩ := lst_at c (Rv.mono l.gh _ _ r) k
  cases ea
  refine ⟨fun d hd => ?_, fun hi => ?_⟩
  · rw [show (ItD.all ⟨numUp 0 xs, fun M => lstOf M x = some xs⟩) = numUp 0 xs from rfl, numUp_get] at hd
    obtain ⟨p, hp, rfl⟩ := Option.map_eq_some_iff.mp hd
    obtain ⟨v, hv, rv⟩ := ra.get hp
    refine ⟨⟨vs, v, sa, hv⟩, fun w H' hy => ?_⟩
    obtain ⟨T, x', rfl, hT, rfl, f1⟩ := hy
    have e1 := f1 vs sa
    rw [hv] at e1
    cases e1
    obtain ⟨l2, c2⟩ := c.frzL (o := .tup [.int (i : Nat), v]) hT
    refine ⟨_, l2, c2, ?_⟩
    simp only [Rv, Nat.zero_add]
    exact ⟨T, [.int (i : Nat), v], rfl, upd_same, RvA.cons rv_i (RvA.cons (Rv.mono l2.gh _ _ rv) RvA.nil)⟩
  · refine ⟨vs, sa, ?_⟩
    have h2 : xs.length ≤ i := by rw [← numUp_len xs 0]; exact hi
    have l1 := ra.length
    omega
theorem i_enum {elts : List Expr} {kk : Nat} {tpos pos : Pos} {e : Expr} {fa : SA} {p : Pos} (hm : X.mg "enumerate" = none) (ha : AD X W [e] fa) (hg : Gl X "enumerate" := by rfl) (hs : starEach [e] X.env = [(false, eval e X.env)] := by rfl) :
    ID X W (.Tuple elts kk tpos) (.Call (.Name "enumerate" p) [e] [] pos) (ienumS fa) :=
  PI.imp (pi_enum hg hm ha hs) fun σ H R ⟨g, σD, M, c, h⟩ => ⟨g, σD, M, c, (RE.post_bind h).imp fun ds M1 g1 H1 _ l1 c1 h1 vs rs => by
    split at h1
    · rename_i x
      split at h1
      · rename_i xs e1
        obtain ⟨v, rfl, rx⟩ := rvA1 rs
        obtain ⟨a, ws, rfl, ra, sa⟩ := lst_at c1 rx e1
        exact ⟨a, ws, rfl, sa, h1 g1 H1 (Le.refl _ _) c1 _ (itOk_e rx)⟩
      · exact h1.elim
    · exact h1.elim⟩
end
end Lf

/-! Lf35: name = {.. for ..} (turned from HandS.Comp ps_setLc). -/
namespace Lf
open PySem PySem.Spec PyProof.Rows L2
section
variable {X : Cx}
theorem ps_setDcD {o0 : HO} (h0 : o0 = .dK [] ∨ o0 = .dT []) (hu : X.A.units + 1 < cLine) {i : Nat} {y : Str} {py : Pos} {kx vx tg iter : Expr} {ifs : List Expr} {scope : Scope} {own : List (Str × Nat)} {pos spos : Pos} {wi : TI} {g : TG} {tt : TT} {tk tv : TE} (hc : X.calm = true) (hN : X.N.Nodup) (hy : X.N[i]? = some y) (hyl : X.env.scope.names.lookup y = some .local)
    (hsw : swapsWith (.DictComp kx vx [⟨tg, iter, ifs, 0⟩] scope pos) (some (.Name y py)) spos.line X.env = pure true) (hi : PI X tg iter wi) (ok : BlkOk X.N X.env.scope scope own)
    (hg : ∀ (s : Shared) (H : Hp) (C : Addr) (cl : List (Str × Addr)) (fp : List Addr), PG (X.blk s H scope (compEnvC scope cl C X.env) fp) tg g) (ht : ∀ (s : Shared) (H : Hp) (C : Addr) (cl : List (Str × Addr)) (fp : List Addr), PTs (X.blk s H scope (compEnvC scope cl C X.env) fp) ifs tt)
    (hk : ∀ (s : Shared) (H : Hp) (C : Addr) (cl : List (Str × Addr)) (fp : List Addr), PE (X.blk s H scope (compEnvC scope cl C X.env) fp) kx tk)
    (he : ∀ (s : Shared) (H : Hp) (C : Addr) (cl : List (Str × Addr)) (fp : List Addr), PE (X.blk s H scope (compEnvC scope cl C X.env) fp) vx tv) (hs : ∀ x, foldedSetIterable iter X.env x = pure x := by intro _; rfl) :
    PS X (.Assign [.Name y py] (.DictComp kx vx [⟨tg, iter, ifs, 0⟩] scope pos) spos) (tAsg (tDcD o0 wi g tt tk tv (own.map (·.2))) (gName i)) := by
  refine ⟨fun pins s σ H D I h => ?_⟩
  rw [exec_Assign_Name_used _ _ _ _ hsw]
  refine wpAny_bind (wpAny_standAt (wpAny_bind ?_))
  show wpAny _ X.A (do let _ ← comprehension (.DictComp kx vx [⟨tg, iter, ifs, 0⟩] scope pos) scope X.env (firstIterPos [⟨tg, iter, ifs, 0⟩] pos) newDict false (eval iter X.env) (some (assign (.Name y py) X.env))) _ _ s
  have h : tDcD o0 wi g tt tk tv (own.map (·.2)) σ H (fun x H1 => gName i x σ H1 D.nx) := h
  refine wpAny_bind (thn (dc_coreD (Qf := fun _ s' => SP X pins D .next s') h0 hu hc hN I hi ok hg ht hk he hs h fun L C s' m H' I' q hn f => ?_) fun _ s' hq => wpAny_pure (wpAny_pure hq))
  show wpAny _ _ (assign (.Name y py) X.env (.ref L)) _ _ _
  refine wpAny_assign_Name (store_ok2 (v := V.ref L) I' hN hy (.inl hyl) rfl (fun s2 I2 ⟨a, sb, ha⟩ => ?_) (.inr hyl))
  obtain ⟨f0, f1, f2, f3, f4, f5⟩ := f
  have haC : C ≠ a := by
    rcases ha with z | z
    · rw [z]; exact f1
    · exact fun e => f4 y a z e.symm
  refine ⟨m, hn.sameBut sb haC, fun h3 sb3 => ?_⟩
  exact ⟨_, H', I2.turned (t' := s2.toks) (fun b o hb e => (sb3.2 b hb).trans e) f0 f1 f3 f4 f5, q⟩
theorem sw_trueD {kx vx : Expr} {gs : List Comprehension} {scope : Scope} {pos py : Pos} {y : Str} {l : Nat} {env : Env} (hk : env.scope.kind = .function) (hy : env.scope.names.lookup y = some .local) (hl : (py.line == pos.line) = true)
    (ha : (scope.names.any fun (n, k) => n == y && (k == .local || k == .cell)) = false) : swapsWith (.DictComp kx vx gs scope pos) (some (.Name y py)) l env = pure true := by
  have ky : env.kindOf y = some .local := hy
  have hb : env.blockKind = .function := by unfold Env.blockKind; rw [hk]; rfl
  unfold swapsWith
  simp only [hb, ky, ha, Expr.pos, hl]
  rfl
theorem s_setDc {W : WX} {i : Nat} {y : Str} {py : Pos} {kx vx tg iter : Expr} {ifs : List Expr} {scope : Scope} {own : List (Str × Nat)} {pos spos : Pos} {fi : SI} {t : Tg} {tt : ST} {fk fv : SE} {m0 : MO} {o0 : HO} {k : Nat} (hr : Room k X.A) (hm : (m0 = .dK [] ∧ o0 = .dK []) ∨ (m0 = .dT [] ∧ o0 = .dT [])) (hc : X.calm = true) (hN : X.N.Nodup) (hsw : swapsWith (.DictComp kx vx [⟨tg, iter, ifs, 0⟩] scope pos) (some (.Name y py)) spos.line X.env = pure true) (ok : BlkOk X.N X.env.scope scope own) (ht : ∀ i ∈ Tg.ix t, i ∈ own.map (·.2)) (hi : ID X W tg iter fi)
    (hg : ∀ (s : Shared) (H : Hp) (C : Addr) (cl : List (Str × Addr)) (fp : List Addr), GD (X.blk s H scope (compEnvC scope cl C X.env) fp) tg t) (htt : ∀ (s : Shared) (H : Hp) (C : Addr) (cl : List (Str × Addr)) (fp : List Addr), TDs (X.blk s H scope (compEnvC scope cl C X.env) fp) W0 ifs tt)
    (hk : ∀ (s : Shared) (H : Hp) (C : Addr) (cl : List (Str × Addr)) (fp : List Addr), PD (X.blk s H scope (compEnvC scope cl C X.env) fp) W0 kx fk)
    (he : ∀ (s : Shared) (H : Hp) (C : Addr) (cl : List (Str × Addr)) (fp : List Addr), PD (X.blk s H scope (compEnvC scope cl C X.env) fp) W0 vx fv) (hy : X.N[i]? = some y := by rfl) (hyl : X.env.scope.names.lookup y = some .local := by rfl) (hs : ∀ x, foldedSetIterable iter X.env x = pure x := by intro _; rfl) :
    SD X W (.Assign [.Name y py] (.DictComp kx vx [⟨tg, iter, ifs, 0⟩] scope pos) spos) (setS i (dcS m0 fi t (own.map (·.2)) tt fk fv)) := by
  refine PS.imp (ps_setDcD (o0 := o0) (by rcases hm with ⟨_, h⟩ | ⟨_, h⟩ <;> simp [h]) (by have := hr.un; omega) (tk := tE (ctx X) W0 fk) (tv := tE (ctx X) W0 fv) (tt := tT (ctx X) W0 tt) (g := gT X.K t) hc hN hy hyl hsw hi ok hg htt hk he hs) fun E σ H ⟨g, σD, M, c, h⟩ => ?_
  refine dc_imp (C := ctx X) (m0 := m0) (o0 := o0) (by
    rcases hm with ⟨rfl, rfl⟩ | ⟨rfl, rfl⟩
    · exact fun g => .dK .nil
    · exact fun g => .dT .nil) ht σ H _ ⟨g, σD, M, c, ?_⟩
  unfold setS at h
  cases e : dcS m0 fi t (own.map (·.2)) tt fk fv σD M with
  | ok d M1 =>
    rw [e] at h
    exact fun g' H' l c' v r => h g' _ H' l (c'.set i r)
  | ex x M1 =>
    rw [e] at h
    exact fun g' H' u l c' e => h g' σ H' u l c' e
  | bad => rw [e] at h; exact h
end
end Lf

/-! Lw: what must hold behind a reading: rules for each form. -/
namespace Lf
open PySem PySem.Spec PyProof.Rows L2
abbrev XP := Str → Mem → Prop
/-- behind it Q holds (raised: X) -/
def RE.ev {α : Type} (r : RE α) (X : XP) (Q : α → Mem → Prop) : Prop := match r with
  | .ok a M => Q a M
  | .ex c M => X c M
  | .bad => False
structure Po where
  nx : Sl → Mem → Prop
  rt : D → Mem → Prop
  bk : Sl → Mem → Prop
  ct : Sl → Mem → Prop
  ex : Str → Sl → Mem → Prop
def RS.ev (r : RS) (P : Po) : Prop := match r with
  | .nx σ M => P.nx σ M
  | .rt d M => P.rt d M
  | .bk σ M => P.bk σ M
  | .ct σ M => P.ct σ M
  | .ex c σ M => P.ex c σ M
  | .bad => False
def noX : XP := fun _ _ => False
def optE (o : Option D) (M : Mem) : RE D := match o with
  | some d => .ok d M
  | none => .bad
section
variable {α β : Type} {X : XP} {Q : α → Mem → Prop} {P : Po} {σ : Sl} {M : Mem}
theorem e_ok (a : α) : (RE.ok a M).ev X Q = Q a M := rfl
theorem e_ex (c : Str) : (RE.ex c M : RE α).ev X Q = X c M := rfl
theorem e_bad : (RE.bad : RE α).ev X Q = False := rfl
theorem e_bind {R : β → Mem → Prop} (r : RE α) (k : α → Mem → RE β) : (r.bind k).ev X R = r.ev X fun a M1 => (k a M1).ev X R := by cases r <;> rfl
theorem e_opt (o : Option D) {Q : D → Mem → Prop} : (optE o M).ev X Q = ∃ d, o = some d ∧ Q d M := by
  cases o with
  | none => simp [optE, RE.ev]
  | some d => simp [optE, RE.ev]
theorem RE.ev.imp {r : RE α} {Q' : α → Mem → Prop} (h : r.ev X Q) (k : ∀ a M, Q a M → Q' a M) : r.ev X Q' := by
  cases r with
  | ok a M => exact k a M h
  | ex c M => exact h
  | bad => exact h
theorem RE.ev.impX {r : RE α} {X' : XP} {Q' : α → Mem → Prop} (h : r.ev X Q) (kx : ∀ c M, X c M → X' c M) (k : ∀ a M, Q a M → Q' a M) : r.ev X' Q' := by
  cases r with
  | ok a M => exact k a M h
  | ex c M => exact kx c M h
  | bad => exact h
/-- a call that cannot raise -/
theorem RE.ev.go {r : RE α} {X' : XP} {Q' : α → Mem → Prop} (h : r.ev noX Q) (k : ∀ a M, Q a M → Q' a M) : r.ev X' Q' := h.impX (fun _ _ z => z.elim) k
theorem RE.ev.of {r : RE α} {a : α} {M1 : Mem} (h : r = .ok a M1) (k : Q a M1) : r.ev X Q := by rw [h]; exact k
theorem RE.ev.get {r : RE α} (h : r.ev noX Q) : ∃ a M1, r = .ok a M1 ∧ Q a M1 := by
  cases r with
  | ok a M => exact ⟨a, M, rfl, h⟩
  | ex c M => exact h.elim
  | bad => exact h.elim
theorem RE.ev.eq {r : RE α} {a : α} {M1 : Mem} (h : r.ev noX fun b M2 => b = a ∧ M2 = M1) : r = .ok a M1 := by
  obtain ⟨b, M2, e, rfl, rfl⟩ := h.get
  exact e
theorem RS.ev.imp {r : RS} {P' : Po} (h : r.ev P) (h1 : ∀ σ M, P.nx σ M → P'.nx σ M) (h2 : ∀ d M, P.rt d M → P'.rt d M) (h3 : ∀ σ M, P.bk σ M → P'.bk σ M) (h4 : ∀ σ M, P.ct σ M → P'.ct σ M) (h5 : ∀ c σ M, P.ex c σ M → P'.ex c σ M) : r.ev P' := by
  cases r with
  | nx σ M => exact h1 σ M h
  | rt d M => exact h2 d M h
  | bk σ M => exact h3 σ M h
  | ct σ M => exact h4 σ M h
  | ex c σ M => exact h5 c σ M h
  | bad => exact h
theorem RS.ev.nxI {r : RS} {N N' : Sl → Mem → Prop} {R : D → Mem → Prop} {B Ct : Sl → Mem → Prop} {E : Str → Sl → Mem → Prop} (h : r.ev ⟨N, R, B, Ct, E⟩) (k : ∀ σ M, N σ M → N' σ M) : r.ev ⟨N', R, B, Ct, E⟩ :=
  h.imp k (fun _ _ h => h) (fun _ _ h => h) (fun _ _ h => h) (fun _ _ _ h => h)
end
section
variable {X : XP} {Q : D → Mem → Prop} {QB : Bool → Mem → Prop} {QA : List D → Mem → Prop} {P : Po} {σ : Sl} {M : Mem}
theorem e_var (i : Nat) : (varS i σ M).ev X Q = match σ[i]? with
  | some (some d) => Q d M
  | _ => False := by
  unfold varS
  cases σ[i]? with
  | none => rfl
  | some o => cases o <;> rfl
theorem e_c (d : D) : (cS d σ M).ev X Q = Q d M := rfl
theorem e_op2 (r : Mem → D → D → Option D) (fa fb : SE) : (op2 r fa fb σ M).ev X Q = (fa σ M).ev X fun x M1 => (fb σ M1).ev X fun y M2 => ∃ d, r M2 x y = some d ∧ Q d M2 := by
  show ((fa σ M).bind fun x M1 => (fb σ M1).bind fun y M2 => optE (r M2 x y) M2).ev X Q = _
  simp only [e_bind, e_opt]
theorem e_op1 (r : Mem → D → Option D) (fa : SE) : (op1 r fa σ M).ev X Q = (fa σ M).ev X fun x M1 => ∃ d, r M1 x = some d ∧ Q d M1 := by
  show ((fa σ M).bind fun x M1 => optE (r M1 x) M1).ev X Q = _
  simp only [e_bind, e_opt]
theorem e_nilA : (nilA σ M).ev X QA = QA [] M := rfl
theorem e_consA (f : SE) (r : SA) : (consA f r σ M).ev X QA = (f σ M).ev X fun d M1 => (r σ M1).ev X fun ds M2 => QA (d :: ds) M2 := by
  show ((f σ M).bind fun d M1 => (r σ M1).bind fun ds M2 => .ok (d :: ds) M2).ev X QA = _
  simp only [e_bind, e_ok]
theorem e_callV (r : Mem → List D → Option D) (fa : SA) : (callV r fa σ M).ev X Q = (fa σ M).ev X fun ds M1 => ∃ d, r M1 ds = some d ∧ Q d M1 := by
  show ((fa σ M).bind fun ds M1 => optE (r M1 ds) M1).ev X Q = _
  simp only [e_bind, e_opt]
theorem e_callS (F : SF) (fa : SA) : (callS F fa σ M).ev X Q = (fa σ M).ev X fun ds M1 => (F ds M1).ev X Q := by
  show ((fa σ M).bind fun ds M1 => F ds M1).ev X Q = _
  simp only [e_bind]
theorem e_asT (f : SE) : (asT f σ M).ev X QB = (f σ M).ev X fun d M1 => ∃ b, d = .bl b ∧ QB b M1 := by
  show ((f σ M).bind fun d M1 => match d with
    | .bl b => .ok b M1
    | _ => .bad).ev X QB = _
  rw [e_bind]
  congr 1
  funext d M1
  cases d <;> simp [RE.ev]
theorem e_notT (f : ST) : (notT f σ M).ev X QB = (f σ M).ev X fun b M1 => QB (!b) M1 := by
  show ((f σ M).bind fun b M1 => .ok (!b) M1).ev X QB = _
  simp only [e_bind, e_ok]
theorem e_andT (f k : ST) : (andT f k σ M).ev X QB = (f σ M).ev X fun b M1 => if b = true then (k σ M1).ev X QB else QB false M1 := by
  show ((f σ M).bind fun b M1 => if b = true then k σ M1 else .ok false M1).ev X QB = _
  rw [e_bind]
  congr 1
  funext d M1
  cases d <;> rfl
theorem e_orT (f k : ST) : (orT f k σ M).ev X QB = (f σ M).ev X fun b M1 => if b = true then QB true M1 else (k σ M1).ev X QB := by
  show ((f σ M).bind fun b M1 => if b = true then .ok true M1 else k σ M1).ev X QB = _
  rw [e_bind]
  congr 1
  funext d M1
  cases d <;> rfl
theorem e_andV (f k : SE) : (andV f k σ M).ev X Q = (f σ M).ev X fun d M1 => ∃ b, d = .bl b ∧ (if b = true then (k σ M1).ev X Q else Q (.bl false) M1) := by
  show ((f σ M).bind _).ev X Q = _
  rw [e_bind]
  congr 1
  funext d M1
  cases d with
  | bl b => cases b <;> simp [RE.ev]
  | _ => simp [RE.ev]
theorem e_orV (f k : SE) : (orV f k σ M).ev X Q = (f σ M).ev X fun d M1 => ∃ b, d = .bl b ∧ (if b = true then Q (.bl true) M1 else (k σ M1).ev X Q) := by
  show ((f σ M).bind _).ev X Q = _
  rw [e_bind]
  congr 1
  funext d M1
  cases d with
  | bl b => cases b <;> simp [RE.ev]
  | _ => simp [RE.ev]
theorem e_notV (f : SE) : (notV f σ M).ev X Q = (f σ M).ev X fun d M1 => ∃ b, d = .bl b ∧ Q (.bl (!b)) M1 := by
  show ((f σ M).bind _).ev X Q = _
  rw [e_bind]
  congr 1
  funext d M1
  cases d <;> simp [RE.ev]
theorem e_ifE (t : ST) (a b : SE) : (ifE t a b σ M).ev X Q = (t σ M).ev X fun c M1 => if c = true then (a σ M1).ev X Q else (b σ M1).ev X Q := by
  show ((t σ M).bind fun c M1 => if c = true then a σ M1 else b σ M1).ev X Q = _
  rw [e_bind]
  congr 1
  funext c M1
  cases c <;> rfl
theorem e_ifle {α : Type} {Q : α → Mem → Prop} {p : Prop} [Decidable p] (r : RE α) : (if p then r else .bad).ev X Q = (p ∧ r.ev X Q) := by
  by_cases h : p
  · rw [if_pos h]; simp [h]
  · rw [if_neg h]; simp [h, RE.ev]
theorem e_tup (fa : SA) : (tupS fa σ M).ev X Q = (fa σ M).ev X fun ds M1 => ds.length ≤ 1000 ∧ Q (.tup ds) M1 := by
  show ((fa σ M).bind fun ds M1 => if ds.length ≤ 1000 then .ok (.tup ds) M1 else .bad).ev X Q = _
  simp only [e_bind, e_ifle, e_ok]
theorem e_lst (fa : SA) : (lstS fa σ M).ev X Q = (fa σ M).ev X fun ds M1 => ds.length ≤ 1000 ∧ Q (.lst ds) M1 := by
  show ((fa σ M).bind fun ds M1 => if ds.length ≤ 1000 then .ok (.lst ds) M1 else .bad).ev X Q = _
  simp only [e_bind, e_ifle, e_ok]
theorem e_new (fa : SA) : (newS fa σ M).ev X Q = (fa σ M).ev X fun ds M1 => ds.length ≤ 1000 ∧ Q (.ref M1.length) (M1 ++ [.lst ds]) := by
  show ((fa σ M).bind fun ds M1 => if ds.length ≤ 1000 then .ok (.ref M1.length) (M1 ++ [.lst ds]) else .bad).ev X Q = _
  simp only [e_bind, e_ifle, e_ok]
theorem e_ch (r1 r2 : Mem → D → D → Option D) (fa fb fc : SE) : (chS r1 r2 fa fb fc σ M).ev X Q = (fa σ M).ev X fun x M1 => (fb σ M1).ev X fun y M2 => ∃ b, r1 M2 x y = some (.bl b) ∧ (if b = true then (fc σ M2).ev X fun z M3 => ∃ d, r2 M3 y z = some d ∧ Q d M3 else Q (.bl false) M2) := by
  show ((fa σ M).bind fun x M1 => (fb σ M1).bind fun y M2 => _).ev X Q = _
  simp only [e_bind]
  congr 1
  funext x M1
  congr 1
  funext y M2
  cases h : r1 M2 x y with
  | none => simp [RE.ev]
  | some d =>
    cases d with
    | bl b =>
      cases b with
      | true =>
        simp only [Option.some.injEq, D.bl.injEq, exists_eq_left', if_true]
        show ((fc σ M2).bind fun z M3 => optE (r2 M3 y z) M3).ev X Q = _
        simp only [e_bind, e_opt]
      | false => simp [RE.ev]
    | _ => simp [RE.ev]
theorem e_frz (f : SE) : (frzS f σ M).ev X Q = (f σ M).ev X fun d M1 => ∃ i, d = .ref i ∧ ∃ ds, M1[i]? = some (.lst ds) ∧ Q (.lst ds) (M1.set i .gone) := by
  show ((f σ M).bind _).ev X Q = _
  rw [e_bind]
  congr 1
  funext d M1
  cases d with
  | ref i =>
    cases h : M1[i]? with
    | none => simp [RE.ev, h]
    | some m => cases m <;> simp [RE.ev, h]
  | _ => simp [RE.ev]
theorem e_newOf (fa : SA) : (newOfS fa σ M).ev X Q = (fa σ M).ev X fun ds M1 => match ds with
  | [x] => ∃ es, seqOf M1 x = some es ∧ Q (.ref M1.length) (M1 ++ [.lst es])
  | _ => False := by
  show ((fa σ M).bind _).ev X Q = _
  rw [e_bind]
  congr 1
  funext ds M1
  match ds with
  | [] => simp [RE.ev]
  | [x] =>
    cases h : seqOf M1 x with
    | none => simp [RE.ev, h]
    | some es => simp [RE.ev, h]
  | _ :: _ :: _ => simp [RE.ev]
theorem e_mtd (ty : Mem → D → Bool) (r : Mem → D → List D → Option (D × Mem)) (fo : SE) (fa : SA) : (mtdS ty r fo fa σ M).ev X Q = (fo σ M).ev X fun x M1 => ty M1 x = true ∧ (fa σ M1).ev X fun ds M2 => ∃ q, r M2 x ds = some q ∧ Q q.1 q.2 := by
  show ((fo σ M).bind _).ev X Q = _
  rw [e_bind]
  congr 1
  funext x M1
  rw [e_ifle, e_bind]
  congr 2
  funext ds M2
  cases h : r M2 x ds with
  | none => simp [RE.ev]
  | some p => obtain ⟨d, M3⟩ := p; simp [RE.ev]
theorem e_m1 (r : Mem → D → D → Option D) (fo fe : SE) : (m1S r fo fe σ M).ev X Q = (fo σ M).ev X fun x M1 => isStr x = true ∧ (fe σ M1).ev X fun y M2 => ∃ d, r M2 x y = some d ∧ Q d M2 := by
  show ((fo σ M).bind fun x M1 => if isStr x = true then (fe σ M1).bind fun y M2 => optE (r M2 x y) M2 else .bad).ev X Q = _
  simp only [e_bind, e_ifle, e_opt]
theorem e_part {f : SE} {QO : Option Int → Mem → Prop} : (partS f σ M).ev X QO = (f σ M).ev X fun d M1 => ∃ i, d = .int i ∧ QO (some i) M1 := by
  show ((f σ M).bind _).ev X QO = _
  rw [e_bind]
  congr 1
  funext d M1
  cases d <;> simp [RE.ev]
theorem e_slice (f : SE) (l h : SO) : (sliceS f l h σ M).ev X Q = (f σ M).ev X fun x M1 => (l σ M1).ev X fun lo M2 => (h σ M2).ev X fun hi M3 => ∃ d, slM M3 x lo hi = some d ∧ Q d M3 := by
  show ((f σ M).bind fun x M1 => (l σ M1).bind fun lo M2 => (h σ M2).bind fun hi M3 => optE (slM M3 x lo hi) M3).ev X Q = _
  simp only [e_bind, e_opt]
theorem e_dnewT : (dnewTS σ M).ev X Q = Q (.ref M.length) (M ++ [.dT []]) := rfl
theorem e_dnewK : (dnewKS σ M).ev X Q = Q (.ref M.length) (M ++ [.dK []]) := rfl
theorem e_dget1 (fo fi : SE) : (dget1S fo fi σ M).ev X Q = (fo σ M).ev X fun x M1 => isD M1 x = true ∧ (fi σ M1).ev X fun y M2 => ∃ o, dgetM M2 x y = some o ∧ Q (o.getD .non) M2 := by
  show ((fo σ M).bind _).ev X Q = _
  rw [e_bind]
  congr 1
  funext x M1
  rw [e_ifle, e_bind]
  congr 2
  funext y M2
  cases h : dgetM M2 x y <;> simp [RE.ev]
theorem e_dget2 (fo fi fd : SE) : (dget2S fo fi fd σ M).ev X Q = (fo σ M).ev X fun x M1 => isD M1 x = true ∧ (fi σ M1).ev X fun y M2 => (fd σ M2).ev X fun z M3 => ∃ o, dgetM M3 x y = some o ∧ Q (o.getD z) M3 := by
  show ((fo σ M).bind _).ev X Q = _
  rw [e_bind]
  congr 1
  funext x M1
  rw [e_ifle, e_bind]
  congr 2
  funext y M2
  rw [e_bind]
  congr 1
  funext z M3
  cases h : dgetM M3 x y <;> simp [RE.ev]
theorem e_addN (fa fb : SE) : (addNS fa fb σ M).ev X Q = (fa σ M).ev X fun x M1 => (fb σ M1).ev X fun y M2 => ∃ a b, dirOf M2 x = some a ∧ dirOf M2 y = some b ∧ a.length + b.length ≤ 16000000 ∧ Q (.ref M2.length) (M2 ++ [.lst (a ++ b)]) := by
  show ((fa σ M).bind fun x M1 => (fb σ M1).bind fun y M2 => _).ev X Q = _
  simp only [e_bind]
  congr 1
  funext x M1
  congr 1
  funext y M2
  cases h1 : dirOf M2 x <;> cases h2 : dirOf M2 y <;> simp [RE.ev, e_ifle, h1, h2]
  rename_i a b
  by_cases hl : a.length + b.length ≤ 16000000 <;> simp [hl]
/-! ### statements -/
theorem e_next : (nextS σ M).ev P = P.nx σ M := rfl
theorem e_seq (a b : SS) : (seqS a b σ M).ev P = (a σ M).ev ⟨fun σ1 M1 => (b σ1 M1).ev P, P.rt, P.bk, P.ct, P.ex⟩ := by
  unfold seqS
  cases a σ M <;> rfl
theorem e_ret (f : SE) : (retS f σ M).ev P = (f σ M).ev (fun c M1 => P.ex c σ M1) P.rt := by
  unfold retS
  cases f σ M <;> rfl
theorem e_expr (f : SE) : (exprS f σ M).ev P = (f σ M).ev (fun c M1 => P.ex c σ M1) fun _ M1 => P.nx σ M1 := by
  unfold exprS
  cases f σ M <;> rfl
theorem e_if (t : ST) (a b : SS) : (ifS t a b σ M).ev P = (t σ M).ev (fun c M1 => P.ex c σ M1) fun c M1 => if c = true then (a σ M1).ev P else (b σ M1).ev P := by
  unfold ifS
  cases t σ M with
  | ok c M1 => cases c <;> rfl
  | _ => rfl
theorem e_set (i : Nat) (f : SE) : (setS i f σ M).ev P = (f σ M).ev (fun c M1 => P.ex c σ M1) fun d M1 => P.nx (σ.set i (some d)) M1 := by
  unfold setS
  cases f σ M <;> rfl
theorem e_asg (t : Tg) (f : SE) : (asgS t f σ M).ev P = (f σ M).ev (fun c M1 => P.ex c σ M1) fun d M1 => ∃ σ1, Tg.set t d σ = some σ1 ∧ P.nx σ1 M1 := by
  unfold asgS
  cases f σ M with
  | ok d M1 =>
    simp only [RE.ev]
    cases h : Tg.set t d σ <;> simp [RS.ev]
  | _ => rfl
theorem e_setItem (fo fi f : SE) : (setItemS fo fi f σ M).ev P = (f σ M).ev (fun c M1 => P.ex c σ M1) fun d M1 => (fo σ M1).ev (fun c M1 => P.ex c σ M1) fun x M2 => (fi σ M2).ev (fun c M1 => P.ex c σ M1) fun y M3 => ∃ a, x = .ref a ∧ ∃ j, y = .int j ∧ ∃ es, M3[a]? = some (.lst es) ∧ (0 ≤ j ∧ j < es.length) ∧ P.nx σ (M3.set a (.lst (es.set j.toNat d))) := by
  unfold setItemS
  cases f σ M with
  | ok d M1 =>
    simp only [RE.ev]
    cases fo σ M1 with
    | ok x M2 =>
      simp only
      cases fi σ M2 with
      | ok y M3 =>
        simp only
        cases x <;> cases y <;> simp [RS.ev]
        rename_i a j
        cases h : M3[a]? with
        | none => simp
        | some m =>
          cases m <;> simp
          rename_i es
          by_cases hj : 0 ≤ j ∧ j < es.length
          · simp [hj]
          · rw [if_neg hj]
            simp
            intro h1 h2
            exact absurd ⟨h1, h2⟩ hj
      | _ => rfl
    | _ => rfl
  | _ => rfl
theorem e_dput (fo fi f : SE) : (dputS fo fi f σ M).ev P = (f σ M).ev (fun c M1 => P.ex c σ M1) fun d M1 => (fo σ M1).ev (fun c M1 => P.ex c σ M1) fun x M2 => (fi σ M2).ev (fun c M1 => P.ex c σ M1) fun y M3 => ∃ M4, dputM M3 x y d = some M4 ∧ P.nx σ M4 := by
  unfold dputS
  cases f σ M with
  | ok d M1 =>
    simp only [RE.ev]
    cases fo σ M1 with
    | ok x M2 =>
      simp only
      cases fi σ M2 with
      | ok y M3 =>
        simp only
        cases h : dputM M3 x y d <;> simp [RS.ev]
      | _ => rfl
    | _ => rfl
  | _ => rfl
theorem e_augExt (i : Nat) (fe : SE) : (augExtS i fe σ M).ev P = ∃ j, σ[i]? = some (some (.ref j)) ∧ (fe σ M).ev (fun c M1 => P.ex c σ M1) fun y M1 => ∃ es, M1[j]? = some (.lst es) ∧ ∃ fs, dirOf M1 y = some fs ∧ es.length + fs.length ≤ 16000000 ∧ P.nx (σ.set i (some (.ref j))) (M1.set j (.lst (es ++ fs))) := by
  unfold augExtS
  split
  · rename_i j hj
    simp only [hj, Option.some.injEq, D.ref.injEq, exists_eq_left']
    cases fe σ M with
    | ok y M1 =>
      simp only [RE.ev]
      cases h1 : M1[j]? with
      | none => simp [RS.ev]
      | some m =>
        cases m with
        | lst es =>
          cases h2 : dirOf M1 y with
          | none => simp [RS.ev]
          | some fs =>
            by_cases hl : es.length + fs.length ≤ 16000000
            · simp [RS.ev, hl]
            · simp [RS.ev, hl]
        | _ => simp [RS.ev]
    | _ => rfl
  · rename_i h
    simp only [RS.ev, eq_iff_iff, false_iff, not_exists, not_and]
    intro j hj
    exact absurd hj (h j)
/-! ### walks -/
variable {QZ : ItD → Mem → Prop}
theorem e_iseq (f : SE) : (iseqS f σ M).ev X QZ = (f σ M).ev X fun d M1 => ∃ ds, seqOf M1 d = some ds ∧ QZ ⟨ds, fun M' => seqOf M' d = some ds⟩ M1 := by
  show ((f σ M).bind _).ev X QZ = _
  rw [e_bind]
  congr 1
  funext d M1
  cases h : seqOf M1 d <;> simp [RE.ev]
theorem e_istr (f : SE) : (istrS f σ M).ev X QZ = (f σ M).ev X fun d M1 => ∃ x, d = .str x ∧ QZ ⟨signs x, fun _ => True⟩ M1 := by
  show ((f σ M).bind _).ev X QZ = _
  rw [e_bind]
  congr 1
  funext d M1
  cases d <;> simp [RE.ev]
theorem e_ikeys (f : SE) : (ikeysS f σ M).ev X QZ = (f σ M).ev X fun d M1 => ∃ ds, keysD M1 d = some ds ∧ QZ ⟨ds, fun M' => keysD M' d = some ds⟩ M1 := by
  show ((f σ M).bind _).ev X QZ = _
  rw [e_bind]
  congr 1
  funext d M1
  cases h : keysD M1 d <;> simp [RE.ev]
theorem e_iitems (f : SE) : (iitemsS f σ M).ev X QZ = (f σ M).ev X fun d M1 => ∃ ds, itemsDM M1 d = some ds ∧ QZ ⟨ds, fun M' => itemsDM M' d = some ds⟩ M1 := by
  show ((f σ M).bind _).ev X QZ = _
  rw [e_bind]
  congr 1
  funext d M1
  cases h : itemsDM M1 d <;> simp [RE.ev]
theorem e_ienum (fa : SA) : (ienumS fa σ M).ev X QZ = (fa σ M).ev X fun ds M1 => match ds with
  | [x] => ∃ xs, lstOf M1 x = some xs ∧ QZ ⟨numUp 0 xs, fun M2 => lstOf M2 x = some xs⟩ M1
  | _ => False := by
  show ((fa σ M).bind _).ev X QZ = _
  rw [e_bind]
  congr 1
  funext ds M1
  match ds with
  | [] => simp [RE.ev]
  | [x] => cases h : lstOf M1 x <;> simp [RE.ev, h]
  | _ :: _ :: _ => simp [RE.ev]
theorem e_izip (fa : SA) : (izipS fa σ M).ev X QZ = (fa σ M).ev X fun ds M1 => match ds with
  | [x, y] => ∃ xs, lstOf M1 x = some xs ∧ ∃ ys, lstOf M1 y = some ys ∧ QZ ⟨pairUp xs ys, fun M => lstOf M x = some xs ∧ lstOf M y = some ys⟩ M1
  | _ => False := by
  show ((fa σ M).bind _).ev X QZ = _
  rw [e_bind]
  congr 1
  funext ds M1
  match ds with
  | [] => simp [RE.ev]
  | [x] => simp [RE.ev]
  | [x, y] => cases h : lstOf M1 x <;> cases k : lstOf M1 y <;> simp [RE.ev, h, k]
  | _ :: _ :: _ :: _ => simp [RE.ev]
theorem e_range1 (fa : SA) : (irange1S fa σ M).ev X QZ = (fa σ M).ev X fun ds M1 => match ds with
  | [.int j] => (j < 1000000 ∧ -1000000 < j) ∧ QZ ⟨rngItems 0 j.toNat, fun _ => True⟩ M1
  | _ => False := by
  show ((fa σ M).bind _).ev X QZ = _
  rw [e_bind]
  congr 1
  funext ds M1
  match ds with
  | [] => simp [RE.ev]
  | [x] =>
    cases x <;> simp [RE.ev]
    rename_i j
    by_cases h : j < 1000000 ∧ -1000000 < j
    · simp [h]
    · rw [if_neg h]; simp; exact fun h1 h2 => absurd ⟨h1, h2⟩ h
  | _ :: _ :: _ => simp [RE.ev]
/-! ### loops -/
theorem ev_loop {z : ItD} {t : Tg} {body : SS} (I : Nat → Sl → Mem → Prop) (hc : ∀ n σ M, I n σ M → z.chk M)
    (step : ∀ n x σ M, z.all[n]? = some x → I n σ M → ∃ σ1, Tg.set t x σ = some σ1 ∧ (body σ1 M).ev ⟨I (n + 1), P.rt, P.nx, I (n + 1), P.ex⟩) (fin : ∀ σ M, I z.all.length σ M → P.nx σ M) :
    ∀ (k n : Nat) (σ : Sl) (M : Mem), z.all.length - n = k → n ≤ z.all.length → I n σ M → (loopS z t body (z.all.drop n) σ M).ev P
  | 0, n, σ, M, hk, hn, h => by
    obtain rfl : n = z.all.length := by omega
    rw [List.drop_length]
    unfold loopS
    rw [if_pos (hc _ _ _ h)]
    exact fin _ _ h
  | k + 1, n, σ, M, hk, hn, h => by
    have hlt : n < z.all.length := by omega
    rw [List.drop_eq_getElem_cons hlt]
    unfold loopS
    rw [if_pos (hc _ _ _ h)]
    obtain ⟨σ1, e1, h1⟩ := step n z.all[n] σ M (List.getElem?_eq_getElem hlt) h
    rw [e1]
    dsimp only
    cases eb : body σ1 M with
    | nx σ2 M2 =>
      rw [eb] at h1
      exact ev_loop I hc step fin k (n + 1) σ2 M2 (by omega) (by omega) h1
    | ct σ2 M2 =>
      rw [eb] at h1
      exact ev_loop I hc step fin k (n + 1) σ2 M2 (by omega) (by omega) h1
    | bk σ2 M2 => rw [eb] at h1; exact h1
    | rt d M2 => rw [eb] at h1; exact h1
    | ex c σ2 M2 => rw [eb] at h1; exact h1
    | bad => rw [eb] at h1; exact h1.elim
theorem ev_for {fi : SI} {t : Tg} {body : SS} (h : (fi σ M).ev (fun c M1 => P.ex c σ M1) fun z M1 => ∃ I : Nat → Sl → Mem → Prop, (∀ n σ M, I n σ M → z.chk M) ∧ I 0 σ M1 ∧
    (∀ n x σ M, z.all[n]? = some x → I n σ M → ∃ σ1, Tg.set t x σ = some σ1 ∧ (body σ1 M).ev ⟨I (n + 1), P.rt, P.nx, I (n + 1), P.ex⟩) ∧ ∀ σ M, I z.all.length σ M → P.nx σ M) : (forS fi t body σ M).ev P := by
  unfold forS
  cases e : fi σ M with
  | ok z M1 =>
    rw [e] at h
    obtain ⟨I, hc, h0, step, fin⟩ := h
    have := ev_loop (P := P) I hc step fin z.all.length 0 σ M1 (by omega) (by omega) h0
    rwa [List.drop_zero] at this
  | ex c M1 => rw [e] at h; exact h
  | bad => rw [e] at h; exact h.elim
/-- for over a list that stays -/
theorem ev_forL {f : SE} {t : Tg} {body : SS} {ds : List D} {M1 : Mem} (hf : f σ M = .ok (.lst ds) M1) (I : Nat → Sl → Mem → Prop) (h0 : I 0 σ M1)
    (step : ∀ n x σ M, ds[n]? = some x → I n σ M → ∃ σ1, Tg.set t x σ = some σ1 ∧ (body σ1 M).ev ⟨I (n + 1), P.rt, P.nx, I (n + 1), P.ex⟩) (fin : ∀ σ M, I ds.length σ M → P.nx σ M) : (forS (iseqS f) t body σ M).ev P :=
  ev_for (by
    rw [e_iseq]
    exact RE.ev.of hf ⟨ds, rfl, I, fun _ _ _ _ => rfl, h0, step, fin⟩)
/-- while: by what holds, and a measure -/
theorem ev_while {t : ST} {b : SS} {γ : Type} (r : γ → γ → Prop) (wf : WellFounded r) (I : γ → Sl → Mem → Prop)
    (step : ∀ m σ M, I m σ M → (t σ M).ev (fun c M1 => P.ex c σ M1) fun c M1 => if c = true then (b σ M1).ev ⟨fun σ2 M2 => ∃ m2, r m2 m ∧ I m2 σ2 M2, P.rt, P.nx, fun σ2 M2 => ∃ m2, r m2 m ∧ I m2 σ2 M2, P.ex⟩ else P.nx σ M1) :
    ∀ m σ M, I m σ M → (whileS t b σ M).ev P := by
  intro m
  induction m using wf.induction with
  | _ m ih =>
    intro σ M h
    have hs := step m σ M h
    have one : ∀ r1, (∃ n, whileN t b n σ M = some r1) → r1.ev P → (whileS t b σ M).ev P := fun r1 ⟨n, hn⟩ h => by
      rw [whileS_of hn]; exact h
    have go : ∀ {σ2 M1 M2}, t σ M = .ok true M1 → (b σ M1 = .nx σ2 M2 ∨ b σ M1 = .ct σ2 M2) → (whileS t b σ2 M2).ev P → (whileS t b σ M).ev P := fun {σ2 M1 M2} ht hb hw => by
      rcases whileS_or (t := t) (b := b) (σ := σ2) (M := M2) with e | ⟨n, e⟩
      · rw [e] at hw; exact hw.elim
      · refine one _ ⟨n + 1, ?_⟩ hw
        unfold whileN
        rw [ht]
        dsimp only
        rcases hb with hb | hb <;> rw [hb] <;> exact e
    cases et : t σ M with
    | ex c M1 =>
      rw [et] at hs
      exact one (.ex c σ M1) ⟨1, by unfold whileN; rw [et]⟩ hs
    | bad => rw [et] at hs; exact hs.elim
    | ok c M1 =>
      rw [et] at hs
      cases c with
      | false => exact one (.nx σ M1) ⟨1, by unfold whileN; rw [et]⟩ hs
      | true =>
        have hs : (b σ M1).ev _ := hs
        cases eb : b σ M1 with
        | nx σ2 M2 =>
          rw [eb] at hs
          obtain ⟨m2, h2, h3⟩ := hs
          exact go et (.inl eb) (ih m2 h2 σ2 M2 h3)
        | ct σ2 M2 =>
          rw [eb] at hs
          obtain ⟨m2, h2, h3⟩ := hs
          exact go et (.inr eb) (ih m2 h2 σ2 M2 h3)
        | bk σ2 M2 =>
          rw [eb] at hs
          exact one (.nx σ2 M2) ⟨1, by unfold whileN; rw [et]; dsimp only; rw [eb]⟩ hs
        | rt d M2 =>
          rw [eb] at hs
          exact one (.rt d M2) ⟨1, by unfold whileN; rw [et]; dsimp only; rw [eb]⟩ hs
        | ex x σ2 M2 =>
          rw [eb] at hs
          exact one (.ex x σ2 M2) ⟨1, by unfold whileN; rw [et]; dsimp only; rw [eb]⟩ hs
        | bad => rw [eb] at hs; exact hs.elim
/-! ### comprehensions -/
theorem ev_lcl {z : ItD} {t : Tg} {tt : ST} {f : SE} (I : Nat → Mem → List D → Prop) (hc : ∀ n M acc, I n M acc → z.chk M)
    (step : ∀ n x M acc, z.all[n]? = some x → I n M acc → ∃ σ1, Tg.set t x σ = some σ1 ∧ (tt σ1 M).ev noX fun b M1 => if b = true then (f σ1 M1).ev noX fun y M2 => I (n + 1) M2 (acc ++ [y]) else I (n + 1) M1 acc) :
    ∀ (k n : Nat) (M : Mem) (acc : List D), z.all.length - n = k → n ≤ z.all.length → I n M acc → (lcLoop z t tt f (z.all.drop n) σ M acc).ev X fun ds M2 => I z.all.length M2 ds
  | 0, n, M, acc, hk, hn, h => by
    obtain rfl : n = z.all.length := by omega
    rw [List.drop_length]
    unfold lcLoop
    rw [if_pos (hc _ _ _ h)]
    exact h
  | k + 1, n, M, acc, hk, hn, h => by
    have hlt : n < z.all.length := by omega
    rw [List.drop_eq_getElem_cons hlt]
    unfold lcLoop
    rw [if_pos (hc _ _ _ h)]
    obtain ⟨σ1, e1, h1⟩ := step n z.all[n] M acc (List.getElem?_eq_getElem hlt) h
    rw [e1]
    dsimp only
    obtain ⟨b, M1, et, h2⟩ := h1.get
    rw [et]
    cases b with
    | false => exact ev_lcl I hc step k (n + 1) M1 acc (by omega) (by omega) h2
    | true =>
      dsimp only
      obtain ⟨y, M2, ey, h3⟩ := RE.ev.get (r := f σ1 M1) h2
      rw [ey]
      exact ev_lcl I hc step k (n + 1) M2 (acc ++ [y]) (by omega) (by omega) h3
/-- [f for t in .. if tt] by what holds through it -/
theorem ev_lc {fi : SI} {t : Tg} {vs : List Nat} {tt : ST} {f : SE} (h : (fi σ M).ev X fun z M1 => z.all.length ≤ 16000000 ∧ ∃ I : Nat → Mem → List D → Prop, (∀ n M acc, I n M acc → z.chk M) ∧ I 0 M1 [] ∧
    (∀ n x M acc, z.all[n]? = some x → I n M acc → ∃ σ1, Tg.set t x (wipeD σ vs) = some σ1 ∧ (tt σ1 M).ev noX fun b M1 => if b = true then (f σ1 M1).ev noX fun y M2 => I (n + 1) M2 (acc ++ [y]) else I (n + 1) M1 acc) ∧ ∀ M ds, I z.all.length M ds → Q (.lst ds) M) : (lcS fi t vs tt f σ M).ev X Q := by
  unfold lcS
  rw [e_bind]
  refine h.imp fun z M1 ⟨hl, I, hc, h0, step, fin⟩ => ?_
  rw [if_pos (line_le hl), e_bind]
  have := ev_lcl (X := X) I hc step z.all.length 0 M1 [] (by omega) (by omega) h0
  rw [List.drop_zero] at this
  exact this.imp fun ds M2 h => fin M2 ds h
/-- [f for t in .. if tt], all pure -/
theorem ev_lcp {fi : SI} {t : Tg} {vs : List Nat} {tt : ST} {f : SE} (p : D → Bool) (g : D → D) (h : (fi σ M).ev X fun z M1 => z.all.length ≤ 16000000 ∧ z.chk M1 ∧
    (∀ x ∈ z.all, ∃ σ1, Tg.set t x (wipeD σ vs) = some σ1 ∧ (tt σ1 M1).ev noX fun b M2 => b = p x ∧ M2 = M1 ∧ (b = true → (f σ1 M1).ev noX fun y M3 => y = g x ∧ M3 = M1)) ∧ Q (.lst ((z.all.filter p).map g)) M1) : (lcS fi t vs tt f σ M).ev X Q := by
  refine ev_lc (h.imp fun z M1 ⟨hl, hc, hs, hq⟩ => ⟨hl, fun n M' acc => M' = M1 ∧ acc = ((z.all.take n).filter p).map g, fun n M' acc ⟨e, _⟩ => e ▸ hc, ⟨rfl, by simp⟩, fun n x M' acc hx ⟨e, ea⟩ => ?_, fun M' ds ⟨e, ea⟩ => by rw [e, ea, List.take_length]; exact hq⟩)
  subst e ea
  obtain ⟨σ1, e1, h1⟩ := hs x (List.mem_of_getElem? hx)
  refine ⟨σ1, e1, h1.imp fun b M2 ⟨eb, em, hb⟩ => ?_⟩
  subst em
  have ht : z.all.take (n + 1) = z.all.take n ++ [x] := by rw [List.take_succ, hx]; rfl
  cases b with
  | false =>
    refine ⟨rfl, ?_⟩
    rw [ht, List.filter_append]
    simp [← eb]
  | true =>
    refine RE.ev.imp (hb rfl) fun y M3 ⟨ey, e3⟩ => ⟨e3, ?_⟩
    rw [ht, List.filter_append]
    simp [← eb, ey]
/-- [f for t in ..], all pure -/
theorem ev_lcm {fi : SI} {t : Tg} {vs : List Nat} {f : SE} (g : D → D) (h : (fi σ M).ev X fun z M1 => z.all.length ≤ 16000000 ∧ z.chk M1 ∧
    (∀ x ∈ z.all, ∃ σ1, Tg.set t x (wipeD σ vs) = some σ1 ∧ (f σ1 M1).ev noX fun y M3 => y = g x ∧ M3 = M1) ∧ Q (.lst (z.all.map g)) M1) : (lcS fi t vs yesT f σ M).ev X Q :=
  ev_lcp (fun _ => true) g (h.imp fun z M1 ⟨hl, hc, hs, hq⟩ => ⟨hl, hc, fun x hx => let ⟨σ1, e, h1⟩ := hs x hx; ⟨σ1, e, ⟨rfl, rfl, fun _ => h1⟩⟩, by
    rw [List.filter_eq_self.mpr fun _ _ => rfl]; exact hq⟩)
/-- [f for t in .. if tt] over the codes of a list, all pure -/
theorem ev_lcE {α : Type} {l : List α} {e : α → D} {fi : SI} {z : ItD} {M1 : Mem} {t : Tg} {vs : List Nat} {tt : ST} {f : SE} (p : α → Bool) (g : α → D) (hf : fi σ M = .ok z M1) (hz : z.all = l.map e) (hc : z.chk M1) (hl : l.length ≤ 16000000)
    (step : ∀ a ∈ l, ∃ σ1, Tg.set t (e a) (wipeD σ vs) = some σ1 ∧ (tt σ1 M1).ev noX fun b M2 => b = p a ∧ M2 = M1 ∧ (b = true → (f σ1 M1).ev noX fun y M3 => y = g a ∧ M3 = M1)) (k : Q (.lst ((l.filter p).map g)) M1) : (lcS fi t vs tt f σ M).ev X Q := by
  refine ev_lc (RE.ev.of hf ⟨by rw [hz, List.length_map]; exact hl, fun n M' acc => M' = M1 ∧ acc = ((l.take n).filter p).map g, fun n M' acc ⟨e, _⟩ => e ▸ hc, ⟨rfl, by simp⟩, fun n x M' acc hx ⟨eM, ea⟩ => ?_, fun M' ds ⟨eM, ea⟩ => by rw [eM, ea, hz, List.length_map, List.take_length]; exact k⟩)
  subst eM ea
  rw [hz, List.getElem?_map] at hx
  obtain ⟨a, ha, rfl⟩ := Option.map_eq_some_iff.mp hx
  obtain ⟨σ1, e1, h1⟩ := step a (List.mem_of_getElem? ha)
  refine ⟨σ1, e1, h1.imp fun b M2 ⟨eb, em, hb⟩ => ?_⟩
  subst em
  have ht : l.take (n + 1) = l.take n ++ [a] := by rw [List.take_succ, ha]; rfl
  cases b with
  | false =>
    refine ⟨rfl, ?_⟩
    rw [ht, List.filter_append]
    simp [← eb]
  | true =>
    refine RE.ev.imp (hb rfl) fun y M3 ⟨ey, e3⟩ => ⟨e3, ?_⟩
    rw [ht, List.filter_append]
    simp [← eb, ey]
/-- [f for t in ..] over the codes of a list, all pure -/
theorem ev_lcM {α : Type} {l : List α} {e : α → D} {fi : SI} {z : ItD} {M1 : Mem} {t : Tg} {vs : List Nat} {f : SE} (g : α → D) (hf : fi σ M = .ok z M1) (hz : z.all = l.map e) (hc : z.chk M1) (hl : l.length ≤ 16000000)
    (step : ∀ a ∈ l, ∃ σ1, Tg.set t (e a) (wipeD σ vs) = some σ1 ∧ (f σ1 M1).ev noX fun y M3 => y = g a ∧ M3 = M1) (k : Q (.lst (l.map g)) M1) : (lcS fi t vs yesT f σ M).ev X Q :=
  ev_lcE (fun _ => true) g hf hz hc hl (fun a ha => let ⟨σ1, e1, h1⟩ := step a ha; ⟨σ1, e1, ⟨rfl, rfl, fun _ => h1⟩⟩) (by rw [List.filter_eq_self.mpr fun _ _ => rfl]; exact k)
theorem ev_lcEL {α : Type} {l : List α} {e : α → D} {fl : SE} {M1 : Mem} {t : Tg} {vs : List Nat} {tt : ST} {f : SE} (p : α → Bool) (g : α → D) (hf : fl σ M = .ok (.lst (l.map e)) M1) (hl : l.length ≤ 16000000)
    (step : ∀ a ∈ l, ∃ σ1, Tg.set t (e a) (wipeD σ vs) = some σ1 ∧ (tt σ1 M1).ev noX fun b M2 => b = p a ∧ M2 = M1 ∧ (b = true → (f σ1 M1).ev noX fun y M3 => y = g a ∧ M3 = M1)) (k : Q (.lst ((l.filter p).map g)) M1) : (lcS (iseqS fl) t vs tt f σ M).ev X Q :=
  ev_lcE (z := ⟨l.map e, fun M' => seqOf M' (.lst (l.map e)) = some (l.map e)⟩) p g (by rw [iseqS_ap, hf]; rfl) rfl rfl hl step k
theorem ev_lcML {α : Type} {l : List α} {e : α → D} {fl : SE} {M1 : Mem} {t : Tg} {vs : List Nat} {f : SE} (g : α → D) (hf : fl σ M = .ok (.lst (l.map e)) M1) (hl : l.length ≤ 16000000)
    (step : ∀ a ∈ l, ∃ σ1, Tg.set t (e a) (wipeD σ vs) = some σ1 ∧ (f σ1 M1).ev noX fun y M3 => y = g a ∧ M3 = M1) (k : Q (.lst (l.map g)) M1) : (lcS (iseqS fl) t vs yesT f σ M).ev X Q :=
  ev_lcM (z := ⟨l.map e, fun M' => seqOf M' (.lst (l.map e)) = some (l.map e)⟩) g (by rw [iseqS_ap, hf]; rfl) rfl rfl hl step k
/-! ### {.. for ..}, keys of tuples -/
theorem ev_dcl {z : ItD} {t : Tg} {tt : ST} {fk fv : SE} (I : Nat → Mem → MO → Prop) (hc : ∀ n M acc, I n M acc → z.chk M)
    (step : ∀ n x M acc, z.all[n]? = some x → I n M acc → ∃ σ1, Tg.set t x σ = some σ1 ∧ (tt σ1 M).ev noX fun b M1 => if b = true then (fk σ1 M1).ev noX fun y M2 => (fv σ1 M2).ev noX fun d M3 => ∃ acc', putMO acc y d = some acc' ∧ I (n + 1) M3 acc' else I (n + 1) M1 acc) :
    ∀ (k n : Nat) (M : Mem) (acc : MO), z.all.length - n = k → n ≤ z.all.length → I n M acc → (dcLoop z t tt fk fv (z.all.drop n) σ M acc).ev X fun m M2 => I z.all.length M2 m
  | 0, n, M, acc, hk, hn, h => by
    obtain rfl : n = z.all.length := by omega
    rw [List.drop_length]
    unfold dcLoop
    rw [if_pos (hc _ _ _ h)]
    exact h
  | k + 1, n, M, acc, hk, hn, h => by
    have hlt : n < z.all.length := by omega
    rw [List.drop_eq_getElem_cons hlt]
    unfold dcLoop
    rw [if_pos (hc _ _ _ h)]
    obtain ⟨σ1, e1, h1⟩ := step n z.all[n] M acc (List.getElem?_eq_getElem hlt) h
    rw [e1]
    dsimp only
    obtain ⟨b, M1, et, h2⟩ := h1.get
    rw [et]
    cases b with
    | false => exact ev_dcl I hc step k (n + 1) M1 acc (by omega) (by omega) h2
    | true =>
      dsimp only
      obtain ⟨y, M2, ey, h3⟩ := RE.ev.get (r := fk σ1 M1) h2
      rw [ey]
      dsimp only
      obtain ⟨d, M3, ed, acc', ea, h4⟩ := RE.ev.get (r := fv σ1 M2) h3
      rw [ed]
      dsimp only
      rw [ea]
      exact ev_dcl I hc step k (n + 1) M3 acc' (by omega) (by omega) h4
theorem ev_dc {m0 : MO} {fi : SI} {t : Tg} {vs : List Nat} {tt : ST} {fk fv : SE} (h : (fi σ M).ev X fun z M1 => ∃ I : Nat → Mem → MO → Prop, (∀ n M acc, I n M acc → z.chk M) ∧ I 0 M1 m0 ∧
    (∀ n x M acc, z.all[n]? = some x → I n M acc → ∃ σ1, Tg.set t x (wipeD σ vs) = some σ1 ∧ (tt σ1 M).ev noX fun b M1 => if b = true then (fk σ1 M1).ev noX fun y M2 => (fv σ1 M2).ev noX fun d M3 => ∃ acc', putMO acc y d = some acc' ∧ I (n + 1) M3 acc' else I (n + 1) M1 acc) ∧ ∀ M m, I z.all.length M m → Q (.ref M.length) (M ++ [m])) : (dcS m0 fi t vs tt fk fv σ M).ev X Q := by
  unfold dcS
  rw [e_bind]
  refine h.imp fun z M1 ⟨I, hc, h0, step, fin⟩ => ?_
  rw [e_bind]
  have := ev_dcl (X := X) I hc step z.all.length 0 M1 m0 (by omega) (by omega) h0
  rw [List.drop_zero] at this
  exact this.imp fun m M2 h => fin M2 m h
/-! ### the lock -/
theorem ev_lockE {i j : Nat} {f : SE} {M1 : Mem} (h1 : σ[i]? = some (some (.ref j))) (h2 : lkM M j = some M1) (h : (f σ M1).ev noX fun d M2 => ∃ M3, unM M2 j = some M3 ∧ Q d M3) : (lockE i f σ M).ev X Q := by
  obtain ⟨d, M2, e, M3, e3, q⟩ := h.get
  unfold lockE
  rw [h1]
  dsimp only
  rw [h2]
  dsimp only
  rw [e]
  dsimp only
  rw [e3]
  exact q
theorem ev_lockS {i j : Nat} {s : SS} {M1 : Mem} (h1 : σ[i]? = some (some (.ref j))) (h2 : lkM M j = some M1) (h : (s σ M1).ev ⟨fun σ2 M2 => ∃ M3, unM M2 j = some M3 ∧ P.nx σ2 M3, fun d M2 => ∃ M3, unM M2 j = some M3 ∧ P.rt d M3, fun σ2 M2 => ∃ M3, unM M2 j = some M3 ∧ P.bk σ2 M3, fun σ2 M2 => ∃ M3, unM M2 j = some M3 ∧ P.ct σ2 M3, fun _ _ _ => False⟩) : (lockS i s σ M).ev P := by
  unfold lockS
  rw [h1]
  dsimp only
  rw [h2]
  dsimp only
  cases e : s σ M1 with
  | nx σ2 M2 =>
    rw [e] at h
    obtain ⟨M3, e3, q⟩ := h
    dsimp only
    rw [e3]
    exact q
  | rt d M2 =>
    rw [e] at h
    obtain ⟨M3, e3, q⟩ := h
    dsimp only
    rw [e3]
    exact q
  | bk σ2 M2 =>
    rw [e] at h
    obtain ⟨M3, e3, q⟩ := h
    dsimp only
    rw [e3]
    exact q
  | ct σ2 M2 =>
    rw [e] at h
    obtain ⟨M3, e3, q⟩ := h
    dsimp only
    rw [e3]
    exact q
  | ex c σ2 M2 => rw [e] at h; exact h.elim
  | bad => rw [e] at h; exact h.elim
end
/-! ### defs -/
/-- what a def's end does with what it made -/
def TR (M : Mem) (X : XP) (Q : D → Mem → Prop) (d : D) (M' : Mem) : Prop := (truncF M (.ok d M')).ev X Q
theorem ev_fn {n m : Nat} {b : SS} {ds : List D} {M : Mem} {X : XP} {Q : D → Mem → Prop} (hl : ds.length = m)
    (h : (b (ds.map some ++ List.replicate (n - ds.length) none) M).ev ⟨fun _ M' => TR M X Q .non M', TR M X Q, fun _ _ => False, fun _ _ => False, fun c _ M' => X c M'⟩) : (lenF m (fnS n b) ds M).ev X Q := by
  rw [lenF_eq hl]
  unfold fnS
  cases e : b (ds.map some ++ List.replicate (n - ds.length) none) M <;> rw [e] at h <;> first | exact h | exact h.elim
theorem TR.pure {M : Mem} {X : XP} {Q : D → Mem → Prop} {d : D} (hb : d.lo M.length = true) (q : Q d M) : TR M X Q d M := by
  unfold TR
  rw [truncF_id hb]
  exact q
theorem TR.back {M : Mem} {X : XP} {Q : D → Mem → Prop} {d : D} {T : Mem} (hb : d.lo M.length = true) (q : Q d M) : TR M X Q d (M ++ T) := by
  unfold TR
  rw [truncF_same hb (by simp)]
  exact q
theorem TR.to {M M1 : Mem} {X : XP} {Q : D → Mem → Prop} {d : D} {T : Mem} (hb : d.lo M.length = true) (k : OkT M M1) (q : Q d M1) : TR M X Q d (M1 ++ T) := by
  unfold TR
  rw [truncF_to (M1 := M1) hb (by rw [← k.1]; simp) k]
  exact q
theorem TR.to0 {M M1 : Mem} {X : XP} {Q : D → Mem → Prop} {d : D} (hb : d.lo M.length = true) (k : OkT M M1) (q : Q d M1) : TR M X Q d M1 := by
  have := TR.to (T := []) (X := X) hb k q
  rwa [List.append_nil] at this
theorem TR.made {M M' : Mem} {X : XP} {Q : D → Mem → Prop} {d : D} (hb : d.lo M.length = false) (q : Q d M') : TR M X Q d M' := by
  unfold TR
  rw [truncF_ok, if_neg (by simp [hb])]
  exact q
theorem TR.both {M M' : Mem} {X : XP} {Q : D → Mem → Prop} {d : D} (q : Q d M') (q2 : d.lo M.length = true → OkT M (M'.take M.length) → Q d (M'.take M.length)) : TR M X Q d M' := by
  unfold TR
  rw [truncF_ok]
  split
  · rename_i h; exact q2 h.1 h.2
  · exact q
end Lf

/-! Pm: the least reading of living rules, what shows a place believed or not: plain. -/
namespace Pm
structure Rl (P : Type) where
  n : Nat
  q : P
  c : Nat
  ps : List P
section
variable {P : Type} [DecidableEq P]
abbrev Hs (P : Type) := List (P × Nat)
def getA {β : Type} (hs : List (P × β)) (p : P) : Option β := (hs.find? fun kv => decide (kv.1 = p)).map (·.2)
def putA {β : Type} (hs : List (P × β)) (p : P) (h : β) : List (P × β) := if (hs.any fun kv => decide (kv.1 = p)) = true then hs.map (fun kv => if kv.1 = p then (kv.1, h) else kv) else hs ++ [(p, h)]
abbrev getH (hs : Hs P) (p : P) : Option Nat := getA hs p
theorem getA_nil {β : Type} (p : P) : getA ([] : List (P × β)) p = none := rfl
theorem getA_cons {β : Type} (kv : P × β) (hs : List (P × β)) (p : P) : getA (kv :: hs) p = if kv.1 = p then some kv.2 else getA hs p := by
  unfold getA
  by_cases h : kv.1 = p <;> simp [h]
theorem getA_app {β : Type} : ∀ (a b : List (P × β)) (p : P), getA (a ++ b) p = (getA a p).or (getA b p)
  | [], b, p => by simp [getA]
  | kv :: a, b, p => by
    rw [List.cons_append, getA_cons, getA_cons, getA_app a b p]
    split <;> simp
theorem getA_none {β : Type} {hs : List (P × β)} {p : P} : getA hs p = none ↔ p ∉ hs.map (·.1) := by
  induction hs with
  | nil => simp [getA]
  | cons kv hs ih =>
    rw [getA_cons]
    by_cases h : kv.1 = p
    · simp [h]
    · rw [if_neg h, ih, List.map_cons, List.mem_cons]
      constructor
      · rintro z (e | e)
        · exact h e.symm
        · exact z e
      · exact fun z e => z (.inr e)
theorem getA_mem {β : Type} {hs : List (P × β)} {p : P} {h : β} (e : getA hs p = some h) : (p, h) ∈ hs := by
  unfold getA at e
  rw [Option.map_eq_some_iff] at e
  obtain ⟨kv, e1, rfl⟩ := e
  have h1 := List.mem_of_find?_eq_some e1
  have h2 := List.find?_some e1
  simp only [decide_eq_true_eq] at h2
  subst h2
  exact h1
theorem getA_of_mem {β : Type} : ∀ {hs : List (P × β)} {p : P} {h : β}, (hs.map (·.1)).Nodup → (p, h) ∈ hs → getA hs p = some h
  | [], _, _, _, m => by cases m
  | kv :: hs, p, h, nd, m => by
    rw [getA_cons]
    simp only [List.map_cons, List.nodup_cons] at nd
    rcases List.mem_cons.mp m with e | m
    · subst e
      simp
    · rw [if_neg (fun e : kv.1 = p => nd.1 (List.mem_map.mpr ⟨_, m, e.symm⟩))]
      exact getA_of_mem nd.2 m
theorem getA_some {β : Type} {hs : List (P × β)} {p : P} : (∃ h, getA hs p = some h) ↔ p ∈ hs.map (·.1) := by
  constructor
  · rintro ⟨h, e⟩
    exact List.mem_map.mpr ⟨_, getA_mem e, rfl⟩
  · intro h
    cases e : getA hs p with
    | none => exact absurd h (getA_none.mp e)
    | some k => exact ⟨k, rfl⟩
theorem any_key {β : Type} {hs : List (P × β)} {p : P} : (hs.any fun kv => decide (kv.1 = p)) = decide (p ∈ hs.map (·.1)) := by
  rw [Bool.eq_iff_iff]
  simp only [List.any_eq_true, decide_eq_true_eq, List.mem_map]
theorem putA_keys {β : Type} {hs : List (P × β)} {p : P} {h : β} : (putA hs p h).map (·.1) = if p ∈ hs.map (·.1) then hs.map (·.1) else hs.map (·.1) ++ [p] := by
  unfold putA
  rw [any_key]
  by_cases e : p ∈ hs.map (·.1)
  · rw [if_pos (decide_eq_true e), if_pos e, List.map_map]
    congr 1
    funext kv
    simp only [Function.comp]
    split <;> rfl
  · rw [if_neg (by simpa using e), if_neg e]
    simp
theorem getA_put {β : Type} {hs : List (P × β)} {p x : P} {h : β} : getA (putA hs p h) x = if p = x then some h else getA hs x := by
  unfold putA
  rw [any_key]
  by_cases e : p ∈ hs.map (·.1)
  · rw [if_pos (decide_eq_true e)]
    induction hs with
    | nil => simp at e
    | cons kv hs ih =>
      rw [List.map_cons, getA_cons, getA_cons]
      by_cases e1 : kv.1 = p
      · rw [if_pos e1]
        by_cases e2 : p = x
        · simp [e1, e2]
        · have e3 : ¬ kv.1 = x := fun z => e2 (e1.symm.trans z)
          rw [if_neg e3, if_neg e2]
          by_cases e4 : p ∈ hs.map (·.1)
          · rw [ih e4, if_neg e2, if_neg e3]
          · rw [if_neg e3]
            congr 1
            have : ∀ l : List (P × β), p ∉ l.map (·.1) → l.map (fun kv => if kv.1 = p then (kv.1, h) else kv) = l := fun l hl => by
              induction l with
              | nil => rfl
              | cons a l ih =>
                simp only [List.map_cons, List.mem_cons, not_or] at hl
                rw [List.map_cons, if_neg (fun z => hl.1 z.symm), ih hl.2]
            exact this hs e4
      · rw [if_neg e1]
        have e4 : p ∈ hs.map (·.1) := by
          simp only [List.map_cons, List.mem_cons] at e
          rcases e with e | e
          · exact absurd e.symm e1
          · exact e
        rw [ih e4]
        by_cases e2 : p = x
        · have z : ¬ kv.1 = x := fun z => e1 (z.trans e2.symm)
          simp only [if_neg z, if_pos e2]
        · simp only [if_neg e2]
  · rw [if_neg (by simpa using e), getA_app, getA_cons, getA_nil]
    by_cases e2 : p = x
    · subst e2
      rw [getA_none.mpr e]
      simp
    · simp [e2]
theorem putA_nodup {β : Type} {hs : List (P × β)} {p : P} {h : β} (nd : (hs.map (·.1)).Nodup) : ((putA hs p h).map (·.1)).Nodup := by
  rw [putA_keys]
  split
  · exact nd
  · rename_i e
    rw [List.nodup_append]
    refine ⟨nd, by simp, fun a ha b hb => ?_⟩
    simp at hb
    subst hb
    exact fun z => e (z ▸ ha)
/-! ### heights -/
def maxN : List Nat → Nat
  | [] => 0
  | x :: xs => max x (maxN xs)
theorem maxN_ge : ∀ {l : List Nat} {x : Nat}, x ∈ l → x ≤ maxN l
  | y :: l, x, h => by
    rcases List.mem_cons.mp h with rfl | h
    · simp [maxN]; omega
    · have := maxN_ge h; simp [maxN]; omega
theorem maxN_le : ∀ {l : List Nat} {b : Nat}, (∀ x ∈ l, x ≤ b) → maxN l ≤ b
  | [], b, _ => by simp [maxN]
  | y :: l, b, h => by
    have h1 := h y (by simp)
    have h2 := maxN_le (l := l) (b := b) fun x hx => h x (by simp [hx])
    simp [maxN]; omega
def hby (hs : Hs P) (r : Rl P) : Option Nat := if none ∈ r.ps.map (getH hs) then none else some (r.c + maxN ((r.ps.map (getH hs)).filterMap id))
theorem hby_some {hs : Hs P} {r : Rl P} {k : Nat} : hby hs r = some k ↔ (∀ p ∈ r.ps, ∃ h, getH hs p = some h) ∧ k = r.c + maxN (r.ps.filterMap (getH hs)) := by
  unfold hby
  have e : (r.ps.map (getH hs)).filterMap id = r.ps.filterMap (getH hs) := by
    rw [List.filterMap_map]; rfl
  rw [e]
  by_cases h : none ∈ r.ps.map (getH hs)
  · rw [if_pos h]
    obtain ⟨p, hp, hn⟩ := List.mem_map.mp h
    constructor
    · intro z; cases z
    · rintro ⟨z, _⟩
      obtain ⟨k, hk⟩ := z p hp
      rw [hn] at hk; cases hk
  · rw [if_neg h]
    constructor
    · intro z
      cases z
      refine ⟨fun p hp => ?_, rfl⟩
      cases e : getH hs p with
      | none => exact absurd (List.mem_map.mpr ⟨p, hp, e⟩) h
      | some k => exact ⟨k, rfl⟩
    · rintro ⟨_, rfl⟩; rfl
theorem hby_none {hs : Hs P} {r : Rl P} : hby hs r = none ↔ ∃ p ∈ r.ps, getH hs p = none := by
  unfold hby
  by_cases h : none ∈ r.ps.map (getH hs)
  · rw [if_pos h]
    obtain ⟨p, hp, hn⟩ := List.mem_map.mp h
    simp only [true_iff]
    exact ⟨p, hp, hn⟩
  · rw [if_neg h]
    constructor
    · intro z; cases z
    · rintro ⟨p, hp, e⟩
      exact absurd (List.mem_map.mpr ⟨p, hp, e⟩) h
/-- more known, or lower -/
def LeH (hs hs' : Hs P) : Prop := ∀ p h, getH hs p = some h → ∃ h', h' ≤ h ∧ getH hs' p = some h'
theorem LeH.refl (hs : Hs P) : LeH hs hs := fun p h e => ⟨h, Nat.le_refl _, e⟩
theorem LeH.trans {a b c : Hs P} (h : LeH a b) (k : LeH b c) : LeH a c := fun p x e => by
  obtain ⟨y, h1, e1⟩ := h p x e
  obtain ⟨z, h2, e2⟩ := k p y e1
  exact ⟨z, by omega, e2⟩
theorem hby_mono {hs hs' : Hs P} (l : LeH hs hs') {r : Rl P} {k : Nat} (e : hby hs r = some k) : ∃ k', k' ≤ k ∧ hby hs' r = some k' := by
  obtain ⟨h1, rfl⟩ := hby_some.mp e
  refine ⟨r.c + maxN (r.ps.filterMap (getH hs')), ?_, hby_some.mpr ⟨fun p hp => ?_, rfl⟩⟩
  · have : maxN (r.ps.filterMap (getH hs')) ≤ maxN (r.ps.filterMap (getH hs)) := maxN_le fun x hx => by
      obtain ⟨p, hp, ex⟩ := List.mem_filterMap.mp hx
      obtain ⟨h, eh⟩ := h1 p hp
      obtain ⟨h', hle, eh'⟩ := l p h eh
      rw [ex] at eh'
      cases eh'
      exact Nat.le_trans hle (maxN_ge (List.mem_filterMap.mpr ⟨p, hp, eh⟩))
    omega
  · obtain ⟨h, eh⟩ := h1 p hp
    obtain ⟨h', _, eh'⟩ := l p h eh
    exact ⟨h', eh'⟩
theorem hby_ge {hs : Hs P} {r : Rl P} {k : Nat} (e : hby hs r = some k) : r.c ≤ k ∧ ∀ p ∈ r.ps, ∃ h, getH hs p = some h ∧ r.c + h ≤ k := by
  obtain ⟨h1, rfl⟩ := hby_some.mp e
  refine ⟨by omega, fun p hp => ?_⟩
  obtain ⟨h, eh⟩ := h1 p hp
  have := maxN_ge (List.mem_filterMap.mpr ⟨p, hp, eh⟩)
  exact ⟨h, eh, by omega⟩
/-- whether the rule's height lessens its place's -/
def less (hs : Hs P) (r : Rl P) : Bool := match hby hs r with
  | none => false
  | some k => match getH hs r.q with
    | none => true
    | some h => decide (k < h)
def stepH (s : Hs P × Bool) (r : Rl P) : Hs P × Bool := if less s.1 r = true then (putA s.1 r.q ((hby s.1 r).getD 0), true) else s
def sweep (R : List (Rl P)) (s : Hs P × Bool) : Hs P × Bool := R.foldl stepH s
theorem less_spec {hs : Hs P} {r : Rl P} (h : less hs r = true) : ∃ k, hby hs r = some k ∧ ∀ h', getH hs r.q = some h' → k < h' := by
  unfold less at h
  split at h
  · cases h
  · rename_i k e
    refine ⟨k, e, fun h' e' => ?_⟩
    rw [e'] at h
    simpa using h
theorem less_not {hs : Hs P} {r : Rl P} (h : less hs r = false) {k : Nat} (e : hby hs r = some k) : ∃ h', h' ≤ k ∧ getH hs r.q = some h' := by
  unfold less at h
  rw [e] at h
  dsimp only at h
  split at h
  · cases h
  · rename_i h' e'
    simp at h
    exact ⟨h', h, e'⟩
theorem put_le {hs : Hs P} {r : Rl P} {k : Nat} (h : ∀ h', getH hs r.q = some h' → k < h') : LeH hs (putA hs r.q k) := fun p x e => by
  show ∃ h', h' ≤ x ∧ getA (putA hs r.q k) p = some h'
  rw [getA_put]
  by_cases z : r.q = p
  · subst z
    exact ⟨k, Nat.le_of_lt (h x e), by simp⟩
  · rw [if_neg z]
    exact ⟨x, Nat.le_refl _, e⟩
structure Inv (V : List P) (R : List (Rl P)) (hs : Hs P) : Prop where
  nd : (hs.map (·.1)).Nodup
  v0 : ∀ p ∈ V, getH hs p = some 0
  held : ∀ p h, getH hs p = some h → (p ∈ V ∧ h = 0) ∨ ∃ r ∈ R, r.q = p ∧ ∃ k, k ≤ h ∧ hby hs r = some k
def Cost (R : List (Rl P)) : Prop := ∀ r ∈ R, 1 ≤ r.c
theorem Inv.step {V : List P} {R : List (Rl P)} {hs : Hs P} (I : Inv V R hs) (hc : Cost R) {r : Rl P} (hr : r ∈ R) (h : less hs r = true) : Inv V R (putA hs r.q ((hby hs r).getD 0)) := by
  obtain ⟨k, ek, hk⟩ := less_spec h
  rw [ek, Option.getD_some]
  have l := put_le (r := r) hk
  have k1 : 1 ≤ k := Nat.le_trans (hc r hr) (hby_ge ek).1
  refine ⟨putA_nodup I.nd, fun p hp => ?_, fun p x e => ?_⟩
  · show getA _ _ = _
    rw [getA_put]
    have hne : ¬ r.q = p := fun z => by
      subst z
      have := hk 0 (I.v0 _ hp)
      omega
    rw [if_neg hne]
    exact I.v0 p hp
  · have e' : getA (putA hs r.q k) p = some x := e
    rw [getA_put] at e'
    by_cases z : r.q = p
    · rw [if_pos z] at e'
      cases e'
      obtain ⟨k', h1, e1⟩ := hby_mono l ek
      exact .inr ⟨r, hr, z, k', h1, e1⟩
    · rw [if_neg z] at e'
      rcases I.held p x e' with h | ⟨r', hr', hq, k', hk', ek'⟩
      · exact .inl h
      · obtain ⟨k2, h2, e2⟩ := hby_mono l ek'
        exact .inr ⟨r', hr', hq, k2, by omega, e2⟩
/-! the sweeps end -/
def missing (R : List (Rl P)) (hs : Hs P) : Nat := (R.filter fun r => decide (r.q ∉ hs.map (·.1))).length
def total (hs : Hs P) : Nat := (hs.map (·.2)).sum
def Lt2 (a b : Nat × Nat) : Prop := a.1 < b.1 ∨ (a.1 = b.1 ∧ a.2 < b.2)
theorem lt2_wf : WellFounded Lt2 := by
  refine Subrelation.wf (r := (Prod.lex Nat.lt_wfRel Nat.lt_wfRel).rel) (fun {a b} h => ?_) (Prod.lex Nat.lt_wfRel Nat.lt_wfRel).wf
  obtain ⟨a1, a2⟩ := a
  obtain ⟨b1, b2⟩ := b
  rcases h with h | ⟨h1, h2⟩
  · exact Prod.Lex.left _ _ h
  · have e : a1 = b1 := h1
    subst e
    exact Prod.Lex.right _ h2
theorem Lt2.trans {a b c : Nat × Nat} (h : Lt2 a b) (k : Lt2 b c) : Lt2 a c := by
  unfold Lt2 at *
  omega
def meas (R : List (Rl P)) (hs : Hs P) : Nat × Nat := (missing R hs, total hs)
theorem filter_lt {α : Type} {p q : α → Bool} : ∀ {l : List α}, (∀ x ∈ l, q x = true → p x = true) → (∃ x ∈ l, p x = true ∧ q x = false) → (l.filter q).length < (l.filter p).length
  | [], _, ⟨x, hx, _⟩ => by cases hx
  | y :: l, h, ⟨x, hx, hp, hq⟩ => by
    have hle : ∀ l : List α, (∀ x ∈ l, q x = true → p x = true) → (l.filter q).length ≤ (l.filter p).length := fun l h => by
      induction l with
      | nil => simp
      | cons z l ih =>
        have h1 := ih fun x hx => h x (by simp [hx])
        have h2 := h z (by simp)
        simp only [List.filter_cons]
        split <;> split <;> simp <;> first | omega | (rename_i h3 h4; exact absurd (h2 h3) h4)
    rcases List.mem_cons.mp hx with rfl | hx
    · have := hle l fun x hx => h x (by simp [hx])
      simp [List.filter_cons, hp, hq]
      omega
    · have h1 := filter_lt (fun x hx => h x (by simp [hx])) ⟨x, hx, hp, hq⟩
      have h2 := h y (by simp)
      simp only [List.filter_cons]
      split <;> split <;> simp <;> first | omega | (rename_i h3 h4; exact absurd (h2 h3) h4)
theorem total_put : ∀ {hs : Hs P} {p : P} {k h : Nat}, (hs.map (·.1)).Nodup → getH hs p = some h → k < h → total (putA hs p k) < total hs
  | [], p, k, h, _, e, _ => by simp [getA] at e
  | kv :: hs, p, k, h, nd, e, hl => by
    have e' : getA (kv :: hs) p = some h := e
    rw [getA_cons] at e'
    simp only [List.map_cons, List.nodup_cons] at nd
    have ha : p ∈ (kv :: hs).map (·.1) := getA_some.mp ⟨h, e⟩
    have same : ∀ l : Hs P, p ∉ l.map (·.1) → l.map (fun kv => if kv.1 = p then (kv.1, k) else kv) = l := fun l hl => by
      induction l with
      | nil => rfl
      | cons a l ih =>
        simp only [List.map_cons, List.mem_cons, not_or] at hl
        rw [List.map_cons, if_neg (fun z => hl.1 z.symm), ih hl.2]
    unfold putA
    rw [any_key, if_pos (decide_eq_true ha)]
    by_cases z : kv.1 = p
    · rw [if_pos z] at e'
      cases e'
      rw [List.map_cons, if_pos z, same hs (z ▸ nd.1)]
      simp [total]
      omega
    · rw [if_neg z] at e'
      have h2 := total_put nd.2 e' hl
      have hb : p ∈ hs.map (·.1) := getA_some.mp ⟨h, e'⟩
      unfold putA at h2
      rw [any_key, if_pos (decide_eq_true hb)] at h2
      rw [List.map_cons, if_neg z]
      simp [total] at h2 ⊢
      omega
theorem meas_step {V : List P} {R : List (Rl P)} {hs : Hs P} (I : Inv V R hs) {r : Rl P} (hr : r ∈ R) (h : less hs r = true) : Lt2 (meas R (putA hs r.q ((hby hs r).getD 0))) (meas R hs) := by
  obtain ⟨k, ek, hk⟩ := less_spec h
  rw [ek, Option.getD_some]
  cases e : getH hs r.q with
  | none =>
    refine .inl ?_
    refine filter_lt (fun x _ hx => ?_) ⟨r, hr, decide_eq_true (getA_none.mp e), ?_⟩
    · simp only [decide_eq_true_eq] at hx ⊢
      intro z
      apply hx
      rw [putA_keys]
      split
      · exact z
      · exact List.mem_append_left _ z
    · rw [putA_keys, if_neg (getA_none.mp e)]
      simp
  | some x =>
    refine .inr ⟨?_, total_put I.nd e (hk x e)⟩
    show missing _ _ = missing _ _
    unfold missing
    rw [putA_keys, if_pos (getA_some.mp ⟨x, e⟩)]
theorem sweep_go {V : List P} {R : List (Rl P)} (hc : Cost R) : ∀ (S : List (Rl P)) (hs : Hs P) (b : Bool), (∀ r ∈ S, r ∈ R) → Inv V R hs → ∃ hs' b', sweep S (hs, b) = (hs', b') ∧ Inv V R hs' ∧ ((b' = b ∧ hs' = hs ∧ ∀ r ∈ S, less hs r = false) ∨ (b' = true ∧ Lt2 (meas R hs') (meas R hs)))
  | [], hs, b, _, I => ⟨hs, b, rfl, I, .inl ⟨rfl, rfl, fun r hr => by cases hr⟩⟩
  | r :: S, hs, b, h, I => by
    unfold sweep
    rw [List.foldl_cons]
    by_cases hl : less hs r = true
    · have I2 := I.step hc (h r (by simp)) hl
      have m2 := meas_step I (h r (by simp)) hl
      obtain ⟨hs', b', e, I3, h3⟩ := sweep_go hc S (putA hs r.q ((hby hs r).getD 0)) true (fun x hx => h x (by simp [hx])) I2
      have e1 : stepH (hs, b) r = (putA hs r.q ((hby hs r).getD 0), true) := by simp [stepH, hl]
      rw [e1]
      refine ⟨hs', b', e, I3, .inr ?_⟩
      rcases h3 with ⟨rfl, rfl, _⟩ | ⟨rfl, h4⟩
      · exact ⟨rfl, m2⟩
      · exact ⟨rfl, h4.trans m2⟩
    · have e1 : stepH (hs, b) r = (hs, b) := by simp [stepH, hl]
      rw [e1]
      obtain ⟨hs', b', e, I3, h3⟩ := sweep_go hc S hs b (fun x hx => h x (by simp [hx])) I
      refine ⟨hs', b', e, I3, ?_⟩
      rcases h3 with ⟨rfl, rfl, h4⟩ | h4
      · refine .inl ⟨rfl, rfl, fun x hx => ?_⟩
        rcases List.mem_cons.mp hx with rfl | hx
        · simpa using hl
        · exact h4 x hx
      · exact .inr h4
/-- n sweeps lead from one to the other -/
inductive Runs (R : List (Rl P)) : Nat → Hs P → Hs P → Prop
  | stop {hs hs' : Hs P} : sweep R (hs, false) = (hs', false) → Runs R 0 hs hs'
  | more {n : Nat} {hs hs1 hs2 : Hs P} : sweep R (hs, false) = (hs1, true) → Runs R n hs1 hs2 → Runs R (n + 1) hs hs2
structure Fin (V : List P) (R : List (Rl P)) (hs : Hs P) : Prop extends Inv V R hs where
  shut : ∀ r ∈ R, ∀ k, hby hs r = some k → ∃ h, h ≤ k ∧ getH hs r.q = some h
theorem runs_ex {V : List P} {R : List (Rl P)} (hc : Cost R) {hs : Hs P} (I : Inv V R hs) : ∃ n fin, Runs R n hs fin ∧ Fin V R fin := by
  generalize hm : meas R hs = m
  induction m using lt2_wf.induction generalizing hs with
  | _ m ih =>
    obtain ⟨hs', b', e, I2, h⟩ := sweep_go hc R hs false (fun _ h => h) I
    rcases h with ⟨rfl, rfl, h⟩ | ⟨rfl, h⟩
    · exact ⟨0, hs', .stop e, I2, fun r hr k ek => less_not (h r hr) ek⟩
    · obtain ⟨n, fin, h1, h2⟩ := ih _ (hm ▸ h) I2 rfl
      exact ⟨n + 1, fin, .more e h1, h2⟩
def start (V : List P) : Hs P := V.map fun p => (p, 0)
theorem start_get {V : List P} {p : P} : getH (start V) p = if p ∈ V then some 0 else none := by
  induction V with
  | nil => simp [start, getA]
  | cons x V ih =>
    have ih' : getA (start V) p = _ := ih
    show getA ((x, 0) :: start V) p = _
    rw [getA_cons, ih']
    by_cases h : x = p
    · simp [h]
    · rw [if_neg h]
      by_cases z : p ∈ V
      · rw [if_pos z, if_pos (List.mem_cons_of_mem _ z)]
      · rw [if_neg z, if_neg]
        intro y
        rcases List.mem_cons.mp y with y | y
        · exact h y.symm
        · exact z y
theorem start_inv {V : List P} {R : List (Rl P)} (h : V.Nodup) : Inv V R (start V) := by
  refine ⟨?_, fun p hp => by rw [start_get, if_pos hp], fun p k e => ?_⟩
  · have : (start V).map (·.1) = V := by
      unfold start
      rw [List.map_map]
      have e : ((fun x : P × Nat => x.1) ∘ fun p : P => (p, 0)) = id := rfl
      rw [e, List.map_id]
    rw [this]; exact h
  · rw [start_get] at e
    split at e
    · rename_i hp
      cases e
      exact .inl ⟨hp, rfl⟩
    · cases e
/-- the least heights -/
theorem least_ex {V : List P} {R : List (Rl P)} (hc : Cost R) (h : V.Nodup) : ∃ n fin, Runs R n (start V) fin ∧ Fin V R fin := runs_ex hc (start_inv h)
theorem Fin.exact {V : List P} {R : List (Rl P)} {hs : Hs P} (F : Fin V R hs) {p : P} {h : Nat} (e : getH hs p = some h) (hp : p ∉ V) : ∃ r ∈ R, r.q = p ∧ hby hs r = some h := by
  rcases F.held p h e with ⟨z, _⟩ | ⟨r, hr, rfl, k, hk, ek⟩
  · exact absurd z hp
  · obtain ⟨h', h1, e1⟩ := F.shut r hr k ek
    rw [e] at e1
    cases e1
    exact ⟨r, hr, rfl, by rw [ek]; congr 1; omega⟩
/-- the least heights are the only ones that fit -/
theorem Fin.below {V : List P} {R : List (Rl P)} (hc : Cost R) {hs hs' : Hs P} (F : Fin V R hs) (F' : Fin V R hs') : ∀ (n : Nat) (p : P) (h : Nat), h ≤ n → getH hs p = some h → ∃ h', h' ≤ h ∧ getH hs' p = some h' := by
  intro n
  induction n with
  | zero =>
    intro p h hn e
    by_cases hp : p ∈ V
    · exact ⟨0, Nat.zero_le _, F'.v0 p hp⟩
    · obtain ⟨r, hr, _, er⟩ := F.exact e hp
      have := (hby_ge er).1
      have := hc r hr
      omega
  | succ n ih =>
    intro p h hn e
    by_cases hp : p ∈ V
    · exact ⟨0, Nat.zero_le _, F'.v0 p hp⟩
    · obtain ⟨r, hr, rfl, er⟩ := F.exact e hp
      have hc1 := hc r hr
      have key : ∃ k', k' ≤ h ∧ hby hs' r = some k' := by
        obtain ⟨h1, rfl⟩ := hby_some.mp er
        have h2 : ∀ p ∈ r.ps, ∃ x, getH hs p = some x ∧ ∃ y, y ≤ x ∧ getH hs' p = some y := fun p hp => by
          obtain ⟨x, ex, hx⟩ := (hby_ge er).2 p hp
          obtain ⟨y, hy, ey⟩ := ih p x (by omega) ex
          exact ⟨x, ex, y, hy, ey⟩
        refine ⟨r.c + maxN (r.ps.filterMap (getH hs')), ?_, hby_some.mpr ⟨fun p hp => ?_, rfl⟩⟩
        · have : maxN (r.ps.filterMap (getH hs')) ≤ maxN (r.ps.filterMap (getH hs)) := maxN_le fun x hx => by
            obtain ⟨p, hp, ex⟩ := List.mem_filterMap.mp hx
            obtain ⟨a, ea, b, hb, eb⟩ := h2 p hp
            rw [ex] at eb
            cases eb
            exact Nat.le_trans hb (maxN_ge (List.mem_filterMap.mpr ⟨p, hp, ea⟩))
          omega
        · obtain ⟨_, _, y, _, ey⟩ := h2 p hp
          exact ⟨y, ey⟩
      obtain ⟨k', hk', ek'⟩ := key
      obtain ⟨h', h1, e1⟩ := F'.shut r hr k' ek'
      exact ⟨h', by omega, e1⟩
theorem Fin.same {V : List P} {R : List (Rl P)} (hc : Cost R) {hs hs' : Hs P} (F : Fin V R hs) (F' : Fin V R hs') (p : P) : getH hs p = getH hs' p := by
  cases e : getH hs p with
  | none =>
    cases e' : getH hs' p with
    | none => rfl
    | some h' =>
      obtain ⟨h, _, e2⟩ := F'.below hc F h' p h' (Nat.le_refl _) e'
      rw [e] at e2; cases e2
  | some h =>
    obtain ⟨h', h1, e1⟩ := F.below hc F' h p h (Nat.le_refl _) e
    obtain ⟨h2, h3, e2⟩ := F'.below hc F h' p h' (Nat.le_refl _) e1
    rw [e] at e2; cases e2
    rw [e1]; congr 1; omega
end
end Pm

/-! Pn: going from place to place, each once: plain. -/
namespace Pm
section
variable {P : Type} [DecidableEq P]
/-- n steps lead from the waiting ones and the found ones to the found ones at the end -/
inductive WRuns {β : Type} (f : P → β) (pr : P → List P) (L : Nat) : Nat → List P → List (P × β) → List (P × β) → Prop
  | stop {rs : List (P × β)} : WRuns f pr L 0 [] rs rs
  | seen {n : Nat} {w : List P} {one : P} {rs fin : List (P × β)} : one ∈ rs.map (·.1) → WRuns f pr L n w rs fin → WRuns f pr L (n + 1) (w ++ [one]) rs fin
  | new {n : Nat} {w : List P} {one : P} {rs fin : List (P × β)} : one ∉ rs.map (·.1) → rs.length < L → w.length + (pr one).length ≤ L → WRuns f pr L n (w ++ pr one) (rs ++ [(one, f one)]) fin → WRuns f pr L (n + 1) (w ++ [one]) rs fin
def left (S : List P) (ks : List P) : Nat := (S.filter fun p => decide (p ∉ ks)).length
theorem nodup_sub_len {α : Type} [DecidableEq α] : ∀ {a b : List α}, a.Nodup → (∀ x ∈ a, x ∈ b) → a.length ≤ b.length
  | [], b, _, _ => by simp
  | x :: a, b, nd, h => by
    simp only [List.nodup_cons] at nd
    have hx := h x (by simp)
    have := nodup_sub_len (a := a) (b := b.erase x) nd.2 fun y hy => by
      have hne : y ≠ x := fun z => nd.1 (z ▸ hy)
      exact (List.mem_erase_of_ne hne).mpr (h y (by simp [hy]))
    rw [List.length_erase_of_mem hx] at this
    have hb : 0 < b.length := List.length_pos_of_mem hx
    simp
    omega
structure WInv {β : Type} (f : P → β) (pr : P → List P) (S : List P) (place : P) (B : Nat) (w : List P) (rs : List (P × β)) : Prop where
  nd : (rs.map (·.1)).Nodup
  inS : ∀ p ∈ rs.map (·.1), p ∈ S
  wS : ∀ p ∈ w, p ∈ S
  val : ∀ q ∈ rs, q.2 = f q.1
  cl : ∀ p ∈ rs.map (·.1), ∀ x ∈ pr p, x ∈ rs.map (·.1) ∨ x ∈ w
  has : place ∈ rs.map (·.1) ∨ place ∈ w
  lw : w.length ≤ 1 + B * rs.length
theorem wruns_ex {β : Type} {f : P → β} {pr : P → List P} {S : List P} {place : P} {B : Nat} {L : Nat} (hcl : ∀ p ∈ S, ∀ x ∈ pr p, x ∈ S) (hb : ∀ p ∈ S, (pr p).length ≤ B) (hL : 1 + B * S.length ≤ L) (hS : S.length ≤ L) {w : List P} {rs : List (P × β)} (I : WInv f pr S place B w rs) :
    ∃ n fin, WRuns f pr L n w rs fin ∧ WInv f pr S place B [] fin := by
  generalize hm : (left S (rs.map (·.1)), w.length) = m
  induction m using lt2_wf.induction generalizing w rs with
  | _ m ih =>
    rcases List.eq_nil_or_concat w with rfl | ⟨w, one, rfl⟩
    · exact ⟨0, rs, .stop, I⟩
    · rw [List.concat_eq_append] at I hm ⊢
      have hone : one ∈ S := I.wS one (by simp)
      by_cases h : one ∈ rs.map (·.1)
      · have I2 : WInv f pr S place B w rs := ⟨I.nd, I.inS, fun p hp => I.wS p (by simp [hp]), I.val, fun p hp x hx => by
          rcases I.cl p hp x hx with q | q
          · exact .inl q
          · rcases List.mem_append.mp q with q | q
            · exact .inr q
            · simp at q; subst q; exact .inl h, by
          rcases I.has with q | q
          · exact .inl q
          · rcases List.mem_append.mp q with q | q
            · exact .inr q
            · simp at q; subst q; exact .inl h, by have := I.lw; simp at this; omega⟩
        obtain ⟨n, fin, h1, h2⟩ := ih (left S (rs.map (·.1)), w.length) (by rw [← hm]; exact .inr ⟨rfl, by simp⟩) I2 rfl
        exact ⟨n + 1, fin, .seen h h1, h2⟩
      · have hk : (rs ++ [(one, f one)]).map (·.1) = rs.map (·.1) ++ [one] := by simp
        have hlen : (rs.map (·.1)).length < S.length := by
          have nd2 : (rs.map (·.1) ++ [one]).Nodup := by
            rw [List.nodup_append]
            refine ⟨I.nd, by simp, fun a ha b hb => ?_⟩
            simp at hb
            subst hb
            exact fun z => h (z ▸ ha)
          have := nodup_sub_len nd2 (b := S) fun x hx => by
            rcases List.mem_append.mp hx with hx | hx
            · exact I.inS x hx
            · simp at hx; subst hx; exact hone
          simp at this ⊢
          omega
        have hlw := I.lw
        have hpr := hb one hone
        have hmul : B * (rs.length + 1) ≤ B * S.length := Nat.mul_le_mul_left B (by rw [List.length_map] at hlen; omega)
        have hme : B * (rs.length + 1) = B * rs.length + B := Nat.mul_succ _ _
        simp only [List.length_append, List.length_singleton] at hlw
        have I2 : WInv f pr S place B (w ++ pr one) (rs ++ [(one, f one)]) := by
          refine ⟨?_, ?_, ?_, ?_, ?_, ?_, ?_⟩
          · rw [hk, List.nodup_append]
            refine ⟨I.nd, by simp, fun a ha b hb => ?_⟩
            simp at hb
            subst hb
            exact fun z => h (z ▸ ha)
          · rw [hk]
            intro p hp
            rcases List.mem_append.mp hp with hp | hp
            · exact I.inS p hp
            · simp at hp; subst hp; exact hone
          · intro p hp
            rcases List.mem_append.mp hp with hp | hp
            · exact I.wS p (by simp [hp])
            · exact hcl one hone p hp
          · intro q hq
            rcases List.mem_append.mp hq with hq | hq
            · exact I.val q hq
            · simp at hq; subst hq; rfl
          · rw [hk]
            intro p hp x hx
            rcases List.mem_append.mp hp with hp | hp
            · rcases I.cl p hp x hx with q | q
              · exact .inl (List.mem_append_left _ q)
              · rcases List.mem_append.mp q with q | q
                · exact .inr (List.mem_append_left _ q)
                · exact .inl (List.mem_append_right _ q)
            · simp at hp; subst hp
              exact .inr (List.mem_append_right _ hx)
          · rw [hk]
            rcases I.has with q | q
            · exact .inl (List.mem_append_left _ q)
            · rcases List.mem_append.mp q with q | q
              · exact .inr (List.mem_append_left _ q)
              · exact .inl (List.mem_append_right _ q)
          · simp only [List.length_append, List.length_singleton]
            omega
        obtain ⟨n, fin, h1, h2⟩ := ih (left S ((rs ++ [(one, f one)]).map (·.1)), (w ++ pr one).length) (by
          rw [← hm]
          refine .inl ?_
          show left _ _ < left _ _
          rw [hk]
          refine filter_lt (fun x _ hx => ?_) ⟨one, hone, decide_eq_true h, by simp⟩
          simp only [decide_eq_true_eq] at hx ⊢
          exact fun z => hx (List.mem_append_left _ z)) I2 rfl
        rw [List.length_map] at hlen
        exact ⟨n + 1, fin, .new h (by omega) (by omega) h1, h2⟩
theorem WInv.start {β : Type} {f : P → β} {pr : P → List P} {S : List P} {place : P} {B : Nat} (h : place ∈ S) : WInv f pr S place B [place] ([] : List (P × β)) := by
  refine ⟨by simp, by simp, by simpa using h, by simp, by simp, by simp, by simp⟩
/-! ### the paper -/
/-- why a place has its height: -1, or a living rule's number -/
def reason (V : List P) (R : List (Rl P)) (hs : Hs P) (p : P) : Int := if p ∈ V then -1 else match R.find? fun r => decide (r.q = p) && decide (hby hs r = getH hs p) with
  | some r => (r.n : Int)
  | none => -2
/-- the premises of the rule that is the reason -/
def leans (V : List P) (R : List (Rl P)) (hs : Hs P) (p : P) : List P := if p ∈ V then [] else match R.find? fun r => decide (r.q = p) && decide (hby hs r = getH hs p) with
  | some r => r.ps
  | none => []
theorem reason_v {V : List P} {R : List (Rl P)} {hs : Hs P} {p : P} (h : p ∈ V) : reason V R hs p = -1 ∧ leans V R hs p = [] := by simp [reason, leans, h]
theorem reason_r {V : List P} {R : List (Rl P)} {hs : Hs P} (F : Fin V R hs) {p : P} {x : Nat} (h : p ∉ V) (e : getH hs p = some x) : ∃ r ∈ R, r.q = p ∧ hby hs r = some x ∧ (R.find? fun r => decide (r.q = p) && decide (hby hs r = getH hs p)) = some r ∧ reason V R hs p = r.n ∧ leans V R hs p = r.ps := by
  obtain ⟨r0, hr0, hq0, e0⟩ := F.exact e h
  cases ef : R.find? fun r => decide (r.q = p) && decide (hby hs r = getH hs p) with
  | none =>
    have := List.find?_eq_none.mp ef r0 hr0
    simp [hq0, e0, e] at this
  | some r =>
    have h1 := List.mem_of_find?_eq_some ef
    have h2 := List.find?_some ef
    simp only [Bool.and_eq_true, decide_eq_true_eq] at h2
    exact ⟨r, h1, h2.1, h2.2.trans e, rfl, by simp [reason, h, ef], by simp [leans, h, ef]⟩
def below (hs : Hs P) (place : P) : List P := (hs.map (·.1)).filter fun p => decide (p = place) || (match getH hs p, getH hs place with
  | some a, some b => decide (a < b)
  | _, _ => false)
theorem below_mem {hs : Hs P} {place p : P} : p ∈ below hs place ↔ p ∈ hs.map (·.1) ∧ (p = place ∨ ∃ a b, getH hs p = some a ∧ getH hs place = some b ∧ a < b) := by
  unfold below
  rw [List.mem_filter]
  constructor
  · rintro ⟨h1, h2⟩
    refine ⟨h1, ?_⟩
    rw [Bool.or_eq_true] at h2
    rcases h2 with h2 | h2
    · exact .inl (of_decide_eq_true h2)
    · split at h2
      · rename_i a b ea eb
        exact .inr ⟨a, b, ea, eb, of_decide_eq_true h2⟩
      · cases h2
  · rintro ⟨h1, h2⟩
    refine ⟨h1, ?_⟩
    rw [Bool.or_eq_true]
    rcases h2 with h2 | ⟨a, b, ea, eb, h⟩
    · exact .inl (decide_eq_true h2)
    · right
      rw [ea, eb]
      exact decide_eq_true h
theorem leans_low {V : List P} {R : List (Rl P)} {hs : Hs P} (hc : Cost R) (F : Fin V R hs) {p x : P} {a : Nat} (e : getH hs p = some a) (h : x ∈ leans V R hs p) : ∃ b, getH hs x = some b ∧ b < a := by
  by_cases hp : p ∈ V
  · rw [(reason_v hp).2] at h
    cases h
  · obtain ⟨r, hr, _, er, _, _, hl⟩ := reason_r F hp e
    rw [hl] at h
    obtain ⟨b, eb, hb⟩ := (hby_ge er).2 x h
    have := hc r hr
    exact ⟨b, eb, by omega⟩
/-- what the walk behind a believed place comes to -/
theorem why_ex {V : List P} {R : List (Rl P)} {hs : Hs P} (hc : Cost R) (F : Fin V R hs) {place : P} (hp : place ∈ hs.map (·.1)) {L : Nat} (hps : ∀ r ∈ R, r.ps.length ≤ 8) (hL : 1 + 8 * hs.length ≤ L) :
    ∃ n fin, WRuns (reason V R hs) (leans V R hs) L n [place] [] fin ∧ WInv (reason V R hs) (leans V R hs) (below hs place) place 8 [] fin := by
  have hl : (below hs place).length ≤ hs.length := by
    have := List.length_filter_le (fun p => decide (p = place) || (match getH hs p, getH hs place with
      | some a, some b => decide (a < b)
      | _, _ => false)) (hs.map (·.1))
    rw [List.length_map] at this
    exact this
  refine wruns_ex (fun p hp' x hx => ?_) (fun p hp' => ?_) (by omega) (by omega) (WInv.start (below_mem.mpr ⟨hp, .inl rfl⟩))
  · obtain ⟨h1, h2⟩ := below_mem.mp hp'
    obtain ⟨a, ea⟩ := getA_some.mpr h1
    obtain ⟨b, eb, hb⟩ := leans_low hc F ea hx
    refine below_mem.mpr ⟨getA_some.mp ⟨b, eb⟩, .inr ?_⟩
    rcases h2 with rfl | ⟨a', c, ea', ec, hac⟩
    · exact ⟨b, a, eb, ea, hb⟩
    · have : getH hs p = some a := ea
      rw [this] at ea'
      cases ea'
      exact ⟨b, c, eb, ec, by omega⟩
  · by_cases hv : p ∈ V
    · rw [(reason_v hv).2]; simp
    · obtain ⟨a, ea⟩ := getA_some.mpr (below_mem.mp hp').1
      obtain ⟨r, hr, _, _, _, _, hl⟩ := reason_r F hv ea
      rw [hl]
      exact hps r hr
/-- one row of a paper stands behind others -/
def Stands (V : List P) (R : List (Rl P)) (A : List P) (p : P) (v : Int) : Prop := (v = -1 ∧ p ∈ V) ∨ (v ≠ -1 ∧ ∃ r ∈ R, (r.n : Int) = v ∧ r.q = p ∧ ∀ x ∈ r.ps, x ∈ A)
/-- sorted by heights, the found ones are a paper -/
theorem paper_ok {V : List P} {R : List (Rl P)} {hs : Hs P} (hc : Cost R) (F : Fin V R hs) {place : P} {fin : List (P × Int)} (W : WInv (reason V R hs) (leans V R hs) (below hs place) place 8 [] fin) {T : List (Nat × P)}
    (hT : T.Perm (fin.map fun q => ((getH hs q.1).getD 0, q.1))) (hs' : T.Pairwise fun a b => a.1 ≤ b.1) :
    (∀ i a p, T[i]? = some (a, p) → p ∉ (T.take i).map (·.2) ∧ Stands V R ((T.take i).map (·.2)) p (reason V R hs p)) ∧ (∃ a, T[T.length - 1]? = some (a, place)) := by
  have mem : ∀ p, p ∈ T.map (·.2) ↔ p ∈ fin.map (·.1) := fun p => by
    have h2 := hT.map (·.2)
    rw [List.map_map] at h2
    exact h2.mem_iff
  have nd : (T.map (·.2)).Nodup := by
    have h2 := hT.map (·.2)
    rw [List.map_map] at h2
    exact h2.nodup_iff.mpr W.nd
  have hgt : ∀ a p, (a, p) ∈ T → getH hs p = some a := fun a p h => by
    have h2 := hT.mem_iff.mp h
    obtain ⟨q, hq, e⟩ := List.mem_map.mp h2
    cases e
    obtain ⟨x, ex⟩ := getA_some.mpr (below_mem.mp (W.inS q.1 (List.mem_map.mpr ⟨q, hq, rfl⟩))).1
    show getA hs q.1 = some ((getA hs q.1).getD 0)
    rw [ex]; rfl
  have pw := List.pairwise_iff_getElem.mp hs'
  have ndg := List.pairwise_iff_getElem.mp nd
  refine ⟨fun i a p e => ?_, ?_⟩
  · obtain ⟨hi, ei⟩ := List.getElem?_eq_some_iff.mp e
    have ha := hgt a p (ei ▸ List.getElem_mem hi)
    constructor
    · intro h
      obtain ⟨q, hq, eq⟩ := List.mem_map.mp h
      obtain ⟨j, hj, ej⟩ := List.mem_take_iff_getElem.mp hq
      have := ndg j i (by simp; omega) (by simpa using hi) (by omega)
      simp only [List.getElem_map] at this
      rw [ej, ei] at this
      exact this eq
    · have hpm : p ∈ fin.map (·.1) := (mem p).mp (List.mem_map.mpr ⟨(a, p), ei ▸ List.getElem_mem hi, rfl⟩)
      by_cases hv : p ∈ V
      · exact .inl ⟨(reason_v hv).1, hv⟩
      · obtain ⟨r, hr, hq, er, _, hn, hl⟩ := reason_r F hv ha
        refine .inr ⟨by rw [hn]; omega, r, hr, hn.symm, hq, fun x hx => ?_⟩
        have hx' : x ∈ leans V R hs p := by rw [hl]; exact hx
        have hxm : x ∈ fin.map (·.1) := by
          rcases W.cl p hpm x hx' with h | h
          · exact h
          · cases h
        obtain ⟨b, eb, hb⟩ := leans_low hc F ha hx'
        obtain ⟨⟨b', x'⟩, hq2, ex⟩ := List.mem_map.mp ((mem x).mpr hxm)
        have ex' : x' = x := ex
        subst ex'
        have hb' := hgt b' x' hq2
        rw [eb] at hb'
        cases hb'
        obtain ⟨j, hj, ej⟩ := List.getElem_of_mem hq2
        have hji : j < i := by
          rcases Nat.lt_trichotomy j i with h | h | h
          · exact h
          · subst h
            rw [ej] at ei
            cases ei
            omega
          · have := pw i j hi hj h
            rw [ei, ej] at this
            exact absurd this (by simp; omega)
        exact List.mem_map.mpr ⟨(b, x'), List.mem_take_iff_getElem.mpr ⟨j, by omega, ej⟩, rfl⟩
  · have hpl : place ∈ T.map (·.2) := (mem place).mpr (by
      rcases W.has with h | h
      · exact h
      · cases h)
    obtain ⟨⟨a, p⟩, hq, e⟩ := List.mem_map.mp hpl
    have e' : p = place := e
    subst e'
    have ha := hgt a p hq
    obtain ⟨j, hj, ej⟩ := List.getElem_of_mem hq
    refine ⟨a, ?_⟩
    rcases Nat.lt_or_ge j (T.length - 1) with h | h
    · exfalso
      have h1 := pw j (T.length - 1) hj (by omega) h
      have h3 := ndg j (T.length - 1) (by simpa using hj) (by simp; omega) h
      simp only [List.getElem_map] at h3
      rw [ej] at h1 h3
      have hm : T[T.length - 1]'(by omega) ∈ T := List.getElem_mem _
      generalize T[T.length - 1]'(by omega) = z at h1 h3 hm
      obtain ⟨b, x⟩ := z
      have hb := hgt b x hm
      have hx := (below_mem.mp (W.inS x ((mem x).mp (List.mem_map.mpr ⟨_, hm, rfl⟩)))).2
      rcases hx with hx | ⟨c, d, ec, ed, hcd⟩
      · exact h3 hx.symm
      · rw [hb] at ec
        rw [ha] at ed
        cases ec; cases ed
        have h1' : a ≤ b := h1
        omega
    · have : j = T.length - 1 := by omega
      subst this
      rw [List.getElem?_eq_getElem hj, ej]
/-! ### the set -/
/-- of each living rule of the place the first premise that is not believed -/
def fails (R : List (Rl P)) (hs : Hs P) (p : P) : List P := (R.filter fun r => decide (r.q = p)).filterMap fun r => r.ps.find? fun x => decide (getH hs x = none)
theorem fails_ok {V : List P} {R : List (Rl P)} {hs : Hs P} (F : Fin V R hs) {p : P} (e : getH hs p = none) {r : Rl P} (hr : r ∈ R) (hq : r.q = p) : ∃ x ∈ r.ps, getH hs x = none ∧ (r.ps.find? fun x => decide (getH hs x = none)) = some x ∧ x ∈ fails R hs p := by
  have : hby hs r = none := by
    cases eh : hby hs r with
    | none => rfl
    | some k =>
      obtain ⟨h, _, e2⟩ := F.shut r hr k eh
      rw [hq, e] at e2; cases e2
  obtain ⟨y, hy, ey⟩ := hby_none.mp this
  cases ef : r.ps.find? fun x => decide (getH hs x = none) with
  | none =>
    have := List.find?_eq_none.mp ef y hy
    simp [ey] at this
  | some x =>
    have h2 := List.find?_some ef
    exact ⟨x, List.mem_of_find?_eq_some ef, of_decide_eq_true h2, rfl, List.mem_filterMap.mpr ⟨r, List.mem_filter.mpr ⟨hr, decide_eq_true hq⟩, ef⟩⟩
theorem fails_mem {R : List (Rl P)} {hs : Hs P} {p x : P} (h : x ∈ fails R hs p) : getH hs x = none ∧ ∃ r ∈ R, x ∈ r.ps := by
  obtain ⟨r, hr, e⟩ := List.mem_filterMap.mp h
  exact ⟨of_decide_eq_true (List.find?_some (p := fun x => decide (getH hs x = none)) e), r, (List.mem_filter.mp hr).1, List.mem_of_find?_eq_some e⟩
theorem why_not_ex {V : List P} {R : List (Rl P)} {hs : Hs P} (F : Fin V R hs) {place : P} (hp : getH hs place = none) {N : List P} (hN : ∀ r ∈ R, ∀ x ∈ r.ps, x ∈ N) (hpN : place ∈ N) {L B : Nat} (hB : R.length ≤ B) (hL : 1 + B * N.length ≤ L) (hL2 : N.length ≤ L) :
    ∃ n fin, WRuns (fun _ => true) (fails R hs) L n [place] [] fin ∧ WInv (fun _ => true) (fails R hs) (N.filter fun p => decide (getH hs p = none)) place B [] fin := by
  have hl := List.length_filter_le (fun p => decide (getH hs p = none)) N
  have hm := Nat.mul_le_mul_left B hl
  refine wruns_ex (fun p hp' x hx => ?_) (fun p hp' => ?_) (by omega) (by omega) (WInv.start (List.mem_filter.mpr ⟨hpN, decide_eq_true hp⟩))
  · obtain ⟨h1, r, hr, hx2⟩ := fails_mem hx
    exact List.mem_filter.mpr ⟨hN r hr x hx2, decide_eq_true h1⟩
  · unfold fails
    refine Nat.le_trans (List.length_filterMap_le _ _) (Nat.le_trans (List.length_filter_le _ _) hB)
end
end Pm

/-! the head of k68 by facts -/
namespace H
open PySem PySem.Spec PyProof.Rows L2
def top (i : Nat) : Stmt := PySem.Challenge.pw_leanfar_k68_whole_a_world_by_texts.main.body.getD i (.Pass ⟨0, 0, 0, 0⟩)
def d_is_count : He.DefD := ⟨("is_count", none), "is_count", "is_count", defArgs (top 13), defBody (top 13), defScope (top 13), [.int 0], []⟩
def d_is_name : He.DefD := ⟨("is_name", none), "is_name", "is_name", defArgs (top 14), defBody (top 14), defScope (top 14), [], []⟩
def d_is_tuple_of : He.DefD := ⟨("is_tuple_of", none), "is_tuple_of", "is_tuple_of", defArgs (top 15), defBody (top 15), defScope (top 15), [], []⟩
def d_is_place : He.DefD := ⟨("is_place", none), "is_place", "is_place", defArgs (top 16), defBody (top 16), defScope (top 16), [], []⟩
def d_are_places : He.DefD := ⟨("are_places", none), "are_places", "are_places", defArgs (top 17), defBody (top 17), defScope (top 17), [], []⟩
def d_are_premises : He.DefD := ⟨("are_premises", none), "are_premises", "are_premises", defArgs (top 18), defBody (top 18), defScope (top 18), [], []⟩
def d_is_rule : He.DefD := ⟨("is_rule", none), "is_rule", "is_rule", defArgs (top 19), defBody (top 19), defScope (top 19), [], []⟩
def d_is_road : He.DefD := ⟨("is_road", none), "is_road", "is_road", defArgs (top 20), defBody (top 20), defScope (top 20), [], []⟩
def d_is_world : He.DefD := ⟨("is_world", none), "is_world", "is_world", defArgs (top 21), defBody (top 21), defScope (top 21), [], []⟩
def d_need_world : He.DefD := ⟨("need_world", none), "need_world", "need_world", defArgs (top 22), defBody (top 22), defScope (top 22), [], []⟩
def d_need_place : He.DefD := ⟨("need_place", none), "need_place", "need_place", defArgs (top 23), defBody (top 23), defScope (top 23), [], []⟩
def d_is_near : He.DefD := ⟨("is_near", none), "is_near", "is_near", defArgs (top 24), defBody (top 24), defScope (top 24), [], []⟩
def d_named : He.DefD := ⟨("named", none), "named", "named", defArgs (top 25), defBody (top 25), defScope (top 25), [], []⟩
def d_need_kind : He.DefD := ⟨("need_kind", none), "need_kind", "need_kind", defArgs (top 28), defBody (top 28), defScope (top 28), [], []⟩
def d_words_of : He.DefD := ⟨("words_of", none), "words_of", "words_of", defArgs (top 29), defBody (top 29), defScope (top 29), [], []⟩
def d_number_in : He.DefD := ⟨("number_in", none), "number_in", "number_in", defArgs (top 30), defBody (top 30), defScope (top 30), [], []⟩
def d_place_in : He.DefD := ⟨("place_in", none), "place_in", "place_in", defArgs (top 31), defBody (top 31), defScope (top 31), [], []⟩
def d_written : He.DefD := ⟨("written", none), "written", "written", defArgs (top 32), defBody (top 32), defScope (top 32), [], []⟩
def d_show_place : He.DefD := ⟨("show_place", none), "show_place", "show_place", defArgs (top 33), defBody (top 33), defScope (top 33), [], []⟩
def d_read_place : He.DefD := ⟨("read_place", none), "read_place", "read_place", defArgs (top 34), defBody (top 34), defScope (top 34), [], []⟩
def d_show_rule : He.DefD := ⟨("show_rule", none), "show_rule", "show_rule", defArgs (top 35), defBody (top 35), defScope (top 35), [], []⟩
def d_read_rule : He.DefD := ⟨("read_rule", none), "read_rule", "read_rule", defArgs (top 36), defBody (top 36), defScope (top 36), [], []⟩
def d_living : He.DefD := ⟨("living", none), "living", "living", defArgs (top 39), defBody (top 39), defScope (top 39), [], []⟩
def d_height_by : He.DefD := ⟨("height_by", none), "height_by", "height_by", defArgs (top 40), defBody (top 40), defScope (top 40), [], []⟩
def d_least_of : He.DefD := ⟨("least_of", none), "least_of", "least_of", defArgs (top 41), defBody (top 41), defScope (top 41), [], []⟩
def d_least : He.DefD := ⟨("least", none), "least", "least", defArgs (top 42), defBody (top 42), defScope (top 42), [], []⟩
def d_reason_in : He.DefD := ⟨("reason_in", none), "reason_in", "reason_in", defArgs (top 43), defBody (top 43), defScope (top 43), [], []⟩
def d_why : He.DefD := ⟨("why", none), "why", "why", defArgs (top 44), defBody (top 44), defScope (top 44), [], []⟩
def d_is_why : He.DefD := ⟨("is_why", none), "is_why", "is_why", defArgs (top 45), defBody (top 45), defScope (top 45), [], []⟩
def d_stands : He.DefD := ⟨("stands", none), "stands", "stands", defArgs (top 46), defBody (top 46), defScope (top 46), [], []⟩
def d_why_shows : He.DefD := ⟨("why_shows", none), "why_shows", "why_shows", defArgs (top 47), defBody (top 47), defScope (top 47), [], []⟩
def d_why_not : He.DefD := ⟨("why_not", none), "why_not", "why_not", defArgs (top 48), defBody (top 48), defScope (top 48), [], []⟩
def d_why_not_shows : He.DefD := ⟨("why_not_shows", none), "why_not_shows", "why_not_shows", defArgs (top 49), defBody (top 49), defScope (top 49), [], []⟩
def d_more_of : He.DefD := ⟨("more_of", none), "more_of", "more_of", defArgs (top 51), defBody (top 51), defScope (top 51), [], []⟩
def d_falls : He.DefD := ⟨("falls", none), "falls", "falls", defArgs (top 52), defBody (top 52), defScope (top 52), [], []⟩
def d_l_pot : He.DefD := ⟨("_law_pot", none), "_law_pot", "_law_pot", defArgs (top 54), defBody (top 54), defScope (top 54), [], []⟩
def d_l_dip : He.DefD := ⟨("_law_dip", none), "_law_dip", "_law_dip", defArgs (top 55), defBody (top 55), defScope (top 55), [], []⟩
def d_l_some : He.DefD := ⟨("_law_some", none), "_law_some", "_law_some", defArgs (top 56), defBody (top 56), defScope (top 56), [], []⟩
def d_l_pairs : He.DefD := ⟨("_law_pairs", none), "_law_pairs", "_law_pairs", defArgs (top 57), defBody (top 57), defScope (top 57), [], []⟩
def d_l_premises : He.DefD := ⟨("_law_premises", none), "_law_premises", "_law_premises", defArgs (top 58), defBody (top 58), defScope (top 58), [], []⟩
def d_l_world : He.DefD := ⟨("_law_world", none), "_law_world", "_law_world", defArgs (top 59), defBody (top 59), defScope (top 59), [], []⟩
def d_l_by_texts : He.DefD := ⟨("_law_by_texts", none), "_law_by_texts", "_law_by_texts", defArgs (top 60), defBody (top 60), defScope (top 60), [], []⟩
def d_l_texts_right : He.DefD := ⟨("_law_texts_right", none), "_law_texts_right", "_law_texts_right", defArgs (top 61), defBody (top 61), defScope (top 61), [], []⟩
def d_l_places_right : He.DefD := ⟨("_law_places_right", none), "_law_places_right", "_law_places_right", defArgs (top 62), defBody (top 62), defScope (top 62), [], []⟩
def d_law : He.DefD := ⟨("law", none), "law", "law", defArgs (top 63), defBody (top 63), defScope (top 63), [], []⟩
def fn : List He.DefD := [d_is_count, d_is_name, d_is_tuple_of, d_is_place, d_are_places, d_are_premises, d_is_rule, d_is_road, d_is_world, d_need_world, d_need_place, d_is_near, d_named, d_need_kind, d_words_of, d_number_in, d_place_in, d_written, d_show_place, d_read_place, d_show_rule, d_read_rule, d_living, d_height_by, d_least_of, d_least, d_reason_in, d_why, d_is_why, d_stands, d_why_shows, d_why_not, d_why_not_shows, d_more_of, d_falls, d_l_pot, d_l_dip, d_l_some, d_l_pairs, d_l_premises, d_l_world, d_l_by_texts, d_l_texts_right, d_l_places_right, d_law]
def fa : List He.Fa := [.glo "is_count", .glo "is_name", .glo "is_tuple_of", .glo "is_place", .glo "are_places", .glo "are_premises", .glo "is_rule", .glo "is_road", .glo "is_world", .glo "need_world", .glo "need_place", .glo "is_near", .glo "named", .glo "need_kind", .glo "words_of", .glo "number_in", .glo "place_in", .glo "written", .glo "show_place", .glo "read_place", .glo "show_rule", .glo "read_rule", .glo "living", .glo "height_by", .glo "least_of", .glo "least", .glo "reason_in", .glo "why", .glo "is_why", .glo "stands", .glo "why_shows", .glo "why_not", .glo "why_not_shows", .glo "more_of", .glo "falls", .glo "_law_pot", .glo "_law_dip", .glo "_law_some", .glo "_law_pairs", .glo "_law_premises", .glo "_law_world", .glo "_law_by_texts", .glo "_law_texts_right", .glo "_law_places_right", .glo "law", .free "all", .free "bool", .free "enumerate", .free "int", .free "isinstance", .free "len", .free "list", .free "max", .free "min", .free "range", .free "repr", .free "set", .free "sorted", .free "str", .free "tuple", .free "zip", .str "LETTERS" "abcdefghijklmnopqrstuvwxyz", .int "MOST_LETTERS" 8, .int "MOST_PREMISES" 8, .str "FIGURES" "0123456789", .int "VOUCHED" (-1), .glo "LeanError", .glo "NoPlace", .glo "NoWorld", .glo "NoPaper", .glo "NotHeld", .glo "Held", .glo "NotVouched", .glo "NoText"]
def ex (K : PySem.W.Frag) : Bool := true
abbrev R : PySem.W.OpenRow := PySem.W.OpenLaw.row PySem.Challenge.rw_leanfar_k68_whole_a_world_by_texts
abbrev hk : PySem.W.Hook := He.hookX 4 fa fn [] [] ex
def ob (s : PySem.W.SharedT) : He.AlX := He.obsX 4 fa fn [] [] ex (HandSHeadRun.getT s)
theorem ob_eq (s : PySem.W.SharedT) : ob s = hk.obs s.abs := He.obsX_eq (HandSHeadRun.getT_eq s)
theorem run (w : World) : HandSHeadRun.RunEq R (PySem.W.view R.prog [63]) hk ob 8000 [("FIGURES" : Str), ("Held" : Str), ("LETTERS" : Str), ("LeanError" : Str), ("MOST_LETTERS" : Str), ("MOST_PREMISES" : Str), ("NoPaper" : Str), ("NoPlace" : Str), ("NoText" : Str), ("NoWorld" : Str), ("NotHeld" : Str), ("NotVouched" : Str), ("VOUCHED" : Str), ("__name__" : Str), ("_law_by_texts" : Str), ("_law_dip" : Str), ("_law_pairs" : Str), ("_law_places_right" : Str), ("_law_pot" : Str), ("_law_premises" : Str), ("_law_some" : Str), ("_law_texts_right" : Str), ("_law_world" : Str), ("are_places" : Str), ("are_premises" : Str), ("falls" : Str), ("height_by" : Str), ("is_count" : Str), ("is_name" : Str), ("is_near" : Str), ("is_place" : Str), ("is_road" : Str), ("is_rule" : Str), ("is_tuple_of" : Str), ("is_why" : Str), ("is_world" : Str), ("least" : Str), ("least_of" : Str), ("living" : Str), ("more_of" : Str), ("named" : Str), ("need_kind" : Str), ("need_place" : Str), ("need_world" : Str), ("number_in" : Str), ("place_in" : Str), ("read_place" : Str), ("read_rule" : Str), ("reason_in" : Str), ("show_place" : Str), ("show_rule" : Str), ("stands" : Str), ("why" : Str), ("why_not" : Str), ("why_not_shows" : Str), ("why_shows" : Str), ("words_of" : Str), ("written" : Str)] w := by
  intro os
  kernel_rfl
end H

namespace H
open PySem PySem.Spec PyProof.Rows L2 Lf
structure Md (K : PySem.W.Frag) (mg : Str → Option Value) (base : Heap) : Prop where
  kin : K.In base
  ns : base.Ns mainGlobals mg
  dig : base.NoDigits
  says : He.SaysD fa fn K
  more : ex K = true
section
variable {K : PySem.W.Frag} {mg : Str → Option Value} {base : Heap} (m : Md K mg base)
include m
theorem Md.fr_all : mg "all" = none := He.free_ok m.kin m.ns (m.says.fact 45 (f := .free "all") rfl)
theorem Md.fr_bool : mg "bool" = none := He.free_ok m.kin m.ns (m.says.fact 46 (f := .free "bool") rfl)
theorem Md.fr_enumerate : mg "enumerate" = none := He.free_ok m.kin m.ns (m.says.fact 47 (f := .free "enumerate") rfl)
theorem Md.fr_int : mg "int" = none := He.free_ok m.kin m.ns (m.says.fact 48 (f := .free "int") rfl)
theorem Md.fr_isinstance : mg "isinstance" = none := He.free_ok m.kin m.ns (m.says.fact 49 (f := .free "isinstance") rfl)
theorem Md.fr_len : mg "len" = none := He.free_ok m.kin m.ns (m.says.fact 50 (f := .free "len") rfl)
theorem Md.fr_list : mg "list" = none := He.free_ok m.kin m.ns (m.says.fact 51 (f := .free "list") rfl)
theorem Md.fr_max : mg "max" = none := He.free_ok m.kin m.ns (m.says.fact 52 (f := .free "max") rfl)
theorem Md.fr_min : mg "min" = none := He.free_ok m.kin m.ns (m.says.fact 53 (f := .free "min") rfl)
theorem Md.fr_range : mg "range" = none := He.free_ok m.kin m.ns (m.says.fact 54 (f := .free "range") rfl)
theorem Md.fr_repr : mg "repr" = none := He.free_ok m.kin m.ns (m.says.fact 55 (f := .free "repr") rfl)
theorem Md.fr_set : mg "set" = none := He.free_ok m.kin m.ns (m.says.fact 56 (f := .free "set") rfl)
theorem Md.fr_sorted : mg "sorted" = none := He.free_ok m.kin m.ns (m.says.fact 57 (f := .free "sorted") rfl)
theorem Md.fr_str : mg "str" = none := He.free_ok m.kin m.ns (m.says.fact 58 (f := .free "str") rfl)
theorem Md.fr_tuple : mg "tuple" = none := He.free_ok m.kin m.ns (m.says.fact 59 (f := .free "tuple") rfl)
theorem Md.fr_zip : mg "zip" = none := He.free_ok m.kin m.ns (m.says.fact 60 (f := .free "zip") rfl)
theorem Md.gd_LETTERS : Gd ⟨K, mg⟩ "LETTERS" (.str "abcdefghijklmnopqrstuvwxyz") := gd_str (He.str_ok m.kin m.ns (m.says.fact 61 (f := .str "LETTERS" "abcdefghijklmnopqrstuvwxyz") rfl))
theorem Md.gd_MOST_LETTERS : Gd ⟨K, mg⟩ "MOST_LETTERS" (.int 8) := gd_int (He.int_ok m.kin m.ns (m.says.fact 62 (f := .int "MOST_LETTERS" 8) rfl))
theorem Md.gd_MOST_PREMISES : Gd ⟨K, mg⟩ "MOST_PREMISES" (.int 8) := gd_int (He.int_ok m.kin m.ns (m.says.fact 63 (f := .int "MOST_PREMISES" 8) rfl))
theorem Md.gd_FIGURES : Gd ⟨K, mg⟩ "FIGURES" (.str "0123456789") := gd_str (He.str_ok m.kin m.ns (m.says.fact 64 (f := .str "FIGURES" "0123456789") rfl))
theorem Md.gd_VOUCHED : Gd ⟨K, mg⟩ "VOUCHED" (.int (-1)) := gd_int (He.int_ok m.kin m.ns (m.says.fact 65 (f := .int "VOUCHED" (-1)) rfl))
theorem Md.gc_LeanError : Gd ⟨K, mg⟩ "LeanError" (.gl "LeanError") := gd_fn (C := ⟨K, mg⟩) (He.glo_ok m.kin m.ns (m.says.fact 66 (f := .glo "LeanError") rfl))
theorem Md.cl_LeanError : ∃ D, mg "LeanError" = some (.ref D) := ⟨_, He.glo_ok m.kin m.ns (m.says.fact 66 (f := .glo "LeanError") rfl)⟩
theorem Md.gc_NoPlace : Gd ⟨K, mg⟩ "NoPlace" (.gl "NoPlace") := gd_fn (C := ⟨K, mg⟩) (He.glo_ok m.kin m.ns (m.says.fact 67 (f := .glo "NoPlace") rfl))
theorem Md.cl_NoPlace : ∃ D, mg "NoPlace" = some (.ref D) := ⟨_, He.glo_ok m.kin m.ns (m.says.fact 67 (f := .glo "NoPlace") rfl)⟩
theorem Md.gc_NoWorld : Gd ⟨K, mg⟩ "NoWorld" (.gl "NoWorld") := gd_fn (C := ⟨K, mg⟩) (He.glo_ok m.kin m.ns (m.says.fact 68 (f := .glo "NoWorld") rfl))
theorem Md.cl_NoWorld : ∃ D, mg "NoWorld" = some (.ref D) := ⟨_, He.glo_ok m.kin m.ns (m.says.fact 68 (f := .glo "NoWorld") rfl)⟩
theorem Md.gc_NoPaper : Gd ⟨K, mg⟩ "NoPaper" (.gl "NoPaper") := gd_fn (C := ⟨K, mg⟩) (He.glo_ok m.kin m.ns (m.says.fact 69 (f := .glo "NoPaper") rfl))
theorem Md.cl_NoPaper : ∃ D, mg "NoPaper" = some (.ref D) := ⟨_, He.glo_ok m.kin m.ns (m.says.fact 69 (f := .glo "NoPaper") rfl)⟩
theorem Md.gc_NotHeld : Gd ⟨K, mg⟩ "NotHeld" (.gl "NotHeld") := gd_fn (C := ⟨K, mg⟩) (He.glo_ok m.kin m.ns (m.says.fact 70 (f := .glo "NotHeld") rfl))
theorem Md.cl_NotHeld : ∃ D, mg "NotHeld" = some (.ref D) := ⟨_, He.glo_ok m.kin m.ns (m.says.fact 70 (f := .glo "NotHeld") rfl)⟩
theorem Md.gc_Held : Gd ⟨K, mg⟩ "Held" (.gl "Held") := gd_fn (C := ⟨K, mg⟩) (He.glo_ok m.kin m.ns (m.says.fact 71 (f := .glo "Held") rfl))
theorem Md.cl_Held : ∃ D, mg "Held" = some (.ref D) := ⟨_, He.glo_ok m.kin m.ns (m.says.fact 71 (f := .glo "Held") rfl)⟩
theorem Md.gc_NotVouched : Gd ⟨K, mg⟩ "NotVouched" (.gl "NotVouched") := gd_fn (C := ⟨K, mg⟩) (He.glo_ok m.kin m.ns (m.says.fact 72 (f := .glo "NotVouched") rfl))
theorem Md.cl_NotVouched : ∃ D, mg "NotVouched" = some (.ref D) := ⟨_, He.glo_ok m.kin m.ns (m.says.fact 72 (f := .glo "NotVouched") rfl)⟩
theorem Md.gc_NoText : Gd ⟨K, mg⟩ "NoText" (.gl "NoText") := gd_fn (C := ⟨K, mg⟩) (He.glo_ok m.kin m.ns (m.says.fact 73 (f := .glo "NoText") rfl))
theorem Md.cl_NoText : ∃ D, mg "NoText" = some (.ref D) := ⟨_, He.glo_ok m.kin m.ns (m.says.fact 73 (f := .glo "NoText") rfl)⟩
theorem Md.gf_least : Gd ⟨K, mg⟩ "least" (.gl "least") := gd_fn (C := ⟨K, mg⟩) (He.glo_ok m.kin m.ns (m.says.fact 25 (f := .glo "least") rfl))
end
def N_is_count : List Str := ["thing", "least"]
theorem sc_is_count : FnScope N_is_count ["thing", "least"] (defScope (top 13)) := ⟨rfl, rfl, rfl, by decide +kernel, rfl, by decide +kernel, by decide +kernel⟩
noncomputable def b_is_count : SS := (retS (andV (callV isiM (consA (varS 0) (consA (cS (.ty "int")) nilA))) (andV (notV (callV isiM (consA (varS 0) (consA (cS (.ty "bool")) nilA)))) (op2 geM (varS 0) (varS 1)))))
noncomputable def F_is_count : SF := lenF 2 (fnS 2 b_is_count)
theorem Md.fo_is_count {P : Program} {w : World} {K : PySem.W.Frag} {mg : Str → Option Value} {base : Heap} (m : Md K mg base) {fd : FuncData} (F : FunD K d_is_count.name d_is_count.qual d_is_count.params d_is_count.body d_is_count.scope (d_is_count.dvs K) (d_is_count.kws K) (He.fAd K d_is_count.at_) fd) : FnG P w K mg base (L2.CX P w) 1 (He.fAd K d_is_count.at_) fd ["thing", "least"] (spD ⟨K, mg⟩ F_is_count) := by
  have S := sc_is_count
  exact def_ok (C := ⟨K, mg⟩) 2 F S rfl fun cdv A outer s0 H E hr =>
    (s_one (s_ret (d_and (d_isi m.fr_isinstance (a_cons (dv 0) (a_cons (d_ty m.fr_int rfl (by decide +kernel)) a_nil))) (d_and (d_not (d_isi m.fr_isinstance (a_cons (dv 0) (a_cons (d_ty m.fr_bool rfl (by decide +kernel)) a_nil)))) (d_one (d_ge (dv 0) (dv 1)))))))
noncomputable def F_is_count_1 : SF := fun es M => F_is_count (es ++ [.int 0]) M
theorem Md.ok_is_count_1 {P : Program} {w : World} {K : PySem.W.Frag} {mg : Str → Option Value} {base : Heap} (m : Md K mg base) : DefOk P w ⟨K, mg⟩ base "is_count" 1 F_is_count_1 := by
  obtain ⟨fd, F⟩ := m.says.def_ 0 (d := d_is_count) rfl
  obtain ⟨ds, hv, hb⟩ := FunD.binds1 (ps := ["thing", "least"]) F 1 0 (by intro z; cases z) rfl (fun _ _ _ _ _ _ _ us its h1 h2 => match us, its, h1, h2 with | [_], [_], _, _ => ⟨_, rfl, rfl⟩)
  exact DefOk.mkD (C := ⟨K, mg⟩) [.int 0] (He.glo_ok m.kin m.ns (m.says.fact 0 (f := .glo "is_count") rfl)) F.kp hb hv (fun g => RvA.cons (by simp only [Rv]; rfl) RvA.nil) (m.fo_is_count F)
theorem Md.ok_is_count {P : Program} {w : World} {K : PySem.W.Frag} {mg : Str → Option Value} {base : Heap} (m : Md K mg base) : DefOk P w ⟨K, mg⟩ base "is_count" 1 F_is_count := by
  obtain ⟨fd, F⟩ := m.says.def_ 0 (d := d_is_count) rfl
  obtain ⟨ds, hv, hb⟩ := FunD.binds1 (ps := ["thing", "least"]) F 2 1 (by intro z; cases z) rfl (fun _ _ _ _ _ _ _ us its h1 h2 => match us, its, h1, h2 with | [_, _], [_], _, _ => ⟨_, rfl, rfl⟩)
  obtain rfl : ds = [] := by cases hv; rfl
  exact DefOk.mk0 (C := ⟨K, mg⟩) (He.glo_ok m.kin m.ns (m.says.fact 0 (f := .glo "is_count") rfl)) F.kp hb (m.fo_is_count F)
def N_is_name : List Str := ["thing", "sign"]
theorem sc_is_name : FnScope N_is_name ["thing"] (defScope (top 14)) := ⟨rfl, rfl, rfl, by decide +kernel, rfl, by decide +kernel, by decide +kernel⟩
noncomputable def b_is_name : SS := (seqS (ifS (orT (notT (asT (callV isiM (consA (varS 0) (consA (cS (.ty "str")) nilA))))) (notT (asT (chS leM leM (cS (.int 1)) (callV lenM (consA (varS 0) nilA)) (cS (.int 8)))))) (retS (cS (.bl false))) nextS)
    (retS (callV allM (consA (lcS (istrS (varS 0)) (.nm 1) [1] yesT (op2 inM (varS 1) (cS (.str "abcdefghijklmnopqrstuvwxyz")))) nilA))))
noncomputable def F_is_name : SF := lenF 1 (fnS 2 b_is_name)
theorem Md.fo_is_name {P : Program} {w : World} {K : PySem.W.Frag} {mg : Str → Option Value} {base : Heap} (m : Md K mg base) {fd : FuncData} (F : FunD K d_is_name.name d_is_name.qual d_is_name.params d_is_name.body d_is_name.scope (d_is_name.dvs K) (d_is_name.kws K) (He.fAd K d_is_name.at_) fd) : FnG P w K mg base (L2.CX P w) 1 (He.fAd K d_is_name.at_) fd ["thing"] (spD ⟨K, mg⟩ F_is_name) := by
  have S := sc_is_name
  exact def_ok (C := ⟨K, mg⟩) 2 F S rfl fun cdv A outer s0 H E hr =>
    (s_cons (s_if (t_of (w_or (t_not (t_val (d_isi m.fr_isinstance (a_cons (dv 0) (a_cons (d_ty m.fr_str rfl (by decide +kernel)) a_nil))))) (w_or1 (t_not (t_lele d_int (d_len m.fr_len (a_cons (dv 0) a_nil)) (d_gl (m.gd_MOST_LETTERS) rfl)))))) (s_one (s_ret d_bl)) s_nil)
    (s_one (s_ret (d_all rfl m.fr_all (a_cons (d_lc (own := [("sign", 1)]) rfl S.nd (blkOk_by (own := [("sign", 1)]) (N := N_is_name) (sc := defScope (top 14)) (by decide +kernel)) (by simp [Tg.ix, Tg.ixs]) (i_str (dv 0)) (fun _ _ _ _ _ => (g_nm S.nd)) (fun _ _ _ _ _ => ts_nil) (fun _ _ _ _ _ => (d_in hr.r (dv 1) (d_gl (m.gd_LETTERS) rfl)))) a_nil)))))
theorem Md.ok_is_name {P : Program} {w : World} {K : PySem.W.Frag} {mg : Str → Option Value} {base : Heap} (m : Md K mg base) : DefOk P w ⟨K, mg⟩ base "is_name" 1 F_is_name := by
  obtain ⟨fd, F⟩ := m.says.def_ 1 (d := d_is_name) rfl
  exact DefOk.mk0 (C := ⟨K, mg⟩) (He.glo_ok m.kin m.ns (m.says.fact 1 (f := .glo "is_name") rfl)) F.kp (F.bindsN fun _ _ _ _ _ _ us hl => match us, hl with | [_], _ => rfl) (m.fo_is_name F)
def N_is_tuple_of : List Str := ["thing", "many"]
theorem sc_is_tuple_of : FnScope N_is_tuple_of ["thing", "many"] (defScope (top 15)) := ⟨rfl, rfl, rfl, by decide +kernel, rfl, by decide +kernel, by decide +kernel⟩
noncomputable def b_is_tuple_of : SS := (retS (andV (callV isiM (consA (varS 0) (consA (cS (.ty "tuple")) nilA))) (op2 eqM (callV lenM (consA (varS 0) nilA)) (varS 1))))
noncomputable def F_is_tuple_of : SF := lenF 2 (fnS 2 b_is_tuple_of)
theorem Md.fo_is_tuple_of {P : Program} {w : World} {K : PySem.W.Frag} {mg : Str → Option Value} {base : Heap} (m : Md K mg base) {fd : FuncData} (F : FunD K d_is_tuple_of.name d_is_tuple_of.qual d_is_tuple_of.params d_is_tuple_of.body d_is_tuple_of.scope (d_is_tuple_of.dvs K) (d_is_tuple_of.kws K) (He.fAd K d_is_tuple_of.at_) fd) : FnG P w K mg base (L2.CX P w) 1 (He.fAd K d_is_tuple_of.at_) fd ["thing", "many"] (spD ⟨K, mg⟩ F_is_tuple_of) := by
  have S := sc_is_tuple_of
  exact def_ok (C := ⟨K, mg⟩) 2 F S rfl fun cdv A outer s0 H E hr =>
    (s_one (s_ret (d_and (d_isi m.fr_isinstance (a_cons (dv 0) (a_cons (d_ty m.fr_tuple rfl (by decide +kernel)) a_nil))) (d_one (d_eq hr.r (d_len m.fr_len (a_cons (dv 0) a_nil)) (dv 1))))))
theorem Md.ok_is_tuple_of {P : Program} {w : World} {K : PySem.W.Frag} {mg : Str → Option Value} {base : Heap} (m : Md K mg base) : DefOk P w ⟨K, mg⟩ base "is_tuple_of" 1 F_is_tuple_of := by
  obtain ⟨fd, F⟩ := m.says.def_ 2 (d := d_is_tuple_of) rfl
  exact DefOk.mk0 (C := ⟨K, mg⟩) (He.glo_ok m.kin m.ns (m.says.fact 2 (f := .glo "is_tuple_of") rfl)) F.kp (F.bindsN fun _ _ _ _ _ _ us hl => match us, hl with | [_, _], _ => rfl) (m.fo_is_tuple_of F)
def N_is_place : List Str := ["thing", "part"]
theorem sc_is_place : FnScope N_is_place ["thing"] (defScope (top 16)) := ⟨rfl, rfl, rfl, by decide +kernel, rfl, by decide +kernel, by decide +kernel⟩
noncomputable def b_is_place : SS := (retS (andV (callS F_is_tuple_of (consA (varS 0) (consA (cS (.int 2)) nilA))) (callV allM (consA (lcS (iseqS (varS 0)) (.nm 1) [1] yesT (callS F_is_name (consA (varS 1) nilA))) nilA))))
noncomputable def F_is_place : SF := lenF 1 (fnS 2 b_is_place)
theorem Md.fo_is_place {P : Program} {w : World} {K : PySem.W.Frag} {mg : Str → Option Value} {base : Heap} (m : Md K mg base) {fd : FuncData} (F : FunD K d_is_place.name d_is_place.qual d_is_place.params d_is_place.body d_is_place.scope (d_is_place.dvs K) (d_is_place.kws K) (He.fAd K d_is_place.at_) fd) : FnG P w K mg base (L2.CX P w) 2 (He.fAd K d_is_place.at_) fd ["thing"] (spD ⟨K, mg⟩ F_is_place) := by
  have S := sc_is_place
  exact def_ok (C := ⟨K, mg⟩) 2 F S rfl fun cdv A outer s0 H E hr =>
    (s_one (s_ret (d_and (d_call m.ok_is_tuple_of (hr.mono (by decide)) takesD (a_cons (dv 0) (a_cons d_int a_nil))) (d_one (d_all rfl m.fr_all (a_cons (d_lc (own := [("part", 1)]) rfl S.nd (blkOk_by (own := [("part", 1)]) (N := N_is_place) (sc := defScope (top 16)) (by decide +kernel)) (by simp [Tg.ix, Tg.ixs]) (i_seq (dv 0)) (fun _ _ _ _ _ => (g_nm S.nd)) (fun _ _ _ _ _ => ts_nil) (fun _ _ _ _ _ => (d_call m.ok_is_name (hr.mono (by decide)) takesW0 (a_cons (dv 1) a_nil)))) a_nil))))))
theorem Md.ok_is_place {P : Program} {w : World} {K : PySem.W.Frag} {mg : Str → Option Value} {base : Heap} (m : Md K mg base) : DefOk P w ⟨K, mg⟩ base "is_place" 2 F_is_place := by
  obtain ⟨fd, F⟩ := m.says.def_ 3 (d := d_is_place) rfl
  exact DefOk.mk0 (C := ⟨K, mg⟩) (He.glo_ok m.kin m.ns (m.says.fact 3 (f := .glo "is_place") rfl)) F.kp (F.bindsN fun _ _ _ _ _ _ us hl => match us, hl with | [_], _ => rfl) (m.fo_is_place F)
def N_are_places : List Str := ["thing", "one"]
theorem sc_are_places : FnScope N_are_places ["thing"] (defScope (top 17)) := ⟨rfl, rfl, rfl, by decide +kernel, rfl, by decide +kernel, by decide +kernel⟩
noncomputable def b_are_places : SS := (seqS (ifS (orT (notT (asT (callV isiM (consA (varS 0) (consA (cS (.ty "list")) nilA))))) (notT (asT (callV allM (consA (lcS (iseqS (varS 0)) (.nm 1) [1] yesT (callS F_is_place (consA (varS 1) nilA))) nilA))))) (retS (cS (.bl false))) nextS)
    (retS (op2 eqM (op1 lenSetM (varS 0)) (callV lenM (consA (varS 0) nilA)))))
noncomputable def F_are_places : SF := lenF 1 (fnS 2 b_are_places)
theorem Md.fo_are_places {P : Program} {w : World} {K : PySem.W.Frag} {mg : Str → Option Value} {base : Heap} (m : Md K mg base) {fd : FuncData} (F : FunD K d_are_places.name d_are_places.qual d_are_places.params d_are_places.body d_are_places.scope (d_are_places.dvs K) (d_are_places.kws K) (He.fAd K d_are_places.at_) fd) : FnG P w K mg base (L2.CX P w) 3 (He.fAd K d_are_places.at_) fd ["thing"] (spD ⟨K, mg⟩ F_are_places) := by
  have S := sc_are_places
  exact def_ok (C := ⟨K, mg⟩) 2 F S rfl fun cdv A outer s0 H E hr =>
    (s_cons (s_if (t_of (w_or (t_not (t_val (d_isi m.fr_isinstance (a_cons (dv 0) (a_cons (d_ty m.fr_list rfl (by decide +kernel)) a_nil))))) (w_or1 (t_not (t_val (d_all rfl m.fr_all (a_cons (d_lc (own := [("one", 1)]) rfl S.nd (blkOk_by (own := [("one", 1)]) (N := N_are_places) (sc := defScope (top 17)) (by decide +kernel)) (by simp [Tg.ix, Tg.ixs]) (i_seq (dv 0)) (fun _ _ _ _ _ => (g_nm S.nd)) (fun _ _ _ _ _ => ts_nil) (fun _ _ _ _ _ => (d_call m.ok_is_place (hr.mono (by decide)) takesW0 (a_cons (dv 1) a_nil)))) a_nil))))))) (s_one (s_ret d_bl)) s_nil)
    (s_one (s_ret (d_eq hr.r (d_lenSet rfl hr.r m.fr_len m.fr_set (dv 0)) (d_len m.fr_len (a_cons (dv 0) a_nil))))))
theorem Md.ok_are_places {P : Program} {w : World} {K : PySem.W.Frag} {mg : Str → Option Value} {base : Heap} (m : Md K mg base) : DefOk P w ⟨K, mg⟩ base "are_places" 3 F_are_places := by
  obtain ⟨fd, F⟩ := m.says.def_ 4 (d := d_are_places) rfl
  exact DefOk.mk0 (C := ⟨K, mg⟩) (He.glo_ok m.kin m.ns (m.says.fact 4 (f := .glo "are_places") rfl)) F.kp (F.bindsN fun _ _ _ _ _ _ us hl => match us, hl with | [_], _ => rfl) (m.fo_are_places F)
def N_are_premises : List Str := ["thing"]
theorem sc_are_premises : FnScope N_are_premises ["thing"] (defScope (top 18)) := ⟨rfl, rfl, rfl, by decide +kernel, rfl, by decide +kernel, by decide +kernel⟩
noncomputable def b_are_premises : SS := (retS (andV (callS F_are_places (consA (varS 0) nilA)) (chS leM leM (cS (.int 1)) (callV lenM (consA (varS 0) nilA)) (cS (.int 8)))))
noncomputable def F_are_premises : SF := lenF 1 (fnS 1 b_are_premises)
theorem Md.fo_are_premises {P : Program} {w : World} {K : PySem.W.Frag} {mg : Str → Option Value} {base : Heap} (m : Md K mg base) {fd : FuncData} (F : FunD K d_are_premises.name d_are_premises.qual d_are_premises.params d_are_premises.body d_are_premises.scope (d_are_premises.dvs K) (d_are_premises.kws K) (He.fAd K d_are_premises.at_) fd) : FnG P w K mg base (L2.CX P w) 4 (He.fAd K d_are_premises.at_) fd ["thing"] (spD ⟨K, mg⟩ F_are_premises) := by
  have S := sc_are_premises
  exact def_ok (C := ⟨K, mg⟩) 1 F S rfl fun cdv A outer s0 H E hr =>
    (s_one (s_ret (d_and (d_call m.ok_are_places (hr.mono (by decide)) takesD (a_cons (dv 0) a_nil)) (d_one (d_lele d_int (d_len m.fr_len (a_cons (dv 0) a_nil)) (d_gl (m.gd_MOST_PREMISES) rfl))))))
theorem Md.ok_are_premises {P : Program} {w : World} {K : PySem.W.Frag} {mg : Str → Option Value} {base : Heap} (m : Md K mg base) : DefOk P w ⟨K, mg⟩ base "are_premises" 4 F_are_premises := by
  obtain ⟨fd, F⟩ := m.says.def_ 5 (d := d_are_premises) rfl
  exact DefOk.mk0 (C := ⟨K, mg⟩) (He.glo_ok m.kin m.ns (m.says.fact 5 (f := .glo "are_premises") rfl)) F.kp (F.bindsN fun _ _ _ _ _ _ us hl => match us, hl with | [_], _ => rfl) (m.fo_are_premises F)
def N_is_rule : List Str := ["thing", "hand", "saying", "cost", "premises"]
theorem sc_is_rule : FnScope N_is_rule ["thing"] (defScope (top 19)) := ⟨rfl, rfl, rfl, by decide +kernel, rfl, by decide +kernel, by decide +kernel⟩
noncomputable def b_is_rule : SS := (seqS (ifS (notT (asT (callS F_is_tuple_of (consA (varS 0) (consA (cS (.int 4)) nilA))))) (retS (cS (.bl false))) nextS)
    (seqS (asgS (.tp [.nm 1, .nm 2, .nm 3, .nm 4]) (varS 0))
    (retS (andV (callS F_is_name (consA (varS 1) nilA)) (andV (callS F_is_name (consA (varS 2) nilA)) (andV (callS F_is_count (consA (varS 3) (consA (cS (.int 1)) nilA))) (callS F_are_premises (consA (varS 4) nilA))))))))
noncomputable def F_is_rule : SF := lenF 1 (fnS 5 b_is_rule)
theorem Md.fo_is_rule {P : Program} {w : World} {K : PySem.W.Frag} {mg : Str → Option Value} {base : Heap} (m : Md K mg base) {fd : FuncData} (F : FunD K d_is_rule.name d_is_rule.qual d_is_rule.params d_is_rule.body d_is_rule.scope (d_is_rule.dvs K) (d_is_rule.kws K) (He.fAd K d_is_rule.at_) fd) : FnG P w K mg base (L2.CX P w) 5 (He.fAd K d_is_rule.at_) fd ["thing"] (spD ⟨K, mg⟩ F_is_rule) := by
  have S := sc_is_rule
  exact def_ok (C := ⟨K, mg⟩) 5 F S rfl fun cdv A outer s0 H E hr =>
    (s_cons (s_if (t_not (t_val (d_call m.ok_is_tuple_of (hr.mono (by decide)) takesD (a_cons (dv 0) (a_cons d_int a_nil))))) (s_one (s_ret d_bl)) s_nil)
    (s_cons (s_asg (dv 0) (g_tp rfl (gs_cons (g_nm S.nd) (gs_cons (g_nm S.nd) (gs_cons (g_nm S.nd) (gs_cons (g_nm S.nd) gs_nil))))))
    (s_one (s_ret (d_and (d_call m.ok_is_name (hr.mono (by decide)) takesD (a_cons (dv 1) a_nil)) (d_and (d_call m.ok_is_name (hr.mono (by decide)) takesD (a_cons (dv 2) a_nil)) (d_and (d_call m.ok_is_count (hr.mono (by decide)) takesD (a_cons (dv 3) (a_cons d_int a_nil))) (d_one (d_call m.ok_are_premises (hr.mono (by decide)) takesD (a_cons (dv 4) a_nil))))))))))
theorem Md.ok_is_rule {P : Program} {w : World} {K : PySem.W.Frag} {mg : Str → Option Value} {base : Heap} (m : Md K mg base) : DefOk P w ⟨K, mg⟩ base "is_rule" 5 F_is_rule := by
  obtain ⟨fd, F⟩ := m.says.def_ 6 (d := d_is_rule) rfl
  exact DefOk.mk0 (C := ⟨K, mg⟩) (He.glo_ok m.kin m.ns (m.says.fact 6 (f := .glo "is_rule") rfl)) F.kp (F.bindsN fun _ _ _ _ _ _ us hl => match us, hl with | [_], _ => rfl) (m.fo_is_rule F)
def N_is_road : List Str := ["thing"]
theorem sc_is_road : FnScope N_is_road ["thing"] (defScope (top 20)) := ⟨rfl, rfl, rfl, by decide +kernel, rfl, by decide +kernel, by decide +kernel⟩
noncomputable def b_is_road : SS := (retS (andV (callS F_is_place (consA (varS 0) nilA)) (op2 ltM (op2 ixM (varS 0) (cS (.int 0))) (op2 ixM (varS 0) (cS (.int 1))))))
noncomputable def F_is_road : SF := lenF 1 (fnS 1 b_is_road)
theorem Md.fo_is_road {P : Program} {w : World} {K : PySem.W.Frag} {mg : Str → Option Value} {base : Heap} (m : Md K mg base) {fd : FuncData} (F : FunD K d_is_road.name d_is_road.qual d_is_road.params d_is_road.body d_is_road.scope (d_is_road.dvs K) (d_is_road.kws K) (He.fAd K d_is_road.at_) fd) : FnG P w K mg base (L2.CX P w) 3 (He.fAd K d_is_road.at_) fd ["thing"] (spD ⟨K, mg⟩ F_is_road) := by
  have S := sc_is_road
  exact def_ok (C := ⟨K, mg⟩) 1 F S rfl fun cdv A outer s0 H E hr =>
    (s_one (s_ret (d_and (d_call m.ok_is_place (hr.mono (by decide)) takesD (a_cons (dv 0) a_nil)) (d_one (d_lt (d_ix (dv 0) d_int (fun _ _ => rfl)) (d_ix (dv 0) d_int (fun _ _ => rfl)))))))
theorem Md.ok_is_road {P : Program} {w : World} {K : PySem.W.Frag} {mg : Str → Option Value} {base : Heap} (m : Md K mg base) : DefOk P w ⟨K, mg⟩ base "is_road" 3 F_is_road := by
  obtain ⟨fd, F⟩ := m.says.def_ 7 (d := d_is_road) rfl
  exact DefOk.mk0 (C := ⟨K, mg⟩) (He.glo_ok m.kin m.ns (m.says.fact 7 (f := .glo "is_road") rfl)) F.kp (F.bindsN fun _ _ _ _ _ _ us hl => match us, hl with | [_], _ => rfl) (m.fo_is_road F)
def N_is_world : List Str := ["thing", "vouched", "rules", "roads", "rule", "road"]
theorem sc_is_world : FnScope N_is_world ["thing"] (defScope (top 21)) := ⟨rfl, rfl, rfl, by decide +kernel, rfl, by decide +kernel, by decide +kernel⟩
noncomputable def b_is_world : SS := (seqS (ifS (notT (asT (callS F_is_tuple_of (consA (varS 0) (consA (cS (.int 3)) nilA))))) (retS (cS (.bl false))) nextS)
    (seqS (asgS (.tp [.nm 1, .nm 2, .nm 3]) (varS 0))
    (seqS (ifS (orT (notT (asT (callS F_are_places (consA (varS 1) nilA)))) (orT (notT (asT (callV isiM (consA (varS 2) (consA (cS (.ty "list")) nilA))))) (notT (asT (callV isiM (consA (varS 3) (consA (cS (.ty "list")) nilA))))))) (retS (cS (.bl false))) nextS)
    (seqS (ifS (orT (notT (asT (callV allM (consA (lcS (iseqS (varS 2)) (.nm 4) [4] yesT (callS F_is_rule (consA (varS 4) nilA))) nilA)))) (notT (asT (callV allM (consA (lcS (iseqS (varS 3)) (.nm 5) [5] yesT (callS F_is_road (consA (varS 5) nilA))) nilA))))) (retS (cS (.bl false))) nextS)
    (retS (op2 eqM (op1 lenSetM (varS 3)) (callV lenM (consA (varS 3) nilA))))))))
noncomputable def F_is_world : SF := lenF 1 (fnS 6 b_is_world)
theorem Md.fo_is_world {P : Program} {w : World} {K : PySem.W.Frag} {mg : Str → Option Value} {base : Heap} (m : Md K mg base) {fd : FuncData} (F : FunD K d_is_world.name d_is_world.qual d_is_world.params d_is_world.body d_is_world.scope (d_is_world.dvs K) (d_is_world.kws K) (He.fAd K d_is_world.at_) fd) : FnG P w K mg base (L2.CX P w) 6 (He.fAd K d_is_world.at_) fd ["thing"] (spD ⟨K, mg⟩ F_is_world) := by
  have S := sc_is_world
  exact def_ok (C := ⟨K, mg⟩) 6 F S rfl fun cdv A outer s0 H E hr =>
    (s_cons (s_if (t_not (t_val (d_call m.ok_is_tuple_of (hr.mono (by decide)) takesD (a_cons (dv 0) (a_cons d_int a_nil))))) (s_one (s_ret d_bl)) s_nil)
    (s_cons (s_asg (dv 0) (g_tp rfl (gs_cons (g_nm S.nd) (gs_cons (g_nm S.nd) (gs_cons (g_nm S.nd) gs_nil)))))
    (s_cons (s_if (t_of (w_or (t_not (t_val (d_call m.ok_are_places (hr.mono (by decide)) takesD (a_cons (dv 1) a_nil)))) (w_or (t_not (t_val (d_isi m.fr_isinstance (a_cons (dv 2) (a_cons (d_ty m.fr_list rfl (by decide +kernel)) a_nil))))) (w_or1 (t_not (t_val (d_isi m.fr_isinstance (a_cons (dv 3) (a_cons (d_ty m.fr_list rfl (by decide +kernel)) a_nil))))))))) (s_one (s_ret d_bl)) s_nil)
    (s_cons (s_if (t_of (w_or (t_not (t_val (d_all rfl m.fr_all (a_cons (d_lc (own := [("rule", 4)]) rfl S.nd (blkOk_by (own := [("rule", 4)]) (N := N_is_world) (sc := defScope (top 21)) (by decide +kernel)) (by simp [Tg.ix, Tg.ixs]) (i_seq (dv 2)) (fun _ _ _ _ _ => (g_nm S.nd)) (fun _ _ _ _ _ => ts_nil) (fun _ _ _ _ _ => (d_call m.ok_is_rule (hr.mono (by decide)) takesW0 (a_cons (dv 4) a_nil)))) a_nil)))) (w_or1 (t_not (t_val (d_all rfl m.fr_all (a_cons (d_lc (own := [("road", 5)]) rfl S.nd (blkOk_by (own := [("road", 5)]) (N := N_is_world) (sc := defScope (top 21)) (by decide +kernel)) (by simp [Tg.ix, Tg.ixs]) (i_seq (dv 3)) (fun _ _ _ _ _ => (g_nm S.nd)) (fun _ _ _ _ _ => ts_nil) (fun _ _ _ _ _ => (d_call m.ok_is_road (hr.mono (by decide)) takesW0 (a_cons (dv 5) a_nil)))) a_nil))))))) (s_one (s_ret d_bl)) s_nil)
    (s_one (s_ret (d_eq hr.r (d_lenSet rfl hr.r m.fr_len m.fr_set (dv 3)) (d_len m.fr_len (a_cons (dv 3) a_nil)))))))))
theorem Md.ok_is_world {P : Program} {w : World} {K : PySem.W.Frag} {mg : Str → Option Value} {base : Heap} (m : Md K mg base) : DefOk P w ⟨K, mg⟩ base "is_world" 6 F_is_world := by
  obtain ⟨fd, F⟩ := m.says.def_ 8 (d := d_is_world) rfl
  exact DefOk.mk0 (C := ⟨K, mg⟩) (He.glo_ok m.kin m.ns (m.says.fact 8 (f := .glo "is_world") rfl)) F.kp (F.bindsN fun _ _ _ _ _ _ us hl => match us, hl with | [_], _ => rfl) (m.fo_is_world F)
def N_need_world : List Str := ["thing"]
theorem sc_need_world : FnScope N_need_world ["thing"] (defScope (top 22)) := ⟨rfl, rfl, rfl, by decide +kernel, rfl, by decide +kernel, by decide +kernel⟩
noncomputable def b_need_world : SS := (ifS (notT (asT (callS F_is_world (consA (varS 0) nilA)))) badS nextS)
noncomputable def F_need_world : SF := lenF 1 (fnS 1 b_need_world)
theorem Md.fo_need_world {P : Program} {w : World} {K : PySem.W.Frag} {mg : Str → Option Value} {base : Heap} (m : Md K mg base) {fd : FuncData} (F : FunD K d_need_world.name d_need_world.qual d_need_world.params d_need_world.body d_need_world.scope (d_need_world.dvs K) (d_need_world.kws K) (He.fAd K d_need_world.at_) fd) : FnG P w K mg base (L2.CX P w) 7 (He.fAd K d_need_world.at_) fd ["thing"] (spD ⟨K, mg⟩ F_need_world) := by
  have S := sc_need_world
  exact def_ok (C := ⟨K, mg⟩) 1 F S rfl fun cdv A outer s0 H E hr =>
    (s_one (s_if (t_not (t_val (d_call m.ok_is_world (hr.mono (by decide)) takesD (a_cons (dv 0) a_nil)))) (s_one s_bad) s_nil))
theorem Md.ok_need_world {P : Program} {w : World} {K : PySem.W.Frag} {mg : Str → Option Value} {base : Heap} (m : Md K mg base) : DefOk P w ⟨K, mg⟩ base "need_world" 7 F_need_world := by
  obtain ⟨fd, F⟩ := m.says.def_ 9 (d := d_need_world) rfl
  exact DefOk.mk0 (C := ⟨K, mg⟩) (He.glo_ok m.kin m.ns (m.says.fact 9 (f := .glo "need_world") rfl)) F.kp (F.bindsN fun _ _ _ _ _ _ us hl => match us, hl with | [_], _ => rfl) (m.fo_need_world F)
def N_need_place : List Str := ["thing"]
theorem sc_need_place : FnScope N_need_place ["thing"] (defScope (top 23)) := ⟨rfl, rfl, rfl, by decide +kernel, rfl, by decide +kernel, by decide +kernel⟩
noncomputable def b_need_place : SS := (ifS (notT (asT (callS F_is_place (consA (varS 0) nilA)))) badS nextS)
noncomputable def F_need_place : SF := lenF 1 (fnS 1 b_need_place)
theorem Md.fo_need_place {P : Program} {w : World} {K : PySem.W.Frag} {mg : Str → Option Value} {base : Heap} (m : Md K mg base) {fd : FuncData} (F : FunD K d_need_place.name d_need_place.qual d_need_place.params d_need_place.body d_need_place.scope (d_need_place.dvs K) (d_need_place.kws K) (He.fAd K d_need_place.at_) fd) : FnG P w K mg base (L2.CX P w) 3 (He.fAd K d_need_place.at_) fd ["thing"] (spD ⟨K, mg⟩ F_need_place) := by
  have S := sc_need_place
  exact def_ok (C := ⟨K, mg⟩) 1 F S rfl fun cdv A outer s0 H E hr =>
    (s_one (s_if (t_not (t_val (d_call m.ok_is_place (hr.mono (by decide)) takesD (a_cons (dv 0) a_nil)))) (s_one s_bad) s_nil))
theorem Md.ok_need_place {P : Program} {w : World} {K : PySem.W.Frag} {mg : Str → Option Value} {base : Heap} (m : Md K mg base) : DefOk P w ⟨K, mg⟩ base "need_place" 3 F_need_place := by
  obtain ⟨fd, F⟩ := m.says.def_ 10 (d := d_need_place) rfl
  exact DefOk.mk0 (C := ⟨K, mg⟩) (He.glo_ok m.kin m.ns (m.says.fact 10 (f := .glo "need_place") rfl)) F.kp (F.bindsN fun _ _ _ _ _ _ us hl => match us, hl with | [_], _ => rfl) (m.fo_need_place F)
def N_is_near : List Str := ["roads", "hand", "other"]
theorem sc_is_near : FnScope N_is_near ["roads", "hand", "other"] (defScope (top 24)) := ⟨rfl, rfl, rfl, by decide +kernel, rfl, by decide +kernel, by decide +kernel⟩
noncomputable def b_is_near : SS := (retS (orV (op2 eqM (varS 1) (varS 2)) (op2 inM (tupS (consA (callV min2TM (consA (varS 1) (consA (varS 2) nilA))) (consA (callV max2TM (consA (varS 1) (consA (varS 2) nilA))) nilA))) (varS 0))))
noncomputable def F_is_near : SF := lenF 3 (fnS 3 b_is_near)
theorem Md.fo_is_near {P : Program} {w : World} {K : PySem.W.Frag} {mg : Str → Option Value} {base : Heap} (m : Md K mg base) {fd : FuncData} (F : FunD K d_is_near.name d_is_near.qual d_is_near.params d_is_near.body d_is_near.scope (d_is_near.dvs K) (d_is_near.kws K) (He.fAd K d_is_near.at_) fd) : FnG P w K mg base (L2.CX P w) 1 (He.fAd K d_is_near.at_) fd ["roads", "hand", "other"] (spD ⟨K, mg⟩ F_is_near) := by
  have S := sc_is_near
  exact def_ok (C := ⟨K, mg⟩) 3 F S rfl fun cdv A outer s0 H E hr =>
    (s_one (s_ret (d_or (d_eq hr.r (dv 1) (dv 2)) (d_one (d_in hr.r (d_tup (a_cons (d_min2T rfl m.fr_min (a_cons (dv 1) (a_cons (dv 2) a_nil))) (a_cons (d_max2T rfl m.fr_max (a_cons (dv 1) (a_cons (dv 2) a_nil))) a_nil))) (dv 0))))))
theorem Md.ok_is_near {P : Program} {w : World} {K : PySem.W.Frag} {mg : Str → Option Value} {base : Heap} (m : Md K mg base) : DefOk P w ⟨K, mg⟩ base "is_near" 1 F_is_near := by
  obtain ⟨fd, F⟩ := m.says.def_ 11 (d := d_is_near) rfl
  exact DefOk.mk0 (C := ⟨K, mg⟩) (He.glo_ok m.kin m.ns (m.says.fact 11 (f := .glo "is_near") rfl)) F.kp (F.bindsN fun _ _ _ _ _ _ us hl => match us, hl with | [_, _, _], _ => rfl) (m.fo_is_near F)
def N_named : List Str := ["world", "found", "hand", "saying", "cost", "premises", "place"]
theorem sc_named : FnScope N_named ["world"] (defScope (top 25)) := ⟨rfl, rfl, rfl, by decide +kernel, rfl, by decide +kernel, by decide +kernel⟩
noncomputable def b_named : SS := (seqS (exprS (callS F_need_world (consA (varS 0) nilA)))
    (seqS (setS 1 (dcS (.dT []) (iseqS (op2 ixM (varS 0) (cS (.int 0)))) (.nm 6) [6] yesT (varS 6) (cS (.bl true))))
    (seqS (forS (iseqS (op2 ixM (varS 0) (cS (.int 1)))) (.tp [.nm 2, .nm 3, .nm 4, .nm 5]) (forS (iseqS (op2 addM (lstS (consA (tupS (consA (varS 2) (consA (varS 3) nilA))) nilA)) (varS 5))) (.nm 6) (dputS (varS 1) (varS 6) (cS (.bl true)))))
    (retS (callV sortTM (consA (varS 1) nilA))))))
noncomputable def F_named : SF := lenF 1 (fnS 7 b_named)
theorem Md.fo_named {P : Program} {w : World} {K : PySem.W.Frag} {mg : Str → Option Value} {base : Heap} (m : Md K mg base) {fd : FuncData} (F : FunD K d_named.name d_named.qual d_named.params d_named.body d_named.scope (d_named.dvs K) (d_named.kws K) (He.fAd K d_named.at_) fd) : FnG P w K mg base (L2.CX P w) 8 (He.fAd K d_named.at_) fd ["world"] (spD ⟨K, mg⟩ F_named) := by
  have S := sc_named
  exact def_ok (C := ⟨K, mg⟩) 7 F S rfl fun cdv A outer s0 H E hr =>
    (s_cons (s_expr (d_call m.ok_need_world (hr.mono (by decide)) takesD (a_cons (dv 0) a_nil)))
    (s_cons (s_setDc (i := 1) hr.r (m0 := .dT []) (o0 := .dT []) (own := [("place", 6)]) (.inr ⟨rfl, rfl⟩) rfl S.nd (sw_trueD rfl rfl rfl (by decide +kernel)) (blkOk_by (own := [("place", 6)]) (N := N_named) (sc := defScope (top 25)) (by decide +kernel)) (by simp [Tg.ix, Tg.ixs]) (i_seq (d_ix (dv 0) d_int (fun _ _ => rfl))) (fun _ _ _ _ _ => (g_nm S.nd)) (fun _ _ _ _ _ => ts_nil) (fun _ _ _ _ _ => (dv 6)) (fun _ _ _ _ _ => d_bl))
    (s_cons (s_for passesD rfl (i_seq (d_ix (dv 0) d_int (fun _ _ => rfl))) (g_tp rfl (gs_cons (g_nm S.nd) (gs_cons (g_nm S.nd) (gs_cons (g_nm S.nd) (gs_cons (g_nm S.nd) gs_nil))))) (s_one (s_for passesD rfl (i_seq (d_add (d_lst (a_cons (d_tup (a_cons (dv 2) (a_cons (dv 3) a_nil))) a_nil)) (dv 5))) (g_nm S.nd) (s_one (s_dput hr.r d_bl (dv 1) (dv 6))))))
    (s_one (s_ret (d_sortedT hr rfl m.fr_sorted (a_cons (dv 1) a_nil)))))))
theorem Md.ok_named {P : Program} {w : World} {K : PySem.W.Frag} {mg : Str → Option Value} {base : Heap} (m : Md K mg base) : DefOk P w ⟨K, mg⟩ base "named" 8 F_named := by
  obtain ⟨fd, F⟩ := m.says.def_ 12 (d := d_named) rfl
  exact DefOk.mk0 (C := ⟨K, mg⟩) (He.glo_ok m.kin m.ns (m.says.fact 12 (f := .glo "named") rfl)) F.kp (F.bindsN fun _ _ _ _ _ _ us hl => match us, hl with | [_], _ => rfl) (m.fo_named F)
def N_need_kind : List Str := ["is_one"]
theorem sc_need_kind : FnScope N_need_kind ["is_one"] (defScope (top 28)) := ⟨rfl, rfl, rfl, by decide +kernel, rfl, by decide +kernel, by decide +kernel⟩
noncomputable def b_need_kind : SS := (ifS (notT (asT (varS 0))) badS nextS)
noncomputable def F_need_kind : SF := lenF 1 (fnS 1 b_need_kind)
theorem Md.fo_need_kind {P : Program} {w : World} {K : PySem.W.Frag} {mg : Str → Option Value} {base : Heap} (m : Md K mg base) {fd : FuncData} (F : FunD K d_need_kind.name d_need_kind.qual d_need_kind.params d_need_kind.body d_need_kind.scope (d_need_kind.dvs K) (d_need_kind.kws K) (He.fAd K d_need_kind.at_) fd) : FnG P w K mg base (L2.CX P w) 1 (He.fAd K d_need_kind.at_) fd ["is_one"] (spD ⟨K, mg⟩ F_need_kind) := by
  have S := sc_need_kind
  exact def_ok (C := ⟨K, mg⟩) 1 F S rfl fun cdv A outer s0 H E hr =>
    (s_one (s_if (t_not (t_val (dv 0))) (s_one s_bad) s_nil))
theorem Md.ok_need_kind {P : Program} {w : World} {K : PySem.W.Frag} {mg : Str → Option Value} {base : Heap} (m : Md K mg base) : DefOk P w ⟨K, mg⟩ base "need_kind" 1 F_need_kind := by
  obtain ⟨fd, F⟩ := m.says.def_ 13 (d := d_need_kind) rfl
  exact DefOk.mk0 (C := ⟨K, mg⟩) (He.glo_ok m.kin m.ns (m.says.fact 13 (f := .glo "need_kind") rfl)) F.kp (F.bindsN fun _ _ _ _ _ _ us hl => match us, hl with | [_], _ => rfl) (m.fo_need_kind F)
def N_words_of : List Str := ["text"]
theorem sc_words_of : FnScope N_words_of ["text"] (defScope (top 29)) := ⟨rfl, rfl, rfl, by decide +kernel, rfl, by decide +kernel, by decide +kernel⟩
noncomputable def b_words_of : SS := (seqS (exprS (callS F_need_kind (consA (callV isiM (consA (varS 0) (consA (cS (.ty "str")) nilA))) nilA)))
    (retS (m1S splitM (varS 0) (cS (.str " ")))))
noncomputable def F_words_of : SF := lenF 1 (fnS 1 b_words_of)
theorem Md.fo_words_of {P : Program} {w : World} {K : PySem.W.Frag} {mg : Str → Option Value} {base : Heap} (m : Md K mg base) {fd : FuncData} (F : FunD K d_words_of.name d_words_of.qual d_words_of.params d_words_of.body d_words_of.scope (d_words_of.dvs K) (d_words_of.kws K) (He.fAd K d_words_of.at_) fd) : FnG P w K mg base (L2.CX P w) 2 (He.fAd K d_words_of.at_) fd ["text"] (spD ⟨K, mg⟩ F_words_of) := by
  have S := sc_words_of
  exact def_ok (C := ⟨K, mg⟩) 1 F S rfl fun cdv A outer s0 H E hr =>
    (s_cons (s_expr (d_call m.ok_need_kind (hr.mono (by decide)) takesD (a_cons (d_isi m.fr_isinstance (a_cons (dv 0) (a_cons (d_ty m.fr_str rfl (by decide +kernel)) a_nil))) a_nil)))
    (s_one (s_ret (d_split (dv 0) d_str))))
theorem Md.ok_words_of {P : Program} {w : World} {K : PySem.W.Frag} {mg : Str → Option Value} {base : Heap} (m : Md K mg base) : DefOk P w ⟨K, mg⟩ base "words_of" 2 F_words_of := by
  obtain ⟨fd, F⟩ := m.says.def_ 14 (d := d_words_of) rfl
  exact DefOk.mk0 (C := ⟨K, mg⟩) (He.glo_ok m.kin m.ns (m.says.fact 14 (f := .glo "words_of") rfl)) F.kp (F.bindsN fun _ _ _ _ _ _ us hl => match us, hl with | [_], _ => rfl) (m.fo_words_of F)
def N_number_in : List Str := ["word", "sign"]
theorem sc_number_in : FnScope N_number_in ["word"] (defScope (top 30)) := ⟨rfl, rfl, rfl, by decide +kernel, rfl, by decide +kernel, by decide +kernel⟩
noncomputable def b_number_in : SS := (seqS (ifS (orT (asT (op2 eqM (varS 0) (cS (.str "")))) (orT (notT (asT (callV allM (consA (lcS (istrS (varS 0)) (.nm 1) [1] yesT (op2 inM (varS 1) (cS (.str "0123456789")))) nilA)))) (andT (asT (op2 eqM (op2 ixM (varS 0) (cS (.int 0))) (cS (.str "0")))) (asT (op2 neM (varS 0) (cS (.str "0"))))))) (retS (cS .non)) nextS)
    (retS (callV intM (consA (varS 0) nilA))))
noncomputable def F_number_in : SF := lenF 1 (fnS 2 b_number_in)
theorem Md.fo_number_in {P : Program} {w : World} {K : PySem.W.Frag} {mg : Str → Option Value} {base : Heap} (m : Md K mg base) {fd : FuncData} (F : FunD K d_number_in.name d_number_in.qual d_number_in.params d_number_in.body d_number_in.scope (d_number_in.dvs K) (d_number_in.kws K) (He.fAd K d_number_in.at_) fd) : FnG P w K mg base (L2.CX P w) 1 (He.fAd K d_number_in.at_) fd ["word"] (spD ⟨K, mg⟩ F_number_in) := by
  have S := sc_number_in
  exact def_ok (C := ⟨K, mg⟩) 2 F S rfl fun cdv A outer s0 H E hr =>
    (s_cons (s_if (t_of (w_or (t_eq hr.r (dv 0) d_str) (w_or (t_not (t_val (d_all rfl m.fr_all (a_cons (d_lc (own := [("sign", 1)]) rfl S.nd (blkOk_by (own := [("sign", 1)]) (N := N_number_in) (sc := defScope (top 30)) (by decide +kernel)) (by simp [Tg.ix, Tg.ixs]) (i_str (dv 0)) (fun _ _ _ _ _ => (g_nm S.nd)) (fun _ _ _ _ _ => ts_nil) (fun _ _ _ _ _ => (d_in hr.r (dv 1) (d_gl (m.gd_FIGURES) rfl)))) a_nil)))) (w_or1 (t_of (w_and (t_eq hr.r (d_ix (dv 0) d_int (fun _ _ => rfl)) d_str) (w_and1 (t_ne hr.r (dv 0) d_str)))))))) (s_one (s_ret d_non)) s_nil)
    (s_one (s_ret (d_intc m.dig m.fr_int (a_cons (dv 0) a_nil)))))
theorem Md.ok_number_in {P : Program} {w : World} {K : PySem.W.Frag} {mg : Str → Option Value} {base : Heap} (m : Md K mg base) : DefOk P w ⟨K, mg⟩ base "number_in" 1 F_number_in := by
  obtain ⟨fd, F⟩ := m.says.def_ 15 (d := d_number_in) rfl
  exact DefOk.mk0 (C := ⟨K, mg⟩) (He.glo_ok m.kin m.ns (m.says.fact 15 (f := .glo "number_in") rfl)) F.kp (F.bindsN fun _ _ _ _ _ _ us hl => match us, hl with | [_], _ => rfl) (m.fo_number_in F)
def N_place_in : List Str := ["word", "place"]
theorem sc_place_in : FnScope N_place_in ["word"] (defScope (top 31)) := ⟨rfl, rfl, rfl, by decide +kernel, rfl, by decide +kernel, by decide +kernel⟩
noncomputable def b_place_in : SS := (seqS (setS 1 (callV tupleM (consA (m1S splitM (varS 0) (cS (.str "."))) nilA)))
    (retS (ifE (asT (callS F_is_place (consA (varS 1) nilA))) (varS 1) (cS .non))))
noncomputable def F_place_in : SF := lenF 1 (fnS 2 b_place_in)
theorem Md.fo_place_in {P : Program} {w : World} {K : PySem.W.Frag} {mg : Str → Option Value} {base : Heap} (m : Md K mg base) {fd : FuncData} (F : FunD K d_place_in.name d_place_in.qual d_place_in.params d_place_in.body d_place_in.scope (d_place_in.dvs K) (d_place_in.kws K) (He.fAd K d_place_in.at_) fd) : FnG P w K mg base (L2.CX P w) 3 (He.fAd K d_place_in.at_) fd ["word"] (spD ⟨K, mg⟩ F_place_in) := by
  have S := sc_place_in
  exact def_ok (C := ⟨K, mg⟩) 2 F S rfl fun cdv A outer s0 H E hr =>
    (s_cons (s_set (i := 1) S.nd (d_tuple m.fr_tuple (a_cons (d_split (dv 0) d_str) a_nil)))
    (s_one (s_ret (d_if (t_val (d_call m.ok_is_place (hr.mono (by decide)) takesD (a_cons (dv 1) a_nil))) (dv 1) d_non))))
theorem Md.ok_place_in {P : Program} {w : World} {K : PySem.W.Frag} {mg : Str → Option Value} {base : Heap} (m : Md K mg base) : DefOk P w ⟨K, mg⟩ base "place_in" 3 F_place_in := by
  obtain ⟨fd, F⟩ := m.says.def_ 16 (d := d_place_in) rfl
  exact DefOk.mk0 (C := ⟨K, mg⟩) (He.glo_ok m.kin m.ns (m.says.fact 16 (f := .glo "place_in") rfl)) F.kp (F.bindsN fun _ _ _ _ _ _ us hl => match us, hl with | [_], _ => rfl) (m.fo_place_in F)
def N_written : List Str := ["things", "one"]
theorem sc_written : FnScope N_written ["things"] (defScope (top 32)) := ⟨rfl, rfl, rfl, by decide +kernel, rfl, by decide +kernel, by decide +kernel⟩
noncomputable def b_written : SS := (retS (m1S joinM (cS (.str " ")) (lcS (iseqS (varS 0)) (.nm 1) [1] yesT (callV strM (consA (varS 1) nilA)))))
noncomputable def F_written : SF := lenF 1 (fnS 2 b_written)
theorem Md.fo_written {P : Program} {w : World} {K : PySem.W.Frag} {mg : Str → Option Value} {base : Heap} (m : Md K mg base) {fd : FuncData} (F : FunD K d_written.name d_written.qual d_written.params d_written.body d_written.scope (d_written.dvs K) (d_written.kws K) (He.fAd K d_written.at_) fd) : FnG P w K mg base (L2.CX P w) 1 (He.fAd K d_written.at_) fd ["things"] (spD ⟨K, mg⟩ F_written) := by
  have S := sc_written
  exact def_ok (C := ⟨K, mg⟩) 2 F S rfl fun cdv A outer s0 H E hr =>
    (s_one (s_ret (d_join d_str (d_lc (own := [("one", 1)]) rfl S.nd (blkOk_by (own := [("one", 1)]) (N := N_written) (sc := defScope (top 32)) (by decide +kernel)) (by simp [Tg.ix, Tg.ixs]) (i_seq (dv 0)) (fun _ _ _ _ _ => (g_nm S.nd)) (fun _ _ _ _ _ => ts_nil) (fun _ _ _ _ _ => (d_strc rfl m.dig m.fr_str (a_cons (dv 1) a_nil)))))))
theorem Md.ok_written {P : Program} {w : World} {K : PySem.W.Frag} {mg : Str → Option Value} {base : Heap} (m : Md K mg base) : DefOk P w ⟨K, mg⟩ base "written" 1 F_written := by
  obtain ⟨fd, F⟩ := m.says.def_ 17 (d := d_written) rfl
  exact DefOk.mk0 (C := ⟨K, mg⟩) (He.glo_ok m.kin m.ns (m.says.fact 17 (f := .glo "written") rfl)) F.kp (F.bindsN fun _ _ _ _ _ _ us hl => match us, hl with | [_], _ => rfl) (m.fo_written F)
def N_show_place : List Str := ["place"]
theorem sc_show_place : FnScope N_show_place ["place"] (defScope (top 33)) := ⟨rfl, rfl, rfl, by decide +kernel, rfl, by decide +kernel, by decide +kernel⟩
noncomputable def b_show_place : SS := (seqS (exprS (callS F_need_kind (consA (callS F_is_place (consA (varS 0) nilA)) nilA)))
    (retS (m1S joinM (cS (.str ".")) (varS 0))))
noncomputable def F_show_place : SF := lenF 1 (fnS 1 b_show_place)
theorem Md.fo_show_place {P : Program} {w : World} {K : PySem.W.Frag} {mg : Str → Option Value} {base : Heap} (m : Md K mg base) {fd : FuncData} (F : FunD K d_show_place.name d_show_place.qual d_show_place.params d_show_place.body d_show_place.scope (d_show_place.dvs K) (d_show_place.kws K) (He.fAd K d_show_place.at_) fd) : FnG P w K mg base (L2.CX P w) 3 (He.fAd K d_show_place.at_) fd ["place"] (spD ⟨K, mg⟩ F_show_place) := by
  have S := sc_show_place
  exact def_ok (C := ⟨K, mg⟩) 1 F S rfl fun cdv A outer s0 H E hr =>
    (s_cons (s_expr (d_call m.ok_need_kind (hr.mono (by decide)) takesD (a_cons (d_call m.ok_is_place (hr.mono (by decide)) takesD (a_cons (dv 0) a_nil)) a_nil)))
    (s_one (s_ret (d_join d_str (dv 0)))))
theorem Md.ok_show_place {P : Program} {w : World} {K : PySem.W.Frag} {mg : Str → Option Value} {base : Heap} (m : Md K mg base) : DefOk P w ⟨K, mg⟩ base "show_place" 3 F_show_place := by
  obtain ⟨fd, F⟩ := m.says.def_ 18 (d := d_show_place) rfl
  exact DefOk.mk0 (C := ⟨K, mg⟩) (He.glo_ok m.kin m.ns (m.says.fact 18 (f := .glo "show_place") rfl)) F.kp (F.bindsN fun _ _ _ _ _ _ us hl => match us, hl with | [_], _ => rfl) (m.fo_show_place F)
def N_read_place : List Str := ["text", "place"]
theorem sc_read_place : FnScope N_read_place ["text"] (defScope (top 34)) := ⟨rfl, rfl, rfl, by decide +kernel, rfl, by decide +kernel, by decide +kernel⟩
noncomputable def b_read_place : SS := (seqS (exprS (callS F_need_kind (consA (callV isiM (consA (varS 0) (consA (cS (.ty "str")) nilA))) nilA)))
    (seqS (setS 1 (callS F_place_in (consA (varS 0) nilA)))
    (seqS (exprS (callS F_need_kind (consA (op2 isnotM (varS 1) (cS .non)) nilA)))
    (retS (varS 1)))))
noncomputable def F_read_place : SF := lenF 1 (fnS 2 b_read_place)
theorem Md.fo_read_place {P : Program} {w : World} {K : PySem.W.Frag} {mg : Str → Option Value} {base : Heap} (m : Md K mg base) {fd : FuncData} (F : FunD K d_read_place.name d_read_place.qual d_read_place.params d_read_place.body d_read_place.scope (d_read_place.dvs K) (d_read_place.kws K) (He.fAd K d_read_place.at_) fd) : FnG P w K mg base (L2.CX P w) 4 (He.fAd K d_read_place.at_) fd ["text"] (spD ⟨K, mg⟩ F_read_place) := by
  have S := sc_read_place
  exact def_ok (C := ⟨K, mg⟩) 2 F S rfl fun cdv A outer s0 H E hr =>
    (s_cons (s_expr (d_call m.ok_need_kind (hr.mono (by decide)) takesD (a_cons (d_isi m.fr_isinstance (a_cons (dv 0) (a_cons (d_ty m.fr_str rfl (by decide +kernel)) a_nil))) a_nil)))
    (s_cons (s_set (i := 1) S.nd (d_call m.ok_place_in (hr.mono (by decide)) takesD (a_cons (dv 0) a_nil)))
    (s_cons (s_expr (d_call m.ok_need_kind (hr.mono (by decide)) takesD (a_cons (d_isnot (dv 1) d_non) a_nil)))
    (s_one (s_ret (dv 1))))))
theorem Md.ok_read_place {P : Program} {w : World} {K : PySem.W.Frag} {mg : Str → Option Value} {base : Heap} (m : Md K mg base) : DefOk P w ⟨K, mg⟩ base "read_place" 4 F_read_place := by
  obtain ⟨fd, F⟩ := m.says.def_ 19 (d := d_read_place) rfl
  exact DefOk.mk0 (C := ⟨K, mg⟩) (He.glo_ok m.kin m.ns (m.says.fact 19 (f := .glo "read_place") rfl)) F.kp (F.bindsN fun _ _ _ _ _ _ us hl => match us, hl with | [_], _ => rfl) (m.fo_read_place F)
def N_show_rule : List Str := ["rule", "hand", "saying", "cost", "premises", "premise"]
theorem sc_show_rule : FnScope N_show_rule ["rule"] (defScope (top 35)) := ⟨rfl, rfl, rfl, by decide +kernel, rfl, by decide +kernel, by decide +kernel⟩
noncomputable def b_show_rule : SS := (seqS (exprS (callS F_need_kind (consA (callS F_is_rule (consA (varS 0) nilA)) nilA)))
    (seqS (asgS (.tp [.nm 1, .nm 2, .nm 3, .nm 4]) (varS 0))
    (retS (callS F_written (consA (op2 addM (lstS (consA (callS F_show_place (consA (tupS (consA (varS 1) (consA (varS 2) nilA))) nilA)) (consA (cS (.str "=")) (consA (varS 3) nilA)))) (lcS (iseqS (varS 4)) (.nm 5) [5] yesT (callS F_show_place (consA (varS 5) nilA)))) nilA)))))
noncomputable def F_show_rule : SF := lenF 1 (fnS 6 b_show_rule)
theorem Md.fo_show_rule {P : Program} {w : World} {K : PySem.W.Frag} {mg : Str → Option Value} {base : Heap} (m : Md K mg base) {fd : FuncData} (F : FunD K d_show_rule.name d_show_rule.qual d_show_rule.params d_show_rule.body d_show_rule.scope (d_show_rule.dvs K) (d_show_rule.kws K) (He.fAd K d_show_rule.at_) fd) : FnG P w K mg base (L2.CX P w) 6 (He.fAd K d_show_rule.at_) fd ["rule"] (spD ⟨K, mg⟩ F_show_rule) := by
  have S := sc_show_rule
  exact def_ok (C := ⟨K, mg⟩) 6 F S rfl fun cdv A outer s0 H E hr =>
    (s_cons (s_expr (d_call m.ok_need_kind (hr.mono (by decide)) takesD (a_cons (d_call m.ok_is_rule (hr.mono (by decide)) takesD (a_cons (dv 0) a_nil)) a_nil)))
    (s_cons (s_asg (dv 0) (g_tp rfl (gs_cons (g_nm S.nd) (gs_cons (g_nm S.nd) (gs_cons (g_nm S.nd) (gs_cons (g_nm S.nd) gs_nil))))))
    (s_one (s_ret (d_call m.ok_written (hr.mono (by decide)) takesD (a_cons (d_add (d_lst (a_cons (d_call m.ok_show_place (hr.mono (by decide)) takesD (a_cons (d_tup (a_cons (dv 1) (a_cons (dv 2) a_nil))) a_nil)) (a_cons d_str (a_cons (dv 3) a_nil)))) (d_lc (own := [("premise", 5)]) rfl S.nd (blkOk_by (own := [("premise", 5)]) (N := N_show_rule) (sc := defScope (top 35)) (by decide +kernel)) (by simp [Tg.ix, Tg.ixs]) (i_seq (dv 4)) (fun _ _ _ _ _ => (g_nm S.nd)) (fun _ _ _ _ _ => ts_nil) (fun _ _ _ _ _ => (d_call m.ok_show_place (hr.mono (by decide)) takesW0 (a_cons (dv 5) a_nil))))) a_nil))))))
theorem Md.ok_show_rule {P : Program} {w : World} {K : PySem.W.Frag} {mg : Str → Option Value} {base : Heap} (m : Md K mg base) : DefOk P w ⟨K, mg⟩ base "show_rule" 6 F_show_rule := by
  obtain ⟨fd, F⟩ := m.says.def_ 20 (d := d_show_rule) rfl
  exact DefOk.mk0 (C := ⟨K, mg⟩) (He.glo_ok m.kin m.ns (m.says.fact 20 (f := .glo "show_rule") rfl)) F.kp (F.bindsN fun _ _ _ _ _ _ us hl => match us, hl with | [_], _ => rfl) (m.fo_show_rule F)
def N_read_rule : List Str := ["text", "words", "place", "rule", "word"]
theorem sc_read_rule : FnScope N_read_rule ["text"] (defScope (top 36)) := ⟨rfl, rfl, rfl, by decide +kernel, rfl, by decide +kernel, by decide +kernel⟩
noncomputable def b_read_rule : SS := (seqS (setS 1 (callS F_words_of (consA (varS 0) nilA)))
    (seqS (exprS (callS F_need_kind (consA (andV (op2 gtM (callV lenM (consA (varS 1) nilA)) (cS (.int 3))) (op2 eqM (op2 ixM (varS 1) (cS (.int 1))) (cS (.str "=")))) nilA)))
    (seqS (setS 2 (callS F_place_in (consA (op2 ixM (varS 1) (cS (.int 0))) nilA)))
    (seqS (exprS (callS F_need_kind (consA (op2 isnotM (varS 2) (cS .non)) nilA)))
    (seqS (setS 3 (op2 addM (varS 2) (tupS (consA (callS F_number_in (consA (op2 ixM (varS 1) (cS (.int 2))) nilA)) (consA (lcS (iseqS (sliceS (varS 1) (partS (cS (.int 3))) (fun _ M => .ok none M))) (.nm 4) [4] yesT (callS F_place_in (consA (varS 4) nilA))) nilA)))))
    (seqS (exprS (callS F_need_kind (consA (callS F_is_rule (consA (varS 3) nilA)) nilA)))
    (retS (varS 3))))))))
noncomputable def F_read_rule : SF := lenF 1 (fnS 5 b_read_rule)
theorem Md.fo_read_rule {P : Program} {w : World} {K : PySem.W.Frag} {mg : Str → Option Value} {base : Heap} (m : Md K mg base) {fd : FuncData} (F : FunD K d_read_rule.name d_read_rule.qual d_read_rule.params d_read_rule.body d_read_rule.scope (d_read_rule.dvs K) (d_read_rule.kws K) (He.fAd K d_read_rule.at_) fd) : FnG P w K mg base (L2.CX P w) 6 (He.fAd K d_read_rule.at_) fd ["text"] (spD ⟨K, mg⟩ F_read_rule) := by
  have S := sc_read_rule
  exact def_ok (C := ⟨K, mg⟩) 5 F S rfl fun cdv A outer s0 H E hr =>
    (s_cons (s_set (i := 1) S.nd (d_call m.ok_words_of (hr.mono (by decide)) takesD (a_cons (dv 0) a_nil)))
    (s_cons (s_expr (d_call m.ok_need_kind (hr.mono (by decide)) takesD (a_cons (d_and (d_gt (d_len m.fr_len (a_cons (dv 1) a_nil)) d_int) (d_one (d_eq hr.r (d_ix (dv 1) d_int (fun _ _ => rfl)) d_str))) a_nil)))
    (s_cons (s_set (i := 2) S.nd (d_call m.ok_place_in (hr.mono (by decide)) takesD (a_cons (d_ix (dv 1) d_int (fun _ _ => rfl)) a_nil)))
    (s_cons (s_expr (d_call m.ok_need_kind (hr.mono (by decide)) takesD (a_cons (d_isnot (dv 2) d_non) a_nil)))
    (s_cons (s_set (i := 3) S.nd (d_add (dv 2) (d_tup (a_cons (d_call m.ok_number_in (hr.mono (by decide)) takesD (a_cons (d_ix (dv 1) d_int (fun _ _ => rfl)) a_nil)) (a_cons (d_lc (own := [("word", 4)]) rfl S.nd (blkOk_by (own := [("word", 4)]) (N := N_read_rule) (sc := defScope (top 36)) (by decide +kernel)) (by simp [Tg.ix, Tg.ixs]) (i_seq (d_sl (dv 1) (o_some d_int) o_none)) (fun _ _ _ _ _ => (g_nm S.nd)) (fun _ _ _ _ _ => ts_nil) (fun _ _ _ _ _ => (d_call m.ok_place_in (hr.mono (by decide)) takesW0 (a_cons (dv 4) a_nil)))) a_nil)))))
    (s_cons (s_expr (d_call m.ok_need_kind (hr.mono (by decide)) takesD (a_cons (d_call m.ok_is_rule (hr.mono (by decide)) takesD (a_cons (dv 3) a_nil)) a_nil)))
    (s_one (s_ret (dv 3)))))))))
theorem Md.ok_read_rule {P : Program} {w : World} {K : PySem.W.Frag} {mg : Str → Option Value} {base : Heap} (m : Md K mg base) : DefOk P w ⟨K, mg⟩ base "read_rule" 6 F_read_rule := by
  obtain ⟨fd, F⟩ := m.says.def_ 21 (d := d_read_rule) rfl
  exact DefOk.mk0 (C := ⟨K, mg⟩) (He.glo_ok m.kin m.ns (m.says.fact 21 (f := .glo "read_rule") rfl)) F.kp (F.bindsN fun _ _ _ _ _ _ us hl => match us, hl with | [_], _ => rfl) (m.fo_read_rule F)
def N_living : List Str := ["world", "found", "vouched", "rules", "roads", "number", "hand", "saying", "cost", "premises", "other", "what"]
theorem sc_living : FnScope N_living ["world"] (defScope (top 39)) := ⟨rfl, rfl, rfl, by decide +kernel, rfl, by decide +kernel, by decide +kernel⟩
noncomputable def b_living : SS := (seqS (asgS (.tp [.nm 2, .nm 3, .nm 4]) (varS 0))
    (seqS (setS 1 (newS nilA))
    (seqS (forS (ienumS (consA (varS 3) nilA)) (.tp [.nm 5, .tp [.nm 6, .nm 7, .nm 8, .nm 9]]) (ifS (asT (callV allM (consA (lcS (iseqS (varS 9)) (.tp [.nm 10, .nm 11]) [10, 11] yesT (callS F_is_near (consA (varS 4) (consA (varS 6) (consA (varS 10) nilA))))) nilA))) (exprS (mtdS isLst appendM (varS 1) (consA (tupS (consA (varS 5) (consA (tupS (consA (varS 6) (consA (varS 7) nilA))) (consA (varS 8) (consA (varS 9) nilA))))) nilA))) nextS))
    (retS (frzS (varS 1))))))
noncomputable def F_living : SF := lenF 1 (fnS 12 b_living)
theorem Md.fo_living {P : Program} {w : World} {K : PySem.W.Frag} {mg : Str → Option Value} {base : Heap} (m : Md K mg base) {fd : FuncData} (F : FunD K d_living.name d_living.qual d_living.params d_living.body d_living.scope (d_living.dvs K) (d_living.kws K) (He.fAd K d_living.at_) fd) : FnG P w K mg base (L2.CX P w) 2 (He.fAd K d_living.at_) fd ["world"] (spD ⟨K, mg⟩ F_living) := by
  have S := sc_living
  exact def_ok (C := ⟨K, mg⟩) 12 F S rfl fun cdv A outer s0 H E hr =>
    (s_cons (s_asg (dv 0) (g_tp rfl (gs_cons (g_nm S.nd) (gs_cons (g_nm S.nd) (gs_cons (g_nm S.nd) gs_nil)))))
    (s_cons (s_set (i := 1) S.nd (d_new a_nil))
    (s_cons (s_for passesD rfl (i_enum m.fr_enumerate (a_cons (dv 3) a_nil)) (g_tp rfl (gs_cons (g_nm S.nd) (gs_cons (g_tp rfl (gs_cons (g_nm S.nd) (gs_cons (g_nm S.nd) (gs_cons (g_nm S.nd) (gs_cons (g_nm S.nd) gs_nil))))) gs_nil))) (s_one (s_if (t_val (d_all rfl m.fr_all (a_cons (d_lc (own := [("other", 10), ("what", 11)]) rfl S.nd (blkOk_by (own := [("other", 10), ("what", 11)]) (N := N_living) (sc := defScope (top 39)) (by decide +kernel)) (by simp [Tg.ix, Tg.ixs]) (i_seq (dv 9)) (fun _ _ _ _ _ => (g_tp rfl (gs_cons (g_nm S.nd) (gs_cons (g_nm S.nd) gs_nil)))) (fun _ _ _ _ _ => ts_nil) (fun _ _ _ _ _ => (d_call m.ok_is_near (hr.mono (by decide)) takesW0 (a_cons (dv 4) (a_cons (dv 6) (a_cons (dv 10) a_nil)))))) a_nil))) (s_one (s_expr (d_append (dv 1) (a_cons (d_tup (a_cons (dv 5) (a_cons (d_tup (a_cons (dv 6) (a_cons (dv 7) a_nil))) (a_cons (dv 8) (a_cons (dv 9) a_nil))))) a_nil)))) s_nil)))
    (s_one (s_ret (d_frz (dv 1)))))))
theorem Md.ok_living {P : Program} {w : World} {K : PySem.W.Frag} {mg : Str → Option Value} {base : Heap} (m : Md K mg base) : DefOk P w ⟨K, mg⟩ base "living" 2 F_living := by
  obtain ⟨fd, F⟩ := m.says.def_ 22 (d := d_living) rfl
  exact DefOk.mk0 (C := ⟨K, mg⟩) (He.glo_ok m.kin m.ns (m.says.fact 22 (f := .glo "living") rfl)) F.kp (F.bindsN fun _ _ _ _ _ _ us hl => match us, hl with | [_], _ => rfl) (m.fo_living F)
def N_height_by : List Str := ["heights", "rule", "some", "number", "place", "cost", "premises", "premise"]
theorem sc_height_by : FnScope N_height_by ["heights", "rule"] (defScope (top 40)) := ⟨rfl, rfl, rfl, by decide +kernel, rfl, by decide +kernel, by decide +kernel⟩
noncomputable def b_height_by : SS := (seqS (asgS (.tp [.nm 3, .nm 4, .nm 5, .nm 6]) (varS 1))
    (seqS (setS 2 (lcS (iseqS (varS 6)) (.nm 7) [7] yesT (dget1S (varS 0) (varS 7))))
    (retS (ifE (asT (op2 inM (cS .non) (varS 2))) (cS .non) (op2 addM (varS 5) (callV maxLM (consA (varS 2) nilA)))))))
noncomputable def F_height_by : SF := lenF 2 (fnS 8 b_height_by)
theorem Md.fo_height_by {P : Program} {w : World} {K : PySem.W.Frag} {mg : Str → Option Value} {base : Heap} (m : Md K mg base) {fd : FuncData} (F : FunD K d_height_by.name d_height_by.qual d_height_by.params d_height_by.body d_height_by.scope (d_height_by.dvs K) (d_height_by.kws K) (He.fAd K d_height_by.at_) fd) : FnG P w K mg base (L2.CX P w) 1 (He.fAd K d_height_by.at_) fd ["heights", "rule"] (spD ⟨K, mg⟩ F_height_by) := by
  have S := sc_height_by
  exact def_ok (C := ⟨K, mg⟩) 8 F S rfl fun cdv A outer s0 H E hr =>
    (s_cons (s_asg (dv 1) (g_tp rfl (gs_cons (g_nm S.nd) (gs_cons (g_nm S.nd) (gs_cons (g_nm S.nd) (gs_cons (g_nm S.nd) gs_nil))))))
    (s_cons (s_setLc (i := 2) (own := [("premise", 7)]) rfl S.nd (sw_true rfl rfl rfl (by decide +kernel)) (blkOk_by (own := [("premise", 7)]) (N := N_height_by) (sc := defScope (top 40)) (by decide +kernel)) (by simp [Tg.ix, Tg.ixs]) (i_seq (dv 6)) (fun _ _ _ _ _ => (g_nm S.nd)) (fun _ _ _ _ _ => ts_nil) (fun _ _ _ _ _ => (d_dget1 hr.r (dv 0) (dv 7))))
    (s_one (s_ret (d_if (t_in hr.r d_non (dv 2)) d_non (d_add (dv 5) (d_maxL rfl m.fr_max (a_cons (dv 2) a_nil))))))))
theorem Md.ok_height_by {P : Program} {w : World} {K : PySem.W.Frag} {mg : Str → Option Value} {base : Heap} (m : Md K mg base) : DefOk P w ⟨K, mg⟩ base "height_by" 1 F_height_by := by
  obtain ⟨fd, F⟩ := m.says.def_ 23 (d := d_height_by) rfl
  exact DefOk.mk0 (C := ⟨K, mg⟩) (He.glo_ok m.kin m.ns (m.says.fact 23 (f := .glo "height_by") rfl)) F.kp (F.bindsN fun _ _ _ _ _ _ us hl => match us, hl with | [_, _], _ => rfl) (m.fo_height_by F)
def N_least_of : List Str := ["vouched", "rules", "heights", "lessened", "rule", "place", "height"]
theorem sc_least_of : FnScope N_least_of ["vouched", "rules"] (defScope (top 41)) := ⟨rfl, rfl, rfl, by decide +kernel, rfl, by decide +kernel, by decide +kernel⟩
noncomputable def b_least_of : SS := (seqS (setS 2 (dcS (.dT []) (iseqS (varS 0)) (.nm 5) [5] yesT (varS 5) (cS (.int 0))))
    (seqS (setS 3 (cS (.bl true)))
    (seqS (whileS (asT (varS 3)) (seqS (setS 3 (cS (.bl false)))
    (forS (iseqS (varS 1)) (.nm 4) (seqS (setS 6 (callS F_height_by (consA (varS 2) (consA (varS 4) nilA))))
    (ifS (andT (asT (op2 isnotM (varS 6) (cS .non))) (orT (asT (op2 dninM (op2 ixM (varS 4) (cS (.int 1))) (varS 2))) (asT (op2 ltM (varS 6) (op2 dixM (varS 2) (op2 ixM (varS 4) (cS (.int 1)))))))) (seqS (dputS (varS 2) (op2 ixM (varS 4) (cS (.int 1))) (varS 6))
    (setS 3 (cS (.bl true)))) nextS)))))
    (retS (varS 2)))))
noncomputable def F_least_of : SF := lenF 2 (fnS 7 b_least_of)
theorem Md.fo_least_of {P : Program} {w : World} {K : PySem.W.Frag} {mg : Str → Option Value} {base : Heap} (m : Md K mg base) {fd : FuncData} (F : FunD K d_least_of.name d_least_of.qual d_least_of.params d_least_of.body d_least_of.scope (d_least_of.dvs K) (d_least_of.kws K) (He.fAd K d_least_of.at_) fd) : FnG P w K mg base (L2.CX P w) 2 (He.fAd K d_least_of.at_) fd ["vouched", "rules"] (spD ⟨K, mg⟩ F_least_of) := by
  have S := sc_least_of
  exact def_ok (C := ⟨K, mg⟩) 7 F S rfl fun cdv A outer s0 H E hr =>
    (s_cons (s_setDc (i := 2) hr.r (m0 := .dT []) (o0 := .dT []) (own := [("place", 5)]) (.inr ⟨rfl, rfl⟩) rfl S.nd (sw_trueD rfl rfl rfl (by decide +kernel)) (blkOk_by (own := [("place", 5)]) (N := N_least_of) (sc := defScope (top 41)) (by decide +kernel)) (by simp [Tg.ix, Tg.ixs]) (i_seq (dv 0)) (fun _ _ _ _ _ => (g_nm S.nd)) (fun _ _ _ _ _ => ts_nil) (fun _ _ _ _ _ => (dv 5)) (fun _ _ _ _ _ => d_int))
    (s_cons (s_set (i := 3) S.nd d_bl)
    (s_cons (s_while passesD (t_val (dv 3)) (s_cons (s_set (i := 3) S.nd d_bl)
    (s_one (s_for passesD rfl (i_seq (dv 1)) (g_nm S.nd) (s_cons (s_set (i := 6) S.nd (d_call m.ok_height_by (hr.mono (by decide)) takesD (a_cons (dv 2) (a_cons (dv 4) a_nil))))
    (s_one (s_if (t_of (w_and (t_isnot (dv 6) d_non) (w_and1 (t_of (w_or (t_dnin hr.r (d_ix (dv 4) d_int (fun _ _ => rfl)) (dv 2)) (w_or1 (t_lt (dv 6) (d_dix hr.r (dv 2) (d_ix (dv 4) d_int (fun _ _ => rfl)) (fun _ _ => rfl))))))))) (s_cons (s_dput hr.r (dv 6) (dv 2) (d_ix (dv 4) d_int (fun _ _ => rfl)))
    (s_one (s_set (i := 3) S.nd d_bl))) s_nil)))))))
    (s_one (s_ret (dv 2))))))
theorem Md.ok_least_of {P : Program} {w : World} {K : PySem.W.Frag} {mg : Str → Option Value} {base : Heap} (m : Md K mg base) : DefOk P w ⟨K, mg⟩ base "least_of" 2 F_least_of := by
  obtain ⟨fd, F⟩ := m.says.def_ 24 (d := d_least_of) rfl
  exact DefOk.mk0 (C := ⟨K, mg⟩) (He.glo_ok m.kin m.ns (m.says.fact 24 (f := .glo "least_of") rfl)) F.kp (F.bindsN fun _ _ _ _ _ _ us hl => match us, hl with | [_, _], _ => rfl) (m.fo_least_of F)
def N_least : List Str := ["world"]
theorem sc_least : FnScope N_least ["world"] (defScope (top 42)) := ⟨rfl, rfl, rfl, by decide +kernel, rfl, by decide +kernel, by decide +kernel⟩
noncomputable def b_least : SS := (seqS (exprS (callS F_need_world (consA (varS 0) nilA)))
    (retS (callS F_least_of (consA (op2 ixM (varS 0) (cS (.int 0))) (consA (callS F_living (consA (varS 0) nilA)) nilA)))))
noncomputable def F_least : SF := lenF 1 (fnS 1 b_least)
theorem Md.fo_least {P : Program} {w : World} {K : PySem.W.Frag} {mg : Str → Option Value} {base : Heap} (m : Md K mg base) {fd : FuncData} (F : FunD K d_least.name d_least.qual d_least.params d_least.body d_least.scope (d_least.dvs K) (d_least.kws K) (He.fAd K d_least.at_) fd) : FnG P w K mg base (L2.CX P w) 8 (He.fAd K d_least.at_) fd ["world"] (spD ⟨K, mg⟩ F_least) := by
  have S := sc_least
  exact def_ok (C := ⟨K, mg⟩) 1 F S rfl fun cdv A outer s0 H E hr =>
    (s_cons (s_expr (d_call m.ok_need_world (hr.mono (by decide)) takesD (a_cons (dv 0) a_nil)))
    (s_one (s_ret (d_call m.ok_least_of (hr.mono (by decide)) takesD (a_cons (d_ix (dv 0) d_int (fun _ _ => rfl)) (a_cons (d_call m.ok_living (hr.mono (by decide)) takesD (a_cons (dv 0) a_nil)) a_nil))))))
theorem Md.ok_least {P : Program} {w : World} {K : PySem.W.Frag} {mg : Str → Option Value} {base : Heap} (m : Md K mg base) : DefOk P w ⟨K, mg⟩ base "least" 8 F_least := by
  obtain ⟨fd, F⟩ := m.says.def_ 25 (d := d_least) rfl
  exact DefOk.mk0 (C := ⟨K, mg⟩) (He.glo_ok m.kin m.ns (m.says.fact 25 (f := .glo "least") rfl)) F.kp (F.bindsN fun _ _ _ _ _ _ us hl => match us, hl with | [_], _ => rfl) (m.fo_least F)
def N_reason_in : List Str := ["vouched", "rules", "heights", "place", "rule"]
theorem sc_reason_in : FnScope N_reason_in ["vouched", "rules", "heights", "place"] (defScope (top 43)) := ⟨rfl, rfl, rfl, by decide +kernel, rfl, by decide +kernel, by decide +kernel⟩
noncomputable def b_reason_in : SS := (seqS (ifS (asT (op2 dninM (varS 3) (varS 2))) (retS (cS .non)) nextS)
    (seqS (ifS (asT (op2 inM (varS 3) (varS 0))) (retS (cS (.int (-1)))) nextS)
    (retS (op2 ixM (lcS (iseqS (varS 1)) (.nm 4) [4] (andT (asT (op2 eqM (op2 ixM (varS 4) (cS (.int 1))) (varS 3))) (asT (op2 eqM (callS F_height_by (consA (varS 2) (consA (varS 4) nilA))) (op2 dixM (varS 2) (varS 3))))) (op2 ixM (varS 4) (cS (.int 0)))) (cS (.int 0))))))
noncomputable def F_reason_in : SF := lenF 4 (fnS 5 b_reason_in)
theorem Md.fo_reason_in {P : Program} {w : World} {K : PySem.W.Frag} {mg : Str → Option Value} {base : Heap} (m : Md K mg base) {fd : FuncData} (F : FunD K d_reason_in.name d_reason_in.qual d_reason_in.params d_reason_in.body d_reason_in.scope (d_reason_in.dvs K) (d_reason_in.kws K) (He.fAd K d_reason_in.at_) fd) : FnG P w K mg base (L2.CX P w) 2 (He.fAd K d_reason_in.at_) fd ["vouched", "rules", "heights", "place"] (spD ⟨K, mg⟩ F_reason_in) := by
  have S := sc_reason_in
  exact def_ok (C := ⟨K, mg⟩) 5 F S rfl fun cdv A outer s0 H E hr =>
    (s_cons (s_if (t_dnin hr.r (dv 3) (dv 2)) (s_one (s_ret d_non)) s_nil)
    (s_cons (s_if (t_in hr.r (dv 3) (dv 0)) (s_one (s_ret (d_gl (m.gd_VOUCHED) rfl))) s_nil)
    (s_one (s_ret (d_ix (d_lc (own := [("rule", 4)]) rfl S.nd (blkOk_by (own := [("rule", 4)]) (N := N_reason_in) (sc := defScope (top 43)) (by decide +kernel)) (by simp [Tg.ix, Tg.ixs]) (i_seq (dv 1)) (fun _ _ _ _ _ => (g_nm S.nd)) (fun _ _ _ _ _ => (ts_one (t_of (w_and (t_eq hr.r (d_ix (dv 4) d_int (fun _ _ => rfl)) (dv 3)) (w_and1 (t_eq hr.r (d_call m.ok_height_by (hr.mono (by decide)) takesW0 (a_cons (dv 2) (a_cons (dv 4) a_nil))) (d_dix hr.r (dv 2) (dv 3) (fun _ _ => rfl)))))))) (fun _ _ _ _ _ => (d_ix (dv 4) d_int (fun _ _ => rfl)))) d_int (fun _ _ => rfl))))))
theorem Md.ok_reason_in {P : Program} {w : World} {K : PySem.W.Frag} {mg : Str → Option Value} {base : Heap} (m : Md K mg base) : DefOk P w ⟨K, mg⟩ base "reason_in" 2 F_reason_in := by
  obtain ⟨fd, F⟩ := m.says.def_ 26 (d := d_reason_in) rfl
  exact DefOk.mk0 (C := ⟨K, mg⟩) (He.glo_ok m.kin m.ns (m.says.fact 26 (f := .glo "reason_in") rfl)) F.kp (F.bindsN fun _ _ _ _ _ _ us hl => match us, hl with | [_, _, _, _], _ => rfl) (m.fo_reason_in F)
def N_why : List Str := ["world", "place", "rules", "heights", "reasons", "waiting", "one", "height"]
theorem sc_why : FnScope N_why ["world", "place"] (defScope (top 44)) := ⟨rfl, rfl, rfl, by decide +kernel, rfl, by decide +kernel, by decide +kernel⟩
noncomputable def b_why : SS := (seqS (exprS (callS F_need_world (consA (varS 0) nilA)))
    (seqS (exprS (callS F_need_place (consA (varS 1) nilA)))
    (seqS (setS 2 (callS F_living (consA (varS 0) nilA)))
    (seqS (setS 3 (callS F_least_of (consA (op2 ixM (varS 0) (cS (.int 0))) (consA (varS 2) nilA))))
    (seqS (ifS (asT (op2 dninM (varS 1) (varS 3))) badS nextS)
    (seqS (setS 4 dnewTS)
    (seqS (setS 5 (newS (consA (varS 1) nilA)))
    (seqS (whileS (asT (op2 neM (varS 5) (lstS nilA))) (seqS (setS 6 (mtdS isLst popM (varS 5) nilA))
    (ifS (asT (op2 dninM (varS 6) (varS 4))) (seqS (dputS (varS 4) (varS 6) (callS F_reason_in (consA (op2 ixM (varS 0) (cS (.int 0))) (consA (varS 2) (consA (varS 3) (consA (varS 6) nilA))))))
    (augExtS 5 (ifE (asT (op2 eqM (op2 dixM (varS 4) (varS 6)) (cS (.int (-1))))) (lstS nilA) (op2 ixM (op2 ixM (op2 ixM (varS 0) (cS (.int 1))) (op2 dixM (varS 4) (varS 6))) (cS (.int 3)))))) nextS)))
    (retS (lcS (iseqS (callV sortM (consA (lockE 4 (lcS (ikeysS (varS 4)) (.nm 6) [6] yesT (tupS (consA (op2 dixM (varS 3) (varS 6)) (consA (varS 6) nilA))))) nilA))) (.tp [.nm 7, .nm 6]) [7, 6] yesT (tupS (consA (varS 6) (consA (op2 dixM (varS 4) (varS 6)) nilA)))))))))))))
noncomputable def F_why : SF := lenF 2 (fnS 8 b_why)
theorem Md.fo_why {P : Program} {w : World} {K : PySem.W.Frag} {mg : Str → Option Value} {base : Heap} (m : Md K mg base) {fd : FuncData} (F : FunD K d_why.name d_why.qual d_why.params d_why.body d_why.scope (d_why.dvs K) (d_why.kws K) (He.fAd K d_why.at_) fd) : FnG P w K mg base (L2.CX P w) 8 (He.fAd K d_why.at_) fd ["world", "place"] (spD ⟨K, mg⟩ F_why) := by
  have S := sc_why
  exact def_ok (C := ⟨K, mg⟩) 8 F S rfl fun cdv A outer s0 H E hr =>
    (s_cons (s_expr (d_call m.ok_need_world (hr.mono (by decide)) takesD (a_cons (dv 0) a_nil)))
    (s_cons (s_expr (d_call m.ok_need_place (hr.mono (by decide)) takesD (a_cons (dv 1) a_nil)))
    (s_cons (s_set (i := 2) S.nd (d_call m.ok_living (hr.mono (by decide)) takesD (a_cons (dv 0) a_nil)))
    (s_cons (s_set (i := 3) S.nd (d_call m.ok_least_of (hr.mono (by decide)) takesD (a_cons (d_ix (dv 0) d_int (fun _ _ => rfl)) (a_cons (dv 2) a_nil))))
    (s_cons (s_if (t_dnin hr.r (dv 1) (dv 3)) (s_one s_bad) s_nil)
    (s_cons (s_set (i := 4) S.nd d_dnewT)
    (s_cons (s_set (i := 5) S.nd (d_new (a_cons (dv 1) a_nil)))
    (s_cons (s_while passesD (t_ne hr.r (dv 5) (d_lst a_nil)) (s_cons (s_set (i := 6) S.nd (d_pop (dv 5)))
    (s_one (s_if (t_dnin hr.r (dv 6) (dv 4)) (s_cons (s_dput hr.r (d_call m.ok_reason_in (hr.mono (by decide)) takesD (a_cons (d_ix (dv 0) d_int (fun _ _ => rfl)) (a_cons (dv 2) (a_cons (dv 3) (a_cons (dv 6) a_nil))))) (dv 4) (dv 6))
    (s_one (s_augExt (i := 5) S.nd (d_if (t_eq hr.r (d_dix hr.r (dv 4) (dv 6) (fun _ _ => rfl)) (d_gl (m.gd_VOUCHED) rfl)) (d_lst a_nil) (d_ix (d_ix (d_ix (dv 0) d_int (fun _ _ => rfl)) (d_dix hr.r (dv 4) (dv 6) (fun _ _ => rfl)) (fun _ _ => rfl)) d_int (fun _ _ => rfl)))))) s_nil))))
    (s_one (s_ret (d_lc (own := [("height", 7), ("one", 6)]) rfl S.nd (blkOk_by (own := [("height", 7), ("one", 6)]) (N := N_why) (sc := defScope (top 44)) (by decide +kernel)) (by simp [Tg.ix, Tg.ixs]) (i_seq (d_sorted hr m.fr_sorted (a_cons (d_lock 4 (d_lc (own := [("one", 6)]) rfl S.nd (blkOk_by (own := [("one", 6)]) (N := N_why) (sc := defScope (top 44)) (by decide +kernel)) (by simp [Tg.ix, Tg.ixs]) (i_keys (dv 4)) (fun _ _ _ _ _ => (g_nm S.nd)) (fun _ _ _ _ _ => ts_nil) (fun _ _ _ _ _ => (d_tup (a_cons (d_dix hr.r (dv 3) (dv 6) (fun _ _ => rfl)) (a_cons (dv 6) a_nil)))))) a_nil))) (fun _ _ _ _ _ => (g_tp rfl (gs_cons (g_nm S.nd) (gs_cons (g_nm S.nd) gs_nil)))) (fun _ _ _ _ _ => ts_nil) (fun _ _ _ _ _ => (d_tup (a_cons (dv 6) (a_cons (d_dix hr.r (dv 4) (dv 6) (fun _ _ => rfl)) a_nil)))))))))))))))
theorem Md.ok_why {P : Program} {w : World} {K : PySem.W.Frag} {mg : Str → Option Value} {base : Heap} (m : Md K mg base) : DefOk P w ⟨K, mg⟩ base "why" 8 F_why := by
  obtain ⟨fd, F⟩ := m.says.def_ 27 (d := d_why) rfl
  exact DefOk.mk0 (C := ⟨K, mg⟩) (He.glo_ok m.kin m.ns (m.says.fact 27 (f := .glo "why") rfl)) F.kp (F.bindsN fun _ _ _ _ _ _ us hl => match us, hl with | [_, _], _ => rfl) (m.fo_why F)
def N_is_why : List Str := ["thing", "place", "number", "row"]
theorem sc_is_why : FnScope N_is_why ["thing"] (defScope (top 45)) := ⟨rfl, rfl, rfl, by decide +kernel, rfl, by decide +kernel, by decide +kernel⟩
noncomputable def b_is_why : SS := (seqS (ifS (orT (notT (asT (callV isiM (consA (varS 0) (consA (cS (.ty "list")) nilA))))) (notT (asT (callV allM (consA (lcS (iseqS (varS 0)) (.nm 3) [3] yesT (andV (callV isiM (consA (varS 3) (consA (cS (.ty "tuple")) nilA))) (op2 eqM (callV lenM (consA (varS 3) nilA)) (cS (.int 2))))) nilA))))) (retS (cS (.bl false))) nextS)
    (seqS (ifS (notT (asT (callV allM (consA (lcS (iseqS (varS 0)) (.tp [.nm 1, .nm 2]) [1, 2] yesT (andV (callV isiM (consA (varS 2) (consA (cS (.ty "int")) nilA))) (notV (callV isiM (consA (varS 2) (consA (cS (.ty "bool")) nilA)))))) nilA)))) (retS (cS (.bl false))) nextS)
    (retS (callV allM (consA (lcS (iseqS (varS 0)) (.tp [.nm 1, .nm 2]) [1, 2] yesT (callS F_is_place (consA (varS 1) nilA))) nilA)))))
noncomputable def F_is_why : SF := lenF 1 (fnS 4 b_is_why)
theorem Md.fo_is_why {P : Program} {w : World} {K : PySem.W.Frag} {mg : Str → Option Value} {base : Heap} (m : Md K mg base) {fd : FuncData} (F : FunD K d_is_why.name d_is_why.qual d_is_why.params d_is_why.body d_is_why.scope (d_is_why.dvs K) (d_is_why.kws K) (He.fAd K d_is_why.at_) fd) : FnG P w K mg base (L2.CX P w) 3 (He.fAd K d_is_why.at_) fd ["thing"] (spD ⟨K, mg⟩ F_is_why) := by
  have S := sc_is_why
  exact def_ok (C := ⟨K, mg⟩) 4 F S rfl fun cdv A outer s0 H E hr =>
    (s_cons (s_if (t_of (w_or (t_not (t_val (d_isi m.fr_isinstance (a_cons (dv 0) (a_cons (d_ty m.fr_list rfl (by decide +kernel)) a_nil))))) (w_or1 (t_not (t_val (d_all rfl m.fr_all (a_cons (d_lc (own := [("row", 3)]) rfl S.nd (blkOk_by (own := [("row", 3)]) (N := N_is_why) (sc := defScope (top 45)) (by decide +kernel)) (by simp [Tg.ix, Tg.ixs]) (i_seq (dv 0)) (fun _ _ _ _ _ => (g_nm S.nd)) (fun _ _ _ _ _ => ts_nil) (fun _ _ _ _ _ => (d_and (d_isi m.fr_isinstance (a_cons (dv 3) (a_cons (d_ty m.fr_tuple rfl (by decide +kernel)) a_nil))) (d_one (d_eq hr.r (d_len m.fr_len (a_cons (dv 3) a_nil)) d_int))))) a_nil))))))) (s_one (s_ret d_bl)) s_nil)
    (s_cons (s_if (t_not (t_val (d_all rfl m.fr_all (a_cons (d_lc (own := [("place", 1), ("number", 2)]) rfl S.nd (blkOk_by (own := [("place", 1), ("number", 2)]) (N := N_is_why) (sc := defScope (top 45)) (by decide +kernel)) (by simp [Tg.ix, Tg.ixs]) (i_seq (dv 0)) (fun _ _ _ _ _ => (g_tp rfl (gs_cons (g_nm S.nd) (gs_cons (g_nm S.nd) gs_nil)))) (fun _ _ _ _ _ => ts_nil) (fun _ _ _ _ _ => (d_and (d_isi m.fr_isinstance (a_cons (dv 2) (a_cons (d_ty m.fr_int rfl (by decide +kernel)) a_nil))) (d_one (d_not (d_isi m.fr_isinstance (a_cons (dv 2) (a_cons (d_ty m.fr_bool rfl (by decide +kernel)) a_nil)))))))) a_nil)))) (s_one (s_ret d_bl)) s_nil)
    (s_one (s_ret (d_all rfl m.fr_all (a_cons (d_lc (own := [("place", 1), ("number", 2)]) rfl S.nd (blkOk_by (own := [("place", 1), ("number", 2)]) (N := N_is_why) (sc := defScope (top 45)) (by decide +kernel)) (by simp [Tg.ix, Tg.ixs]) (i_seq (dv 0)) (fun _ _ _ _ _ => (g_tp rfl (gs_cons (g_nm S.nd) (gs_cons (g_nm S.nd) gs_nil)))) (fun _ _ _ _ _ => ts_nil) (fun _ _ _ _ _ => (d_call m.ok_is_place (hr.mono (by decide)) takesW0 (a_cons (dv 1) a_nil)))) a_nil))))))
theorem Md.ok_is_why {P : Program} {w : World} {K : PySem.W.Frag} {mg : Str → Option Value} {base : Heap} (m : Md K mg base) : DefOk P w ⟨K, mg⟩ base "is_why" 3 F_is_why := by
  obtain ⟨fd, F⟩ := m.says.def_ 28 (d := d_is_why) rfl
  exact DefOk.mk0 (C := ⟨K, mg⟩) (He.glo_ok m.kin m.ns (m.says.fact 28 (f := .glo "is_why") rfl)) F.kp (F.bindsN fun _ _ _ _ _ _ us hl => match us, hl with | [_], _ => rfl) (m.fo_is_why F)
def N_stands : List Str := ["world", "rules", "ahead", "place", "number", "some", "rule", "other"]
theorem sc_stands : FnScope N_stands ["world", "rules", "ahead", "place", "number"] (defScope (top 46)) := ⟨rfl, rfl, rfl, by decide +kernel, rfl, by decide +kernel, by decide +kernel⟩
noncomputable def b_stands : SS := (seqS (ifS (asT (op2 eqM (varS 4) (cS (.int (-1))))) (retS (op2 inM (varS 3) (op2 ixM (varS 0) (cS (.int 0))))) nextS)
    (seqS (setS 5 (lcS (iseqS (varS 1)) (.nm 6) [6] (andT (asT (op2 eqM (op2 ixM (varS 6) (cS (.int 0))) (varS 4))) (asT (op2 eqM (op2 ixM (varS 6) (cS (.int 1))) (varS 3)))) (varS 6)))
    (retS (andV (op2 neM (varS 5) (lstS nilA)) (callV allM (consA (lcS (iseqS (op2 ixM (op2 ixM (varS 5) (cS (.int 0))) (cS (.int 3)))) (.nm 7) [7] yesT (op2 dinM (varS 7) (varS 2))) nilA))))))
noncomputable def F_stands : SF := lenF 5 (fnS 8 b_stands)
theorem Md.fo_stands {P : Program} {w : World} {K : PySem.W.Frag} {mg : Str → Option Value} {base : Heap} (m : Md K mg base) {fd : FuncData} (F : FunD K d_stands.name d_stands.qual d_stands.params d_stands.body d_stands.scope (d_stands.dvs K) (d_stands.kws K) (He.fAd K d_stands.at_) fd) : FnG P w K mg base (L2.CX P w) 1 (He.fAd K d_stands.at_) fd ["world", "rules", "ahead", "place", "number"] (spD ⟨K, mg⟩ F_stands) := by
  have S := sc_stands
  exact def_ok (C := ⟨K, mg⟩) 8 F S rfl fun cdv A outer s0 H E hr =>
    (s_cons (s_if (t_eq hr.r (dv 4) (d_gl (m.gd_VOUCHED) rfl)) (s_one (s_ret (d_in hr.r (dv 3) (d_ix (dv 0) d_int (fun _ _ => rfl))))) s_nil)
    (s_cons (s_setLc (i := 5) (own := [("rule", 6)]) rfl S.nd (sw_true rfl rfl rfl (by decide +kernel)) (blkOk_by (own := [("rule", 6)]) (N := N_stands) (sc := defScope (top 46)) (by decide +kernel)) (by simp [Tg.ix, Tg.ixs]) (i_seq (dv 1)) (fun _ _ _ _ _ => (g_nm S.nd)) (fun _ _ _ _ _ => (ts_one (t_of (w_and (t_eq hr.r (d_ix (dv 6) d_int (fun _ _ => rfl)) (dv 4)) (w_and1 (t_eq hr.r (d_ix (dv 6) d_int (fun _ _ => rfl)) (dv 3))))))) (fun _ _ _ _ _ => (dv 6)))
    (s_one (s_ret (d_and (d_ne hr.r (dv 5) (d_lst a_nil)) (d_one (d_all rfl m.fr_all (a_cons (d_lc (own := [("other", 7)]) rfl S.nd (blkOk_by (own := [("other", 7)]) (N := N_stands) (sc := defScope (top 46)) (by decide +kernel)) (by simp [Tg.ix, Tg.ixs]) (i_seq (d_ix (d_ix (dv 5) d_int (fun _ _ => rfl)) d_int (fun _ _ => rfl))) (fun _ _ _ _ _ => (g_nm S.nd)) (fun _ _ _ _ _ => ts_nil) (fun _ _ _ _ _ => (d_din hr.r (dv 7) (dv 2)))) a_nil))))))))
theorem Md.ok_stands {P : Program} {w : World} {K : PySem.W.Frag} {mg : Str → Option Value} {base : Heap} (m : Md K mg base) : DefOk P w ⟨K, mg⟩ base "stands" 1 F_stands := by
  obtain ⟨fd, F⟩ := m.says.def_ 29 (d := d_stands) rfl
  exact DefOk.mk0 (C := ⟨K, mg⟩) (He.glo_ok m.kin m.ns (m.says.fact 29 (f := .glo "stands") rfl)) F.kp (F.bindsN fun _ _ _ _ _ _ us hl => match us, hl with | [_, _, _, _, _], _ => rfl) (m.fo_stands F)
def N_why_shows : List Str := ["world", "place", "paper", "rules", "ahead", "one", "number"]
theorem sc_why_shows : FnScope N_why_shows ["world", "place", "paper"] (defScope (top 47)) := ⟨rfl, rfl, rfl, by decide +kernel, rfl, by decide +kernel, by decide +kernel⟩
noncomputable def b_why_shows : SS := (seqS (exprS (callS F_need_world (consA (varS 0) nilA)))
    (seqS (exprS (callS F_need_place (consA (varS 1) nilA)))
    (seqS (ifS (notT (asT (callS F_is_why (consA (varS 2) nilA)))) badS nextS)
    (seqS (setS 3 (callS F_living (consA (varS 0) nilA)))
    (seqS (setS 4 dnewTS)
    (seqS (forS (iseqS (varS 2)) (.tp [.nm 5, .nm 6]) (seqS (ifS (orT (asT (op2 dinM (varS 5) (varS 4))) (notT (asT (callS F_stands (consA (varS 0) (consA (varS 3) (consA (varS 4) (consA (varS 5) (consA (varS 6) nilA))))))))) (retS (cS (.bl false))) nextS)
    (dputS (varS 4) (varS 5) (cS (.bl true)))))
    (retS (andV (op2 neM (varS 2) (lstS nilA)) (op2 eqM (op2 ixM (op2 ixM (varS 2) (op1 negM (cS (.int 1)))) (cS (.int 0))) (varS 1))))))))))
noncomputable def F_why_shows : SF := lenF 3 (fnS 7 b_why_shows)
theorem Md.fo_why_shows {P : Program} {w : World} {K : PySem.W.Frag} {mg : Str → Option Value} {base : Heap} (m : Md K mg base) {fd : FuncData} (F : FunD K d_why_shows.name d_why_shows.qual d_why_shows.params d_why_shows.body d_why_shows.scope (d_why_shows.dvs K) (d_why_shows.kws K) (He.fAd K d_why_shows.at_) fd) : FnG P w K mg base (L2.CX P w) 8 (He.fAd K d_why_shows.at_) fd ["world", "place", "paper"] (spD ⟨K, mg⟩ F_why_shows) := by
  have S := sc_why_shows
  exact def_ok (C := ⟨K, mg⟩) 7 F S rfl fun cdv A outer s0 H E hr =>
    (s_cons (s_expr (d_call m.ok_need_world (hr.mono (by decide)) takesD (a_cons (dv 0) a_nil)))
    (s_cons (s_expr (d_call m.ok_need_place (hr.mono (by decide)) takesD (a_cons (dv 1) a_nil)))
    (s_cons (s_if (t_not (t_val (d_call m.ok_is_why (hr.mono (by decide)) takesD (a_cons (dv 2) a_nil)))) (s_one s_bad) s_nil)
    (s_cons (s_set (i := 3) S.nd (d_call m.ok_living (hr.mono (by decide)) takesD (a_cons (dv 0) a_nil)))
    (s_cons (s_set (i := 4) S.nd d_dnewT)
    (s_cons (s_for passesD rfl (i_seq (dv 2)) (g_tp rfl (gs_cons (g_nm S.nd) (gs_cons (g_nm S.nd) gs_nil))) (s_cons (s_if (t_of (w_or (t_din hr.r (dv 5) (dv 4)) (w_or1 (t_not (t_val (d_call m.ok_stands (hr.mono (by decide)) takesD (a_cons (dv 0) (a_cons (dv 3) (a_cons (dv 4) (a_cons (dv 5) (a_cons (dv 6) a_nil))))))))))) (s_one (s_ret d_bl)) s_nil)
    (s_one (s_dput hr.r d_bl (dv 4) (dv 5)))))
    (s_one (s_ret (d_and (d_ne hr.r (dv 2) (d_lst a_nil)) (d_one (d_eq hr.r (d_ix (d_ix (dv 2) (d_neg d_int) (fun _ _ => rfl)) d_int (fun _ _ => rfl)) (dv 1))))))))))))
theorem Md.ok_why_shows {P : Program} {w : World} {K : PySem.W.Frag} {mg : Str → Option Value} {base : Heap} (m : Md K mg base) : DefOk P w ⟨K, mg⟩ base "why_shows" 8 F_why_shows := by
  obtain ⟨fd, F⟩ := m.says.def_ 30 (d := d_why_shows) rfl
  exact DefOk.mk0 (C := ⟨K, mg⟩) (He.glo_ok m.kin m.ns (m.says.fact 30 (f := .glo "why_shows") rfl)) F.kp (F.bindsN fun _ _ _ _ _ _ us hl => match us, hl with | [_, _, _], _ => rfl) (m.fo_why_shows F)
def N_why_not : List Str := ["world", "place", "rules", "heights", "found", "waiting", "one", "rule", "other"]
theorem sc_why_not : FnScope N_why_not ["world", "place"] (defScope (top 48)) := ⟨rfl, rfl, rfl, by decide +kernel, rfl, by decide +kernel, by decide +kernel⟩
noncomputable def b_why_not : SS := (seqS (exprS (callS F_need_world (consA (varS 0) nilA)))
    (seqS (exprS (callS F_need_place (consA (varS 1) nilA)))
    (seqS (setS 2 (callS F_living (consA (varS 0) nilA)))
    (seqS (setS 3 (callS F_least_of (consA (op2 ixM (varS 0) (cS (.int 0))) (consA (varS 2) nilA))))
    (seqS (ifS (asT (op2 dinM (varS 1) (varS 3))) badS nextS)
    (seqS (setS 4 dnewTS)
    (seqS (setS 5 (newS (consA (varS 1) nilA)))
    (seqS (whileS (asT (op2 neM (varS 5) (lstS nilA))) (seqS (setS 6 (mtdS isLst popM (varS 5) nilA))
    (ifS (asT (op2 dninM (varS 6) (varS 4))) (seqS (dputS (varS 4) (varS 6) (cS (.bl true)))
    (forS (iseqS (varS 2)) (.nm 7) (ifS (asT (op2 eqM (op2 ixM (varS 7) (cS (.int 1))) (varS 6))) (exprS (mtdS isLst appendM (varS 5) (consA (op2 ixM (lcS (iseqS (op2 ixM (varS 7) (cS (.int 3)))) (.nm 8) [8] (asT (op2 dninM (varS 8) (varS 3))) (varS 8)) (cS (.int 0))) nilA))) nextS))) nextS)))
    (retS (callV sortTM (consA (varS 4) nilA)))))))))))
noncomputable def F_why_not : SF := lenF 2 (fnS 9 b_why_not)
theorem Md.fo_why_not {P : Program} {w : World} {K : PySem.W.Frag} {mg : Str → Option Value} {base : Heap} (m : Md K mg base) {fd : FuncData} (F : FunD K d_why_not.name d_why_not.qual d_why_not.params d_why_not.body d_why_not.scope (d_why_not.dvs K) (d_why_not.kws K) (He.fAd K d_why_not.at_) fd) : FnG P w K mg base (L2.CX P w) 8 (He.fAd K d_why_not.at_) fd ["world", "place"] (spD ⟨K, mg⟩ F_why_not) := by
  have S := sc_why_not
  exact def_ok (C := ⟨K, mg⟩) 9 F S rfl fun cdv A outer s0 H E hr =>
    (s_cons (s_expr (d_call m.ok_need_world (hr.mono (by decide)) takesD (a_cons (dv 0) a_nil)))
    (s_cons (s_expr (d_call m.ok_need_place (hr.mono (by decide)) takesD (a_cons (dv 1) a_nil)))
    (s_cons (s_set (i := 2) S.nd (d_call m.ok_living (hr.mono (by decide)) takesD (a_cons (dv 0) a_nil)))
    (s_cons (s_set (i := 3) S.nd (d_call m.ok_least_of (hr.mono (by decide)) takesD (a_cons (d_ix (dv 0) d_int (fun _ _ => rfl)) (a_cons (dv 2) a_nil))))
    (s_cons (s_if (t_din hr.r (dv 1) (dv 3)) (s_one s_bad) s_nil)
    (s_cons (s_set (i := 4) S.nd d_dnewT)
    (s_cons (s_set (i := 5) S.nd (d_new (a_cons (dv 1) a_nil)))
    (s_cons (s_while passesD (t_ne hr.r (dv 5) (d_lst a_nil)) (s_cons (s_set (i := 6) S.nd (d_pop (dv 5)))
    (s_one (s_if (t_dnin hr.r (dv 6) (dv 4)) (s_cons (s_dput hr.r d_bl (dv 4) (dv 6))
    (s_one (s_for passesD rfl (i_seq (dv 2)) (g_nm S.nd) (s_one (s_if (t_eq hr.r (d_ix (dv 7) d_int (fun _ _ => rfl)) (dv 6)) (s_one (s_expr (d_append (dv 5) (a_cons (d_ix (d_lc (own := [("other", 8)]) rfl S.nd (blkOk_by (own := [("other", 8)]) (N := N_why_not) (sc := defScope (top 48)) (by decide +kernel)) (by simp [Tg.ix, Tg.ixs]) (i_seq (d_ix (dv 7) d_int (fun _ _ => rfl))) (fun _ _ _ _ _ => (g_nm S.nd)) (fun _ _ _ _ _ => (ts_one (t_dnin hr.r (dv 8) (dv 3)))) (fun _ _ _ _ _ => (dv 8))) d_int (fun _ _ => rfl)) a_nil)))) s_nil))))) s_nil))))
    (s_one (s_ret (d_sortedT hr rfl m.fr_sorted (a_cons (dv 4) a_nil))))))))))))
theorem Md.ok_why_not {P : Program} {w : World} {K : PySem.W.Frag} {mg : Str → Option Value} {base : Heap} (m : Md K mg base) : DefOk P w ⟨K, mg⟩ base "why_not" 8 F_why_not := by
  obtain ⟨fd, F⟩ := m.says.def_ 31 (d := d_why_not) rfl
  exact DefOk.mk0 (C := ⟨K, mg⟩) (He.glo_ok m.kin m.ns (m.says.fact 31 (f := .glo "why_not") rfl)) F.kp (F.bindsN fun _ _ _ _ _ _ us hl => match us, hl with | [_, _], _ => rfl) (m.fo_why_not F)
def N_why_not_shows : List Str := ["world", "place", "paper", "rules", "rule", "one", "other"]
theorem sc_why_not_shows : FnScope N_why_not_shows ["world", "place", "paper"] (defScope (top 49)) := ⟨rfl, rfl, rfl, by decide +kernel, rfl, by decide +kernel, by decide +kernel⟩
noncomputable def b_why_not_shows : SS := (seqS (exprS (callS F_need_world (consA (varS 0) nilA)))
    (seqS (exprS (callS F_need_place (consA (varS 1) nilA)))
    (seqS (ifS (orT (notT (asT (callV isiM (consA (varS 2) (consA (cS (.ty "list")) nilA))))) (notT (asT (callV allM (consA (lcS (iseqS (varS 2)) (.nm 5) [5] yesT (callS F_is_place (consA (varS 5) nilA))) nilA))))) badS nextS)
    (seqS (ifS (orT (asT (op2 ninM (varS 1) (varS 2))) (notT (asT (callV allM (consA (lcS (izipS (consA (varS 2) (consA (sliceS (varS 2) (partS (cS (.int 1))) (fun _ M => .ok none M)) nilA))) (.tp [.nm 5, .nm 6]) [5, 6] yesT (op2 ltDM (varS 5) (varS 6))) nilA))))) (retS (cS (.bl false))) nextS)
    (seqS (ifS (notT (asT (callV allM (consA (lcS (iseqS (varS 2)) (.nm 5) [5] yesT (op2 ninM (varS 5) (op2 ixM (varS 0) (cS (.int 0))))) nilA)))) (retS (cS (.bl false))) nextS)
    (seqS (setS 3 (lcS (iseqS (callS F_living (consA (varS 0) nilA))) (.nm 4) [4] (asT (op2 inM (op2 ixM (varS 4) (cS (.int 1))) (varS 2))) (varS 4)))
    (retS (callV allM (consA (lcS (iseqS (varS 3)) (.nm 4) [4] yesT (op2 neM (lcS (iseqS (op2 ixM (varS 4) (cS (.int 3)))) (.nm 6) [6] (asT (op2 inM (varS 6) (varS 2))) (varS 6)) (lstS nilA))) nilA)))))))))
noncomputable def F_why_not_shows : SF := lenF 3 (fnS 7 b_why_not_shows)
theorem Md.fo_why_not_shows {P : Program} {w : World} {K : PySem.W.Frag} {mg : Str → Option Value} {base : Heap} (m : Md K mg base) {fd : FuncData} (F : FunD K d_why_not_shows.name d_why_not_shows.qual d_why_not_shows.params d_why_not_shows.body d_why_not_shows.scope (d_why_not_shows.dvs K) (d_why_not_shows.kws K) (He.fAd K d_why_not_shows.at_) fd) : FnG P w K mg base (L2.CX P w) 8 (He.fAd K d_why_not_shows.at_) fd ["world", "place", "paper"] (spD ⟨K, mg⟩ F_why_not_shows) := by
  have S := sc_why_not_shows
  exact def_ok (C := ⟨K, mg⟩) 7 F S rfl fun cdv A outer s0 H E hr =>
    (s_cons (s_expr (d_call m.ok_need_world (hr.mono (by decide)) takesD (a_cons (dv 0) a_nil)))
    (s_cons (s_expr (d_call m.ok_need_place (hr.mono (by decide)) takesD (a_cons (dv 1) a_nil)))
    (s_cons (s_if (t_of (w_or (t_not (t_val (d_isi m.fr_isinstance (a_cons (dv 2) (a_cons (d_ty m.fr_list rfl (by decide +kernel)) a_nil))))) (w_or1 (t_not (t_val (d_all rfl m.fr_all (a_cons (d_lc (own := [("one", 5)]) rfl S.nd (blkOk_by (own := [("one", 5)]) (N := N_why_not_shows) (sc := defScope (top 49)) (by decide +kernel)) (by simp [Tg.ix, Tg.ixs]) (i_seq (dv 2)) (fun _ _ _ _ _ => (g_nm S.nd)) (fun _ _ _ _ _ => ts_nil) (fun _ _ _ _ _ => (d_call m.ok_is_place (hr.mono (by decide)) takesW0 (a_cons (dv 5) a_nil)))) a_nil))))))) (s_one s_bad) s_nil)
    (s_cons (s_if (t_of (w_or (t_nin hr.r (dv 1) (dv 2)) (w_or1 (t_not (t_val (d_all rfl m.fr_all (a_cons (d_lc (own := [("one", 5), ("other", 6)]) rfl S.nd (blkOk_by (own := [("one", 5), ("other", 6)]) (N := N_why_not_shows) (sc := defScope (top 49)) (by decide +kernel)) (by simp [Tg.ix, Tg.ixs]) (i_zip m.fr_zip (a_cons (dv 2) (a_cons (d_sl (dv 2) (o_some d_int) o_none) a_nil))) (fun _ _ _ _ _ => (g_tp rfl (gs_cons (g_nm S.nd) (gs_cons (g_nm S.nd) gs_nil)))) (fun _ _ _ _ _ => ts_nil) (fun _ _ _ _ _ => (d_ltD hr (dv 5) (dv 6)))) a_nil))))))) (s_one (s_ret d_bl)) s_nil)
    (s_cons (s_if (t_not (t_val (d_all rfl m.fr_all (a_cons (d_lc (own := [("one", 5)]) rfl S.nd (blkOk_by (own := [("one", 5)]) (N := N_why_not_shows) (sc := defScope (top 49)) (by decide +kernel)) (by simp [Tg.ix, Tg.ixs]) (i_seq (dv 2)) (fun _ _ _ _ _ => (g_nm S.nd)) (fun _ _ _ _ _ => ts_nil) (fun _ _ _ _ _ => (d_nin hr.r (dv 5) (d_ix (dv 0) d_int (fun _ _ => rfl))))) a_nil)))) (s_one (s_ret d_bl)) s_nil)
    (s_cons (s_setLc (i := 3) (own := [("rule", 4)]) rfl S.nd (sw_true rfl rfl rfl (by decide +kernel)) (blkOk_by (own := [("rule", 4)]) (N := N_why_not_shows) (sc := defScope (top 49)) (by decide +kernel)) (by simp [Tg.ix, Tg.ixs]) (i_seq (d_call m.ok_living (hr.mono (by decide)) takesD (a_cons (dv 0) a_nil))) (fun _ _ _ _ _ => (g_nm S.nd)) (fun _ _ _ _ _ => (ts_one (t_in hr.r (d_ix (dv 4) d_int (fun _ _ => rfl)) (dv 2)))) (fun _ _ _ _ _ => (dv 4)))
    (s_one (s_ret (d_all rfl m.fr_all (a_cons (d_lc (own := [("rule", 4)]) rfl S.nd (blkOk_by (own := [("rule", 4)]) (N := N_why_not_shows) (sc := defScope (top 49)) (by decide +kernel)) (by simp [Tg.ix, Tg.ixs]) (i_seq (dv 3)) (fun _ _ _ _ _ => (g_nm S.nd)) (fun _ _ _ _ _ => ts_nil) (fun _ _ _ _ _ => (d_ne hr.r (d_lc (own := [("other", 6)]) rfl S.nd (by exact blkOk_by (own := [("other", 6)]) (by kernel_rfl)) (by simp [Tg.ix, Tg.ixs]) (i_seq (d_ix (dv 4) d_int (fun _ _ => rfl))) (fun _ _ _ _ _ => (g_nm S.nd)) (fun _ _ _ _ _ => (ts_one (t_in hr.r (dv 6) (dv 2)))) (fun _ _ _ _ _ => (dv 6))) (d_lst a_nil)))) a_nil))))))))))
theorem Md.ok_why_not_shows {P : Program} {w : World} {K : PySem.W.Frag} {mg : Str → Option Value} {base : Heap} (m : Md K mg base) : DefOk P w ⟨K, mg⟩ base "why_not_shows" 8 F_why_not_shows := by
  obtain ⟨fd, F⟩ := m.says.def_ 32 (d := d_why_not_shows) rfl
  exact DefOk.mk0 (C := ⟨K, mg⟩) (He.glo_ok m.kin m.ns (m.says.fact 32 (f := .glo "why_not_shows") rfl)) F.kp (F.bindsN fun _ _ _ _ _ _ us hl => match us, hl with | [_, _, _], _ => rfl) (m.fo_why_not_shows F)
def N_more_of : List Str := ["heights", "others", "alone", "lesser", "place", "height"]
theorem sc_more_of : FnScope N_more_of ["heights", "others"] (defScope (top 51)) := ⟨rfl, rfl, rfl, by decide +kernel, rfl, by decide +kernel, by decide +kernel⟩
noncomputable def b_more_of : SS := (seqS (setS 2 (callV sortM (consA (lockE 0 (lcS (ikeysS (varS 0)) (.nm 4) [4] (asT (op2 dninM (varS 4) (varS 1))) (varS 4))) nilA)))
    (seqS (setS 3 (callV sortM (consA (lockE 0 (lcS (iitemsS (varS 0)) (.tp [.nm 4, .nm 5]) [4, 5] (andT (asT (op2 dinM (varS 4) (varS 1))) (asT (op2 ltM (varS 5) (op2 dixM (varS 1) (varS 4))))) (varS 4))) nilA)))
    (retS (tupS (consA (varS 2) (consA (varS 3) nilA))))))
noncomputable def F_more_of : SF := lenF 2 (fnS 6 b_more_of)
theorem Md.fo_more_of {P : Program} {w : World} {K : PySem.W.Frag} {mg : Str → Option Value} {base : Heap} (m : Md K mg base) {fd : FuncData} (F : FunD K d_more_of.name d_more_of.qual d_more_of.params d_more_of.body d_more_of.scope (d_more_of.dvs K) (d_more_of.kws K) (He.fAd K d_more_of.at_) fd) : FnG P w K mg base (L2.CX P w) 1 (He.fAd K d_more_of.at_) fd ["heights", "others"] (spD ⟨K, mg⟩ F_more_of) := by
  have S := sc_more_of
  exact def_ok (C := ⟨K, mg⟩) 6 F S rfl fun cdv A outer s0 H E hr =>
    (s_cons (s_set (i := 2) S.nd (d_sorted hr m.fr_sorted (a_cons (d_lock 0 (d_lc (own := [("place", 4)]) rfl S.nd (blkOk_by (own := [("place", 4)]) (N := N_more_of) (sc := defScope (top 51)) (by decide +kernel)) (by simp [Tg.ix, Tg.ixs]) (i_keys (dv 0)) (fun _ _ _ _ _ => (g_nm S.nd)) (fun _ _ _ _ _ => (ts_one (t_dnin hr.r (dv 4) (dv 1)))) (fun _ _ _ _ _ => (dv 4)))) a_nil)))
    (s_cons (s_set (i := 3) S.nd (d_sorted hr m.fr_sorted (a_cons (d_lock 0 (d_lc (own := [("place", 4), ("height", 5)]) rfl S.nd (blkOk_by (own := [("place", 4), ("height", 5)]) (N := N_more_of) (sc := defScope (top 51)) (by decide +kernel)) (by simp [Tg.ix, Tg.ixs]) (i_items (dv 0)) (fun _ _ _ _ _ => (g_tp rfl (gs_cons (g_nm S.nd) (gs_cons (g_nm S.nd) gs_nil)))) (fun _ _ _ _ _ => (ts_one (t_of (w_and (t_din hr.r (dv 4) (dv 1)) (w_and1 (t_lt (dv 5) (d_dix hr.r (dv 1) (dv 4) (fun _ _ => rfl)))))))) (fun _ _ _ _ _ => (dv 4)))) a_nil)))
    (s_one (s_ret (d_tup (a_cons (dv 2) (a_cons (dv 3) a_nil)))))))
theorem Md.ok_more_of {P : Program} {w : World} {K : PySem.W.Frag} {mg : Str → Option Value} {base : Heap} (m : Md K mg base) : DefOk P w ⟨K, mg⟩ base "more_of" 1 F_more_of := by
  obtain ⟨fd, F⟩ := m.says.def_ 33 (d := d_more_of) rfl
  exact DefOk.mk0 (C := ⟨K, mg⟩) (He.glo_ok m.kin m.ns (m.says.fact 33 (f := .glo "more_of") rfl)) F.kp (F.bindsN fun _ _ _ _ _ _ us hl => match us, hl with | [_, _], _ => rfl) (m.fo_more_of F)
def N_falls : List Str := ["world", "places", "rules", "left", "place"]
theorem sc_falls : FnScope N_falls ["world", "places"] (defScope (top 52)) := ⟨rfl, rfl, rfl, by decide +kernel, rfl, by decide +kernel, by decide +kernel⟩
noncomputable def b_falls : SS := (seqS (exprS (callS F_need_world (consA (varS 0) nilA)))
    (seqS (ifS (orT (notT (asT (callS F_are_places (consA (varS 1) nilA)))) (notT (asT (callV allM (consA (lcS (iseqS (varS 1)) (.nm 4) [4] yesT (op2 inM (varS 4) (op2 ixM (varS 0) (cS (.int 0))))) nilA))))) badS nextS)
    (seqS (setS 2 (callS F_living (consA (varS 0) nilA)))
    (seqS (setS 3 (lcS (iseqS (op2 ixM (varS 0) (cS (.int 0)))) (.nm 4) [4] (asT (op2 ninM (varS 4) (varS 1))) (varS 4)))
    (retS (callS F_more_of (consA (callS F_least_of (consA (op2 ixM (varS 0) (cS (.int 0))) (consA (varS 2) nilA))) (consA (callS F_least_of (consA (varS 3) (consA (varS 2) nilA))) nilA))))))))
noncomputable def F_falls : SF := lenF 2 (fnS 5 b_falls)
theorem Md.fo_falls {P : Program} {w : World} {K : PySem.W.Frag} {mg : Str → Option Value} {base : Heap} (m : Md K mg base) {fd : FuncData} (F : FunD K d_falls.name d_falls.qual d_falls.params d_falls.body d_falls.scope (d_falls.dvs K) (d_falls.kws K) (He.fAd K d_falls.at_) fd) : FnG P w K mg base (L2.CX P w) 8 (He.fAd K d_falls.at_) fd ["world", "places"] (spD ⟨K, mg⟩ F_falls) := by
  have S := sc_falls
  exact def_ok (C := ⟨K, mg⟩) 5 F S rfl fun cdv A outer s0 H E hr =>
    (s_cons (s_expr (d_call m.ok_need_world (hr.mono (by decide)) takesD (a_cons (dv 0) a_nil)))
    (s_cons (s_if (t_of (w_or (t_not (t_val (d_call m.ok_are_places (hr.mono (by decide)) takesD (a_cons (dv 1) a_nil)))) (w_or1 (t_not (t_val (d_all rfl m.fr_all (a_cons (d_lc (own := [("place", 4)]) rfl S.nd (blkOk_by (own := [("place", 4)]) (N := N_falls) (sc := defScope (top 52)) (by decide +kernel)) (by simp [Tg.ix, Tg.ixs]) (i_seq (dv 1)) (fun _ _ _ _ _ => (g_nm S.nd)) (fun _ _ _ _ _ => ts_nil) (fun _ _ _ _ _ => (d_in hr.r (dv 4) (d_ix (dv 0) d_int (fun _ _ => rfl))))) a_nil))))))) (s_one s_bad) s_nil)
    (s_cons (s_set (i := 2) S.nd (d_call m.ok_living (hr.mono (by decide)) takesD (a_cons (dv 0) a_nil)))
    (s_cons (s_setLc (i := 3) (own := [("place", 4)]) rfl S.nd (sw_true rfl rfl rfl (by decide +kernel)) (blkOk_by (own := [("place", 4)]) (N := N_falls) (sc := defScope (top 52)) (by decide +kernel)) (by simp [Tg.ix, Tg.ixs]) (i_seq (d_ix (dv 0) d_int (fun _ _ => rfl))) (fun _ _ _ _ _ => (g_nm S.nd)) (fun _ _ _ _ _ => (ts_one (t_nin hr.r (dv 4) (dv 1)))) (fun _ _ _ _ _ => (dv 4)))
    (s_one (s_ret (d_call m.ok_more_of (hr.mono (by decide)) takesD (a_cons (d_call m.ok_least_of (hr.mono (by decide)) takesD (a_cons (d_ix (dv 0) d_int (fun _ _ => rfl)) (a_cons (dv 2) a_nil))) (a_cons (d_call m.ok_least_of (hr.mono (by decide)) takesD (a_cons (dv 3) (a_cons (dv 2) a_nil))) a_nil)))))))))
theorem Md.ok_falls {P : Program} {w : World} {K : PySem.W.Frag} {mg : Str → Option Value} {base : Heap} (m : Md K mg base) : DefOk P w ⟨K, mg⟩ base "falls" 8 F_falls := by
  obtain ⟨fd, F⟩ := m.says.def_ 34 (d := d_falls) rfl
  exact DefOk.mk0 (C := ⟨K, mg⟩) (He.glo_ok m.kin m.ns (m.says.fact 34 (f := .glo "falls") rfl)) F.kp (F.bindsN fun _ _ _ _ _ _ us hl => match us, hl with | [_, _], _ => rfl) (m.fo_falls F)
def N_l_pot : List Str := ["script", "k", "cell"]
theorem sc_l_pot : FnScope N_l_pot ["script", "k"] (defScope (top 54)) := ⟨rfl, rfl, rfl, by decide +kernel, rfl, by decide +kernel, by decide +kernel⟩
noncomputable def b_l_pot : SS := (seqS (setS 2 (cS (.int 0)))
    (seqS (ifS (asT (op2 ltM (varS 1) (callV lenM (consA (varS 0) nilA)))) (setS 2 (op2 ixM (varS 0) (varS 1))) nextS)
    (retS (newS (consA (callV max2M (consA (cS (.int 0)) (consA (op2 subM (varS 2) (op2 powM (cS (.int 10)) (cS (.int 18)))) nilA))) (consA (op2 addM (op2 addM (op2 mulM (op2 modM (varS 2) (op2 addM (op2 powM (cS (.int 10)) (cS (.int 43))) (cS (.int 63)))) (cS (.int 64))) (varS 1)) (cS (.int 1))) (consA (cS (.int 0)) nilA)))))))
noncomputable def F_l_pot : SF := lenF 2 (fnS 3 b_l_pot)
theorem Md.fo_l_pot {P : Program} {w : World} {K : PySem.W.Frag} {mg : Str → Option Value} {base : Heap} (m : Md K mg base) {fd : FuncData} (F : FunD K d_l_pot.name d_l_pot.qual d_l_pot.params d_l_pot.body d_l_pot.scope (d_l_pot.dvs K) (d_l_pot.kws K) (He.fAd K d_l_pot.at_) fd) : FnG P w K mg base (L2.CX P w) 1 (He.fAd K d_l_pot.at_) fd ["script", "k"] (spD ⟨K, mg⟩ F_l_pot) := by
  have S := sc_l_pot
  exact def_ok (C := ⟨K, mg⟩) 3 F S rfl fun cdv A outer s0 H E hr =>
    (s_cons (s_set (i := 2) S.nd d_int)
    (s_cons (s_if (t_lt (dv 1) (d_len m.fr_len (a_cons (dv 0) a_nil))) (s_one (s_set (i := 2) S.nd (d_ix (dv 0) (dv 1) (fun _ _ => rfl)))) s_nil)
    (s_one (s_ret (d_new (a_cons (d_max2 rfl m.fr_max (a_cons d_int (a_cons (d_sub (dv 2) (d_pow d_int d_int)) a_nil))) (a_cons (d_add (d_add (d_mul (d_mod (dv 2) (d_add (d_pow d_int d_int) d_int)) d_int) (dv 1)) d_int) (a_cons d_int a_nil))))))))
theorem Md.ok_l_pot {P : Program} {w : World} {K : PySem.W.Frag} {mg : Str → Option Value} {base : Heap} (m : Md K mg base) : DefOk P w ⟨K, mg⟩ base "_law_pot" 1 F_l_pot := by
  obtain ⟨fd, F⟩ := m.says.def_ 35 (d := d_l_pot) rfl
  exact DefOk.mk0 (C := ⟨K, mg⟩) (He.glo_ok m.kin m.ns (m.says.fact 35 (f := .glo "_law_pot") rfl)) F.kp (F.bindsN fun _ _ _ _ _ _ us hl => match us, hl with | [_, _], _ => rfl) (m.fo_l_pot F)
def N_l_dip : List Str := ["pot", "many", "mixed", "found"]
theorem sc_l_dip : FnScope N_l_dip ["pot", "many"] (defScope (top 55)) := ⟨rfl, rfl, rfl, by decide +kernel, rfl, by decide +kernel, by decide +kernel⟩
noncomputable def b_l_dip : SS := (seqS (ifS (asT (op2 gtM (op2 ixM (varS 0) (cS (.int 0))) (cS (.int 0)))) (seqS (setS 3 (op2 modM (op2 ixM (varS 0) (cS (.int 0))) (varS 1)))
    (seqS (setItemS (varS 0) (cS (.int 0)) (op2 divM (op2 ixM (varS 0) (cS (.int 0))) (varS 1)))
    (retS (varS 3)))) nextS)
    (seqS (setItemS (varS 0) (cS (.int 2)) (op2 addM (op2 ixM (varS 0) (cS (.int 2))) (cS (.int 1))))
    (seqS (setS 2 (op2 modM (op2 powM (op2 addM (op2 ixM (varS 0) (cS (.int 1))) (op2 mulM (cS (.int 104395301)) (op2 ixM (varS 0) (cS (.int 2))))) (cS (.int 3))) (op2 addM (op2 powM (cS (.int 10)) (cS (.int 41))) (cS (.int 37)))))
    (seqS (setS 2 (op2 modM (op2 powM (op2 addM (varS 2) (op2 mulM (cS (.int 982451653)) (op2 ixM (varS 0) (cS (.int 2))))) (cS (.int 5))) (op2 addM (op2 powM (cS (.int 10)) (cS (.int 42))) (cS (.int 63)))))
    (retS (op2 modM (op2 divM (varS 2) (cS (.int 65539))) (varS 1)))))))
noncomputable def F_l_dip : SF := lenF 2 (fnS 4 b_l_dip)
theorem Md.fo_l_dip {P : Program} {w : World} {K : PySem.W.Frag} {mg : Str → Option Value} {base : Heap} (m : Md K mg base) {fd : FuncData} (F : FunD K d_l_dip.name d_l_dip.qual d_l_dip.params d_l_dip.body d_l_dip.scope (d_l_dip.dvs K) (d_l_dip.kws K) (He.fAd K d_l_dip.at_) fd) : FnG P w K mg base (L2.CX P w) 1 (He.fAd K d_l_dip.at_) fd ["pot", "many"] (spD ⟨K, mg⟩ F_l_dip) := by
  have S := sc_l_dip
  exact def_ok (C := ⟨K, mg⟩) 4 F S rfl fun cdv A outer s0 H E hr =>
    (s_cons (s_if (t_gt (d_ix (dv 0) d_int (fun _ _ => rfl)) d_int) (s_cons (s_set (i := 3) S.nd (d_mod (d_ix (dv 0) d_int (fun _ _ => rfl)) (dv 1)))
    (s_cons (s_setItem (d_div (d_ix (dv 0) d_int (fun _ _ => rfl)) (dv 1)) (dv 0) d_int)
    (s_one (s_ret (dv 3))))) s_nil)
    (s_cons (s_setItem (d_add (d_ix (dv 0) d_int (fun _ _ => rfl)) d_int) (dv 0) d_int)
    (s_cons (s_set (i := 2) S.nd (d_mod (d_pow (d_add (d_ix (dv 0) d_int (fun _ _ => rfl)) (d_mul d_int (d_ix (dv 0) d_int (fun _ _ => rfl)))) d_int) (d_add (d_pow d_int d_int) d_int)))
    (s_cons (s_set (i := 2) S.nd (d_mod (d_pow (d_add (dv 2) (d_mul d_int (d_ix (dv 0) d_int (fun _ _ => rfl)))) d_int) (d_add (d_pow d_int d_int) d_int)))
    (s_one (s_ret (d_mod (d_div (dv 2) d_int) (dv 1))))))))
theorem Md.ok_l_dip {P : Program} {w : World} {K : PySem.W.Frag} {mg : Str → Option Value} {base : Heap} (m : Md K mg base) : DefOk P w ⟨K, mg⟩ base "_law_dip" 1 F_l_dip := by
  obtain ⟨fd, F⟩ := m.says.def_ 36 (d := d_l_dip) rfl
  exact DefOk.mk0 (C := ⟨K, mg⟩) (He.glo_ok m.kin m.ns (m.says.fact 36 (f := .glo "_law_dip") rfl)) F.kp (F.bindsN fun _ _ _ _ _ _ us hl => match us, hl with | [_, _], _ => rfl) (m.fo_l_dip F)
def N_l_some : List Str := ["pot", "things", "most", "left", "many", "turn"]
theorem sc_l_some : FnScope N_l_some ["pot", "things", "most"] (defScope (top 56)) := ⟨rfl, rfl, rfl, by decide +kernel, rfl, by decide +kernel, by decide +kernel⟩
noncomputable def b_l_some : SS := (seqS (setS 3 (newOfS (consA (varS 1) nilA)))
    (seqS (setS 4 (op2 addM (cS (.int 1)) (callS F_l_dip (consA (varS 0) (consA (callV min2M (consA (varS 2) (consA (callV lenM (consA (varS 3) nilA)) nilA))) nilA)))))
    (retS (lcS (irange1S (consA (varS 4) nilA)) (.nm 5) [5] yesT (mtdS isLst popAtM (varS 3) (consA (callS F_l_dip (consA (varS 0) (consA (callV lenM (consA (varS 3) nilA)) nilA))) nilA))))))
noncomputable def F_l_some : SF := lenF 3 (fnS 6 b_l_some)
theorem Md.fo_l_some {P : Program} {w : World} {K : PySem.W.Frag} {mg : Str → Option Value} {base : Heap} (m : Md K mg base) {fd : FuncData} (F : FunD K d_l_some.name d_l_some.qual d_l_some.params d_l_some.body d_l_some.scope (d_l_some.dvs K) (d_l_some.kws K) (He.fAd K d_l_some.at_) fd) : FnG P w K mg base (L2.CX P w) 2 (He.fAd K d_l_some.at_) fd ["pot", "things", "most"] (spD ⟨K, mg⟩ F_l_some) := by
  have S := sc_l_some
  exact def_ok (C := ⟨K, mg⟩) 6 F S rfl fun cdv A outer s0 H E hr =>
    (s_cons (s_set (i := 3) S.nd (d_listN m.fr_list (a_cons (dv 1) a_nil)))
    (s_cons (s_set (i := 4) S.nd (d_add d_int (d_call m.ok_l_dip (hr.mono (by decide)) takesD (a_cons (dv 0) (a_cons (d_min2 rfl m.fr_min (a_cons (dv 2) (a_cons (d_len m.fr_len (a_cons (dv 3) a_nil)) a_nil))) a_nil)))))
    (s_one (s_ret (d_lc (own := [("turn", 5)]) rfl S.nd (blkOk_by (own := [("turn", 5)]) (N := N_l_some) (sc := defScope (top 56)) (by decide +kernel)) (by simp [Tg.ix, Tg.ixs]) (i_range1 m.fr_range (a_cons (dv 4) a_nil)) (fun _ _ _ _ _ => (g_nm S.nd)) (fun _ _ _ _ _ => ts_nil) (fun _ _ _ _ _ => (d_popAt (dv 3) (a_cons (d_call m.ok_l_dip (hr.mono (by decide)) takesW0 (a_cons (dv 0) (a_cons (d_len m.fr_len (a_cons (dv 3) a_nil)) a_nil))) a_nil))))))))
theorem Md.ok_l_some {P : Program} {w : World} {K : PySem.W.Frag} {mg : Str → Option Value} {base : Heap} (m : Md K mg base) : DefOk P w ⟨K, mg⟩ base "_law_some" 2 F_l_some := by
  obtain ⟨fd, F⟩ := m.says.def_ 37 (d := d_l_some) rfl
  exact DefOk.mk0 (C := ⟨K, mg⟩) (He.glo_ok m.kin m.ns (m.says.fact 37 (f := .glo "_law_some") rfl)) F.kp (F.bindsN fun _ _ _ _ _ _ us hl => match us, hl with | [_, _, _], _ => rfl) (m.fo_l_some F)
def N_l_pairs : List Str := ["ones", "others", "found", "one", "other"]
theorem sc_l_pairs : FnScope N_l_pairs ["ones", "others"] (defScope (top 57)) := ⟨rfl, rfl, rfl, by decide +kernel, rfl, by decide +kernel, by decide +kernel⟩
noncomputable def b_l_pairs : SS := (seqS (setS 2 (newS nilA))
    (seqS (forS (iseqS (varS 0)) (.nm 3) (exprS (mtdS isLst extendM (varS 2) (consA (lcS (iseqS (varS 1)) (.nm 4) [4] yesT (tupS (consA (varS 3) (consA (varS 4) nilA)))) nilA))))
    (retS (frzS (varS 2)))))
noncomputable def F_l_pairs : SF := lenF 2 (fnS 5 b_l_pairs)
theorem Md.fo_l_pairs {P : Program} {w : World} {K : PySem.W.Frag} {mg : Str → Option Value} {base : Heap} (m : Md K mg base) {fd : FuncData} (F : FunD K d_l_pairs.name d_l_pairs.qual d_l_pairs.params d_l_pairs.body d_l_pairs.scope (d_l_pairs.dvs K) (d_l_pairs.kws K) (He.fAd K d_l_pairs.at_) fd) : FnG P w K mg base (L2.CX P w) 1 (He.fAd K d_l_pairs.at_) fd ["ones", "others"] (spD ⟨K, mg⟩ F_l_pairs) := by
  have S := sc_l_pairs
  exact def_ok (C := ⟨K, mg⟩) 5 F S rfl fun cdv A outer s0 H E hr =>
    (s_cons (s_set (i := 2) S.nd (d_new a_nil))
    (s_cons (s_for passesD rfl (i_seq (dv 0)) (g_nm S.nd) (s_one (s_expr (d_extend (dv 2) (a_cons (d_lc (own := [("other", 4)]) rfl S.nd (blkOk_by (own := [("other", 4)]) (N := N_l_pairs) (sc := defScope (top 57)) (by decide +kernel)) (by simp [Tg.ix, Tg.ixs]) (i_seq (dv 1)) (fun _ _ _ _ _ => (g_nm S.nd)) (fun _ _ _ _ _ => ts_nil) (fun _ _ _ _ _ => (d_tup (a_cons (dv 3) (a_cons (dv 4) a_nil))))) a_nil)))))
    (s_one (s_ret (d_frz (dv 2))))))
theorem Md.ok_l_pairs {P : Program} {w : World} {K : PySem.W.Frag} {mg : Str → Option Value} {base : Heap} (m : Md K mg base) : DefOk P w ⟨K, mg⟩ base "_law_pairs" 1 F_l_pairs := by
  obtain ⟨fd, F⟩ := m.says.def_ 38 (d := d_l_pairs) rfl
  exact DefOk.mk0 (C := ⟨K, mg⟩) (He.glo_ok m.kin m.ns (m.says.fact 38 (f := .glo "_law_pairs") rfl)) F.kp (F.bindsN fun _ _ _ _ _ _ us hl => match us, hl with | [_, _], _ => rfl) (m.fo_l_pairs F)
def N_l_premises : List Str := ["pot", "places", "most"]
theorem sc_l_premises : FnScope N_l_premises ["pot", "places"] (defScope (top 58)) := ⟨rfl, rfl, rfl, by decide +kernel, rfl, by decide +kernel, by decide +kernel⟩
noncomputable def b_l_premises : SS := (seqS (setS 2 (op2 ixM (lstS (consA (cS (.int 1)) (consA (cS (.int 2)) (consA (cS (.int 2)) (consA (cS (.int 3)) (consA (cS (.int 8)) nilA)))))) (callS F_l_dip (consA (varS 0) (consA (cS (.int 5)) nilA)))))
    (retS (callS F_l_some (consA (varS 0) (consA (varS 1) (consA (varS 2) nilA))))))
noncomputable def F_l_premises : SF := lenF 2 (fnS 3 b_l_premises)
theorem Md.fo_l_premises {P : Program} {w : World} {K : PySem.W.Frag} {mg : Str → Option Value} {base : Heap} (m : Md K mg base) {fd : FuncData} (F : FunD K d_l_premises.name d_l_premises.qual d_l_premises.params d_l_premises.body d_l_premises.scope (d_l_premises.dvs K) (d_l_premises.kws K) (He.fAd K d_l_premises.at_) fd) : FnG P w K mg base (L2.CX P w) 3 (He.fAd K d_l_premises.at_) fd ["pot", "places"] (spD ⟨K, mg⟩ F_l_premises) := by
  have S := sc_l_premises
  exact def_ok (C := ⟨K, mg⟩) 3 F S rfl fun cdv A outer s0 H E hr =>
    (s_cons (s_set (i := 2) S.nd (d_ix (d_lst (a_cons d_int (a_cons d_int (a_cons d_int (a_cons d_int (a_cons d_int a_nil)))))) (d_call m.ok_l_dip (hr.mono (by decide)) takesD (a_cons (dv 0) (a_cons d_int a_nil))) (fun _ _ => rfl)))
    (s_one (s_ret (d_call m.ok_l_some (hr.mono (by decide)) takesD (a_cons (dv 0) (a_cons (dv 1) (a_cons (dv 2) a_nil)))))))
theorem Md.ok_l_premises {P : Program} {w : World} {K : PySem.W.Frag} {mg : Str → Option Value} {base : Heap} (m : Md K mg base) : DefOk P w ⟨K, mg⟩ base "_law_premises" 3 F_l_premises := by
  obtain ⟨fd, F⟩ := m.says.def_ 39 (d := d_l_premises) rfl
  exact DefOk.mk0 (C := ⟨K, mg⟩) (He.glo_ok m.kin m.ns (m.says.fact 39 (f := .glo "_law_premises") rfl)) F.kp (F.bindsN fun _ _ _ _ _ _ us hl => match us, hl with | [_, _], _ => rfl) (m.fo_l_premises F)
def N_l_world : List Str := ["pot", "hands", "sayings", "places", "vouched", "rules", "k", "roads", "one", "price", "other", "place", "hand", "saying"]
theorem sc_l_world : FnScope N_l_world ["pot"] (defScope (top 59)) := ⟨rfl, rfl, rfl, by decide +kernel, rfl, by decide +kernel, by decide +kernel⟩
noncomputable def b_l_world : SS := (seqS (setS 1 (callS F_l_some (consA (varS 0) (consA (lstS (consA (cS (.str "an")) (consA (cS (.str "bo")) (consA (cS (.str "cy")) (consA (cS (.str "di")) (consA (cS (.str "zzzzzzzz")) nilA)))))) (consA (cS (.int 5)) nilA)))))
    (seqS (setS 2 (callS F_l_some (consA (varS 0) (consA (lstS (consA (cS (.str "a")) (consA (cS (.str "an")) (consA (cS (.str "wet")) (consA (cS (.str "abcdefgh")) nilA))))) (consA (cS (.int 4)) nilA)))))
    (seqS (setS 3 (callS F_l_pairs (consA (varS 1) (consA (varS 2) nilA))))
    (seqS (setS 4 (lcS (iseqS (varS 3)) (.nm 11) [11] (asT (op2 eqM (callS F_l_dip (consA (varS 0) (consA (cS (.int 5)) nilA))) (cS (.int 0)))) (varS 11)))
    (seqS (setS 5 (newS nilA))
    (seqS (forS (irange1S (consA (callS F_l_dip (consA (varS 0) (consA (cS (.int 13)) nilA))) nilA)) (.nm 6) (seqS (asgS (.tp [.nm 12, .nm 13]) (op2 ixM (varS 3) (callS F_l_dip (consA (varS 0) (consA (callV lenM (consA (varS 3) nilA)) nilA)))))
    (seqS (setS 9 (op2 ixM (lstS (consA (cS (.int 1)) (consA (op2 addM (cS (.int 1)) (callS F_l_dip (consA (varS 0) (consA (cS (.int 9)) nilA)))) (consA (op2 addM (cS (.int 1)) (callS F_l_dip (consA (varS 0) (consA (cS (.int 999999999)) nilA)))) nilA)))) (op2 divM (callS F_l_dip (consA (varS 0) (consA (cS (.int 8)) nilA))) (cS (.int 3)))))
    (exprS (mtdS isLst appendM (varS 5) (consA (tupS (consA (varS 12) (consA (varS 13) (consA (varS 9) (consA (callS F_l_premises (consA (varS 0) (consA (varS 3) nilA))) nilA))))) nilA))))))
    (seqS (setS 7 (newS nilA))
    (seqS (forS (iseqS (callV sortM (consA (varS 1) nilA))) (.nm 8) (forS (iseqS (callV sortM (consA (varS 1) nilA))) (.nm 10) (ifS (andT (asT (op2 ltM (varS 8) (varS 10))) (asT (op2 gtM (callS F_l_dip (consA (varS 0) (consA (cS (.int 4)) nilA))) (cS (.int 0))))) (exprS (mtdS isLst insertM (varS 7) (consA (callS F_l_dip (consA (varS 0) (consA (op2 addM (callV lenM (consA (varS 7) nilA)) (cS (.int 1))) nilA))) (consA (tupS (consA (varS 8) (consA (varS 10) nilA))) nilA)))) nextS)))
    (retS (tupS (consA (op1 revM (varS 4)) (consA (frzS (varS 5)) (consA (frzS (varS 7)) nilA)))))))))))))
noncomputable def F_l_world : SF := lenF 1 (fnS 14 b_l_world)
theorem Md.fo_l_world {P : Program} {w : World} {K : PySem.W.Frag} {mg : Str → Option Value} {base : Heap} (m : Md K mg base) {fd : FuncData} (F : FunD K d_l_world.name d_l_world.qual d_l_world.params d_l_world.body d_l_world.scope (d_l_world.dvs K) (d_l_world.kws K) (He.fAd K d_l_world.at_) fd) : FnG P w K mg base (L2.CX P w) 4 (He.fAd K d_l_world.at_) fd ["pot"] (spD ⟨K, mg⟩ F_l_world) := by
  have S := sc_l_world
  exact def_ok (C := ⟨K, mg⟩) 14 F S rfl fun cdv A outer s0 H E hr =>
    (s_cons (s_set (i := 1) S.nd (d_call m.ok_l_some (hr.mono (by decide)) takesD (a_cons (dv 0) (a_cons (d_lst (a_cons d_str (a_cons d_str (a_cons d_str (a_cons d_str (a_cons d_str a_nil)))))) (a_cons d_int a_nil)))))
    (s_cons (s_set (i := 2) S.nd (d_call m.ok_l_some (hr.mono (by decide)) takesD (a_cons (dv 0) (a_cons (d_lst (a_cons d_str (a_cons d_str (a_cons d_str (a_cons d_str a_nil))))) (a_cons d_int a_nil)))))
    (s_cons (s_set (i := 3) S.nd (d_call m.ok_l_pairs (hr.mono (by decide)) takesD (a_cons (dv 1) (a_cons (dv 2) a_nil))))
    (s_cons (s_setLc (i := 4) (own := [("place", 11)]) rfl S.nd (sw_true rfl rfl rfl (by decide +kernel)) (blkOk_by (own := [("place", 11)]) (N := N_l_world) (sc := defScope (top 59)) (by decide +kernel)) (by simp [Tg.ix, Tg.ixs]) (i_seq (dv 3)) (fun _ _ _ _ _ => (g_nm S.nd)) (fun _ _ _ _ _ => (ts_one (t_eq hr.r (d_call m.ok_l_dip (hr.mono (by decide)) takesW0 (a_cons (dv 0) (a_cons d_int a_nil))) d_int))) (fun _ _ _ _ _ => (dv 11)))
    (s_cons (s_set (i := 5) S.nd (d_new a_nil))
    (s_cons (s_for passesD rfl (i_range1 m.fr_range (a_cons (d_call m.ok_l_dip (hr.mono (by decide)) takesD (a_cons (dv 0) (a_cons d_int a_nil))) a_nil)) (g_nm S.nd) (s_cons (s_asg (d_ix (dv 3) (d_call m.ok_l_dip (hr.mono (by decide)) takesD (a_cons (dv 0) (a_cons (d_len m.fr_len (a_cons (dv 3) a_nil)) a_nil))) (fun _ _ => rfl)) (g_tp rfl (gs_cons (g_nm S.nd) (gs_cons (g_nm S.nd) gs_nil))))
    (s_cons (s_set (i := 9) S.nd (d_ix (d_lst (a_cons d_int (a_cons (d_add d_int (d_call m.ok_l_dip (hr.mono (by decide)) takesD (a_cons (dv 0) (a_cons d_int a_nil)))) (a_cons (d_add d_int (d_call m.ok_l_dip (hr.mono (by decide)) takesD (a_cons (dv 0) (a_cons d_int a_nil)))) a_nil)))) (d_div (d_call m.ok_l_dip (hr.mono (by decide)) takesD (a_cons (dv 0) (a_cons d_int a_nil))) d_int) (fun _ _ => rfl)))
    (s_one (s_expr (d_append (dv 5) (a_cons (d_tup (a_cons (dv 12) (a_cons (dv 13) (a_cons (dv 9) (a_cons (d_call m.ok_l_premises (hr.mono (by decide)) takesD (a_cons (dv 0) (a_cons (dv 3) a_nil))) a_nil))))) a_nil)))))))
    (s_cons (s_set (i := 7) S.nd (d_new a_nil))
    (s_cons (s_for passesD rfl (i_seq (d_sorted hr m.fr_sorted (a_cons (dv 1) a_nil))) (g_nm S.nd) (s_one (s_for passesD rfl (i_seq (d_sorted hr m.fr_sorted (a_cons (dv 1) a_nil))) (g_nm S.nd) (s_one (s_if (t_of (w_and (t_lt (dv 8) (dv 10)) (w_and1 (t_gt (d_call m.ok_l_dip (hr.mono (by decide)) takesD (a_cons (dv 0) (a_cons d_int a_nil))) d_int)))) (s_one (s_expr (d_insert (dv 7) (a_cons (d_call m.ok_l_dip (hr.mono (by decide)) takesD (a_cons (dv 0) (a_cons (d_add (d_len m.fr_len (a_cons (dv 7) a_nil)) d_int) a_nil))) (a_cons (d_tup (a_cons (dv 8) (a_cons (dv 10) a_nil))) a_nil))))) s_nil)))))
    (s_one (s_ret (d_tup (a_cons (d_rev (dv 4)) (a_cons (d_frz (dv 5)) (a_cons (d_frz (dv 7)) a_nil))))))))))))))
theorem Md.ok_l_world {P : Program} {w : World} {K : PySem.W.Frag} {mg : Str → Option Value} {base : Heap} (m : Md K mg base) : DefOk P w ⟨K, mg⟩ base "_law_world" 4 F_l_world := by
  obtain ⟨fd, F⟩ := m.says.def_ 40 (d := d_l_world) rfl
  exact DefOk.mk0 (C := ⟨K, mg⟩) (He.glo_ok m.kin m.ns (m.says.fact 40 (f := .glo "_law_world") rfl)) F.kp (F.bindsN fun _ _ _ _ _ _ us hl => match us, hl with | [_], _ => rfl) (m.fo_l_world F)
def N_l_by_texts : List Str := ["world", "vouched", "rules", "roads", "place", "rule", "road"]
theorem sc_l_by_texts : FnScope N_l_by_texts ["world"] (defScope (top 60)) := ⟨rfl, rfl, rfl, by decide +kernel, rfl, by decide +kernel, by decide +kernel⟩
noncomputable def b_l_by_texts : SS := (seqS (setS 1 (lcS (iseqS (op2 ixM (varS 0) (cS (.int 0)))) (.nm 4) [4] yesT (callS F_read_place (consA (callS F_show_place (consA (varS 4) nilA)) nilA))))
    (seqS (setS 2 (lcS (iseqS (op2 ixM (varS 0) (cS (.int 1)))) (.nm 5) [5] yesT (callS F_read_rule (consA (callS F_show_rule (consA (varS 5) nilA)) nilA))))
    (seqS (setS 3 (lcS (iseqS (op2 ixM (varS 0) (cS (.int 2)))) (.nm 6) [6] yesT (callV tupleM (consA (m1S splitM (callS F_show_place (consA (varS 6) nilA)) (cS (.str "."))) nilA))))
    (retS (tupS (consA (varS 1) (consA (varS 2) (consA (varS 3) nilA))))))))
noncomputable def F_l_by_texts : SF := lenF 1 (fnS 7 b_l_by_texts)
theorem Md.fo_l_by_texts {P : Program} {w : World} {K : PySem.W.Frag} {mg : Str → Option Value} {base : Heap} (m : Md K mg base) {fd : FuncData} (F : FunD K d_l_by_texts.name d_l_by_texts.qual d_l_by_texts.params d_l_by_texts.body d_l_by_texts.scope (d_l_by_texts.dvs K) (d_l_by_texts.kws K) (He.fAd K d_l_by_texts.at_) fd) : FnG P w K mg base (L2.CX P w) 7 (He.fAd K d_l_by_texts.at_) fd ["world"] (spD ⟨K, mg⟩ F_l_by_texts) := by
  have S := sc_l_by_texts
  exact def_ok (C := ⟨K, mg⟩) 7 F S rfl fun cdv A outer s0 H E hr =>
    (s_cons (s_setLc (i := 1) (own := [("place", 4)]) rfl S.nd (sw_true rfl rfl rfl (by decide +kernel)) (blkOk_by (own := [("place", 4)]) (N := N_l_by_texts) (sc := defScope (top 60)) (by decide +kernel)) (by simp [Tg.ix, Tg.ixs]) (i_seq (d_ix (dv 0) d_int (fun _ _ => rfl))) (fun _ _ _ _ _ => (g_nm S.nd)) (fun _ _ _ _ _ => ts_nil) (fun _ _ _ _ _ => (d_call m.ok_read_place (hr.mono (by decide)) takesW0 (a_cons (d_call m.ok_show_place (hr.mono (by decide)) takesW0 (a_cons (dv 4) a_nil)) a_nil))))
    (s_cons (s_setLc (i := 2) (own := [("rule", 5)]) rfl S.nd (sw_true rfl rfl rfl (by decide +kernel)) (blkOk_by (own := [("rule", 5)]) (N := N_l_by_texts) (sc := defScope (top 60)) (by decide +kernel)) (by simp [Tg.ix, Tg.ixs]) (i_seq (d_ix (dv 0) d_int (fun _ _ => rfl))) (fun _ _ _ _ _ => (g_nm S.nd)) (fun _ _ _ _ _ => ts_nil) (fun _ _ _ _ _ => (d_call m.ok_read_rule (hr.mono (by decide)) takesW0 (a_cons (d_call m.ok_show_rule (hr.mono (by decide)) takesW0 (a_cons (dv 5) a_nil)) a_nil))))
    (s_cons (s_setLc (i := 3) (own := [("road", 6)]) rfl S.nd (sw_true rfl rfl rfl (by decide +kernel)) (blkOk_by (own := [("road", 6)]) (N := N_l_by_texts) (sc := defScope (top 60)) (by decide +kernel)) (by simp [Tg.ix, Tg.ixs]) (i_seq (d_ix (dv 0) d_int (fun _ _ => rfl))) (fun _ _ _ _ _ => (g_nm S.nd)) (fun _ _ _ _ _ => ts_nil) (fun _ _ _ _ _ => (d_tuple m.fr_tuple (a_cons (d_split (d_call m.ok_show_place (hr.mono (by decide)) takesW0 (a_cons (dv 6) a_nil)) d_str) a_nil))))
    (s_one (s_ret (d_tup (a_cons (dv 1) (a_cons (dv 2) (a_cons (dv 3) a_nil)))))))))
theorem Md.ok_l_by_texts {P : Program} {w : World} {K : PySem.W.Frag} {mg : Str → Option Value} {base : Heap} (m : Md K mg base) : DefOk P w ⟨K, mg⟩ base "_law_by_texts" 7 F_l_by_texts := by
  obtain ⟨fd, F⟩ := m.says.def_ 41 (d := d_l_by_texts) rfl
  exact DefOk.mk0 (C := ⟨K, mg⟩) (He.glo_ok m.kin m.ns (m.says.fact 41 (f := .glo "_law_by_texts") rfl)) F.kp (F.bindsN fun _ _ _ _ _ _ us hl => match us, hl with | [_], _ => rfl) (m.fo_l_by_texts F)
def N_l_texts_right : List Str := ["things", "texts", "k", "j"]
theorem sc_l_texts_right : FnScope N_l_texts_right ["things", "texts"] (defScope (top 61)) := ⟨rfl, rfl, rfl, by decide +kernel, rfl, by decide +kernel, by decide +kernel⟩
noncomputable def b_l_texts_right : SS := (seqS (forS (irange1S (consA (callV lenM (consA (varS 0) nilA)) nilA)) (.nm 2) (forS (irange1S (consA (varS 2) nilA)) (.nm 3) (ifS (asT (op2 neM (op2 eqM (op2 ixM (varS 0) (varS 2)) (op2 ixM (varS 0) (varS 3))) (op2 eqM (op2 ixM (varS 1) (varS 2)) (op2 ixM (varS 1) (varS 3))))) (retS (cS (.bl false))) nextS)))
    (retS (cS (.bl true))))
noncomputable def F_l_texts_right : SF := lenF 2 (fnS 4 b_l_texts_right)
theorem Md.fo_l_texts_right {P : Program} {w : World} {K : PySem.W.Frag} {mg : Str → Option Value} {base : Heap} (m : Md K mg base) {fd : FuncData} (F : FunD K d_l_texts_right.name d_l_texts_right.qual d_l_texts_right.params d_l_texts_right.body d_l_texts_right.scope (d_l_texts_right.dvs K) (d_l_texts_right.kws K) (He.fAd K d_l_texts_right.at_) fd) : FnG P w K mg base (L2.CX P w) 1 (He.fAd K d_l_texts_right.at_) fd ["things", "texts"] (spD ⟨K, mg⟩ F_l_texts_right) := by
  have S := sc_l_texts_right
  exact def_ok (C := ⟨K, mg⟩) 4 F S rfl fun cdv A outer s0 H E hr =>
    (s_cons (s_for passesD rfl (i_range1 m.fr_range (a_cons (d_len m.fr_len (a_cons (dv 0) a_nil)) a_nil)) (g_nm S.nd) (s_one (s_for passesD rfl (i_range1 m.fr_range (a_cons (dv 2) a_nil)) (g_nm S.nd) (s_one (s_if (t_ne hr.r (d_eq hr.r (d_ix (dv 0) (dv 2) (fun _ _ => rfl)) (d_ix (dv 0) (dv 3) (fun _ _ => rfl))) (d_eq hr.r (d_ix (dv 1) (dv 2) (fun _ _ => rfl)) (d_ix (dv 1) (dv 3) (fun _ _ => rfl)))) (s_one (s_ret d_bl)) s_nil)))))
    (s_one (s_ret d_bl)))
theorem Md.ok_l_texts_right {P : Program} {w : World} {K : PySem.W.Frag} {mg : Str → Option Value} {base : Heap} (m : Md K mg base) : DefOk P w ⟨K, mg⟩ base "_law_texts_right" 1 F_l_texts_right := by
  obtain ⟨fd, F⟩ := m.says.def_ 42 (d := d_l_texts_right) rfl
  exact DefOk.mk0 (C := ⟨K, mg⟩) (He.glo_ok m.kin m.ns (m.says.fact 42 (f := .glo "_law_texts_right") rfl)) F.kp (F.bindsN fun _ _ _ _ _ _ us hl => match us, hl with | [_, _], _ => rfl) (m.fo_l_texts_right F)
def N_l_places_right : List Str := ["world", "other", "reading", "place", "paper", "some"]
theorem sc_l_places_right : FnScope N_l_places_right ["world", "other", "reading"] (defScope (top 62)) := ⟨rfl, rfl, rfl, by decide +kernel, rfl, by decide +kernel, by decide +kernel⟩
noncomputable def b_l_places_right : SS := (seqS (forS (iseqS (callS F_named (consA (varS 0) nilA))) (.nm 3) (ifS (asT (op2 dinM (varS 3) (varS 2))) (seqS (setS 4 (callS F_why (consA (varS 1) (consA (varS 3) nilA))))
    (ifS (orT (asT (op2 neM (varS 4) (callS F_why (consA (varS 0) (consA (varS 3) nilA))))) (asT (op2 isnotBM (callS F_why_shows (consA (varS 0) (consA (varS 3) (consA (varS 4) nilA)))) (cS (.bl true))))) (retS (cS (.bl false))) nextS)) (seqS (setS 5 (callS F_why_not (consA (varS 1) (consA (varS 3) nilA))))
    (ifS (orT (asT (op2 neM (varS 5) (callS F_why_not (consA (varS 0) (consA (varS 3) nilA))))) (asT (op2 isnotBM (callS F_why_not_shows (consA (varS 0) (consA (varS 3) (consA (varS 5) nilA)))) (cS (.bl true))))) (retS (cS (.bl false))) nextS))))
    (retS (cS (.bl true))))
noncomputable def F_l_places_right : SF := lenF 3 (fnS 6 b_l_places_right)
theorem Md.fo_l_places_right {P : Program} {w : World} {K : PySem.W.Frag} {mg : Str → Option Value} {base : Heap} (m : Md K mg base) {fd : FuncData} (F : FunD K d_l_places_right.name d_l_places_right.qual d_l_places_right.params d_l_places_right.body d_l_places_right.scope (d_l_places_right.dvs K) (d_l_places_right.kws K) (He.fAd K d_l_places_right.at_) fd) : FnG P w K mg base (L2.CX P w) 9 (He.fAd K d_l_places_right.at_) fd ["world", "other", "reading"] (spD ⟨K, mg⟩ F_l_places_right) := by
  have S := sc_l_places_right
  exact def_ok (C := ⟨K, mg⟩) 6 F S rfl fun cdv A outer s0 H E hr =>
    (s_cons (s_for passesD rfl (i_seq (d_call m.ok_named (hr.mono (by decide)) takesD (a_cons (dv 0) a_nil))) (g_nm S.nd) (s_one (s_if (t_din hr.r (dv 3) (dv 2)) (s_cons (s_set (i := 4) S.nd (d_call m.ok_why (hr.mono (by decide)) takesD (a_cons (dv 1) (a_cons (dv 3) a_nil))))
    (s_one (s_if (t_of (w_or (t_ne hr.r (dv 4) (d_call m.ok_why (hr.mono (by decide)) takesD (a_cons (dv 0) (a_cons (dv 3) a_nil)))) (w_or1 (t_isnotB (d_call m.ok_why_shows (hr.mono (by decide)) takesD (a_cons (dv 0) (a_cons (dv 3) (a_cons (dv 4) a_nil)))) d_bl)))) (s_one (s_ret d_bl)) s_nil))) (s_cons (s_set (i := 5) S.nd (d_call m.ok_why_not (hr.mono (by decide)) takesD (a_cons (dv 1) (a_cons (dv 3) a_nil))))
    (s_one (s_if (t_of (w_or (t_ne hr.r (dv 5) (d_call m.ok_why_not (hr.mono (by decide)) takesD (a_cons (dv 0) (a_cons (dv 3) a_nil)))) (w_or1 (t_isnotB (d_call m.ok_why_not_shows (hr.mono (by decide)) takesD (a_cons (dv 0) (a_cons (dv 3) (a_cons (dv 5) a_nil)))) d_bl)))) (s_one (s_ret d_bl)) s_nil))))))
    (s_one (s_ret d_bl)))
theorem Md.ok_l_places_right {P : Program} {w : World} {K : PySem.W.Frag} {mg : Str → Option Value} {base : Heap} (m : Md K mg base) : DefOk P w ⟨K, mg⟩ base "_law_places_right" 9 F_l_places_right := by
  obtain ⟨fd, F⟩ := m.says.def_ 43 (d := d_l_places_right) rfl
  exact DefOk.mk0 (C := ⟨K, mg⟩) (He.glo_ok m.kin m.ns (m.says.fact 43 (f := .glo "_law_places_right") rfl)) F.kp (F.bindsN fun _ _ _ _ _ _ us hl => match us, hl with | [_, _, _], _ => rfl) (m.fo_l_places_right F)
def N_law : List Str := ["script", "k", "pot", "world", "other", "places", "gone", "hand", "saying", "price", "premises", "parts", "place", "rule", "one"]
theorem sc_law : FnScope N_law ["script"] (defScope (top 63)) := ⟨rfl, rfl, rfl, by decide +kernel, rfl, by decide +kernel, by decide +kernel⟩
noncomputable def b_law : SS := (seqS (forS (irange1S (consA (callV max2M (consA (cS (.int 1)) (consA (callV min2M (consA (cS (.int 8)) (consA (callV lenM (consA (varS 0) nilA)) nilA))) nilA))) nilA)) (.nm 1) (seqS (setS 2 (callS F_l_pot (consA (varS 0) (consA (varS 1) nilA))))
    (seqS (setS 3 (callS F_l_world (consA (varS 2) nilA)))
    (seqS (setS 4 (callS F_l_by_texts (consA (varS 3) nilA)))
    (seqS (ifS (orT (asT (op2 neM (callV reprM (consA (varS 4) nilA)) (callV reprM (consA (varS 3) nilA)))) (asT (op2 (dsameM false) (callS F_least (consA (varS 4) nilA)) (callS F_least (consA (varS 3) nilA))))) (retS (cS (.bl false))) nextS)
    (seqS (setS 5 (callS F_named (consA (varS 3) nilA)))
    (seqS (ifS (notT (asT (callS F_l_texts_right (consA (varS 5) (consA (lcS (iseqS (varS 5)) (.nm 12) [12] yesT (callS F_show_place (consA (varS 12) nilA))) nilA))))) (retS (cS (.bl false))) nextS)
    (seqS (ifS (notT (asT (callS F_l_texts_right (consA (op2 ixM (varS 3) (cS (.int 1))) (consA (lcS (iseqS (op2 ixM (varS 3) (cS (.int 1)))) (.nm 13) [13] yesT (callS F_show_rule (consA (varS 13) nilA))) nilA))))) (retS (cS (.bl false))) nextS)
    (seqS (forS (iseqS (op2 ixM (varS 3) (cS (.int 1)))) (.tp [.nm 7, .nm 8, .nm 9, .nm 10]) (seqS (setS 11 (op2 addM (lstS (consA (callS F_show_place (consA (tupS (consA (varS 7) (consA (varS 8) nilA))) nilA)) (consA (cS (.str "=")) (consA (callV strM (consA (varS 9) nilA)) nilA)))) (lcS (iseqS (varS 10)) (.nm 14) [14] yesT (callS F_show_place (consA (varS 14) nilA)))))
    (ifS (asT (op2 neM (callS F_show_rule (consA (tupS (consA (varS 7) (consA (varS 8) (consA (varS 9) (consA (varS 10) nilA))))) nilA)) (m1S joinM (cS (.str " ")) (varS 11)))) (retS (cS (.bl false))) nextS)))
    (seqS (ifS (notT (asT (callS F_l_places_right (consA (varS 3) (consA (varS 4) (consA (callS F_least (consA (varS 3) nilA)) nilA)))))) (retS (cS (.bl false))) nextS)
    (seqS (setS 6 (sliceS (op2 ixM (varS 3) (cS (.int 0))) (fun _ M => .ok none M) (partS (op2 addM (cS (.int 1)) (callS F_l_dip (consA (varS 2) (consA (cS (.int 3)) nilA)))))))
    (ifS (asT (op2 neM (callS F_falls (consA (varS 4) (consA (varS 6) nilA))) (callS F_falls (consA (varS 3) (consA (varS 6) nilA))))) (retS (cS (.bl false))) nextS))))))))))))
    (retS (cS (.bl true))))
noncomputable def F_law : SF := lenF 1 (fnS 15 b_law)
theorem Md.fo_law {P : Program} {w : World} {K : PySem.W.Frag} {mg : Str → Option Value} {base : Heap} (m : Md K mg base) {fd : FuncData} (F : FunD K d_law.name d_law.qual d_law.params d_law.body d_law.scope (d_law.dvs K) (d_law.kws K) (He.fAd K d_law.at_) fd) : FnG P w K mg base (L2.CX P w) 10 (He.fAd K d_law.at_) fd ["script"] (spD ⟨K, mg⟩ F_law) := by
  have S := sc_law
  exact def_ok (C := ⟨K, mg⟩) 15 F S rfl fun cdv A outer s0 H E hr =>
    (s_cons (s_for passesD rfl (i_range1 m.fr_range (a_cons (d_max2 rfl m.fr_max (a_cons d_int (a_cons (d_min2 rfl m.fr_min (a_cons d_int (a_cons (d_len m.fr_len (a_cons (dv 0) a_nil)) a_nil))) a_nil))) a_nil)) (g_nm S.nd) (s_cons (s_set (i := 2) S.nd (d_call m.ok_l_pot (hr.mono (by decide)) takesD (a_cons (dv 0) (a_cons (dv 1) a_nil))))
    (s_cons (s_set (i := 3) S.nd (d_call m.ok_l_world (hr.mono (by decide)) takesD (a_cons (dv 2) a_nil)))
    (s_cons (s_set (i := 4) S.nd (d_call m.ok_l_by_texts (hr.mono (by decide)) takesD (a_cons (dv 3) a_nil)))
    (s_cons (s_if (t_of (w_or (t_ne hr.r (d_repr hr m.fr_repr (a_cons (dv 4) a_nil)) (d_repr hr m.fr_repr (a_cons (dv 3) a_nil))) (w_or1 (t_dsameN hr.r (d_call m.ok_least (hr.mono (by decide)) takesD (a_cons (dv 4) a_nil)) (d_call m.ok_least (hr.mono (by decide)) takesD (a_cons (dv 3) a_nil)))))) (s_one (s_ret d_bl)) s_nil)
    (s_cons (s_set (i := 5) S.nd (d_call m.ok_named (hr.mono (by decide)) takesD (a_cons (dv 3) a_nil)))
    (s_cons (s_if (t_not (t_val (d_call m.ok_l_texts_right (hr.mono (by decide)) takesD (a_cons (dv 5) (a_cons (d_lc (own := [("place", 12)]) rfl S.nd (blkOk_by (own := [("place", 12)]) (N := N_law) (sc := defScope (top 63)) (by decide +kernel)) (by simp [Tg.ix, Tg.ixs]) (i_seq (dv 5)) (fun _ _ _ _ _ => (g_nm S.nd)) (fun _ _ _ _ _ => ts_nil) (fun _ _ _ _ _ => (d_call m.ok_show_place (hr.mono (by decide)) takesW0 (a_cons (dv 12) a_nil)))) a_nil))))) (s_one (s_ret d_bl)) s_nil)
    (s_cons (s_if (t_not (t_val (d_call m.ok_l_texts_right (hr.mono (by decide)) takesD (a_cons (d_ix (dv 3) d_int (fun _ _ => rfl)) (a_cons (d_lc (own := [("rule", 13)]) rfl S.nd (blkOk_by (own := [("rule", 13)]) (N := N_law) (sc := defScope (top 63)) (by decide +kernel)) (by simp [Tg.ix, Tg.ixs]) (i_seq (d_ix (dv 3) d_int (fun _ _ => rfl))) (fun _ _ _ _ _ => (g_nm S.nd)) (fun _ _ _ _ _ => ts_nil) (fun _ _ _ _ _ => (d_call m.ok_show_rule (hr.mono (by decide)) takesW0 (a_cons (dv 13) a_nil)))) a_nil))))) (s_one (s_ret d_bl)) s_nil)
    (s_cons (s_for passesD rfl (i_seq (d_ix (dv 3) d_int (fun _ _ => rfl))) (g_tp rfl (gs_cons (g_nm S.nd) (gs_cons (g_nm S.nd) (gs_cons (g_nm S.nd) (gs_cons (g_nm S.nd) gs_nil))))) (s_cons (s_set (i := 11) S.nd (d_add (d_lst (a_cons (d_call m.ok_show_place (hr.mono (by decide)) takesD (a_cons (d_tup (a_cons (dv 7) (a_cons (dv 8) a_nil))) a_nil)) (a_cons d_str (a_cons (d_strc rfl m.dig m.fr_str (a_cons (dv 9) a_nil)) a_nil)))) (d_lc (own := [("one", 14)]) rfl S.nd (blkOk_by (own := [("one", 14)]) (N := N_law) (sc := defScope (top 63)) (by decide +kernel)) (by simp [Tg.ix, Tg.ixs]) (i_seq (dv 10)) (fun _ _ _ _ _ => (g_nm S.nd)) (fun _ _ _ _ _ => ts_nil) (fun _ _ _ _ _ => (d_call m.ok_show_place (hr.mono (by decide)) takesW0 (a_cons (dv 14) a_nil))))))
    (s_one (s_if (t_ne hr.r (d_call m.ok_show_rule (hr.mono (by decide)) takesD (a_cons (d_tup (a_cons (dv 7) (a_cons (dv 8) (a_cons (dv 9) (a_cons (dv 10) a_nil))))) a_nil)) (d_join d_str (dv 11))) (s_one (s_ret d_bl)) s_nil))))
    (s_cons (s_if (t_not (t_val (d_call m.ok_l_places_right (hr.mono (by decide)) takesD (a_cons (dv 3) (a_cons (dv 4) (a_cons (d_call m.ok_least (hr.mono (by decide)) takesD (a_cons (dv 3) a_nil)) a_nil)))))) (s_one (s_ret d_bl)) s_nil)
    (s_cons (s_set (i := 6) S.nd (d_sl (d_ix (dv 3) d_int (fun _ _ => rfl)) o_none (o_some (d_add d_int (d_call m.ok_l_dip (hr.mono (by decide)) takesD (a_cons (dv 2) (a_cons d_int a_nil)))))))
    (s_one (s_if (t_ne hr.r (d_call m.ok_falls (hr.mono (by decide)) takesD (a_cons (dv 4) (a_cons (dv 6) a_nil))) (d_call m.ok_falls (hr.mono (by decide)) takesD (a_cons (dv 3) (a_cons (dv 6) a_nil)))) (s_one (s_ret d_bl)) s_nil)))))))))))))
    (s_one (s_ret d_bl)))
theorem Md.ok_law {P : Program} {w : World} {K : PySem.W.Frag} {mg : Str → Option Value} {base : Heap} (m : Md K mg base) : DefOk P w ⟨K, mg⟩ base "law" 10 F_law := by
  obtain ⟨fd, F⟩ := m.says.def_ 44 (d := d_law) rfl
  exact DefOk.mk0 (C := ⟨K, mg⟩) (He.glo_ok m.kin m.ns (m.says.fact 44 (f := .glo "law") rfl)) F.kp (F.bindsN fun _ _ _ _ _ _ us hl => match us, hl with | [_], _ => rfl) (m.fo_law F)
end H

namespace H
open PySem PySem.Spec PyProof.Rows L2 Lf
/-! what the package's looks answer -/
/-- things without tables, classes, defs; texts and lists not too long -/
inductive Thing (M : Mem) : D → Prop
  | non : Thing M .non
  | bl (b) : Thing M (.bl b)
  | int (i) : Thing M (.int i)
  | str {z : Str} : z.length ≤ 16000000 → Thing M (.str z)
  | tup {ds : List D} : ds.length ≤ 16000000 → Thing M (.tup ds)
  | lst {ds : List D} : ds.length ≤ 16000000 → Thing M (.lst ds)
  | ref {i : Nat} {ds : List D} : M[i]? = some (.lst ds) → ds.length ≤ 16000000 → Thing M (.ref i)
  | dic (ks : List L2.Key) (ds : List D) : Thing M (.dct ks ds)
def isCount (l : Int) : D → Bool
  | .int i => decide (l ≤ i)
  | _ => false
theorem is_count_at {M : Mem} {d : D} (l : Int) (h : Thing M d) : F_is_count [d, .int l] M = .ok (.bl (isCount l d)) M := by
  refine fn_pure rfl ?_ rfl
  unfold b_is_count
  cases h with
  | ref e _ => simp [isiM, tyN, tyL, e, isCount, endF]
  | _ => simp [isiM, tyN, tyL, isCount, endF, geM, cmpM]
def letters : List Nat := (Str.ofString "abcdefghijklmnopqrstuvwxyz").cps.toList
def isName : D → Bool
  | .str z => decide (1 ≤ z.length) && (decide (z.length ≤ 8) && z.cps.toList.all fun c => decide (c ∈ letters))
  | _ => false
theorem blsOf_map (bs : List Bool) : blsOf (bs.map D.bl) = some bs := by
  induction bs with
  | nil => rfl
  | cons b bs ih => simp [blsOf, ih]
theorem blsOf_comp {α : Type} (f : α → Bool) (l : List α) : blsOf (l.map (D.bl ∘ f)) = some (l.map f) := by
  rw [← List.map_map, blsOf_map]
theorem dec_le (a b : Nat) : decide ((a : Int) ≤ (b : Int)) = decide (a ≤ b) := by
  by_cases h : a ≤ b
  · rw [decide_eq_true h, decide_eq_true (by omega)]
  · rw [decide_eq_false h, decide_eq_false (by omega)]
theorem dec_eq (a b : Nat) : decide ((a : Int) = (b : Int)) = decide (a = b) := by
  by_cases h : a = b
  · rw [decide_eq_true h, decide_eq_true (by omega)]
  · rw [decide_eq_false h, decide_eq_false (by omega)]
theorem is_name_at {M : Mem} {d : D} (h : Thing M d) : F_is_name [d] M = .ok (.bl (isName d)) M := by
  refine fn_pure rfl ?_ rfl
  unfold b_is_name
  cases h with
  | ref e _ => simp [isiM, tyN, tyL, e, isName, endF]
  | str hz =>
    rename_i z
    have key : lcS (istrS (varS 0)) (.nm 1) [1] yesT (op2 inM (varS 1) (cS (.str "abcdefghijklmnopqrstuvwxyz"))) [some (.str z), none] M = .ok (.lst ((z.cps.toList.map fun c => decide (c ∈ letters)).map D.bl)) M := by
      have e2 : (Lf.signs z).map (fun x => match x with
        | .str c => D.bl (inStr c "abcdefghijklmnopqrstuvwxyz")
        | _ => .non) = (z.cps.toList.map fun c => decide (c ∈ letters)).map D.bl := by
        simp [Lf.signs, inStr, letters]
      rw [← e2]
      have el : (Lf.signs z).length = z.length := by simp [Lf.signs, Str.length]
      refine lcS_map (z := ⟨Lf.signs z, fun _ => True⟩) _ (by simp) (Nat.le_trans (Nat.le_of_eq el) hz) trivial fun x hx => ?_
      obtain ⟨c, _, rfl⟩ := List.mem_map.mp hx
      simp [wipeD, inM, inB]
    have i1 : decide ((1 : Int) ≤ (z.length : Int)) = decide (1 ≤ z.length) := dec_le 1 z.length
    have i2 : decide ((z.length : Int) ≤ 8) = decide (z.length ≤ 8) := dec_le z.length 8
    by_cases h1 : 1 ≤ z.length <;> by_cases h2 : z.length ≤ 8 <;> simp only [h1, h2, decide_true, decide_false] at i1 i2 <;>
      simp [isiM, tyN, tyL, endF, lenM, hz, leM, cmpM, i1, i2, key, allM, lstOf, blsOf_map, isName, h1, h2, blsOf_comp]
  | _ => simp [isiM, tyN, tyL, isName, endF]
/-- things whose parts are things, n deep -/
def Deep (M : Mem) : Nat → D → Prop
  | 0, d => Thing M d
  | n + 1, d => Thing M d ∧ ∀ ds, seqOf M d = some ds → ∀ x ∈ ds, Deep M n x
theorem Deep.thing {M : Mem} : ∀ {n : Nat} {d : D}, Deep M n d → Thing M d
  | 0, _, h => h
  | _ + 1, _, h => h.1
theorem Deep.pred {M : Mem} : ∀ {n : Nat} {d : D}, Deep M (n + 1) d → Deep M n d
  | 0, _, h => h.1
  | _ + 1, _, h => ⟨h.1, fun ds e x hx => Deep.pred (h.2 ds e x hx)⟩
theorem Deep.tup {M : Mem} {n : Nat} {ds : List D} (h : Deep M (n + 1) (.tup ds)) : ∀ x ∈ ds, Deep M n x := h.2 ds (by simp [seqOf])
theorem Deep.mono {M : Mem} {n m : Nat} {d : D} (h : Deep M n d) (k : m ≤ n) : Deep M m d := by
  induction n with
  | zero =>
    obtain rfl : m = 0 := by omega
    exact h
  | succ n ih =>
    rcases Nat.lt_or_ge m (n + 1) with q | q
    · exact ih h.pred (by omega)
    · obtain rfl : m = n + 1 := by omega
      exact h
theorem allM_lst {M : Mem} (bs : List Bool) : allM M [.lst (bs.map D.bl)] = some (.bl (bs.all id)) := by simp [allM, lstOf, blsOf_map]
def isTup (n : Nat) : D → Bool
  | .tup ds => decide (ds.length = n)
  | _ => false
theorem is_tuple_of_at {M : Mem} {d : D} (n : Nat) (h : Thing M d) : F_is_tuple_of [d, .int n] M = .ok (.bl (isTup n d)) M := by
  refine fn_pure rfl ?_ rfl
  unfold b_is_tuple_of
  cases h with
  | ref e _ => simp [isiM, tyN, tyL, e, isTup, endF]
  | tup _ =>
    rename_i ds _
    have := dec_eq ds.length n
    simp [isiM, tyN, tyL, isTup, endF, lenM, seqOf, eqM, eqB, -Int.natCast_inj, -Int.ofNat_inj, this]
  | _ => simp [isiM, tyN, tyL, isTup, endF]
def isPlace : D → Bool
  | .tup [a, b] => isName a && isName b
  | _ => false
theorem is_place_at {M : Mem} {d : D} (h : Deep M 1 d) : F_is_place [d] M = .ok (.bl (isPlace d)) M := by
  refine fn_pure rfl ?_ rfl
  unfold b_is_place
  have h1 := is_tuple_of_at 2 h.thing
  have h1' : F_is_tuple_of [d, .int 2] M = .ok (.bl (isTup 2 d)) M := h1
  by_cases ht : isTup 2 d = true
  · obtain ⟨a, b, rfl⟩ : ∃ a b, d = .tup [a, b] := by
      cases d <;> simp only [isTup, Bool.false_eq_true, decide_eq_true_eq] at ht
      rename_i ds
      match ds, ht with
      | [a, b], _ => exact ⟨a, b, rfl⟩
    have ha := is_name_at (h.tup a (by simp))
    have hb := is_name_at (h.tup b (by simp))
    have key : lcS (iseqS (varS 0)) (.nm 1) [1] yesT (callS F_is_name (consA (varS 1) nilA)) [some (.tup [a, b]), none] M = .ok (.lst ([isName a, isName b].map D.bl)) M := by
      have q := lcS_map (σ := [some (.tup [a, b]), none]) (M := M) (fi := iseqS (varS 0)) (i := 1) (vs := [1]) (f := callS F_is_name (consA (varS 1) nilA)) (z := ⟨[a, b], fun M' => seqOf M' (.tup [a, b]) = some [a, b]⟩) (fun x => .bl (isName x)) (by simp [seqOf]) (by simp) (by simp [seqOf]) (fun x hx => by
        rcases List.mem_cons.mp hx with rfl | hx
        · simpa [wipeD] using ha
        · rcases List.mem_cons.mp hx with rfl | hx
          · simpa [wipeD] using hb
          · cases hx)
      exact q
    simp only [retS_ap, andV_ap, callS_ap, consA_ap, varS_ap, cS_ap, nilA_ap, RE.bind_ok, List.map_cons, List.map_nil, List.length_cons, List.length_nil]
    have e2 : ([some (D.tup [a, b])] ++ List.replicate (2 - (0 + 1)) none : Sl) = [some (.tup [a, b]), none] := rfl
    rw [e2]
    simp only [List.getElem?_cons_zero, RE.bind_ok, h1', ht, callV_ap, consA_ap, nilA_ap, key, allM_lst]
    simp [endF, isPlace]
  · have hf : isTup 2 d = false := by simpa using ht
    have hp : isPlace d = false := by
      cases d with
      | tup ds =>
        match ds with
        | [a, b] => exact absurd rfl ht
        | [] => rfl
        | [_] => rfl
        | _ :: _ :: _ :: _ => rfl
      | _ => rfl
    rw [hf] at h1'
    simp [h1', hp, endF]
end H

namespace H
open PySem PySem.Spec PyProof.Rows L2 Lf
theorem all_call {σ : Sl} {M : Mem} {F : SF} {f : SE} {d : D} {ds : List D} {i : Nat} (P : D → Bool) (hf : f σ M = .ok d M) (hs : seqOf M d = some ds) (hl : ds.length ≤ 16000000) (hi : i < σ.length) (hF : ∀ x ∈ ds, F [x] M = .ok (.bl (P x)) M) :
    callV allM (consA (lcS (iseqS f) (.nm i) [i] yesT (callS F (consA (varS i) nilA))) nilA) σ M = .ok (.bl (ds.all P)) M := by
  have q := lcS_map (σ := σ) (M := M) (fi := iseqS f) (i := i) (vs := [i]) (f := callS F (consA (varS i) nilA)) (z := ⟨ds, fun M' => seqOf M' d = some ds⟩) (fun x => .bl (P x)) (by simp [hf, hs]) hl hs (fun x hx => by
    have hi' : i < (wipeD σ [i]).length := by simp [wipeD]; exact hi
    simp [List.getElem?_set_self hi', hF x hx])
  have e : ds.map (fun x => D.bl (P x)) = (ds.map P).map D.bl := by simp
  have q' : lcS (iseqS f) (.nm i) [i] yesT (callS F (consA (varS i) nilA)) σ M = .ok (.lst ((ds.map P).map D.bl)) M := by rw [← e]; exact q
  simp only [callV_ap, consA_ap, nilA_ap, RE.bind_ok, q', allM_lst]
  simp [List.all_map, Function.comp_def]
def pkey : D → List L2.Key
  | .tup [.str a, .str b] => [.inr a, .inr b]
  | _ => []
open Classical in
noncomputable def isPlaces (M : Mem) (d : D) : Bool := match lstOf M d with
  | some ds => ds.all isPlace && decide ((ds.map pkey).Nodup)
  | none => false
theorem isPlace_shape {d : D} (h : isPlace d = true) : ∃ a b, d = .tup [.str a, .str b] ∧ isName (.str a) = true ∧ isName (.str b) = true := by
  unfold isPlace at h
  split at h
  · rename_i a b
    simp only [Bool.and_eq_true] at h
    cases a <;> simp only [isName, Bool.false_eq_true, false_and] at h
    cases b <;> simp only [isName, Bool.false_eq_true, and_false] at h
    exact ⟨_, _, rfl, by simpa [isName] using h.1, by simpa [isName] using h.2⟩
  · cases h
theorem tupsOf_places : ∀ {ds : List D}, ds.all isPlace = true → tupsOf ds = some (ds.map pkey)
  | [], _ => rfl
  | d :: ds, h => by
    simp only [List.all_cons, Bool.and_eq_true] at h
    obtain ⟨a, b, rfl, _, _⟩ := isPlace_shape h.1
    simp [tupsOf, keysOf, tupsOf_places h.2, pkey]
theorem are_places_at {M : Mem} {d : D} (h : Deep M 2 d) (hs : ∀ ds, lstOf M d = some ds → ds.length < 64) : F_are_places [d] M = .ok (.bl (isPlaces M d)) M := by
  refine fn_pure rfl ?_ rfl
  unfold b_are_places
  cases hd : lstOf M d with
  | none =>
    have hp : isPlaces M d = false := by simp [isPlaces, hd]
    have ht := h.thing
    cases ht with
    | ref e _ => simp [lstOf, e] at hd
    | lst _ => simp [lstOf] at hd
    | _ => simp [isiM, tyN, tyL, hp, endF]
  | some ds =>
    have hsq : seqOf M d = some ds := by
      cases d <;> simp [lstOf] at hd <;> simp [seqOf, lstOf, hd]
    have hl := hs ds hd
    have hi : isiM M [d, .ty "list"] = some (.bl true) := by
      have ht := h.thing
      cases ht with
      | ref e _ => simp [isiM, tyN, tyL, e]
      | lst _ => simp [isiM, tyN, tyL]
      | _ => simp [lstOf] at hd
    have ha := all_call (σ := [some d, none]) (M := M) (F := F_is_place) (f := varS 0) (i := 1) isPlace (by simp) hsq (by omega) (by simp) (fun x hx => is_place_at (h.2 ds hsq x hx))
    have e2 : (List.map some [d] ++ List.replicate (2 - [d].length) none : Sl) = [some d, none] := rfl
    rw [e2]
    generalize callV allM (consA (lcS (iseqS (varS 0)) (.nm 1) [1] yesT (callS F_is_place (consA (varS 1) nilA))) nilA) = G at ha ⊢
    simp only [seqS_ap, ifS_ap, orT_ap, notT_ap, asT_ap, ha]
    simp only [callV_ap, consA_ap, varS_ap, cS_ap, nilA_ap, List.getElem?_cons_zero, RE.bind_ok, hi]
    by_cases hal : ds.all isPlace = true
    · have hk := tupsOf_places hal
      have hn : lenM M [d] = some (.int ds.length) := by
        have ht := h.thing
        cases ht with
        | str _ => simp [lstOf] at hd
        | _ => simp [lenM, hsq]
      have hq : lenSetM M d = some (.int ((LfS.once (ds.map pkey)).length : Nat)) := by
        simp [lenSetM, hd, hk, hl]
      have hp : isPlaces M d = decide (((LfS.once (ds.map pkey)).length : Int) = (ds.length : Int)) := by
        rw [dec_eq]
        have q := LfS.once_len (l := ds.map pkey)
        rw [List.length_map] at q
        simp only [isPlaces, hd, hal, Bool.true_and]
        rw [Bool.eq_iff_iff]
        simp [q]
      rw [hal] at ha
      rw [hp]
      simp [ha, op1_ap, hq, hn, eqM, eqB, endF]
    · have hf : ds.all isPlace = false := by simpa using hal
      have hp : isPlaces M d = false := by simp [isPlaces, hd, hf]
      rw [hf] at ha
      rw [hp]
      simp [ha, endF]
noncomputable def isPrem (M : Mem) (d : D) : Bool := isPlaces M d && (match lstOf M d with
  | some ds => decide (1 ≤ ds.length) && decide (ds.length ≤ 8)
  | none => false)
theorem are_premises_at {M : Mem} {d : D} (h : Deep M 2 d) (hs : ∀ ds, lstOf M d = some ds → ds.length < 64) : F_are_premises [d] M = .ok (.bl (isPrem M d)) M := by
  refine fn_pure rfl ?_ rfl
  unfold b_are_premises
  have ha := are_places_at h hs
  have e2 : (List.map some [d] ++ List.replicate (1 - [d].length) none : Sl) = [some d] := rfl
  rw [e2]
  simp only [retS_ap, andV_ap, callS_ap, consA_ap, varS_ap, nilA_ap, List.getElem?_cons_zero, RE.bind_ok, ha]
  cases hp : isPlaces M d with
  | false => simp [isPrem, hp, endF]
  | true =>
    cases hd : lstOf M d with
    | none => simp [isPlaces, hd] at hp
    | some ds =>
      have hsq : seqOf M d = some ds := by
        cases d <;> simp [lstOf] at hd <;> simp [seqOf, lstOf, hd]
      have hn : lenM M [d] = some (.int ds.length) := by
        have ht := h.thing
        cases ht with
        | str _ => simp [lstOf] at hd
        | _ => simp [lenM, hsq]
      have i1 : decide ((1 : Int) ≤ (ds.length : Int)) = decide (1 ≤ ds.length) := dec_le 1 ds.length
      have i2 : decide ((ds.length : Int) ≤ 8) = decide (ds.length ≤ 8) := dec_le ds.length 8
      by_cases h1 : 1 ≤ ds.length <;> by_cases h2 : ds.length ≤ 8 <;> simp only [h1, h2, decide_true, decide_false] at i1 i2 <;>
        simp [chS_ap, leM, cmpM, hn, i1, i2, isPrem, hp, hd, h1, h2, endF]
end H

namespace H
open PySem PySem.Spec PyProof.Rows L2 Lf
noncomputable def isRule (M : Mem) : D → Bool
  | .tup [a, b, c, p] => isName a && (isName b && (isCount 1 c && isPrem M p))
  | _ => false
theorem is_rule_at {M : Mem} {d : D} (h : Deep M 3 d) (hs : ∀ ps p ds, d = .tup ps → p ∈ ps → lstOf M p = some ds → ds.length < 64) : F_is_rule [d] M = .ok (.bl (isRule M d)) M := by
  refine fn_pure rfl ?_ rfl
  unfold b_is_rule
  have h1 : F_is_tuple_of [d, .int 4] M = .ok (.bl (isTup 4 d)) M := is_tuple_of_at 4 h.thing
  by_cases ht : isTup 4 d = true
  · obtain ⟨a, b, c, p, rfl⟩ : ∃ a b c p, d = .tup [a, b, c, p] := by
      cases d <;> simp only [isTup, Bool.false_eq_true, decide_eq_true_eq] at ht
      rename_i ds
      match ds, ht with
      | [a, b, c, p], _ => exact ⟨a, b, c, p, rfl⟩
    have ha := is_name_at (h.tup a (by simp)).thing
    have hb := is_name_at (h.tup b (by simp)).thing
    have hc : F_is_count [c, .int 1] M = .ok (.bl (isCount 1 c)) M := is_count_at 1 (h.tup c (by simp)).thing
    have hp := are_premises_at (h.tup p (by simp)) (fun ds e => hs _ p ds rfl (by simp) e)
    rw [ht] at h1
    cases e1 : isName a <;> cases e2 : isName b <;> cases e3 : isCount 1 c <;> simp [h1, ha, hb, hc, hp, e1, e2, e3, isRule, endF, Tg.set, Tg.sets]
  · have hf : isTup 4 d = false := by simpa using ht
    have hp : isRule M d = false := by
      cases d with
      | tup ds =>
        match ds with
        | [a, b, c, p] => exact absurd rfl ht
        | [] => rfl
        | [_] => rfl
        | [_, _] => rfl
        | [_, _, _] => rfl
        | _ :: _ :: _ :: _ :: _ :: _ => rfl
      | _ => rfl
    rw [hf] at h1
    simp [h1, hp, endF]
def isLetter : D → Bool
  | .tup [.str w, n] => isName n && (decide (w = "open") || decide (w = "heard"))
  | .tup [.str w, n, h] => isName n && (decide (w = "holds") && isCount 0 h)
  | _ => false
theorem atI_nat {α : Type} (xs : List α) (i : Nat) : atI xs (i : Int) = xs[i]? := by
  unfold atI ixN
  rw [if_pos (by omega)]
  by_cases h : i < xs.length
  · rw [if_pos (by omega)]
    simp
  · rw [if_neg (by omega)]
    simp [List.getElem?_eq_none (Nat.le_of_not_lt h)]
@[simp] theorem ix_tup (M : Mem) (ds : List D) (i : Nat) : ixM M (.tup ds) (.int (i : Int)) = ds[i]? := by
  simp only [ixM, seqOf, Option.bind_some]
  exact atI_nat ds i
@[simp] theorem ix_lst (M : Mem) (ds : List D) (i : Nat) : ixM M (.lst ds) (.int (i : Int)) = ds[i]? := by
  simp only [ixM, seqOf, lstOf, Option.bind_some]
  exact atI_nat ds i
theorem ix_tup0 (M : Mem) (ds : List D) : ixM M (.tup ds) (.int 0) = ds[0]? := ix_tup M ds 0
theorem ix_tup1 (M : Mem) (ds : List D) : ixM M (.tup ds) (.int 1) = ds[1]? := ix_tup M ds 1
theorem ix_tup2 (M : Mem) (ds : List D) : ixM M (.tup ds) (.int 2) = ds[2]? := ix_tup M ds 2
theorem ix_tup3 (M : Mem) (ds : List D) : ixM M (.tup ds) (.int 3) = ds[3]? := ix_tup M ds 3
theorem ix_lst0 (M : Mem) (ds : List D) : ixM M (.lst ds) (.int 0) = ds[0]? := ix_lst M ds 0
theorem ix_lst1 (M : Mem) (ds : List D) : ixM M (.lst ds) (.int 1) = ds[1]? := ix_lst M ds 1
theorem ix_lst2 (M : Mem) (ds : List D) : ixM M (.lst ds) (.int 2) = ds[2]? := ix_lst M ds 2
theorem is_count1_at {M : Mem} {d : D} (h : Thing M d) : F_is_count_1 [d] M = .ok (.bl (isCount 0 d)) M := is_count_at 0 h
theorem isi_str {M : Mem} {d : D} (h : Thing M d) : isiM M [d, .ty "str"] = some (.bl (isStr d)) := by
  cases h with
  | ref e _ => simp [isiM, tyN, tyL, e, isStr]
  | _ => simp [isiM, tyN, tyL, isStr]
theorem isi_s (M : Mem) (z : Str) : isiM M [.str z, .ty "str"] = some (.bl true) := by simp [isiM, tyN, tyL]
theorem isi_t (M : Mem) (ds : List D) : isiM M [.tup ds, .ty "tuple"] = some (.bl true) := by simp [isiM, tyN, tyL]
theorem len_t (M : Mem) (ds : List D) : lenM M [.tup ds] = some (.int ds.length) := by simp [lenM, seqOf]
theorem len_l (M : Mem) (ds : List D) : lenM M [.lst ds] = some (.int ds.length) := by simp [lenM, seqOf, lstOf]
theorem eq_s (M : Mem) (a b : Str) : eqM M (.str a) (.str b) = some (.bl (decide (a = b))) := rfl
theorem ne_s (M : Mem) (a b : Str) : neM M (.str a) (.str b) = some (.bl (!decide (a = b))) := rfl
theorem eq_i (M : Mem) (a b : Int) : eqM M (.int a) (.int b) = some (.bl (decide (a = b))) := rfl
theorem ne_i (M : Mem) (a b : Int) : neM M (.int a) (.int b) = some (.bl (!decide (a = b))) := rfl
theorem beq_sym (a b : Str) : (a == b) = decide (b = a) := by
  by_cases h : a = b
  · subst h
    simp
  · rw [decide_eq_false (fun z => h z.symm)]
    exact beq_eq_false_iff_ne.mpr h
theorem in_two (M : Mem) (w a b : Str) : inM M (.str w) (.tup [.str a, .str b]) = some (.bl (decide (w = a) || decide (w = b))) := by
  simp only [inM, inB, seqOf, flatD, List.all_cons, List.all_nil, Bool.and_self, and_self, if_true, List.any_cons, List.any_nil, eqF, Option.map_some, Bool.or_false]
  rw [beq_sym, beq_sym]
theorem in_four (M : Mem) (w a b c d : Str) : inM M (.str w) (.tup [.str a, .str b, .str c, .str d]) = some (.bl (decide (w = a) || (decide (w = b) || (decide (w = c) || decide (w = d))))) := by
  simp only [inM, inB, seqOf, flatD, List.all_cons, List.all_nil, Bool.and_self, and_self, if_true, List.any_cons, List.any_nil, eqF, Option.map_some, Bool.or_false]
  rw [beq_sym, beq_sym, beq_sym, beq_sym]
theorem nin23 (M : Mem) (n : Nat) : ninM M (.int (n : Int)) (.tup [.int 2, .int 3]) = some (.bl (!(decide (n = 2) || decide (n = 3)))) := by
  have e1 : ((2 : Int) == (n : Int)) = decide (n = 2) := by
    rw [Bool.eq_iff_iff]; simp; omega
  have e2 : ((3 : Int) == (n : Int)) = decide (n = 3) := by
    rw [Bool.eq_iff_iff]; simp; omega
  simp only [ninM, inB, seqOf, flatD, List.all_cons, List.all_nil, Bool.and_self, and_self, if_true, List.any_cons, List.any_nil, eqF, e1, e2, Option.map_some, Bool.or_false]
end H

namespace H
open PySem PySem.Spec PyProof.Rows L2 Lf
def alone (w : Str) : Bool := decide (w = "vouch") || (decide (w = "withdraw") || (decide (w = "join") || decide (w = "part")))
noncomputable def isWhat (M : Mem) : D → Bool
  | .tup [.str w, n] => if alone w = true then isName n else (decide (w = "drop") && isCount 0 n)
  | .tup [.str w, n, l] => !alone w && (!decide (w = "drop") && (decide (w = "hear") && (isName n && isLetter l)))
  | .tup [.str w, s, c, p] => !alone w && (!decide (w = "drop") && (!decide (w = "hear") && (decide (w = "lean") && (isName s && (isCount 1 c && isPrem M p)))))
  | _ => false
theorem eq_len (M : Mem) (n m : Nat) : eqM M (.int (n : Int)) (.int (m : Int)) = some (.bl (decide (n = m))) := by rw [eq_i, dec_eq]
theorem ne_len (M : Mem) (n m : Nat) : neM M (.int (n : Int)) (.int (m : Int)) = some (.bl (!decide (n = m))) := by rw [ne_i, dec_eq]
theorem lt_len (M : Mem) (n m : Nat) : ltM M (.int (n : Int)) (.int (m : Int)) = some (.bl (decide (n < m))) := by
  simp only [ltM, cmpM]
  congr 2
  by_cases h : n < m
  · rw [decide_eq_true h, decide_eq_true (by omega)]
  · rw [decide_eq_false h, decide_eq_false (by omega)]
end H

namespace H
open PySem PySem.Spec PyProof.Rows L2 Lf
open TL (tl numL)
theorem need_ok (M : Mem) : F_need_kind [.bl true] M = .ok .non M := by
  refine fn_pure rfl ?_ rfl
  unfold b_need_kind
  simp [endF]
theorem words_of_at {M : Mem} {z : Str} (h : z.length ≤ 15000000) : F_words_of [.str z] M = .ok (.lst ((Txt.split z " ").map .str)) M := by
  have hb : (Str.ofString " ").length ≠ 0 := by decide +kernel
  refine fn_pure rfl ?_ ?_
  · unfold b_words_of
    simp [isi_s, need_ok, isStr, splitM, h, hb, endF]
  · simp only [D.lo]
    generalize Txt.split z _ = l
    induction l with
    | nil => rfl
    | cons x l ih => simpa [loA, D.lo] using ih
/-- a number's figures -/
def figs : List Nat := (Str.ofString "0123456789").cps.toList
theorem figs_mem (c : Nat) : c ∈ figs ↔ 48 ≤ c ∧ c ≤ 57 := by
  have e : figs = [48, 49, 50, 51, 52, 53, 54, 55, 56, 57] := by decide +kernel
  rw [e]
  simp
  omega
def numIn (w : Str) : Option Nat := if tl w = [] then none else if (tl w).all (fun c => decide (c ∈ figs)) = true then (if (tl w)[0]? = some 48 ∧ tl w ≠ [48] then none else some (NumText.digitsVal (tl w))) else none
def numD (w : Str) : D := match numIn w with
  | some n => .int n
  | none => .non
theorem str_ext {a b : Str} (h : tl a = tl b) : a = b := by
  cases a; cases b
  congr
  exact Array.toList_inj.mp h
theorem number_in_at {M : Mem} {w : Str} (h : w.length ≤ 4300) : F_number_in [.str w] M = .ok (numD w) M := by
  refine fn_pure rfl ?_ (by unfold numD; split <;> rfl)
  unfold b_number_in
  have e0 : tl (Str.ofString "") = [] := by decide +kernel
  have e1 : tl (Str.ofString "0") = [48] := by decide +kernel
  have hw : decide (w = Str.ofString "") = decide (tl w = []) := by
    rw [Bool.eq_iff_iff]
    simp only [decide_eq_true_eq]
    exact ⟨fun q => by rw [q, e0], fun q => str_ext (q.trans e0.symm)⟩
  have hw0 : decide (w = Str.ofString "0") = decide (tl w = [48]) := by
    rw [Bool.eq_iff_iff]
    simp only [decide_eq_true_eq]
    exact ⟨fun q => by rw [q, e1], fun q => str_ext (q.trans e1.symm)⟩
  have key : callV allM (consA (lcS (istrS (varS 0)) (.nm 1) [1] yesT (op2 inM (varS 1) (cS (.str "0123456789")))) nilA) [some (.str w), none] M = .ok (.bl ((tl w).all fun c => decide (c ∈ figs))) M := by
    have e2 : (Lf.signs w).map (fun x => match x with
      | .str c => D.bl (inStr c "0123456789")
      | _ => .non) = ((tl w).map fun c => decide (c ∈ figs)).map D.bl := by
      simp [Lf.signs, inStr, figs]
    have el : (Lf.signs w).length = w.length := by simp [Lf.signs, Str.length]
    have q := lcS_map (σ := [some (.str w), none]) (M := M) (fi := istrS (varS 0)) (i := 1) (vs := [1]) (f := op2 inM (varS 1) (cS (.str "0123456789"))) (z := ⟨Lf.signs w, fun _ => True⟩) (fun x => match x with
      | .str c => .bl (inStr c "0123456789")
      | _ => .non) (by simp) (by show (Lf.signs w).length ≤ _; omega) trivial (fun x hx => by
        obtain ⟨c, _, rfl⟩ := List.mem_map.mp hx
        simp [wipeD, inM, inB])
    rw [e2] at q
    simp only [callV_ap, consA_ap, nilA_ap, RE.bind_ok, q, allM_lst]
    simp [List.all_map, Function.comp_def]
  have e3 : (List.map some [D.str w] ++ List.replicate (2 - [D.str w].length) none : Sl) = [some (.str w), none] := rfl
  rw [e3]
  generalize callV allM (consA (lcS (istrS (varS 0)) (.nm 1) [1] yesT (op2 inM (varS 1) (cS (.str "0123456789")))) nilA) = G at key ⊢
  by_cases h0 : tl w = []
  · have : numD w = .non := by simp [numD, numIn, h0]
    rw [this]
    simp [eq_s, hw, h0, endF]
  · cases ha : (tl w).all fun c => decide (c ∈ figs) with
    | false =>
      have : numD w = .non := by simp only [numD, numIn, h0, ha]; simp
      rw [this]
      rw [ha] at key
      simp [eq_s, hw, h0, key, endF]
    | true =>
      rw [ha] at key
      obtain ⟨c, cs, ec⟩ : ∃ c cs, tl w = c :: cs := by
        cases q : tl w with
        | nil => exact absurd q h0
        | cons c cs => exact ⟨c, cs, rfl⟩
      have hix : ixM M (.str w) (.int 0) = some (.str ⟨#[c]⟩) := by
        have q : atI (tl w) ((0 : Nat) : Int) = (tl w)[0]? := atI_nat (tl w) 0
        have q2 : atI w.cps.toList 0 = some c := by
          have q3 : atI (tl w) 0 = some c := by rw [ec] at q ⊢; exact q
          exact q3
        simp [ixM, q2, Nat.le_trans h (by decide : 4300 ≤ 16000000)]
      have hc0 : decide ((⟨#[c]⟩ : Str) = Str.ofString "0") = decide (c = 48) := by
        rw [Bool.eq_iff_iff]
        simp only [decide_eq_true_eq]
        constructor
        · intro q
          have := congrArg tl q
          rw [e1] at this
          simpa [tl] using this
        · intro q
          exact str_ext (by rw [e1, q])
      by_cases hz : c = 48 ∧ tl w ≠ [48]
      · have hn : numIn w = none := by
          simp only [numIn, h0, ha, if_true, if_false]
          rw [if_pos ⟨by rw [ec, hz.1]; rfl, hz.2⟩]
        have : numD w = .non := by simp [numD, hn]
        have h48 : (⟨#[48]⟩ : Str) = Str.ofString "0" := by decide +kernel
        rw [this]
        have hz2 : tl w ≠ [48] := hz.2
        simp [eq_s, ne_s, hw, hw0, h0, key, hix, hc0, hz.1, hz2, h48, endF]
      · have hn : numIn w = some (NumText.digitsVal (tl w)) := by
          simp only [numIn, h0, ha, if_true, if_false]
          rw [if_neg]
          rintro ⟨q1, q2⟩
          rw [ec] at q1
          exact hz ⟨by simpa using q1, q2⟩
        have hi : intText? w = some ((NumText.digitsVal (tl w) : Nat) : Int) := intText_digits (fun c hc => by
          have := List.all_eq_true.mp ha c hc
          exact (figs_mem c).mp (by simpa using this)) h0 h
        have hi2 : intM M [.str w] = some (.int (NumText.digitsVal (tl w) : Nat)) := by
          simp [intM, hi, Nat.le_trans h (by decide : 4300 ≤ 16000000)]
        have : numD w = .int (NumText.digitsVal (tl w) : Nat) := by simp [numD, hn]
        rw [this]
        by_cases q1 : c = 48
        · have q2 : tl w = [48] := by
            by_cases q : tl w = [48]
            · exact q
            · exact absurd ⟨q1, q⟩ hz
          simp [eq_s, ne_s, hw, hw0, h0, key, hix, hc0, q1, q2, hi2, endF]
        · simp [eq_s, ne_s, hw, hw0, h0, key, hix, hc0, q1, hi2, endF]
end H

namespace H
open PySem PySem.Spec PyProof.Rows L2 Lf
open TL (tl numL)
theorem spl_bd (S : List Nat) : ∀ (l : List Nat) (k : Nat) (acc : List Nat), (TL.spl S k acc l).length ≤ l.length + 1 ∧ ∀ p ∈ TL.spl S k acc l, p.length ≤ acc.length + l.length
  | [], k, acc => by
    rw [TL.spl_nil]
    exact ⟨by simp, fun p hp => by simp at hp; subst hp; simp⟩
  | c :: r, 0, acc => by
    unfold TL.spl
    split
    · obtain ⟨h1, h2⟩ := spl_bd S r (S.length - 1) []
      refine ⟨by simp only [List.length_cons]; omega, fun p hp => ?_⟩
      rcases List.mem_cons.mp hp with rfl | hp
      · simp
      · have := h2 p hp
        simp only [List.length_cons, List.length_nil] at this ⊢
        omega
    · obtain ⟨h1, h2⟩ := spl_bd S r 0 (acc ++ [c])
      refine ⟨by simp only [List.length_cons]; omega, fun p hp => ?_⟩
      have := h2 p hp
      simp only [List.length_cons, List.length_append, List.length_nil] at this ⊢
      omega
  | c :: r, k + 1, acc => by
    unfold TL.spl
    obtain ⟨h1, h2⟩ := spl_bd S r k acc
    refine ⟨by simp only [List.length_cons]; omega, fun p hp => ?_⟩
    have := h2 p hp
    simp only [List.length_cons] at this ⊢
    omega
theorem split_bd {x y : Str} (hy : tl y ≠ []) (hk : y.cps.all (· < 256) = true) : (Txt.split x y).length ≤ x.length + 1 ∧ ∀ p ∈ Txt.split x y, p.length ≤ x.length := by
  have e := TL.split_spl x y hy (TL.kind_ok hk)
  obtain ⟨h1, h2⟩ := spl_bd (tl y) (tl x) 0 []
  rw [← e] at h1 h2
  have hx : (tl x).length = x.length := (TL.len_tl x).symm
  refine ⟨by simpa [hx] using h1, fun p hp => ?_⟩
  have q := h2 (tl p) (List.mem_map.mpr ⟨p, hp, rfl⟩)
  have hp2 : (tl p).length = p.length := (TL.len_tl p).symm
  simp only [List.length_nil] at q
  omega
theorem dot_ok : tl (Str.ofString ".") = [46] := by decide +kernel
theorem blank_ok : tl (Str.ofString " ") = [32] := by decide +kernel
def placeD (w : Str) : D := if isPlace (.tup ((Txt.split w ".").map .str)) = true then .tup ((Txt.split w ".").map .str) else .non
theorem loA_strs (n : Nat) (l : List Str) : loA n (l.map D.str) = true := by
  induction l with
  | nil => rfl
  | cons x l ih => simpa [loA, D.lo] using ih
theorem deep_strs {M : Mem} {l : List Str} (h1 : l.length ≤ 16000000) (h2 : ∀ p ∈ l, p.length ≤ 16000000) : Deep M 1 (.tup (l.map .str)) := by
  refine ⟨.tup (by simpa using h1), fun ds e x hx => ?_⟩
  simp only [seqOf, Option.some.injEq] at e
  subst e
  obtain ⟨p, hp, rfl⟩ := List.mem_map.mp hx
  exact .str (h2 p hp)
theorem placeD_lo (w : Str) (n : Nat) : (placeD w).lo n = true := by
  unfold placeD
  split
  · simp only [D.lo]
    exact loA_strs n _
  · rfl
theorem place_in_at {M : Mem} {w : Str} (h : w.length ≤ 1000000) : F_place_in [.str w] M = .ok (placeD w) M := by
  refine fn_pure rfl ?_ (placeD_lo w _)
  unfold b_place_in
  have hb : (Str.ofString ".").length ≠ 0 := by decide +kernel
  obtain ⟨h1, h2⟩ := split_bd (x := w) (y := Str.ofString ".") (by rw [dot_ok]; simp) (by decide +kernel)
  have hp := is_place_at (M := M) (deep_strs (l := Txt.split w ".") (by omega) (fun p hp => by have := h2 p hp; omega))
  have hl : w.length ≤ 15000000 := by omega
  unfold placeD
  cases q : isPlace (.tup ((Txt.split w ".").map .str)) <;> simp [isStr, splitM, hl, hb, tupleM, seqOf, lstOf, hp, q, endF]
/-- letters: words read -/
def letterTup (ws : List Str) : D := match ws with
  | [a, b, c] => if a = "holds" then .tup [.str a, .str b, numD c] else .tup (ws.map .str)
  | _ => .tup (ws.map .str)
def letterD (ws : List Str) : D := if isLetter (letterTup ws) = true then letterTup ws else .non
theorem numD_lo (w : Str) (n : Nat) : (numD w).lo n = true := by
  unfold numD
  split <;> rfl
theorem letterTup_lo (ws : List Str) (n : Nat) : (letterTup ws).lo n = true := by
  unfold letterTup
  split
  · split
    · simp [D.lo, loA, numD_lo]
    · simp only [D.lo]; exact loA_strs n _
  · simp only [D.lo]; exact loA_strs n _
theorem letterD_lo (ws : List Str) (n : Nat) : (letterD ws).lo n = true := by
  unfold letterD
  split
  · exact letterTup_lo ws n
  · rfl
theorem thing_numD (M : Mem) (w : Str) : Thing M (numD w) := by
  unfold numD
  split
  · exact .int _
  · exact .non
theorem letterTup_deep {M : Mem} {ws : List Str} (h1 : ws.length ≤ 1000000) (h2 : ∀ w ∈ ws, w.length ≤ 4300) : Deep M 1 (letterTup ws) := by
  have gen : Deep M 1 (.tup (ws.map .str)) := deep_strs (by omega) (fun p hp => by have := h2 p hp; omega)
  unfold letterTup
  split
  · rename_i a b c
    split
    · refine ⟨.tup (by simp), fun ds e x hx => ?_⟩
      simp only [seqOf, Option.some.injEq] at e
      subst e
      have ha := h2 a (by simp)
      have hb := h2 b (by simp)
      simp only [List.mem_cons, List.not_mem_nil, or_false] at hx
      rcases hx with rfl | rfl | rfl
      · exact .str (by omega)
      · exact .str (by omega)
      · exact thing_numD M c
    · exact gen
  · exact gen
end H

namespace H
open PySem PySem.Spec PyProof.Rows L2 Lf
open TL (tl numL)
abbrev NameS (x : Str) : Prop := isName (.str x) = true
theorem NameS.len {x : Str} (h : NameS x) : 1 ≤ x.length ∧ x.length ≤ 8 := by
  simp only [NameS, isName, Bool.and_eq_true, decide_eq_true_eq] at h
  exact ⟨h.1, h.2.1⟩
theorem letters_mem (c : Nat) (h : c ∈ letters) : 97 ≤ c ∧ c ≤ 122 := by
  have e : letters.all (fun c => decide (97 ≤ c ∧ c ≤ 122)) = true := by decide +kernel
  exact of_decide_eq_true (List.all_eq_true.mp e c h)
theorem NameS.sign {x : Str} (h : NameS x) : ∀ c ∈ tl x, 97 ≤ c ∧ c ≤ 122 := by
  simp only [NameS, isName, Bool.and_eq_true, decide_eq_true_eq, List.all_eq_true] at h
  exact fun c hc => letters_mem c (h.2.2 c hc)
abbrev Pl : Type := Str × Str
def pD (p : Pl) : D := .tup [.str p.1, .str p.2]
def pT (p : Pl) : Str := Txt.join "." [p.1, p.2]
def NameP (p : Pl) : Prop := NameS p.1 ∧ NameS p.2
theorem pT_eq (p : Pl) : pT p = p.1 ++ "." ++ p.2 := by
  unfold pT
  rw [TL.join_eq]
  rfl
theorem pT_len {p : Pl} (h : NameP p) : (pT p).length ≤ 17 := by
  rw [pT_eq]
  have h1 := h.1.len.2
  have h2 := h.2.len.2
  have e1 := TL.len_tl (p.1 ++ "." ++ p.2)
  rw [e1, TL.tl_append, TL.tl_append, List.length_append, List.length_append, ← TL.len_tl, ← TL.len_tl, ← TL.len_tl]
  have : (Str.ofString ".").length = 1 := by decide +kernel
  omega
theorem isPlace_pD {p : Pl} (h : NameP p) : isPlace (pD p) = true := by
  simp only [isPlace, pD, Bool.and_eq_true]
  exact h
theorem deep_pD {M : Mem} {p : Pl} (h : NameP p) : Deep M 1 (pD p) := by
  have := deep_strs (M := M) (l := [p.1, p.2]) (by simp) (fun q hq => by
    simp only [List.mem_cons, List.not_mem_nil, or_false] at hq
    rcases hq with rfl | rfl
    · have := h.1.len; omega
    · have := h.2.len; omega)
  exact this
theorem deep0 {M : Mem} {d : D} (h : Thing M d) (k : seqOf M d = none) : ∀ n, Deep M n d
  | 0 => h
  | n + 1 => ⟨h, fun ds e => by rw [k] at e; cases e⟩
theorem deep_str {M : Mem} {x : Str} (h : x.length ≤ 16000000) (n : Nat) : Deep M n (.str x) := deep0 (.str h) (by simp [seqOf, lstOf]) n
theorem deep_int {M : Mem} (i : Int) (n : Nat) : Deep M n (.int i) := deep0 (.int i) (by simp [seqOf, lstOf]) n
theorem deep_tup {M : Mem} {n : Nat} {ds : List D} (hl : ds.length ≤ 16000000) (h : ∀ x ∈ ds, Deep M n x) : Deep M (n + 1) (.tup ds) := ⟨.tup hl, fun es e x hx => by
  simp only [seqOf, Option.some.injEq] at e
  subst e
  exact h x hx⟩
theorem deep_pDn {M : Mem} {p : Pl} (h : NameP p) (n : Nat) : Deep M (n + 1) (pD p) := deep_tup (by simp) fun x hx => by
  simp only [List.mem_cons, List.not_mem_nil, or_false] at hx
  rcases hx with rfl | rfl
  · exact deep_str (by have := h.1.len; omega) n
  · exact deep_str (by have := h.2.len; omega) n
/-- p is a list of these premises -/
def PremAt (M : Mem) (p : D) (ps : List Pl) : Prop := p = .lst (ps.map pD) ∨ ∃ i, p = .ref i ∧ M[i]? = some (.lst (ps.map pD))
def GPrem (ps : List Pl) : Prop := 1 ≤ ps.length ∧ ps.length ≤ 8 ∧ ps.Nodup ∧ ∀ p ∈ ps, NameP p
theorem PremAt.lst {M : Mem} {p : D} {ps : List Pl} (h : PremAt M p ps) : lstOf M p = some (ps.map pD) := by
  rcases h with rfl | ⟨i, rfl, e⟩
  · rfl
  · simp [lstOf, e]
theorem PremAt.seq {M : Mem} {p : D} {ps : List Pl} (h : PremAt M p ps) : seqOf M p = some (ps.map pD) := by
  rcases h with rfl | ⟨i, rfl, e⟩
  · rfl
  · simp [seqOf, lstOf, e]
theorem PremAt.deep {M : Mem} {p : D} {ps : List Pl} (h : PremAt M p ps) (g : GPrem ps) (n : Nat) : Deep M (n + 2) p := by
  have hl : (ps.map pD).length ≤ 16000000 := by simp; have := g.2.1; omega
  have hs := h.seq
  refine ⟨?_, fun ds e x hx => ?_⟩
  · rcases h with rfl | ⟨i, rfl, e⟩
    · exact .lst hl
    · exact .ref e hl
  · rw [hs] at e
    cases e
    obtain ⟨q, hq, rfl⟩ := List.mem_map.mp hx
    exact deep_pDn (g.2.2.2 q hq) n
theorem prem_ok {M : Mem} {p : D} {ps : List Pl} (h : PremAt M p ps) (g : GPrem ps) : isPrem M p = true := by
  have hl := h.lst
  have ha : (ps.map pD).all isPlace = true := by
    rw [List.all_eq_true]
    intro x hx
    obtain ⟨q, hq, rfl⟩ := List.mem_map.mp hx
    exact isPlace_pD (g.2.2.2 q hq)
  have hn : ((ps.map pD).map pkey).Nodup := by
    rw [List.map_map]
    refine List.Pairwise.map _ (fun a b hne e => hne ?_) g.2.2.1
    have e' : [Sum.inr a.1, Sum.inr a.2] = ([Sum.inr b.1, Sum.inr b.2] : List L2.Key) := e
    simp only [List.cons.injEq, Sum.inr.injEq, and_true] at e'
    exact Prod.ext e'.1 e'.2
  unfold isPrem isPlaces
  simp only [hl, ha, hn, decide_true, Bool.and_self, Bool.true_and, List.length_map, Bool.and_eq_true, decide_eq_true_eq]
  exact ⟨g.1, g.2.1⟩
def numT (n : Nat) : Str := Str.ofString (toString ((n : Nat) : Int))
theorem numT_len {n : Nat} (h : n < 10 ^ 4300) : (numT n).length ≤ 4300 := by
  rw [TL.len_tl]
  show (tl (Str.ofString (toString ((n : Nat) : Int)))).length ≤ _
  rw [TL.tl_num]
  exact TL.numL_len (by omega) h
def ruleD (q : Pl) (c : Nat) (p : D) : D := .tup [.str q.1, .str q.2, .int c, p]
theorem rule_ok {M : Mem} {q : Pl} {c : Nat} {p : D} {ps : List Pl} (hq : NameP q) (hc : 1 ≤ c) (h : PremAt M p ps) (g : GPrem ps) : isRule M (ruleD q c p) = true := by
  have hc' : isCount 1 (.int (c : Int)) = true := by simp [isCount]; omega
  simp only [isRule, ruleD, hc', prem_ok h g, Bool.and_self, Bool.and_true, Bool.and_eq_true]
  exact hq
theorem rule_deep {M : Mem} {q : Pl} {c : Nat} {p : D} {ps : List Pl} (hq : NameP q) (h : PremAt M p ps) (g : GPrem ps) : Deep M 3 (ruleD q c p) := deep_tup (by simp) fun x hx => by
  simp only [List.mem_cons, List.not_mem_nil, or_false] at hx
  rcases hx with rfl | rfl | rfl | rfl
  · exact deep_str (by have := hq.1.len; omega) _
  · exact deep_str (by have := hq.2.len; omega) _
  · exact deep_int _ _
  · exact h.deep g 0
theorem is_rule_ok {M : Mem} {q : Pl} {c : Nat} {p : D} {ps : List Pl} (hq : NameP q) (hc : 1 ≤ c) (h : PremAt M p ps) (g : GPrem ps) : F_is_rule [ruleD q c p] M = .ok (.bl true) M := by
  rw [is_rule_at (rule_deep hq h g) fun xs x ds e hx el => ?_, rule_ok hq hc h g]
  cases e
  simp only [List.mem_cons, List.not_mem_nil, or_false] at hx
  rcases hx with rfl | rfl | rfl | rfl
  · simp [lstOf] at el
  · simp [lstOf] at el
  · simp [lstOf] at el
  · rw [h.lst] at el
    cases el
    simp
    have := g.2.1
    omega
/-! ### writing -/
theorem add_l (M : Mem) {a b : List D} (h : a.length + b.length ≤ 16000000) : addM M (.lst a) (.lst b) = some (.lst (a ++ b)) := by
  simp [addM, Lf.dirOf, h]
theorem add_t (M : Mem) {a b : List D} (h : a.length + b.length ≤ 16000000) : addM M (.tup a) (.tup b) = some (.tup (a ++ b)) := by
  simp [addM, h]
theorem add_s (M : Mem) {a b : Str} (h : a.length + b.length ≤ 16000000) : addM M (.str a) (.str b) = some (.str (a ++ b)) := by
  simp [addM, h]
theorem strsOf_map (l : List Str) : strsOf (l.map D.str) = some l := by
  induction l with
  | nil => rfl
  | cons x l ih => simp [strsOf, ih]
theorem sum_le (l : List Str) (b : Nat) (h : ∀ x ∈ l, x.length ≤ b) : (l.map (·.length)).sum ≤ l.length * b := by
  induction l with
  | nil => simp
  | cons x l ih =>
    have h1 := h x (by simp)
    have h2 := ih fun y hy => h y (by simp [hy])
    simp only [List.map_cons, List.sum_cons, List.length_cons]
    rw [Nat.add_mul]
    omega
theorem join_bd {a : Str} {ys : List Str} (ha : a.length ≤ 1) (hn : ys.length ≤ 1000) (hl : ∀ y ∈ ys, y.length ≤ 5000) : (ys.map (·.length)).sum + ys.length * a.length ≤ 16000000 := by
  have h1 := sum_le ys 5000 hl
  have h2 : ys.length * a.length ≤ ys.length * 1 := Nat.mul_le_mul_left _ ha
  omega
theorem join_lst (M : Mem) {a : Str} {ys : List Str} (h : (ys.map (·.length)).sum + ys.length * a.length ≤ 16000000) : joinM M (.str a) (.lst (ys.map .str)) = some (.str (Txt.join a ys)) := by
  simp [joinM, seqOf, lstOf, strsOf_map, h]
theorem join_tup (M : Mem) {a : Str} {ys : List Str} (h : (ys.map (·.length)).sum + ys.length * a.length ≤ 16000000) : joinM M (.str a) (.tup (ys.map .str)) = some (.str (Txt.join a ys)) := by
  simp [joinM, seqOf, strsOf_map, h]
theorem written_at {M : Mem} {d : D} {ds : List D} (hs : seqOf M d = some ds) (tx : D → Str) (ht : ∀ x ∈ ds, strM M [x] = some (.str (tx x))) (hn : ds.length ≤ 1000) (hl : ∀ x ∈ ds, (tx x).length ≤ 5000) : F_written [d] M = .ok (.str (Txt.join " " (ds.map tx))) M := by
  refine fn_pure rfl ?_ rfl
  unfold b_written
  have q := lcS_map (σ := [some d, none]) (M := M) (fi := iseqS (varS 0)) (i := 1) (vs := [1]) (f := callV strM (consA (varS 1) nilA)) (z := ⟨ds, fun M' => seqOf M' d = some ds⟩) (fun x => .str (tx x)) (by simp [hs]) (by show ds.length ≤ _; omega) hs (fun x hx => by
    simp [wipeD, ht x hx])
  have e : ds.map (fun x => D.str (tx x)) = (ds.map tx).map D.str := by simp
  rw [e] at q
  have hb : (Str.ofString " ").length ≤ 1 := by decide +kernel
  have hj := join_lst M (a := " ") (ys := ds.map tx) (join_bd hb (by simpa using hn) (fun y hy => by
    obtain ⟨x, hx, rfl⟩ := List.mem_map.mp hy
    exact hl x hx))
  simp [q, isStr, hj, endF, -List.map_map]
theorem show_place_at {M : Mem} {p : Pl} (h : NameP p) : F_show_place [pD p] M = .ok (.str (pT p)) M := by
  refine fn_pure rfl ?_ rfl
  unfold b_show_place
  have hp := is_place_at (deep_pD (M := M) h)
  rw [isPlace_pD h] at hp
  have hj := join_tup M (a := ".") (ys := [p.1, p.2]) (join_bd (by decide +kernel) (by simp) (fun y hy => by
    simp only [List.mem_cons, List.not_mem_nil, or_false] at hy
    rcases hy with rfl | rfl
    · have := h.1.len; omega
    · have := h.2.len; omega))
  have hj' : joinM M (.str ".") (pD p) = some (.str (pT p)) := hj
  simp [hp, need_ok, isStr, hj', endF]
theorem lc_show {M : Mem} {σ : Sl} {i : Nat} {f : SE} {p : D} {ps : List Pl} (hf : f σ M = .ok p M) (h : PremAt M p ps) (g : GPrem ps) (hi : i < σ.length) :
    lcS (iseqS f) (.nm i) [i] yesT (callS F_show_place (consA (varS i) nilA)) σ M = .ok (.lst ((ps.map pT).map .str)) M := by
  have q := lcS_map (σ := σ) (M := M) (fi := iseqS f) (i := i) (vs := [i]) (f := callS F_show_place (consA (varS i) nilA)) (z := ⟨ps.map pD, fun M' => seqOf M' p = some (ps.map pD)⟩) (fun x => match x with
    | .tup [.str a, .str b] => .str (pT (a, b))
    | _ => .non) (by simp [hf, h.seq]) (by simp; have := g.2.1; omega) h.seq (fun x hx => by
      have hi' : i < (wipeD σ [i]).length := by simp [wipeD]; exact hi
      obtain ⟨r, hr, rfl⟩ := List.mem_map.mp hx
      have hp := show_place_at (M := M) (g.2.2.2 r hr)
      simp [List.getElem?_set_self hi', hp]
      rfl)
  rw [q]
  congr 2
  rw [List.map_map, List.map_map]
  rfl
def txD : D → Str
  | .str z => z
  | .int i => numT i.toNat
  | _ => Str.empty
def ruleW (q : Pl) (c : Nat) (ps : List Pl) : List Str := [pT q, "=", numT c] ++ ps.map pT
theorem show_rule_at {M : Mem} {q : Pl} {c : Nat} {p : D} {ps : List Pl} (hq : NameP q) (hc : 1 ≤ c) (hc2 : c < 10 ^ 4300) (h : PremAt M p ps) (g : GPrem ps) : F_show_rule [ruleD q c p] M = .ok (.str (Txt.join " " (ruleW q c ps))) M := by
  refine fn_pure rfl ?_ rfl
  unfold b_show_rule
  have hr := is_rule_ok (M := M) hq hc h g
  have hp := show_place_at (M := M) hq
  have hl := lc_show (M := M) (σ := [some (ruleD q c p), some (.str q.1), some (.str q.2), some (.int c), some p, none]) (i := 5) (f := varS 4) (by simp) h g (by simp)
  have hw := written_at (M := M) (d := .lst ([.str (pT q), .str "=", .int c] ++ (ps.map pT).map .str)) (ds := [.str (pT q), .str "=", .int c] ++ (ps.map pT).map .str) rfl
    txD (fun x hx => by
      rcases List.mem_append.mp hx with hx | hx
      · simp only [List.mem_cons, List.not_mem_nil, or_false] at hx
        rcases hx with rfl | rfl | rfl
        · rfl
        · rfl
        · have : ((c : Int)).natAbs < 10 ^ 4300 := by simpa using hc2
          simp only [strM]
          rw [if_pos this]
          rfl
      · obtain ⟨z, hz, rfl⟩ := List.mem_map.mp hx
        rfl) (by simp; have := g.2.1; omega) (fun x hx => by
      rcases List.mem_append.mp hx with hx | hx
      · simp only [List.mem_cons, List.not_mem_nil, or_false] at hx
        rcases hx with rfl | rfl | rfl
        · have := pT_len hq; show (pT q).length ≤ _; omega
        · show (Str.ofString "=").length ≤ 5000; decide +kernel
        · have := numT_len hc2; show (numT c).length ≤ _; omega
      · obtain ⟨z, hz, rfl⟩ := List.mem_map.mp hx
        obtain ⟨r, hr, rfl⟩ := List.mem_map.mp hz
        have := pT_len (g.2.2.2 r hr)
        show (pT r).length ≤ _
        omega)
  have ew : ([D.str (pT q), .str "=", .int c] ++ (ps.map pT).map D.str).map txD = ruleW q c ps := by
    simp [ruleW, txD]
  rw [ew] at hw
  have hpe : pD q = .tup [.str q.1, .str q.2] := rfl
  have hre : ruleD q c p = .tup [.str q.1, .str q.2, .int c, p] := rfl
  rw [hpe] at hp
  rw [hre] at hr hl ⊢
  have ha := add_l M (a := [D.str (pT q), .str "=", .int c]) (b := (ps.map pT).map D.str) (by simp; have := g.2.1; omega)
  simp only [List.cons_append, List.nil_append] at ha hw
  simp [hr, need_ok, Tg.set, Tg.sets, hp, hl, ha, hw, endF, -List.map_map]
end H

namespace H
open PySem PySem.Spec PyProof.Rows L2 Lf
open TL (tl numL)
/-! ### texts put together, taken apart -/
theorem joinL_len (S : List Nat) : ∀ ps : List (List Nat), (TL.joinL S ps).length ≤ (ps.map (·.length)).sum + ps.length * S.length
  | [] => by simp [TL.joinL]
  | [p] => by simp [TL.joinL]
  | p :: q :: r => by
    have ih := joinL_len S (q :: r)
    have e : TL.joinL S (p :: q :: r) = p ++ (S ++ TL.joinL S (q :: r)) := rfl
    rw [e]
    simp only [List.length_append, List.map_cons, List.sum_cons, List.length_cons] at ih ⊢
    have e2 : (r.length + 1 + 1) * S.length = (r.length + 1) * S.length + S.length := by rw [Nat.add_mul (r.length + 1) 1, Nat.one_mul]
    omega
theorem join_len {a : Str} {ys : List Str} : (Txt.join a ys).length ≤ (ys.map (·.length)).sum + ys.length * a.length := by
  rw [TL.join_eq, TL.len_tl, TL.tl_join]
  have h := joinL_len (tl a) (ys.map tl)
  have e : (ys.map tl).map (·.length) = ys.map (·.length) := by
    rw [List.map_map]
    exact List.map_congr_left fun x _ => (TL.len_tl x).symm
  rw [e, List.length_map, ← TL.len_tl a] at h
  exact h
/-- words: no blank within, not too long -/
def Word (x : Str) : Prop := 32 ∉ tl x ∧ x.length ≤ 4300
theorem words_at {M : Mem} {ws : List Str} (h0 : ws ≠ []) (hw : ∀ w ∈ ws, Word w) (hn : ws.length ≤ 1000) : F_words_of [.str (Txt.join " " ws)] M = .ok (.lst (ws.map .str)) M := by
  have hb : (Str.ofString " ").length = 1 := by decide +kernel
  have hl := join_len (a := Str.ofString " ") (ys := ws)
  have hs := sum_le ws 4300 fun x hx => (hw x hx).2
  rw [hb] at hl
  rw [words_of_at (by omega), TL.split_join (blank_ok) (by decide +kernel) h0 fun p hp => (hw p hp).1]
theorem word_name {x : Str} (h : NameS x) : Word x := ⟨fun hm => by have := h.sign _ hm; omega, by have := h.len; omega⟩
theorem word_num {n : Nat} (h : n < 10 ^ 4300) : Word (numT n) := ⟨fun hm => by
  have e : tl (numT n) = numL n := TL.tl_num n
  rw [e] at hm
  exact TL.numL_free (Or.inl (by omega)) hm, numT_len h⟩
theorem tl_pT (p : Pl) : tl (pT p) = tl p.1 ++ (46 :: tl p.2) := by
  rw [pT_eq, TL.tl_append, TL.tl_append, dot_ok, List.append_assoc]
  rfl
theorem word_pT {p : Pl} (h : NameP p) : Word (pT p) := ⟨fun hm => by
  rw [tl_pT] at hm
  rcases List.mem_append.mp hm with hm | hm
  · have := h.1.sign _ hm; omega
  · rcases List.mem_cons.mp hm with hm | hm
    · omega
    · have := h.2.sign _ hm; omega, by have := pT_len h; omega⟩
theorem placeD_pT {p : Pl} (h : NameP p) : placeD (pT p) = pD p := by
  have e : Txt.split (pT p) "." = [p.1, p.2] := TL.split_join (y := Str.ofString ".") dot_ok (by decide +kernel) (by simp) fun q hq => by
    simp only [List.mem_cons, List.not_mem_nil, or_false] at hq
    rcases hq with rfl | rfl
    · exact fun hm => by have := h.1.sign _ hm; omega
    · exact fun hm => by have := h.2.sign _ hm; omega
  unfold placeD
  rw [e]
  exact if_pos (isPlace_pD h)
theorem numL_head : ∀ n : Nat, 0 < n → (numL n)[0]? ≠ some 48 := by
  intro n
  induction n using Nat.strongRecOn with
  | _ n ih =>
    intro h
    by_cases h1 : n < 10
    · rw [TL.numL_lt h1]
      simp
      omega
    · rw [TL.numL_step (by omega)]
      have hne := TL.numL_ne (n / 10)
      have q := ih (n / 10) (by omega) (by omega)
      rw [List.getElem?_append_left (by cases e : numL (n / 10) with
        | nil => exact absurd e hne
        | cons a b => simp)]
      exact q
theorem numD_numT (n : Nat) : numD (numT n) = .int n := by
  have e : tl (numT n) = numL n := TL.tl_num n
  have hi : numIn (numT n) = some n := by
    unfold numIn
    rw [e, if_neg (TL.numL_ne n), if_pos, if_neg, TL.numL_val]
    · rintro ⟨q1, q2⟩
      by_cases h : 0 < n
      · exact numL_head n h q1
      · obtain rfl : n = 0 := by omega
        exact q2 (TL.numL_lt (by omega))
    · rw [List.all_eq_true]
      intro c hc
      have := TL.numL_digits n c hc
      exact decide_eq_true ((figs_mem c).mpr this)
  unfold numD
  rw [hi]
theorem number_in_num {M : Mem} {n : Nat} (h : n < 10 ^ 4300) : F_number_in [.str (numT n)] M = .ok (.int n) M := by
  rw [number_in_at (numT_len h), numD_numT]
theorem place_in_pT {M : Mem} {p : Pl} (h : NameP p) : F_place_in [.str (pT p)] M = .ok (pD p) M := by
  rw [place_in_at (by have := pT_len h; omega), placeD_pT h]
theorem read_place_at {M : Mem} {p : Pl} (h : NameP p) : F_read_place [.str (pT p)] M = .ok (pD p) M := by
  refine fn_pure rfl ?_ (by simp [pD, D.lo, loA])
  unfold b_read_place
  have hp := place_in_pT (M := M) h
  have hi : isnotM M (pD p) .non = some (.bl true) := rfl
  simp [isi_s, need_ok, hp, hi, endF]
/-! ### letters -/
inductive Let where
  | holds (n : Str) (h : Nat) | opn (n : Str) | heard (n : Str)
def letD : Let → D
  | .holds n h => .tup [.str "holds", .str n, .int h]
  | .opn n => .tup [.str "open", .str n]
  | .heard n => .tup [.str "heard", .str n]
def letW : Let → List Str
  | .holds n h => ["holds", n, numT h]
  | .opn n => ["open", n]
  | .heard n => ["heard", n]
def GLet : Let → Prop
  | .holds n h => NameS n ∧ h < 10 ^ 4300
  | .opn n => NameS n
  | .heard n => NameS n
theorem let_ok {l : Let} (h : GLet l) : isLetter (letD l) = true := by
  cases l with
  | holds n k =>
    have : isName (.str n) = true := h.1
    simp [letD, isLetter, this, isCount]
  | opn n =>
    have : isName (.str n) = true := h
    simp [letD, isLetter, this]
  | heard n =>
    have : isName (.str n) = true := h
    simp [letD, isLetter, this]
theorem short_holds : (Str.ofString "holds").length ≤ 16000000 ∧ (Str.ofString "open").length ≤ 16000000 ∧ (Str.ofString "heard").length ≤ 16000000 := by decide +kernel
theorem let_deep {M : Mem} {l : Let} (h : GLet l) (n : Nat) : Deep M (n + 1) (letD l) := by
  cases l with
  | holds x k =>
    have hx : NameS x := h.1
    refine deep_tup (by simp) fun y hy => ?_
    simp only [List.mem_cons, List.not_mem_nil, or_false] at hy
    rcases hy with rfl | rfl | rfl
    · exact deep_str short_holds.1 n
    · exact deep_str (by have := hx.len; omega) n
    · exact deep_int _ n
  | opn x =>
    have hx : NameS x := h
    refine deep_tup (by simp) fun y hy => ?_
    simp only [List.mem_cons, List.not_mem_nil, or_false] at hy
    rcases hy with rfl | rfl
    · exact deep_str short_holds.2.1 n
    · exact deep_str (by have := hx.len; omega) n
  | heard x =>
    have hx : NameS x := h
    refine deep_tup (by simp) fun y hy => ?_
    simp only [List.mem_cons, List.not_mem_nil, or_false] at hy
    rcases hy with rfl | rfl
    · exact deep_str short_holds.2.2 n
    · exact deep_str (by have := hx.len; omega) n
theorem word_lit {s : String} (h : (!(tl (Str.ofString s)).contains 32 && decide ((Str.ofString s).length ≤ 4300)) = true) : Word (Str.ofString s) := by
  simp only [Bool.and_eq_true, Bool.not_eq_true', decide_eq_true_eq] at h
  exact ⟨by simpa using h.1, h.2⟩
theorem let_words {l : Let} (h : GLet l) : ∀ w ∈ letW l, Word w := by
  intro w hw
  cases l with
  | holds n k =>
    simp only [letW, List.mem_cons, List.not_mem_nil, or_false] at hw
    rcases hw with rfl | rfl | rfl
    · exact word_lit (by decide +kernel)
    · exact word_name h.1
    · exact word_num h.2
  | opn n =>
    simp only [letW, List.mem_cons, List.not_mem_nil, or_false] at hw
    rcases hw with rfl | rfl
    · exact word_lit (by decide +kernel)
    · exact word_name h
  | heard n =>
    simp only [letW, List.mem_cons, List.not_mem_nil, or_false] at hw
    rcases hw with rfl | rfl
    · exact word_lit (by decide +kernel)
    · exact word_name h
theorem letterD_letW {l : Let} (h : GLet l) : letterD (letW l) = letD l := by
  have e : letterTup (letW l) = letD l := by
    cases l with
    | holds n k => simp [letterTup, letW, letD, numD_numT]
    | opn n => simp [letterTup, letW, letD]
    | heard n => simp [letterTup, letW, letD]
  unfold letterD
  rw [e, if_pos (let_ok h)]
theorem letW_ne (l : Let) : letW l ≠ [] := by cases l <;> simp [letW]
theorem letW_len (l : Let) : (letW l).length ≤ 3 := by cases l <;> simp [letW]
theorem letD_lo (l : Let) (n : Nat) : (letD l).lo n = true := by cases l <;> simp [letD, D.lo, loA]
/-- items of a letter, of a deed: texts and numbers -/
def itOk : D → Prop
  | .str z => z.length ≤ 4300
  | .int i => 0 ≤ i ∧ i < 10 ^ 4300
  | _ => False
theorem itOk_str {M : Mem} {x : D} (h : itOk x) : strM M [x] = some (.str (txD x)) ∧ (txD x).length ≤ 5000 := by
  cases x with
  | str z => exact ⟨rfl, by have : z.length ≤ 4300 := h; show z.length ≤ 5000; omega⟩
  | int i =>
    obtain ⟨h0, h1⟩ : 0 ≤ i ∧ i < 10 ^ 4300 := h
    obtain ⟨n, rfl⟩ := Int.eq_ofNat_of_zero_le h0
    have hn : n < 10 ^ 4300 := by
      have : ((n : Nat) : Int) < ((10 ^ 4300 : Nat) : Int) := by
        rw [Int.natCast_pow]
        exact h1
      exact Int.ofNat_lt.mp this
    refine ⟨?_, ?_⟩
    · have : ((n : Int)).natAbs < 10 ^ 4300 := by simpa using hn
      simp only [strM]
      rw [if_pos this]
      rfl
    · have := numT_len hn
      show (numT n).length ≤ 5000
      omega
  | _ => exact h.elim
theorem written_it {M : Mem} {d : D} {ds : List D} (hs : seqOf M d = some ds) (hn : ds.length ≤ 1000) (h : ∀ x ∈ ds, itOk x) : F_written [d] M = .ok (.str (Txt.join " " (ds.map txD))) M :=
  written_at hs txD (fun x hx => (itOk_str (h x hx)).1) hn fun x hx => (itOk_str (M := M) (h x hx)).2
def letL : Let → List D
  | .holds n h => [.str "holds", .str n, .int h]
  | .opn n => [.str "open", .str n]
  | .heard n => [.str "heard", .str n]
theorem letD_eq (l : Let) : letD l = .tup (letL l) := by cases l <;> rfl
theorem nat_it {n : Nat} (h : n < 10 ^ 4300) : itOk (.int (n : Int)) := by
  refine ⟨by omega, ?_⟩
  have : ((n : Nat) : Int) < ((10 ^ 4300 : Nat) : Int) := Int.ofNat_lt.mpr h
  rw [Int.natCast_pow] at this
  exact this
theorem letL_it {l : Let} (h : GLet l) : ∀ x ∈ letL l, itOk x := by
  intro x hx
  cases l with
  | holds n k =>
    simp only [letL, List.mem_cons, List.not_mem_nil, or_false] at hx
    rcases hx with rfl | rfl | rfl
    · show (Str.ofString "holds").length ≤ 4300; decide +kernel
    · show n.length ≤ 4300; have := NameS.len h.1; omega
    · exact nat_it h.2
  | opn n =>
    simp only [letL, List.mem_cons, List.not_mem_nil, or_false] at hx
    rcases hx with rfl | rfl
    · show (Str.ofString "open").length ≤ 4300; decide +kernel
    · show n.length ≤ 4300; have := NameS.len (x := n) h; omega
  | heard n =>
    simp only [letL, List.mem_cons, List.not_mem_nil, or_false] at hx
    rcases hx with rfl | rfl
    · show (Str.ofString "heard").length ≤ 4300; decide +kernel
    · show n.length ≤ 4300; have := NameS.len (x := n) h; omega
theorem letL_tx (l : Let) : (letL l).map txD = letW l := by cases l <;> simp [letL, letW, txD]
end H

namespace H
open PySem PySem.Spec PyProof.Rows L2 Lf
open TL (tl numL)
theorem fn_new {n m : Nat} {b : SS} {ds : List D} {M M' : Mem} {d : D} (hl : ds.length = m) (hb : endF (b (ds.map some ++ List.replicate (n - ds.length) none) M) = .ok d M') (hlo : d.lo M.length = false) : lenF m (fnS n b) ds M = .ok d M' := by
  rw [lenF_eq hl]
  unfold fnS
  rw [hb, truncF_ok, if_neg]
  rintro ⟨h, _⟩
  rw [hlo] at h
  cases h
theorem cut_from (ds : List D) (k : Nat) : Lf.cutD ds (some (k : Int)) none = ds.drop k := by
  have e : HT.sIx ds.length 0 (some (k : Int)) = min k ds.length := HT.sIx_nat _ _ _
  have e2 : HT.sIx ds.length ds.length none = ds.length := rfl
  unfold Lf.cutD
  rw [e, e2]
  by_cases h : k ≤ ds.length
  · rw [Nat.min_eq_left h, List.take_of_length_le (by rw [List.length_drop]; omega)]
  · rw [Nat.min_eq_right (by omega), List.drop_length, List.drop_eq_nil_of_le (by omega)]
    simp
theorem cut_to (ds : List D) (k : Nat) : Lf.cutD ds none (some (k : Int)) = ds.take k := by
  have e : HT.sIx ds.length ds.length (some (k : Int)) = min k ds.length := HT.sIx_nat _ _ _
  have e2 : HT.sIx ds.length 0 none = 0 := rfl
  unfold Lf.cutD
  rw [e, e2, List.drop_zero, Nat.sub_zero]
  by_cases h : k ≤ ds.length
  · rw [Nat.min_eq_left h]
  · rw [Nat.min_eq_right (by omega), List.take_length, List.take_of_length_le (by omega)]
theorem sl_lst3 (M : Mem) (ds : List D) : slM M (.lst ds) (some 3) none = some (.lst (ds.drop 3)) := by
  have e : Lf.cutD ds (some (3 : Int)) none = ds.drop 3 := cut_from ds 3
  simp [slM, lstOf, e]
theorem sl_lst2 (M : Mem) (ds : List D) : slM M (.lst ds) (some 2) none = some (.lst (ds.drop 2)) := by
  have e : Lf.cutD ds (some (2 : Int)) none = ds.drop 2 := cut_from ds 2
  simp [slM, lstOf, e]
theorem sl_tup3 (M : Mem) (ds : List D) : slM M (.tup ds) none (some 3) = some (.tup (ds.take 3)) := by
  have e : Lf.cutD ds none (some (3 : Int)) = ds.take 3 := cut_to ds 3
  simp [slM, e]
theorem sl_tup2 (M : Mem) (ds : List D) : slM M (.tup ds) none (some 2) = some (.tup (ds.take 2)) := by
  have e : Lf.cutD ds none (some (2 : Int)) = ds.take 2 := cut_to ds 2
  simp [slM, e]
theorem gt_len (M : Mem) (n m : Nat) : gtM M (.int (n : Int)) (.int (m : Int)) = some (.bl (decide (m < n))) := by
  simp only [gtM, cmpM]
  congr 2
  by_cases h : m < n
  · rw [decide_eq_true h, decide_eq_true (by omega)]
  · rw [decide_eq_false h, decide_eq_false (by omega)]
/-- [place_in(word) for word in words[3:]] -/
theorem lc_places {M : Mem} {σ : Sl} {i j : Nat} {w3 : List D} {ps : List Pl} (hs : σ[j]? = some (some (.lst (w3 ++ ps.map (fun p => .str (pT p)))))) (h3 : w3.length = 3) (g : GPrem ps) (hi : i < σ.length) :
    lcNS (iseqS (sliceS (varS j) (partS (cS (.int 3))) (fun _ M => .ok none M))) (.nm i) [i] yesT (callS F_place_in (consA (varS i) nilA)) σ M = .ok (.ref M.length) (M ++ [.lst (ps.map pD)]) := by
  have hd : (w3 ++ ps.map (fun p => D.str (pT p))).drop 3 = ps.map (fun p => D.str (pT p)) := by rw [← h3, List.drop_left]
  have q := lcNS_map (σ := σ) (M := M) (fi := iseqS (sliceS (varS j) (partS (cS (.int 3))) (fun _ M => .ok none M))) (i := i) (vs := [i]) (f := callS F_place_in (consA (varS i) nilA)) (z := ⟨ps.map (fun p => .str (pT p)), fun M' => seqOf M' (.lst (ps.map (fun p => .str (pT p)))) = some (ps.map (fun p => .str (pT p)))⟩) (fun x => match x with
    | .str w => placeD w
    | _ => .non) (by simp [hs, sl_lst3, hd, seqOf, lstOf]) (by simp; have := g.2.1; omega) rfl (fun x hx => by
      have hi' : i < (wipeD σ [i]).length := by simp [wipeD]; exact hi
      obtain ⟨r, hr, rfl⟩ := List.mem_map.mp hx
      have hp := place_in_at (M := M) (w := pT r) (by have := pT_len (g.2.2.2 r hr); omega)
      simp [List.getElem?_set_self hi', hp])
  rw [q]
  congr 4
  rw [List.map_map]
  exact List.map_congr_left fun p hp => placeD_pT (g.2.2.2 p hp)
theorem rule_words {q : Pl} {c : Nat} {ps : List Pl} (hq : NameP q) (hc : c < 10 ^ 4300) (g : GPrem ps) : ∀ w ∈ ruleW q c ps, Word w := by
  intro w hw
  rcases List.mem_append.mp hw with hw | hw
  · simp only [List.mem_cons, List.not_mem_nil, or_false] at hw
    rcases hw with rfl | rfl | rfl
    · exact word_pT hq
    · exact word_lit (by decide +kernel)
    · exact word_num hc
  · obtain ⟨p, hp, rfl⟩ := List.mem_map.mp hw
    exact word_pT (g.2.2.2 p hp)
end H

namespace H
open PySem PySem.Spec PyProof.Rows L2 Lf
open TL (tl numL)
/-! ### draws -/
def potL (a b c : Int) : MO := .lst [.int a, .int b, .int c]
/-- a row of draws at p, n of them done at most -/
def PotAt (M : Mem) (p n : Nat) : Prop := ∃ a b c : Int, M[p]? = some (potL a b c) ∧ 0 ≤ a ∧ (0 ≤ b ∧ b < 10 ^ 50) ∧ (0 ≤ c ∧ c ≤ n)
/-- nothing has changed but the row at p -/
def Mv (p : Nat) (M M' : Mem) (n : Nat) : Prop := ∃ a b c : Int, p < M.length ∧ M' = M.set p (potL a b c) ∧ 0 ≤ a ∧ (0 ≤ b ∧ b < 10 ^ 50) ∧ (0 ≤ c ∧ c ≤ n)
theorem PotAt.mv {M : Mem} {p n : Nat} (h : PotAt M p n) : Mv p M M n := by
  obtain ⟨a, b, c, e, h⟩ := h
  obtain ⟨hp, e2⟩ := List.getElem?_eq_some_iff.mp e
  exact ⟨a, b, c, hp, by rw [← e2, List.set_getElem_self], h⟩
theorem Mv.pot {M M' : Mem} {p n : Nat} (h : Mv p M M' n) : PotAt M' p n := by
  obtain ⟨a, b, c, hp, rfl, h⟩ := h
  exact ⟨a, b, c, List.getElem?_set_self hp, h⟩
theorem Mv.trans {M M1 M2 : Mem} {p n m : Nat} (h : Mv p M M1 n) (k : Mv p M1 M2 m) : Mv p M M2 m := by
  obtain ⟨a, b, c, hp, rfl, _⟩ := h
  obtain ⟨a', b', c', _, rfl, k⟩ := k
  exact ⟨a', b', c', hp, by rw [List.set_set], k⟩
theorem Mv.mono {M M' : Mem} {p n m : Nat} (h : Mv p M M' n) (k : n ≤ m) : Mv p M M' m := by
  obtain ⟨a, b, c, hp, e, h1, h2, h3⟩ := h
  exact ⟨a, b, c, hp, e, h1, h2, h3.1, by omega⟩
theorem PotAt.mono {M : Mem} {p n m : Nat} (h : PotAt M p n) (k : n ≤ m) : PotAt M p m := by
  obtain ⟨a, b, c, e, h1, h2, h3⟩ := h
  exact ⟨a, b, c, e, h1, h2, h3.1, by omega⟩
theorem Mv.len {M M' : Mem} {p n : Nat} (h : Mv p M M' n) : M'.length = M.length := by
  obtain ⟨a, b, c, hp, rfl, _⟩ := h
  simp
theorem Mv.lt {M M' : Mem} {p n : Nat} (h : Mv p M M' n) : p < M.length := by
  obtain ⟨a, b, c, hp, _⟩ := h
  exact hp
theorem Mv.okT {M M' : Mem} {p n : Nat} (h : Mv p M M' n) : OkT M M' := by
  obtain ⟨a, b, c, hp, rfl, _⟩ := h
  exact (OkT.refl M).set (by simp [potL, MO.lo, loA, D.lo])
theorem Mv.other {M M' : Mem} {p n i : Nat} (h : Mv p M M' n) (k : i ≠ p) : M'[i]? = M[i]? := by
  obtain ⟨a, b, c, hp, rfl, _⟩ := h
  exact List.getElem?_set_ne (fun e => k e.symm)
/-- behind more objects -/
theorem Mv.app {M M' X : Mem} {p n : Nat} (h : Mv p (M ++ X) M' n) (hp : p < M.length) : ∃ M1, Mv p M M1 n ∧ M' = M1 ++ X := by
  obtain ⟨a, b, c, _, rfl, h⟩ := h
  exact ⟨M.set p (potL a b c), ⟨a, b, c, hp, rfl, h⟩, List.set_append_left _ _ hp⟩
theorem PotAt.app {M : Mem} {p n : Nat} (h : PotAt M p n) (X : Mem) : PotAt (M ++ X) p n := by
  obtain ⟨a, b, c, e, h⟩ := h
  exact ⟨a, b, c, by rw [List.getElem?_append_left (List.getElem?_eq_some_iff.mp e).1]; exact e, h⟩
/-- a def that changes the row alone -/
theorem fn_mv {k m : Nat} {b : SS} {ds : List D} {M M' : Mem} {d : D} {p n : Nat} (hl : ds.length = m) (hb : endF (b (ds.map some ++ List.replicate (k - ds.length) none) M) = .ok d M') (hlo : d.lo M.length = true) (h : Mv p M M' n) : lenF m (fnS k b) ds M = .ok d M' :=
  fn_to hl hb hlo (by rw [List.take_of_length_le (by rw [h.len]; exact Nat.le_refl _)]) h.okT
theorem fn_mvX {k m : Nat} {b : SS} {ds : List D} {M M' X : Mem} {d : D} {p n : Nat} (hl : ds.length = m) (hb : endF (b (ds.map some ++ List.replicate (k - ds.length) none) M) = .ok d (M' ++ X)) (hlo : d.lo M.length = true) (h : Mv p M M' n) : lenF m (fnS k b) ds M = .ok d M' :=
  fn_to hl hb hlo (by rw [← h.len, List.take_left]) h.okT
theorem ix_ref {M : Mem} {p : Nat} {ds : List D} (h : M[p]? = some (.lst ds)) (i : Nat) : ixM M (.ref p) (.int (i : Int)) = ds[i]? := by
  simp only [ixM, seqOf, lstOf, h, Option.bind_some]
  exact atI_nat ds i
theorem bits_le {i : Int} {k : Nat} (h : i.natAbs < 2 ^ k) : Builtin.Int.intBits i ≤ k := by
  unfold Builtin.Int.intBits
  split
  · omega
  · have h0 : i.natAbs ≠ 0 := by
      intro e
      rename_i q
      apply q
      have : i = 0 := by omega
      simp [this]
    have := (Nat.log2_lt h0).mpr h
    omega
theorem dip_at {M : Mem} {p n : Nat} {many : Int} (h : PotAt M p n) (hn : n ≤ 1000000) (h1 : 1 ≤ many) (h2 : many < 2 ^ 2000) :
    ∃ (r : Int) (M' : Mem), F_l_dip [.ref p, .int many] M = .ok (.int r) M' ∧ (0 ≤ r ∧ r < many) ∧ Mv p M M' (n + 1) := by
  obtain ⟨a, b, c, e, ha, hb, hc⟩ := h
  obtain ⟨hp, _⟩ := List.getElem?_eq_some_iff.mp e
  have e' : M[p]? = some (.lst [.int a, .int b, .int c]) := e
  have i0 : ixM M (.ref p) (.int 0) = some (.int a) := ix_ref e' 0
  have i1 : ixM M (.ref p) (.int 1) = some (.int b) := ix_ref e' 1
  have i2 : ixM M (.ref p) (.int 2) = some (.int c) := ix_ref e' 2
  have hmod : ∀ (M : Mem) (x : Int), modM M (.int x) (.int many) = some (.int (x % many)) := fun M x => by
    simp only [modM]
    rw [if_pos (by omega)]
  have hdiv : ∀ (M : Mem) (x : Int), divM M (.int x) (.int many) = some (.int (x / many)) := fun M x => by
    simp only [divM]
    rw [if_pos ⟨by omega, h2⟩]
  by_cases hpos : a > 0
  · have hgt : gtM M (.int a) (.int 0) = some (.bl true) := by simp [gtM, cmpM, hpos]
    have hmv : Mv p M (M.set p (potL (a / many) b c)) (n + 1) := ⟨a / many, b, c, hp, rfl, Int.ediv_nonneg ha (by omega), hb, hc.1, by omega⟩
    refine ⟨a % many, M.set p (potL (a / many) b c), fn_mv rfl ?_ rfl hmv, ⟨Int.emod_nonneg _ (by omega), Int.emod_lt_of_pos _ (by omega)⟩, hmv⟩
    unfold b_l_dip
    simp [i0, hgt, hmod, hdiv, setItemS, e', endF, potL]
  · have hgt : gtM M (.int a) (.int 0) = some (.bl false) := by
      simp only [gtM, cmpM]
      rw [decide_eq_false hpos]
    have e2 : (M.set p (.lst [.int a, .int b, .int (c + 1)]))[p]? = some (.lst [.int a, .int b, .int (c + 1)]) := List.getElem?_set_self hp
    generalize hM1 : M.set p (.lst [.int a, .int b, .int (c + 1)]) = M1 at e2
    have j1 : ixM M1 (.ref p) (.int 1) = some (.int b) := ix_ref e2 1
    have j2 : ixM M1 (.ref p) (.int 2) = some (.int (c + 1)) := ix_ref e2 2
    have hadd : ∀ (M : Mem) (x y : Int), addM M (.int x) (.int y) = some (.int (x + y)) := fun M x y => rfl
    have hmul : ∀ (x : Int), x.natAbs < 2 ^ 20000 → mulM M1 (.int x) (.int (c + 1)) = some (.int (x * (c + 1))) := fun x hx => by
      simp only [mulM]
      have h30 : (c + 1).natAbs < 2 ^ 30 := by omega
      have hc2 : (c + 1).natAbs < 2 ^ 20000 := Nat.lt_of_lt_of_le h30 (Nat.pow_le_pow_right (by omega) (by omega))
      rw [if_pos ⟨hx, hc2⟩]
    have hpow : ∀ (x : Int) (k : Nat), x.natAbs < 2 ^ 200 → k ≤ 50 → powM M1 (.int x) (.int (k : Int)) = some (.int (x ^ k)) := fun x k hx hk => by
      simp only [powM]
      have hb := bits_le hx
      have h3 : Builtin.Int.intBits x * k ≤ 200 * 50 := Nat.mul_le_mul hb hk
      have h4 : (Builtin.Int.intBits x : Int) * (k : Int) ≤ 200 * 50 := by exact_mod_cast h3
      have h5 : (Builtin.Int.intBits x : Int) * (k : Int) ≤ 2 ^ 27 := by omega
      have h6 : (0 : Int) ≤ (k : Int) := by omega
      rw [if_pos ⟨h6, h5⟩]
      simp
    have hmodp : ∀ (x m : Int), 0 < m → modM M1 (.int x) (.int m) = some (.int (x % m)) := fun x m hm => by
      simp only [modM]
      rw [if_pos hm]
    have hp10 : ∀ (k : Nat), k ≤ 50 → powM M1 (.int 10) (.int (k : Int)) = some (.int (10 ^ k)) := fun k hk => hpow 10 k (by decide +kernel) hk
    have p41 : powM M1 (.int 10) (.int 41) = some (.int (10 ^ 41)) := hp10 41 (by omega)
    have p42 : powM M1 (.int 10) (.int 42) = some (.int (10 ^ 42)) := hp10 42 (by omega)
    have hd3 : ∀ x : Int, divM M1 (.int x) (.int 65539) = some (.int (x / 65539)) := fun x => by
      simp only [divM]
      rw [if_pos ⟨by omega, by decide +kernel⟩]
    have hmv : Mv p M M1 (n + 1) := ⟨a, b, c + 1, hp, hM1.symm, ha, hb, by omega, by omega⟩
    have b50 : (10 : Int) ^ 50 < 2 ^ 170 := by decide +kernel
    have b200 : (2 : Int) ^ 170 + 2 ^ 100 < 2 ^ 200 := by decide +kernel
    have q1 : powM M1 (.int (b + 104395301 * (c + 1))) (.int 3) = some (.int ((b + 104395301 * (c + 1)) ^ 3)) := hpow _ 3 (by
      have : b + 104395301 * (c + 1) < 2 ^ 200 := by omega
      have h0 : 0 ≤ b + 104395301 * (c + 1) := by omega
      omega) (by omega)
    have hm1 : 0 ≤ (b + 104395301 * (c + 1)) ^ 3 % (10 ^ 41 + 37) ∧ (b + 104395301 * (c + 1)) ^ 3 % (10 ^ 41 + 37) < 10 ^ 41 + 37 := ⟨Int.emod_nonneg _ (by decide +kernel), Int.emod_lt_of_pos _ (by decide +kernel)⟩
    generalize hx1 : (b + 104395301 * (c + 1)) ^ 3 % (10 ^ 41 + 37) = x1 at hm1
    have b41 : (10 : Int) ^ 41 + 37 < 2 ^ 170 := by decide +kernel
    have q2 : powM M1 (.int (x1 + 982451653 * (c + 1))) (.int 5) = some (.int ((x1 + 982451653 * (c + 1)) ^ 5)) := hpow _ 5 (by omega) (by omega)
    generalize hx2 : (x1 + 982451653 * (c + 1)) ^ 5 % (10 ^ 42 + 63) = x2
    have m1 : modM M1 (.int ((b + 104395301 * (c + 1)) ^ 3)) (.int (10 ^ 41 + 37)) = some (.int x1) := by rw [← hx1]; exact hmodp _ _ (by decide +kernel)
    have m2 : modM M1 (.int ((x1 + 982451653 * (c + 1)) ^ 5)) (.int (10 ^ 42 + 63)) = some (.int x2) := by rw [← hx2]; exact hmodp _ _ (by decide +kernel)
    refine ⟨x2 / 65539 % many, M1, fn_mv rfl ?_ rfl hmv, ⟨Int.emod_nonneg _ (by omega), Int.emod_lt_of_pos _ (by omega)⟩, hmv⟩
    unfold b_l_dip
    have hset : setItemS (varS 0) (cS (.int 2)) (op2 addM (op2 ixM (varS 0) (cS (.int 2))) (cS (.int 1))) [some (.ref p), some (.int many), none, none] M = .nx [some (.ref p), some (.int many), none, none] M1 := by
      simp [setItemS, i2, hadd, e', hM1]
    have mu1 := hmul 104395301 (by decide +kernel)
    have mu2 := hmul 982451653 (by decide +kernel)
    show endF (seqS _ (seqS _ _) [some (.ref p), some (.int many), none, none] M) = _
    have hif : ifS (asT (op2 gtM (op2 ixM (varS 0) (cS (.int 0))) (cS (.int 0)))) (seqS (setS 3 (op2 modM (op2 ixM (varS 0) (cS (.int 0))) (varS 1)))
      (seqS (setItemS (varS 0) (cS (.int 0)) (op2 divM (op2 ixM (varS 0) (cS (.int 0))) (varS 1)))
      (retS (varS 3)))) nextS [some (.ref p), some (.int many), none, none] M = .nx [some (.ref p), some (.int many), none, none] M := by
      simp [i0, hgt]
    simp only [seqS_ap, hif, hset, setS_ap, op2_ap, varS_ap, cS_ap, List.getElem?_cons_zero, List.getElem?_cons_succ, RE.bind_ok, j1, j2, mu1, mu2, hadd, q1, p41, m1, p42, List.set_cons_succ, List.set_cons_zero, q2, m2, hd3, hmod, retS_ap, endF]
end H

namespace H
open PySem PySem.Spec PyProof.Rows L2 Lf
open TL (tl numL)
/-! ### loops by what holds through them -/
theorem loop_go {z : ItD} {i : Nat} {body : SS} (I : Nat → Sl → Mem → Prop) (hc : ∀ n σ M, I n σ M → z.chk M) (step : ∀ n x σ M, z.all[n]? = some x → I n σ M → ∃ σ2 M2, body (σ.set i (some x)) M = .nx σ2 M2 ∧ I (n + 1) σ2 M2) :
    ∀ (k n : Nat) (σ : Sl) (M : Mem), z.all.length - n = k → n ≤ z.all.length → I n σ M → ∃ σ2 M2, loopS z (.nm i) body (z.all.drop n) σ M = .nx σ2 M2 ∧ I z.all.length σ2 M2
  | 0, n, σ, M, hk, hn, h => by
    obtain rfl : n = z.all.length := by omega
    rw [List.drop_length]
    unfold loopS
    rw [if_pos (hc _ _ _ h)]
    exact ⟨σ, M, rfl, h⟩
  | k + 1, n, σ, M, hk, hn, h => by
    have hlt : n < z.all.length := by omega
    rw [List.drop_eq_getElem_cons hlt]
    unfold loopS
    rw [if_pos (hc _ _ _ h)]
    obtain ⟨σ2, M2, e, h2⟩ := step n z.all[n] σ M (List.getElem?_eq_getElem hlt) h
    have et : Tg.set (.nm i) z.all[n] σ = some (σ.set i (some z.all[n])) := by simp only [Tg.set]
    rw [et]
    dsimp only
    rw [e]
    exact loop_go I hc step k (n + 1) σ2 M2 (by omega) (by omega) h2
theorem for_run {fi : SI} {z : ItD} {i : Nat} {body : SS} {σ : Sl} {M0 M : Mem} (I : Nat → Sl → Mem → Prop) (hi : fi σ M0 = .ok z M) (hc : ∀ n σ M, I n σ M → z.chk M) (step : ∀ n x σ M, z.all[n]? = some x → I n σ M → ∃ σ2 M2, body (σ.set i (some x)) M = .nx σ2 M2 ∧ I (n + 1) σ2 M2) (h0 : I 0 σ M) :
    ∃ σ2 M2, forS fi (.nm i) body σ M0 = .nx σ2 M2 ∧ I z.all.length σ2 M2 := by
  obtain ⟨σ2, M2, e, h⟩ := loop_go I hc step z.all.length 0 σ M (by omega) (by omega) h0
  refine ⟨σ2, M2, ?_, h⟩
  unfold forS
  rw [hi]
  rw [List.drop_zero] at e
  exact e
theorem lc_go {z : ItD} {i : Nat} {f : SE} {σ : Sl} (I : Nat → Mem → List D → Prop) (hc : ∀ n M acc, I n M acc → z.chk M) (step : ∀ n x M acc, z.all[n]? = some x → I n M acc → ∃ y M2, f (σ.set i (some x)) M = .ok y M2 ∧ I (n + 1) M2 (acc ++ [y])) :
    ∀ (k n : Nat) (M : Mem) (acc : List D), z.all.length - n = k → n ≤ z.all.length → I n M acc → ∃ ds M2, lcLoop z (.nm i) yesT f (z.all.drop n) σ M acc = .ok ds M2 ∧ I z.all.length M2 ds
  | 0, n, M, acc, hk, hn, h => by
    obtain rfl : n = z.all.length := by omega
    rw [List.drop_length]
    unfold lcLoop
    rw [if_pos (hc _ _ _ h)]
    exact ⟨acc, M, rfl, h⟩
  | k + 1, n, M, acc, hk, hn, h => by
    have hlt : n < z.all.length := by omega
    rw [List.drop_eq_getElem_cons hlt]
    unfold lcLoop
    rw [if_pos (hc _ _ _ h)]
    obtain ⟨y, M2, e, h2⟩ := step n z.all[n] M acc (List.getElem?_eq_getElem hlt) h
    have et : Tg.set (.nm i) z.all[n] σ = some (σ.set i (some z.all[n])) := by simp only [Tg.set]
    have ey : yesT (σ.set i (some z.all[n])) M = .ok true M := rfl
    rw [et]
    dsimp only
    rw [ey]
    dsimp only
    rw [e]
    exact lc_go I hc step k (n + 1) M2 (acc ++ [y]) (by omega) (by omega) h2
theorem lc_run {fi : SI} {z : ItD} {i : Nat} {vs : List Nat} {f : SE} {σ : Sl} {M0 M : Mem} (I : Nat → Mem → List D → Prop) (hi : fi σ M0 = .ok z M) (hl : z.all.length ≤ 16000000) (hc : ∀ n M acc, I n M acc → z.chk M)
    (step : ∀ n x M acc, z.all[n]? = some x → I n M acc → ∃ y M2, f ((wipeD σ vs).set i (some x)) M = .ok y M2 ∧ I (n + 1) M2 (acc ++ [y])) (h0 : I 0 M []) :
    ∃ ds M2, lcS fi (.nm i) vs yesT f σ M0 = .ok (.lst ds) M2 ∧ I z.all.length M2 ds := by
  obtain ⟨ds, M2, e, h⟩ := lc_go I hc step z.all.length 0 M [] (by omega) (by omega) h0
  refine ⟨ds, M2, ?_, h⟩
  rw [List.drop_zero] at e
  unfold lcS
  rw [hi]
  show (if z.all.length ≤ sizeLine then _ else _) = _
  rw [if_pos (line_le hl), e]
  rfl
theorem rng_len (lo : Int) (n : Nat) : (rngItems lo n).length = n := by simp [rngItems]
theorem rng_get {lo : Int} {n i : Nat} {x : D} (h : (rngItems lo n)[i]? = some x) : i < n ∧ x = .int (lo + i) := by
  have hi := (List.getElem?_eq_some_iff.mp h).1
  rw [rng_len] at hi
  refine ⟨hi, ?_⟩
  simp only [rngItems, List.getElem?_map, List.getElem?_range hi, Option.map_some, Option.some.injEq] at h
  exact h.symm
theorem range_at {fa : SA} {σ : Sl} {M M' : Mem} {j : Int} (h : fa σ M = .ok [.int j] M') (h1 : j < 1000000) (h2 : -1000000 < j) : irange1S fa σ M = .ok ⟨rngItems 0 j.toNat, fun _ => True⟩ M' := by
  unfold irange1S
  rw [h]
  simp [h1, h2]
/-! ### pairs -/
def prodP (xs ys : List Str) : List Pl := xs.flatMap fun x => ys.map fun y => (x, y)
theorem pairs_at {M : Mem} {xs ys : List Str} (h1 : xs.length ≤ 100) (h2 : ys.length ≤ 100) : F_l_pairs [.lst (xs.map .str), .lst (ys.map .str)] M = .ok (.lst ((prodP xs ys).map pD)) M := by
  have hcomp : ∀ (σ : Sl) (M : Mem) (x : Str), σ[1]? = some (some (.lst (ys.map .str))) → σ[3]? = some (some (.str x)) → 4 < σ.length →
      lcS (iseqS (varS 1)) (.nm 4) [4] yesT (tupS (consA (varS 3) (consA (varS 4) nilA))) σ M = .ok (.lst ((ys.map fun y => (x, y)).map pD)) M := fun σ M x e1 e3 hl => by
    have q := lcS_map (σ := σ) (M := M) (fi := iseqS (varS 1)) (i := 4) (vs := [4]) (f := tupS (consA (varS 3) (consA (varS 4) nilA))) (z := ⟨ys.map .str, fun M' => seqOf M' (.lst (ys.map .str)) = some (ys.map .str)⟩) (fun y => .tup [.str x, y]) (by simp [e1, seqOf, lstOf]) (by simp; omega) rfl (fun y hy => by
      have hl' : 4 < (wipeD σ [4]).length := by simp [wipeD]; exact hl
      have e3' : ((wipeD σ [4]).set 4 (some y))[3]? = some (some (.str x)) := by
        rw [List.getElem?_set_ne (by omega)]
        simp only [wipeD]
        rw [List.getElem?_set_ne (by omega)]
        exact e3
      simp [e3', List.getElem?_set_self hl'])
    rw [q]
    congr 2
    rw [List.map_map, List.map_map]
    rfl
  refine fn_back (M' := M ++ [.gone]) rfl ?_ ?_ (by simp)
  · unfold b_l_pairs
    obtain ⟨σ2, M2, e, ⟨s3, rfl⟩, rfl⟩ := for_run (fi := iseqS (varS 0)) (z := ⟨xs.map .str, fun M' => seqOf M' (.lst (xs.map .str)) = some (xs.map .str)⟩) (i := 3) (body := exprS (mtdS isLst extendM (varS 2) (consA (lcS (iseqS (varS 1)) (.nm 4) [4] yesT (tupS (consA (varS 3) (consA (varS 4) nilA)))) nilA)))
      (σ := [some (.lst (xs.map .str)), some (.lst (ys.map .str)), some (.ref M.length), none, none]) (M0 := M ++ [.lst []]) (M := M ++ [.lst []])
      (fun n σ M' => (∃ s3, σ = [some (.lst (xs.map .str)), some (.lst (ys.map .str)), some (.ref M.length), s3, none]) ∧ M' = M ++ [.lst ((prodP (xs.take n) ys).map pD)])
      (by simp [seqOf, lstOf]) (fun _ _ _ _ => rfl) (fun n x σ M' hx ⟨⟨s3, hσ⟩, hM⟩ => by
        subst hσ hM
        have hx' : (xs.map D.str)[n]? = some x := hx
        rw [List.getElem?_map] at hx'
        obtain ⟨y, hy, rfl⟩ := Option.map_eq_some_iff.mp hx'
        have hn := (List.getElem?_eq_some_iff.mp hy).1
        have hc := hcomp [some (.lst (xs.map .str)), some (.lst (ys.map .str)), some (.ref M.length), some (.str y), none] (M ++ [.lst ((prodP (xs.take n) ys).map pD)]) y rfl rfl (by simp)
        have hlen : ((prodP (xs.take n) ys).map pD).length + ((ys.map fun z => (y, z)).map pD).length ≤ 16000000 := by
          have : (prodP (xs.take n) ys).length ≤ 100 * 100 := by
            unfold prodP
            rw [List.length_flatMap]
            have : ((xs.take n).map fun a => (ys.map fun z => (a, z)).length).sum ≤ (xs.take n).length * 100 := by
              generalize xs.take n = l
              induction l with
              | nil => simp
              | cons a l ih => simp at ih ⊢; omega
            have h3 : (xs.take n).length ≤ 100 := by simp; omega
            have := Nat.mul_le_mul_right 100 h3
            omega
          simp only [List.length_map]
          omega
        have hget : (M ++ [MO.lst ((prodP (xs.take n) ys).map pD)])[M.length]? = some (.lst ((prodP (xs.take n) ys).map pD)) := by simp
        have htake : prodP (xs.take (n + 1)) ys = prodP (xs.take n) ys ++ ys.map fun z => (y, z) := by
          unfold prodP
          rw [List.take_succ, hy, List.flatMap_append]
          simp
        refine ⟨[some (.lst (xs.map .str)), some (.lst (ys.map .str)), some (.ref M.length), some (.str y), none], M ++ [.lst ((prodP (xs.take (n + 1)) ys).map pD)], ?_, ⟨_, rfl⟩, rfl⟩
        simp only [List.set_cons_succ, List.set_cons_zero, exprS_ap, mtdS, varS_ap, List.getElem?_cons_succ, List.getElem?_cons_zero, RE.bind_ok, isLst, hget, if_true, consA_ap, hc, nilA_ap, extendM, Lf.dirOf, hlen]
        rw [htake, List.map_append]
        simp)
      ⟨⟨none, rfl⟩, by simp [prodP]⟩
    have hA : setS 2 (newS nilA) [some (.lst (xs.map .str)), some (.lst (ys.map .str)), none, none, none] M = .nx [some (.lst (xs.map .str)), some (.lst (ys.map .str)), some (.ref M.length), none, none] (M ++ [.lst []]) := by simp
    show endF (seqS _ (seqS _ _) [some (.lst (xs.map .str)), some (.lst (ys.map .str)), none, none, none] M) = _
    have hl : (xs.map D.str).length = xs.length := by simp
    simp only [hl] at e
    have hgone : (M ++ [MO.lst ((prodP (xs.take xs.length) ys).map pD)])[M.length]? = some (.lst ((prodP (xs.take xs.length) ys).map pD)) := by simp
    simp only [seqS_ap, hA, e, retS_ap, frzS, varS_ap, List.getElem?_cons_succ, List.getElem?_cons_zero, RE.bind_ok, hgone, endF]
    rw [List.take_length]
    simp
  · simp only [D.lo]
    generalize prodP xs ys = l
    induction l with
    | nil => rfl
    | cons x l ih => simpa [loA, D.lo, pD] using ih
end H

namespace H
open PySem PySem.Spec PyProof.Rows L2 Lf
open TL (tl numL)
theorem lo_pDs (n : Nat) (l : List Pl) : loA n (l.map pD) = true := by
  induction l with
  | nil => rfl
  | cons x l ih => simpa [loA, D.lo, pD] using ih
theorem map_erase {α β : Type} (f : α → β) : ∀ (l : List α) (i : Nat), (l.map f).eraseIdx i = (l.eraseIdx i).map f
  | [], i => by simp
  | x :: l, 0 => by simp
  | x :: l, i + 1 => by simp [map_erase f l i]
theorem erase_perm {α : Type} : ∀ (l : List α) (i : Nat) (h : i < l.length), (l[i] :: l.eraseIdx i).Perm l
  | x :: l, 0, h => by simp
  | x :: l, i + 1, h => by
    have q := erase_perm l i (by simpa using h)
    simp only [List.getElem_cons_succ, List.eraseIdx_cons_succ]
    exact (List.Perm.swap x _ _).trans (q.cons x)
theorem small2000 {x : Int} (h : x ≤ 2 ^ 60) : x < 2 ^ 2000 := Int.lt_of_le_of_lt h (by decide +kernel)
theorem min_at (M : Mem) (i j : Int) : min2M M [.int i, .int j] = some (.int (if j < i then j else i)) := rfl
theorem get_last (Ma : Mem) (l : List D) {k : Nat} (e : Ma.length = k) : (Ma ++ [MO.lst l])[k]? = some (.lst l) := by
  rw [← e]
  simp
theorem len_last (Ma : Mem) (l : List Pl) {k : Nat} (e : Ma.length = k) : lenM (Ma ++ [MO.lst (l.map pD)]) [.ref k] = some (.int l.length) := by
  simp only [lenM, seqOf, lstOf, get_last Ma _ e, Option.map_some, List.length_map]
theorem pop_last (Mb : Mem) (left : List Pl) {k jn : Nat} (e : Mb.length = k) (h : jn < left.length) (hl : left.length ≤ 100) : popAtM (Mb ++ [MO.lst (left.map pD)]) (.ref k) [.int (jn : Int)] = some (pD left[jn], Mb ++ [.lst ((left.eraseIdx jn).map pD)]) := by
  have hcond : (0 : Int) ≤ (jn : Int) ∧ (jn : Int) < ((left.map pD).length : Int) ∧ (left.map pD).length ≤ 16000000 := by
    rw [List.length_map]
    exact ⟨by omega, by omega, by omega⟩
  have hgj : (left.map pD)[jn]? = some (pD left[jn]) := by
    rw [List.getElem?_map, List.getElem?_eq_getElem h]
    rfl
  simp only [popAtM, get_last Mb _ e]
  rw [if_pos hcond]
  simp only [Int.toNat_natCast, hgj, Option.map_some]
  rw [List.set_append_right _ _ (by omega), e]
  simp [map_erase]
/-- one drawn from the list at k -/
theorem some_step {Ma : Mem} {p n k : Nat} {left : List Pl} {σ : Sl} (h : PotAt Ma p n) (hn : n ≤ 1000000) (hk : Ma.length = k) (h1 : 1 ≤ left.length) (h2 : left.length ≤ 100) (h0 : σ[0]? = some (some (.ref p))) (h3 : σ[3]? = some (some (.ref k))) :
    ∃ (jn : Nat) (Mb : Mem) (hj : jn < left.length), Mv p Ma Mb (n + 1) ∧ mtdS isLst popAtM (varS 3) (consA (callS F_l_dip (consA (varS 0) (consA (callV lenM (consA (varS 3) nilA)) nilA))) nilA) σ (Ma ++ [.lst (left.map pD)]) = .ok (pD left[jn]) (Mb ++ [.lst ((left.eraseIdx jn).map pD)]) := by
  have hp := h.mv.lt
  obtain ⟨j, Mb', ej, hj, mvj⟩ := dip_at (many := (left.length : Int)) (h.app [.lst (left.map pD)]) hn (by omega) (small2000 (by
    have : (left.length : Int) ≤ 100 := by omega
    omega))
  obtain ⟨Mb, mvb, rfl⟩ := mvj.app hp
  obtain ⟨jn, rfl⟩ := Int.eq_ofNat_of_zero_le hj.1
  have hjn : jn < left.length := by omega
  refine ⟨jn, Mb, hjn, mvb, ?_⟩
  have hg1 := get_last Ma (left.map pD) hk
  have hln := len_last Ma left hk
  have hpop := pop_last Mb left (mvb.len.trans hk) hjn h2
  simp only [mtdS, varS_ap, h0, h3, RE.bind_ok, isLst, hg1, if_true, consA_ap, callS_ap, callV_ap, nilA_ap, hln, ej, hpop]
def inSome (M : Mem) (p n : Nat) (ps : List Pl) (t : Nat) (M' : Mem) (acc : List D) : Prop := ∃ (Ma : Mem) (left qs : List Pl), M' = Ma ++ [.lst (left.map pD)] ∧ acc = qs.map pD ∧ Mv p M Ma (n + t) ∧ qs.length = t ∧ (qs ++ left).Perm ps
theorem some_comp {M M1 : Mem} {p n rn : Nat} {ps : List Pl} {d1 d2 : D} (h : Mv p M M1 n) (hn : n + rn ≤ 900000) (hr : rn + 1 ≤ ps.length) (hp2 : ps.length ≤ 100) :
    ∃ ds M2, lcS (irange1S (consA (varS 4) nilA)) (.nm 5) [5] yesT (mtdS isLst popAtM (varS 3) (consA (callS F_l_dip (consA (varS 0) (consA (callV lenM (consA (varS 3) nilA)) nilA))) nilA)) [some (.ref p), some d1, some d2, some (.ref M.length), some (.int (1 + rn)), none] (M1 ++ [.lst (ps.map pD)]) = .ok (.lst ds) M2 ∧ inSome M p n ps (rn + 1) M2 ds := by
  have hi : irange1S (consA (varS 4) nilA) [some (.ref p), some d1, some d2, some (.ref M.length), some (.int (1 + rn)), none] (M1 ++ [.lst (ps.map pD)]) = .ok ⟨rngItems 0 (rn + 1), fun _ => True⟩ (M1 ++ [.lst (ps.map pD)]) := by
    have q := range_at (fa := consA (varS 4) nilA) (σ := [some (.ref p), some d1, some d2, some (.ref M.length), some (.int (1 + rn)), none]) (M := M1 ++ [.lst (ps.map pD)]) (M' := M1 ++ [.lst (ps.map pD)]) (j := 1 + rn) (by simp) (by omega) (by omega)
    have e2 : ((1 : Int) + rn).toNat = rn + 1 := by omega
    rw [e2] at q
    exact q
  have hlen : (rngItems 0 (rn + 1)).length = rn + 1 := rng_len 0 (rn + 1)
  obtain ⟨ds, M2, e, h2⟩ := lc_run (i := 5) (vs := [5]) (f := mtdS isLst popAtM (varS 3) (consA (callS F_l_dip (consA (varS 0) (consA (callV lenM (consA (varS 3) nilA)) nilA))) nilA)) (inSome M p n ps) hi (Nat.le_trans (Nat.le_of_eq hlen) (by omega)) (fun _ _ _ _ => trivial)
    (fun t x M' acc hx ⟨Ma, left, qs, e1, e2, hmv, hql, hperm⟩ => by
      subst e1 e2
      have ht : t < rn + 1 := (rng_get (lo := 0) (n := rn + 1) hx).1
      have hlen2 := hperm.length_eq
      rw [List.length_append] at hlen2
      have hpot := hmv.pot
      have hL := hmv.len
      have q1 : n + t ≤ 1000000 := by omega
      have q2 : 1 ≤ left.length := by omega
      have q3 : left.length ≤ 100 := by omega
      obtain ⟨jn, Mb, hj, mvb, ef⟩ := some_step (σ := (wipeD [some (.ref p), some d1, some d2, some (.ref M.length), some (.int (1 + rn)), none] [5]).set 5 (some x)) hpot q1 hL q2 q3 rfl rfl
      have hper : ((qs ++ [left[jn]'hj]) ++ left.eraseIdx jn).Perm ps := by
        rw [List.append_assoc]
        exact (List.Perm.append_left qs (erase_perm left jn hj)).trans hperm
      have hmm : Mv p M Mb (n + (t + 1)) := (hmv.trans mvb).mono (by omega)
      exact ⟨pD (left[jn]'hj), _, ef, Mb, left.eraseIdx jn, qs ++ [left[jn]'hj], rfl, by simp, hmm, by simp [hql], hper⟩)
    ⟨M1, ps, [], rfl, rfl, h, rfl, by simp⟩
  refine ⟨ds, M2, e, ?_⟩
  have h3 : inSome M p n ps (rngItems 0 (rn + 1)).length M2 ds := h2
  rw [hlen] at h3
  exact h3
theorem some_at {M : Mem} {p n : Nat} {ps : List Pl} {most : Int} (h : PotAt M p n) (hn : n ≤ 800000) (hp1 : 1 ≤ ps.length) (hp2 : ps.length ≤ 100) (hm : 1 ≤ most ∧ most ≤ 8) :
    ∃ (qs : List Pl) (M' : Mem), F_l_some [.ref p, .lst (ps.map pD), .int most] M = .ok (.lst (qs.map pD)) M' ∧ Mv p M M' (n + 10) ∧ (1 ≤ qs.length ∧ (qs.length : Int) ≤ most) ∧ ∃ rest, (qs ++ rest).Perm ps := by
  have hpl := h.mv.lt
  have h1 : PotAt (M ++ [.lst (ps.map pD)]) p n := h.app _
  have hk : 1 ≤ (if (ps.length : Int) < most then (ps.length : Int) else most) ∧ (if (ps.length : Int) < most then (ps.length : Int) else most) ≤ 8 ∧ (if (ps.length : Int) < most then (ps.length : Int) else most) ≤ ps.length ∧ (if (ps.length : Int) < most then (ps.length : Int) else most) ≤ most := by
    split <;> omega
  generalize hkk : (if (ps.length : Int) < most then (ps.length : Int) else most) = kk at hk
  obtain ⟨r, M1', er, hr, mv1⟩ := dip_at (many := kk) h1 (by omega) hk.1 (small2000 (by have : kk ≤ 8 := hk.2.1; omega))
  obtain ⟨M1, mva, rfl⟩ := mv1.app hpl
  obtain ⟨rn, rfl⟩ := Int.eq_ofNat_of_zero_le hr.1
  obtain ⟨ds, M2, elc, Ma, left, qs, rfl, rfl, hmv, hql, hperm⟩ := some_comp (rn := rn) (d1 := .lst (ps.map pD)) (d2 := .int most) mva (by omega) (by omega) hp2
  have hmv2 : Mv p M Ma (n + 10) := hmv.mono (by omega)
  refine ⟨qs, Ma, fn_mvX (X := [.lst (left.map pD)]) rfl ?_ (by simp only [D.lo]; exact lo_pDs _ qs) hmv2, hmv2, by omega, left, hperm⟩
  unfold b_l_some
  show endF (seqS _ (seqS _ _) [some (.ref p), some (.lst (ps.map pD)), some (.int most), none, none, none] M) = _
  have hA : setS 3 (newOfS (consA (varS 1) nilA)) [some (.ref p), some (.lst (ps.map pD)), some (.int most), none, none, none] M = .nx [some (.ref p), some (.lst (ps.map pD)), some (.int most), some (.ref M.length), none, none] (M ++ [.lst (ps.map pD)]) := by
    simp [newOfS, seqOf, lstOf]
  have hB : setS 4 (op2 addM (cS (.int 1)) (callS F_l_dip (consA (varS 0) (consA (callV min2M (consA (varS 2) (consA (callV lenM (consA (varS 3) nilA)) nilA))) nilA)))) [some (.ref p), some (.lst (ps.map pD)), some (.int most), some (.ref M.length), none, none] (M ++ [.lst (ps.map pD)]) = .nx [some (.ref p), some (.lst (ps.map pD)), some (.int most), some (.ref M.length), some (.int (1 + rn)), none] (M1 ++ [.lst (ps.map pD)]) := by
    have hln := len_last M ps rfl
    have hadd : ∀ (M : Mem) (x y : Int), addM M (.int x) (.int y) = some (.int (x + y)) := fun M x y => rfl
    have hmn : min2M (M ++ [MO.lst (ps.map pD)]) [.int most, .int (ps.length : Int)] = some (.int kk) := by rw [min_at, hkk]
    simp only [setS_ap, op2_ap, cS_ap, RE.bind_ok, callS_ap, consA_ap, varS_ap, List.getElem?_cons_succ, List.getElem?_cons_zero, callV_ap, nilA_ap, hln, hmn, er, hadd, List.set_cons_succ, List.set_cons_zero]
  rw [seqS_ap, hA]
  show endF (seqS _ _ _ _) = _
  rw [seqS_ap, hB]
  show endF (retS _ _ _) = _
  rw [retS_ap, elc]
  rfl
end H

namespace H
open PySem PySem.Spec PyProof.Rows L2 Lf
open TL (tl numL)
theorem add_i (M : Mem) (x y : Int) : addM M (.int x) (.int y) = some (.int (x + y)) := rfl
/-- one of a list's items, drawn -/
theorem dip_ix {M : Mem} {σ : Sl} {p n : Nat} {f : SE} {ds : List D} (many : Int) (h : PotAt M p n) (hn : n ≤ 1000000) (h0 : σ[0]? = some (some (.ref p))) (hf : ∀ M, f σ M = .ok (.lst ds) M) (hl : (ds.length : Int) = many) (h1 : 1 ≤ many) (h2 : many ≤ 100) :
    ∃ (i : Nat) (x : D) (M' : Mem), ds[i]? = some x ∧ op2 ixM f (callS F_l_dip (consA (varS 0) (consA (cS (.int many)) nilA))) σ M = .ok x M' ∧ Mv p M M' (n + 1) := by
  obtain ⟨r, M', e, hr, mv⟩ := dip_at (many := many) h hn (by omega) (small2000 (by omega))
  obtain ⟨i, rfl⟩ := Int.eq_ofNat_of_zero_le hr.1
  have hi : i < ds.length := by omega
  refine ⟨i, ds[i], M', List.getElem?_eq_getElem hi, ?_, mv⟩
  have hx : ixM M' (.lst ds) (.int (i : Int)) = some ds[i] := by rw [ix_lst, List.getElem?_eq_getElem hi]
  simp only [op2_ap, hf, RE.bind_ok, callS_ap, consA_ap, varS_ap, h0, cS_ap, nilA_ap, e, hx]
theorem dip_gt {M : Mem} {σ : Sl} {p n : Nat} (many : Int) (h : PotAt M p n) (hn : n ≤ 1000000) (h0 : σ[0]? = some (some (.ref p))) (h1 : 1 ≤ many) (h2 : many ≤ 2 ^ 60) :
    ∃ (r : Int) (M' : Mem), callS F_l_dip (consA (varS 0) (consA (cS (.int many)) nilA)) σ M = .ok (.int r) M' ∧ (0 ≤ r ∧ r < many) ∧ Mv p M M' (n + 1) := by
  obtain ⟨r, M', e, hr, mv⟩ := dip_at (many := many) h hn h1 (small2000 h2)
  refine ⟨r, M', ?_, hr, mv⟩
  simp only [RE.bind_ok, callS_ap, consA_ap, varS_ap, h0, cS_ap, nilA_ap, e]
theorem premises_at {M : Mem} {p n : Nat} {ps : List Pl} (h : PotAt M p n) (hn : n ≤ 700000) (hp1 : 1 ≤ ps.length) (hp2 : ps.length ≤ 100) (hnd : ps.Nodup) (hnm : ∀ q ∈ ps, NameP q) :
    ∃ (qs : List Pl) (M' : Mem), F_l_premises [.ref p, .lst (ps.map pD)] M = .ok (.lst (qs.map pD)) M' ∧ Mv p M M' (n + 11) ∧ GPrem qs := by
  obtain ⟨i, x, M1, hx, e1, mv1⟩ := dip_ix (σ := [some (.ref p), some (.lst (ps.map pD)), none]) (f := lstS (consA (cS (.int 1)) (consA (cS (.int 2)) (consA (cS (.int 2)) (consA (cS (.int 3)) (consA (cS (.int 8)) nilA)))))) (ds := [.int 1, .int 2, .int 2, .int 3, .int 8]) 5 h (by omega) rfl (fun M => by simp) rfl (by omega) (by omega)
  obtain ⟨m, rfl, hm⟩ : ∃ m : Int, x = .int m ∧ 1 ≤ m ∧ m ≤ 8 := by
    have := List.mem_of_getElem? hx
    simp only [List.mem_cons, List.not_mem_nil, or_false] at this
    rcases this with rfl | rfl | rfl | rfl | rfl <;> exact ⟨_, rfl, by omega, by omega⟩
  obtain ⟨qs, M2, e2, mv2, hq, rest, hperm⟩ := some_at (most := m) mv1.pot (by omega) hp1 hp2 hm
  have mv3 : Mv p M M2 (n + 11) := (mv1.trans mv2).mono (by omega)
  refine ⟨qs, M2, fn_mv rfl ?_ (by simp only [D.lo]; exact lo_pDs _ qs) mv3, mv3, hq.1, by omega, ?_, ?_⟩
  · unfold b_l_premises
    show endF (seqS _ _ [some (.ref p), some (.lst (ps.map pD)), none] M) = _
    have hA : ∀ f, f [some (.ref p), some (.lst (ps.map pD)), none] M = .ok (.int m) M1 → setS 2 f [some (.ref p), some (.lst (ps.map pD)), none] M = .nx [some (.ref p), some (.lst (ps.map pD)), some (.int m)] M1 := fun f q => by
      rw [setS_ap, q]
      rfl
    have hA' := hA _ e1
    rw [seqS_ap, hA']
    show endF (retS _ _ _) = _
    rw [retS_ap, callS_ap]
    simp only [consA_ap, varS_ap, nilA_ap, List.getElem?_cons_zero, List.getElem?_cons_succ, RE.bind_ok, e2, endF]
  · have hnd2 : (qs ++ rest).Nodup := hperm.nodup_iff.mpr hnd
    exact (List.nodup_append.mp hnd2).1
  · exact fun q hq => hnm q (hperm.subset (List.mem_append_left _ hq))
theorem seq_nx {a b : SS} {σ σ1 : Sl} {M M1 : Mem} (h : a σ M = .nx σ1 M1) : seqS a b σ M = b σ1 M1 := by
  rw [seqS_ap, h]
theorem set_ok {i : Nat} {f : SE} {σ : Sl} {M M1 : Mem} {d : D} (h : f σ M = .ok d M1) : setS i f σ M = .nx (σ.set i (some d)) M1 := by
  rw [setS_ap, h]
theorem ret_ok {f : SE} {σ : Sl} {M M1 : Mem} {d : D} (h : f σ M = .ok d M1) : retS f σ M = .rt d M1 := by
  rw [retS_ap, h]
def nameL : List Str := ["a", "wet", "abcdefgh", "holds", "open", "heard", "lean", "drop", "hear", "part", "vouch", "join"]
theorem nameL_ok : ∀ x ∈ nameL, NameS x := by
  have e : nameL.all (fun x => isName (.str x)) = true := by decide +kernel
  exact fun x hx => List.all_eq_true.mp e x hx
/-- signs drawn one by one -/
theorem sign_name (cs : List Nat) (h : ∀ c ∈ cs, c ∈ letters) (h1 : 1 ≤ cs.length) (h2 : cs.length ≤ 8) : NameS (Txt.join (Str.ofString "") (cs.map fun c => ⟨#[c]⟩)) := by
  have e : tl (Txt.join (Str.ofString "") (cs.map fun c => ⟨#[c]⟩)) = cs := by
    rw [TL.join_eq, TL.tl_join]
    have e0 : tl (Str.ofString "") = [] := by decide +kernel
    rw [e0]
    clear h h1 h2
    induction cs with
    | nil => rfl
    | cons c cs ih =>
      cases cs with
      | nil => rfl
      | cons d ds =>
        simp only [List.map_cons] at ih ⊢
        show [c] ++ ([] ++ TL.joinL [] _) = _
        rw [ih]
        rfl
  have el := TL.len_tl (Txt.join (Str.ofString "") (cs.map fun c => ⟨#[c]⟩))
  rw [e] at el
  simp only [NameS, isName, Bool.and_eq_true, decide_eq_true_eq, List.all_eq_true]
  exact ⟨by omega, by omega, fun c hc => h c (by rw [← e]; exact hc)⟩
end H

namespace H
open PySem PySem.Spec PyProof.Rows L2 Lf
open TL (tl numL)
/-! ### what repr shows: how long -/
theorem textFrom_le : ∀ (ts : List Str) (k : Nat) (acc : Str), (textFrom k acc ts).length ≤ acc.length + piled ts
  | [], k, acc => by simp [textFrom, piled_nil]
  | t :: ts, k, acc => by
    have ih := textFrom_le ts (k + 1) (acc ++ (if k > 0 then ", " else "" : String) ++ t)
    have e : (acc ++ (if k > 0 then ", " else "" : String) ++ t).length = acc.length + (if k > 0 then 2 else 0) + t.length := by
      rw [strLen_append, strLen_append]
      split <;> rfl
    rw [e] at ih
    rw [piled_cons]
    show (textFrom (k + 1) (acc ++ (if k > 0 then ", " else "" : String) ++ t) ts).length ≤ _
    have : (if k > 0 then 2 else 0) ≤ 2 := by split <;> omega
    omega
theorem listText_le (ts : List Str) : (listText ts).length ≤ piled ts + 2 := by
  unfold listText
  rw [strLen_append]
  have h := textFrom_le ts 0 "["
  have e1 : (Str.ofString "[").length = 1 := by decide +kernel
  have e2 : (Str.ofString "]").length = 1 := by decide +kernel
  rw [e1] at h
  omega
theorem tupleText_le (ts : List Str) : (tupleText ts).length ≤ piled ts + 3 := by
  unfold tupleText
  rw [strLen_append, strLen_append]
  have e1 : (Str.ofString "(").length = 1 := by decide +kernel
  have e2 : (Str.ofString (if ts.length == 1 then ",)" else ")" : String)).length ≤ 2 := by
    split
    · have : (Str.ofString ",)").length = 2 := by decide +kernel
      omega
    · have : (Str.ofString ")").length = 1 := by decide +kernel
      omega
  cases ts with
  | nil =>
    have e3 : (Str.join ", " ([] : List Str)).length = 0 := by decide +kernel
    omega
  | cons t ts =>
    have h := join_length_add (t :: ts) (by simp)
    omega
/-- data that repr shows in b signs at most, d deep -/
structure Fit (b d : Nat) (p : PyData) : Prop where
  s : p.showable = true
  h : p.hasDict = false
  d : p.depth ≤ d
  l : p.shown.length ≤ b
structure FitA (b d : Nat) (ps : List PyData) : Prop where
  s : PyData.showableAll ps = true
  h : PyData.hasDictAll ps = false
  d : PyData.depthAll ps ≤ d
  l : piled (PyData.shownAll ps) ≤ b
theorem FitA.nil {b d : Nat} : FitA b d [] := ⟨by simp [PyData.showableAll], by simp [PyData.hasDictAll], by simp [PyData.depthAll], by simp [PyData.shownAll, piled_nil]⟩
theorem FitA.cons {b c d : Nat} {p : PyData} {ps : List PyData} (h : Fit b d p) (t : FitA c d ps) : FitA (b + 2 + c) d (p :: ps) :=
  ⟨by simp [PyData.showableAll, h.s, t.s], by simp [PyData.hasDictAll, h.h, t.h], by simp only [PyData.depthAll]; have := h.d; have := t.d; omega, by simp only [PyData.shownAll, piled_cons]; have := h.l; have := t.l; omega⟩
theorem FitA.all {b d : Nat} {ps : List PyData} (h : ∀ p ∈ ps, Fit b d p) : FitA (ps.length * (b + 2)) d ps := by
  induction ps with
  | nil => exact .nil
  | cons p ps ih =>
    have q := FitA.cons (h p (by simp)) (ih fun x hx => h x (by simp [hx]))
    have e : b + 2 + ps.length * (b + 2) = (p :: ps).length * (b + 2) := by
      simp only [List.length_cons]
      rw [Nat.add_mul (ps.length) 1, Nat.one_mul]
      omega
    rw [e] at q
    exact q
theorem FitA.mono {b c d : Nat} {ps : List PyData} (h : FitA b d ps) (k : b ≤ c) : FitA c d ps := ⟨h.s, h.h, h.d, by have := h.l; omega⟩
theorem Fit.mono {b c d e : Nat} {p : PyData} (h : Fit b d p) (k : b ≤ c) (m : d ≤ e) : Fit c e p := ⟨h.s, h.h, by have := h.d; omega, by have := h.l; omega⟩
theorem FitA.list {b d : Nat} {ps : List PyData} (h : FitA b d ps) : Fit (b + 3) (d + 1) (.list ps) :=
  ⟨by simp only [PyData.showable]; exact h.s, by simp only [PyData.hasDict]; exact h.h, by simp only [PyData.depth]; have := h.d; omega, by
    simp only [PyData.shown]
    have := listText_le (PyData.shownAll ps)
    have := h.l
    omega⟩
theorem FitA.tuple {b d : Nat} {ps : List PyData} (h : FitA b d ps) : Fit (b + 3) (d + 1) (.tuple ps) :=
  ⟨by simp only [PyData.showable]; exact h.s, by simp only [PyData.hasDict]; exact h.h, by simp only [PyData.depth]; have := h.d; omega, by
    simp only [PyData.shown]
    have := tupleText_le (PyData.shownAll ps)
    have := h.l
    omega⟩
/-- signs of one byte -/
def Small (x : Str) : Prop := ∀ c ∈ tl x, c < 256
theorem fit_str {x : Str} (h : Small x) (d : Nat) : Fit (10 * x.length + 2) d (.str x) :=
  ⟨by simp [PyData.showable], by simp [PyData.hasDict], by simp [PyData.depth], by
    simp only [PyData.shown]
    exact StrLaws.reprText_len x fun c hc => by
      have := h c hc
      have e : (256 : Nat) ≤ 16 ^ 8 := by decide +kernel
      omega⟩
theorem fit_int {n : Nat} (h : n ≤ 10 ^ 9) (d : Nat) : Fit 10 d (.int n) := by
  refine ⟨?_, by simp [PyData.hasDict], by simp [PyData.depth], ?_⟩
  · simp only [PyData.showable, decide_eq_true_eq, Int.natAbs_natCast]
    by_cases h0 : n = 0
    · subst h0; decide +kernel
    · refine (Nat.log2_lt h0).mpr ?_
      exact Nat.lt_of_le_of_lt h (by decide +kernel)
  · simp only [PyData.shown]
    show (numT n).length ≤ 10
    rw [TL.len_tl]
    show (tl (Str.ofString (toString ((n : Nat) : Int)))).length ≤ _
    rw [TL.tl_num]
    exact TL.numL_len (by omega) (by omega)
theorem fit_ok {b d : Nat} {p : PyData} (h : Fit b d p) (hb : isBox p = true) (h1 : b ≤ 16000000) (h2 : d ≤ 100) : showOk p = true := by
  have := h.d
  have := h.l
  have e1 : decide (p.depth ≤ 100) = true := decide_eq_true (by omega)
  have e2 : decide (p.shown.length ≤ 16000000) = true := decide_eq_true (by omega)
  simp only [showOk, hb, h.s, h.h, e1, e2]
  rfl
theorem repr_at {M : Mem} {x : D} {p : PyData} (e : toPy M x = some p) (h : showOk p = true) : reprM M [x] = some (.str p.shown) := by
  simp only [reprM, e]
  rw [if_pos h]
/-! ### the data as they are shown -/
def pyPl (q : Pl) : PyData := .tuple [.str q.1, .str q.2]
def pyRule (q : Pl) (c : Nat) (ps : List Pl) : PyData := .tuple [.str q.1, .str q.2, .int c, .list (ps.map pyPl)]
def pyLet : Let → PyData
  | .holds n h => .tuple [.str "holds", .str n, .int h]
  | .opn n => .tuple [.str "open", .str n]
  | .heard n => .tuple [.str "heard", .str n]
theorem py_pDs0 (ps : List Pl) : toPy0A (ps.map pD) = some (ps.map pyPl) := by
  induction ps with
  | nil => rfl
  | cons p ps ih => simp [toPy0A, toPy0, pD, pyPl, ih]
theorem py_pDs (M : Mem) (ps : List Pl) : toPyA M (ps.map pD) = some (ps.map pyPl) := by
  induction ps with
  | nil => rfl
  | cons p ps ih => simp [toPyA, toPy, pD, pyPl, ih]
theorem py_pD (M : Mem) (p : Pl) : toPy M (pD p) = some (pyPl p) := by simp [toPyA, toPy, pD, pyPl]
theorem PremAt.py {M : Mem} {p : D} {ps : List Pl} (h : PremAt M p ps) : toPy M p = some (.list (ps.map pyPl)) := by
  rcases h with rfl | ⟨i, rfl, e⟩
  · simp [toPy, py_pDs]
  · simp [toPy, e, py_pDs0]
theorem py_rule {M : Mem} {q : Pl} {c : Nat} {p : D} {ps : List Pl} (h : PremAt M p ps) : toPy M (ruleD q c p) = some (pyRule q c ps) := by
  simp [toPy, toPyA, ruleD, pyRule, h.py]
theorem py_let (M : Mem) (l : Let) : toPy M (letD l) = some (pyLet l) := by cases l <;> simp [toPy, toPyA, letD, pyLet]
theorem small_name {x : Str} (h : NameS x) : Small x := fun c hc => by have := h.sign c hc; omega
theorem fit_name {x : Str} (h : NameS x) (d : Nat) : Fit 100 d (.str x) := (fit_str (small_name h) d).mono (by have := h.len; omega) (Nat.le_refl _)
theorem fit_pl {q : Pl} (h : NameP q) : Fit 300 1 (pyPl q) := (FitA.tuple (FitA.cons (fit_name h.1 0) (FitA.cons (fit_name h.2 0) FitA.nil) (c := 102 + 0))).mono (by omega) (by omega)
theorem fit_prem {ps : List Pl} (g : GPrem ps) : Fit 3000 2 (.list (ps.map pyPl)) := by
  have q := FitA.all (b := 300) (d := 1) (ps := ps.map pyPl) fun p hp => by
    obtain ⟨r, hr, rfl⟩ := List.mem_map.mp hp
    exact fit_pl (g.2.2.2 r hr)
  refine (FitA.list (q.mono (c := 2416) ?_)).mono (by omega) (by omega)
  rw [List.length_map]
  have := Nat.mul_le_mul_right (300 + 2) g.2.1
  omega
theorem fit_rule {q : Pl} {c : Nat} {ps : List Pl} (hq : NameP q) (hc : c ≤ 10 ^ 9) (g : GPrem ps) : Fit 5000 3 (pyRule q c ps) :=
  (FitA.tuple (FitA.cons (fit_name hq.1 2) (FitA.cons (fit_name hq.2 2) (FitA.cons (fit_int hc 2) (FitA.cons (fit_prem g) FitA.nil (c := 0)))))).mono (by omega) (by omega)
theorem small_lit {s : String} (h : ((tl (Str.ofString s)).all fun c => decide (c < 256)) = true) : Small (Str.ofString s) := fun c hc => of_decide_eq_true (List.all_eq_true.mp h c hc)
theorem fit_lit {s : String} (h : (((tl (Str.ofString s)).all fun c => decide (c < 256)) && decide ((Str.ofString s).length ≤ 9)) = true) (d : Nat) : Fit 100 d (.str (Str.ofString s)) := by
  simp only [Bool.and_eq_true, decide_eq_true_eq] at h
  exact (fit_str (small_lit h.1) d).mono (by have := h.2; omega) (Nat.le_refl _)
theorem fit_let {l : Let} (h : GLet l) (hk : ∀ x k, l = .holds x k → k ≤ 10 ^ 9) : Fit 1000 1 (pyLet l) := by
  cases l with
  | holds n k => exact (FitA.tuple (FitA.cons (fit_lit (s := "holds") (by decide +kernel) 0) (FitA.cons (fit_name h.1 0) (FitA.cons (fit_int (hk n k rfl) 0) FitA.nil (c := 0))))).mono (by omega) (by omega)
  | opn n => exact (FitA.tuple (FitA.cons (fit_lit (s := "open") (by decide +kernel) 0) (FitA.cons (fit_name (x := n) h 0) FitA.nil (c := 102 + 0)))).mono (by omega) (by omega)
  | heard n => exact (FitA.tuple (FitA.cons (fit_lit (s := "heard") (by decide +kernel) 0) (FitA.cons (fit_name (x := n) h 0) FitA.nil (c := 102 + 0)))).mono (by omega) (by omega)
end H

namespace H
open PySem PySem.Spec PyProof.Rows L2 Lf
open TL (tl numL)
theorem pow10 (M : Mem) (k : Nat) (hk : k ≤ 50) : powM M (.int 10) (.int (k : Int)) = some (.int (10 ^ k)) := by
  simp only [powM]
  have hb : Builtin.Int.intBits 10 ≤ 4 := bits_le (by decide)
  have h3 : Builtin.Int.intBits 10 * k ≤ 4 * 50 := Nat.mul_le_mul hb hk
  have h4 : (Builtin.Int.intBits 10 : Int) * (k : Int) ≤ 4 * 50 := by exact_mod_cast h3
  have h5 : (Builtin.Int.intBits 10 : Int) * (k : Int) ≤ 2 ^ 27 := by omega
  have h6 : (0 : Int) ≤ (k : Int) := by omega
  rw [if_pos ⟨h6, h5⟩]
  simp
theorem ix_scr (M : Mem) (ds : List D) (i : Nat) : ixM M (.scr ds) (.int (i : Int)) = ds[i]? := by
  simp only [ixM, seqOf, lstOf, Option.bind_some]
  exact atI_nat ds i
theorem pot_at {M : Mem} (ns : List Int) (k : Nat) (hk : k ≤ 1000) : ∃ a b : Int, F_l_pot [.scr (ns.map D.int), .int (k : Int)] M = .ok (.ref M.length) (M ++ [potL a b 0]) ∧ 0 ≤ a ∧ (0 ≤ b ∧ b < 10 ^ 50) := by
  obtain ⟨cell, hcell⟩ : ∃ cell : Int, ifS (asT (op2 ltM (varS 1) (callV lenM (consA (varS 0) nilA)))) (setS 2 (op2 ixM (varS 0) (varS 1))) nextS [some (.scr (ns.map D.int)), some (.int (k : Int)), some (.int 0)] M = .nx [some (.scr (ns.map D.int)), some (.int (k : Int)), some (.int cell)] M := by
    have hln : lenM M [.scr (ns.map D.int)] = some (.int ((ns.map D.int).length : Int)) := by simp [lenM, seqOf, lstOf]
    have hlt := lt_len M k (ns.map D.int).length
    cases q : decide (k < (ns.map D.int).length) with
    | true =>
      have hk2 : k < (ns.map D.int).length := of_decide_eq_true q
      rw [q] at hlt
      rw [List.length_map] at hk2
      refine ⟨ns[k], ?_⟩
      have hx : ixM M (.scr (ns.map D.int)) (.int (k : Int)) = some (.int ns[k]) := by
        rw [ix_scr, List.getElem?_map, List.getElem?_eq_getElem hk2]
        rfl
      rw [ifS_ap, asT_ap, op2_ap, varS_ap]
      simp only [List.getElem?_cons_succ, List.getElem?_cons_zero, RE.bind_ok]
      rw [callV_ap, consA_ap, varS_ap]
      simp only [List.getElem?_cons_succ, List.getElem?_cons_zero, RE.bind_ok, nilA_ap, hln, hlt, if_true]
      exact set_ok (by
        rw [op2_ap]
        simp only [varS_ap, List.getElem?_cons_succ, List.getElem?_cons_zero, RE.bind_ok, hx])
    | false =>
      rw [q] at hlt
      refine ⟨0, ?_⟩
      rw [ifS_ap, asT_ap, op2_ap, varS_ap]
      simp only [List.getElem?_cons_succ, List.getElem?_cons_zero, RE.bind_ok]
      rw [callV_ap, consA_ap, varS_ap]
      simp only [List.getElem?_cons_succ, List.getElem?_cons_zero, RE.bind_ok, nilA_ap, hln, hlt]
      rfl
  have p18 : powM M (.int 10) (.int 18) = some (.int (10 ^ 18)) := pow10 M 18 (by omega)
  have p43 : powM M (.int 10) (.int 43) = some (.int (10 ^ 43)) := pow10 M 43 (by omega)
  have hm0 : 0 ≤ cell % (10 ^ 43 + 63) ∧ cell % (10 ^ 43 + 63) < 10 ^ 43 + 63 := ⟨Int.emod_nonneg _ (by decide +kernel), Int.emod_lt_of_pos _ (by decide +kernel)⟩
  have hmod : modM M (.int cell) (.int (10 ^ 43 + 63)) = some (.int (cell % (10 ^ 43 + 63))) := by
    simp only [modM]
    rw [if_pos (by decide +kernel)]
  generalize cell % (10 ^ 43 + 63) = x at hm0 hmod
  have b43 : (10 : Int) ^ 43 + 63 < 2 ^ 150 := by decide +kernel
  have hmul : mulM M (.int x) (.int 64) = some (.int (x * 64)) := by
    simp only [mulM]
    have h1 : x.natAbs < 2 ^ 150 := by omega
    have h2 : x.natAbs < 2 ^ 20000 := Nat.lt_of_lt_of_le h1 (Nat.pow_le_pow_right (by omega) (by omega))
    have h3 : (64 : Int).natAbs < 2 ^ 20000 := Nat.lt_of_lt_of_le (show (64 : Int).natAbs < 2 ^ 7 by decide) (Nat.pow_le_pow_right (by omega) (by omega))
    rw [if_pos ⟨h2, h3⟩]
  have hsub : subM M (.int cell) (.int (10 ^ 18)) = some (.int (cell - 10 ^ 18)) := rfl
  have hmax : ∀ y : Int, max2M M [.int 0, .int y] = some (.int (if y > 0 then y else 0)) := fun _ => rfl
  have b50 : ((10 : Int) ^ 43 + 63) * 64 + 1001 < 10 ^ 50 := by decide +kernel
  refine ⟨if cell - 10 ^ 18 > 0 then cell - 10 ^ 18 else 0, x * 64 + k + 1, fn_new rfl ?_ (by simp [D.lo]), by split <;> omega, by omega, by omega⟩
  unfold b_l_pot
  show endF (seqS _ (seqS _ _) [some (.scr (ns.map D.int)), some (.int (k : Int)), none] M) = _
  have hA : setS 2 (cS (.int 0)) [some (.scr (ns.map D.int)), some (.int (k : Int)), none] M = .nx [some (.scr (ns.map D.int)), some (.int (k : Int)), some (.int 0)] M := rfl
  rw [seq_nx hA, seq_nx hcell]
  have hR : retS (newS (consA (callV max2M (consA (cS (.int 0)) (consA (op2 subM (varS 2) (op2 powM (cS (.int 10)) (cS (.int 18)))) nilA))) (consA (op2 addM (op2 addM (op2 mulM (op2 modM (varS 2) (op2 addM (op2 powM (cS (.int 10)) (cS (.int 43))) (cS (.int 63)))) (cS (.int 64))) (varS 1)) (cS (.int 1))) (consA (cS (.int 0)) nilA)))) [some (.scr (ns.map D.int)), some (.int (k : Int)), some (.int cell)] M = .rt (.ref M.length) (M ++ [potL (if cell - 10 ^ 18 > 0 then cell - 10 ^ 18 else 0) (x * 64 + k + 1) 0]) := ret_ok (by
    have e1 : callV max2M (consA (cS (.int 0)) (consA (op2 subM (varS 2) (op2 powM (cS (.int 10)) (cS (.int 18)))) nilA)) [some (.scr (ns.map D.int)), some (.int (k : Int)), some (.int cell)] M = .ok (.int (if cell - 10 ^ 18 > 0 then cell - 10 ^ 18 else 0)) M := by
      rw [callV_ap, consA_ap, cS_ap, RE.bind_ok, consA_ap, op2_ap, varS_ap]
      simp only [List.getElem?_cons_succ, List.getElem?_cons_zero, RE.bind_ok]
      rw [op2_ap]
      simp only [cS_ap, RE.bind_ok, p18, hsub, nilA_ap, hmax]
    have e2 : op2 addM (op2 addM (op2 mulM (op2 modM (varS 2) (op2 addM (op2 powM (cS (.int 10)) (cS (.int 43))) (cS (.int 63)))) (cS (.int 64))) (varS 1)) (cS (.int 1)) [some (.scr (ns.map D.int)), some (.int (k : Int)), some (.int cell)] M = .ok (.int (x * 64 + k + 1)) M := by
      rw [op2_ap, op2_ap, op2_ap, op2_ap, varS_ap]
      simp only [List.getElem?_cons_succ, List.getElem?_cons_zero, RE.bind_ok]
      rw [op2_ap, op2_ap]
      simp only [cS_ap, RE.bind_ok, p43, add_i, hmod, hmul, varS_ap, List.getElem?_cons_succ, List.getElem?_cons_zero]
    rw [newS_ap, consA_ap, e1, RE.bind_ok, consA_ap, e2, RE.bind_ok]
    simp only [consA_ap, cS_ap, nilA_ap, RE.bind_ok, List.length_cons, List.length_nil, Nat.zero_add, Nat.reduceAdd, Nat.reduceLeDiff, if_true]
    rfl)
  rw [hR]
  rfl
end H

namespace H
open PySem PySem.Spec PyProof.Rows L2 Lf
local macro_rules | `(tactic| simp_arith [$xs,*]) => `(tactic| simp only [e_ok, e_ex, e_bad, e_var, e_c, e_op2, e_op1, e_nilA, e_consA, e_callV, e_callS, e_asT, e_notT, e_andT, e_orT, e_andV, e_orV, e_notV, e_ifE, e_tup, e_lst, e_new, e_ch, e_frz, e_newOf, e_mtd, e_m1, e_part, e_slice, e_dnewT, e_dnewK, e_dget1, e_dget2, e_addN, e_next, e_seq, e_ret, e_expr, e_if, e_set, e_asg, e_setItem, e_dput, e_augExt, e_iseq, e_istr, e_ikeys, e_iitems, e_ienum, e_izip, e_range1, List.getElem?_cons_zero, List.getElem?_cons_succ, List.set_cons_zero, List.set_cons_succ, List.map_cons, List.map_nil, List.length_cons, List.length_nil, List.replicate, List.append_nil, List.nil_append, List.cons_append, Option.some.injEq, D.bl.injEq, D.int.injEq, D.str.injEq, D.ref.injEq, D.lst.injEq, D.tup.injEq, exists_eq_left', exists_eq_left, if_true, if_false, Bool.false_eq_true, Bool.not_true, Bool.not_false, Nat.zero_add, Nat.reduceAdd, Nat.reduceSub, Nat.reduceLeDiff, true_and, and_true, Tg.set, Tg.sets, wipeD, $xs,*])
open TL (tl numL)
/-! ### worlds as they stand -/
structure RR where
  q : Pl
  c : Nat
  ps : List Pl
def rD (r : RR) : D := ruleD r.q r.c (.lst (r.ps.map pD))
structure Wd where
  V : List Pl
  R : List RR
  E : List Pl
def wD (W : Wd) : D := .tup [.lst (W.V.map pD), .lst (W.R.map rD), .lst (W.E.map pD)]
structure GRul (r : RR) : Prop where
  q : NameP r.q
  c1 : 1 ≤ r.c
  c2 : r.c ≤ 10 ^ 9
  ps : GPrem r.ps
structure GWd (W : Wd) : Prop where
  vn : ∀ p ∈ W.V, NameP p
  vd : W.V.Nodup
  vl : W.V.length ≤ 60
  rs : ∀ r ∈ W.R, GRul r
  rl : W.R.length ≤ 60
  en : ∀ e ∈ W.E, NameP e ∧ ltStr e.1 e.2 = true
  ed : W.E.Nodup
  el : W.E.length ≤ 60
theorem pD_inj {a b : Pl} (h : pD a = pD b) : a = b := by
  simp only [pD, D.tup.injEq, List.cons.injEq, D.str.injEq, and_true] at h
  exact Prod.ext h.1 h.2
theorem isPlaces_l {M : Mem} {ps : List Pl} (hn : ∀ p ∈ ps, NameP p) (nd : ps.Nodup) : isPlaces M (.lst (ps.map pD)) = true := by
  have ha : (ps.map pD).all isPlace = true := by
    rw [List.all_eq_true]
    intro x hx
    obtain ⟨q, hq, rfl⟩ := List.mem_map.mp hx
    exact isPlace_pD (hn q hq)
  have hk : ((ps.map pD).map pkey).Nodup := by
    rw [List.map_map]
    refine List.Pairwise.map _ (fun a b hne e => hne ?_) nd
    have e' : [Sum.inr a.1, Sum.inr a.2] = ([Sum.inr b.1, Sum.inr b.2] : List L2.Key) := e
    simp only [List.cons.injEq, Sum.inr.injEq, and_true] at e'
    exact Prod.ext e'.1 e'.2
  simp only [isPlaces, lstOf, ha, hk, decide_true, Bool.and_self]
theorem deep_lst {M : Mem} {n : Nat} {ds : List D} (hl : ds.length ≤ 16000000) (h : ∀ x ∈ ds, Deep M n x) : Deep M (n + 1) (.lst ds) := ⟨.lst hl, fun es e x hx => by
  simp only [seqOf, lstOf, Option.some.injEq] at e
  subst e
  exact h x hx⟩
theorem are_places_l {M : Mem} {ps : List Pl} (hn : ∀ p ∈ ps, NameP p) (nd : ps.Nodup) (hl : ps.length ≤ 60) : F_are_places [.lst (ps.map pD)] M = .ok (.bl true) M := by
  rw [are_places_at (deep_lst (by rw [List.length_map]; omega) fun x hx => by
    obtain ⟨q, hq, rfl⟩ := List.mem_map.mp hx
    exact deep_pDn (hn q hq) 0) (fun ds e => by
    simp only [lstOf, Option.some.injEq] at e
    subst e
    rw [List.length_map]; omega), isPlaces_l hn nd]
theorem ev_allT {X : XP} {Q : D → Mem → Prop} {σ : Sl} {M : Mem} {F : SF} {f : SE} {d : D} {ds : List D} {i : Nat} (hf : f σ M = .ok d M) (hs : seqOf M d = some ds) (hl : ds.length ≤ 16000000) (hi : i < σ.length) (hF : ∀ x ∈ ds, F [x] M = .ok (.bl true) M)
    (k : Q (.lst (ds.map fun _ => .bl true)) M) : (lcS (iseqS f) (.nm i) [i] yesT (callS F (consA (varS i) nilA)) σ M).ev X Q := by
  have q := lcS_map (σ := σ) (M := M) (fi := iseqS f) (i := i) (vs := [i]) (f := callS F (consA (varS i) nilA)) (z := ⟨ds, fun M' => seqOf M' d = some ds⟩) (fun _ => .bl true) (by simp [hf, hs]) hl hs (fun x hx => by
    have hi' : i < (wipeD σ [i]).length := by simp [wipeD]; exact hi
    simp [List.getElem?_set_self hi', hF x hx])
  exact RE.ev.of q k
theorem allM_t (M : Mem) (ds : List D) : allM M [.lst (ds.map fun _ => .bl true)] = some (.bl true) := by
  have e : ds.map (fun _ => D.bl true) = (ds.map fun _ => true).map D.bl := by simp
  rw [e, allM_lst]
  congr 2
  simp
theorem is_rule_l {M : Mem} {r : RR} (g : GRul r) : F_is_rule [rD r] M = .ok (.bl true) M := is_rule_ok g.q g.c1 (.inl rfl) g.ps
theorem is_place_l {M : Mem} {p : Pl} (h : NameP p) : F_is_place [pD p] M = .ok (.bl true) M := by rw [is_place_at (deep_pD h), isPlace_pD h]
theorem lt_s (M : Mem) (a b : Str) : ltM M (.str a) (.str b) = some (.bl (ltStr a b)) := rfl
theorem is_road_l {M : Mem} {p : Pl} (h : NameP p) (hl : ltStr p.1 p.2 = true) : F_is_road [pD p] M = .ok (.bl true) M := by
  refine RE.ev.eq (ev_fn rfl ?_)
  unfold b_is_road
  simp_arith []
  refine RE.ev.of (is_place_l h) ⟨true, rfl, ?_⟩
  have i0 : ixM M (pD p) (.int 0) = some (.str p.1) := ix_tup0 M _
  have i1 : ixM M (pD p) (.int 1) = some (.str p.2) := ix_tup1 M _
  simp only [i0, i1, Option.some.injEq, exists_eq_left', lt_s, hl, if_true]
  exact TR.pure rfl ⟨rfl, rfl⟩
theorem len_set {M : Mem} {ps : List Pl} (nd : ps.Nodup) (hl : ps.length ≤ 60) : lenSetM M (.lst (ps.map pD)) = some (.int (ps.length : Nat)) := by
  have e : tupsOf (ps.map pD) = some (ps.map fun p => [Sum.inr p.1, Sum.inr p.2]) := by
    clear nd hl
    induction ps with
    | nil => rfl
    | cons p ps ih => simp [tupsOf, pD, keysOf, ih]
  have hk : (ps.map fun p => ([Sum.inr p.1, Sum.inr p.2] : List L2.Key)).Nodup := by
    refine List.Pairwise.map _ (fun a b hne e => hne ?_) nd
    simp only [List.cons.injEq, Sum.inr.injEq, and_true] at e
    exact Prod.ext e.1 e.2
  have ho : ∀ l : List (List L2.Key), l.Nodup → LfS.once l = l := fun l h => by
    induction l with
    | nil => rfl
    | cons x l ih =>
      simp only [List.nodup_cons] at h
      unfold LfS.once
      rw [if_neg h.1, ih h.2]
  simp only [lenSetM, lstOf, e]
  rw [if_pos (by rw [List.length_map]; omega), ho _ hk, List.length_map]
theorem is_world_l {M : Mem} {W : Wd} (g : GWd W) : F_is_world [wD W] M = .ok (.bl true) M := by
  refine RE.ev.eq (ev_fn rfl ?_)
  unfold b_is_world
  have ht : F_is_tuple_of [wD W, .int 3] M = .ok (.bl true) M := is_tuple_of_at 3 (.tup (by simp))
  simp_arith [wD]
  refine RE.ev.of ht ⟨true, rfl, ?_⟩
  simp_arith []
  refine RE.ev.of (are_places_l g.vn g.vd g.vl) ⟨true, rfl, ?_⟩
  have q1 : isiM M [.lst (W.R.map rD), .ty "list"] = some (.bl true) := by simp [isiM, tyN, tyL]
  have q2 : isiM M [.lst (W.E.map pD), .ty "list"] = some (.bl true) := by simp [isiM, tyN, tyL]
  simp_arith [q1, q2]
  have l1 := len_set (M := M) g.ed g.el
  have l2 : lenM M [.lst (W.E.map pD)] = some (.int (W.E.length : Nat)) := by rw [len_l, List.length_map]
  have l3 : eqM M (.int (W.E.length : Nat)) (.int (W.E.length : Nat)) = some (.bl true) := by rw [eq_i, decide_eq_true rfl]
  refine ev_allT rfl rfl (by have := g.rl; rw [List.length_map]; omega) (by simp) (fun x hx => by
    obtain ⟨r, hr, rfl⟩ := List.mem_map.mp hx
    exact is_rule_l (g.rs r hr)) ?_
  simp_arith [allM_t]
  refine ev_allT rfl rfl (by have := g.el; rw [List.length_map]; omega) (by simp) (fun x hx => by
    obtain ⟨r, hr, rfl⟩ := List.mem_map.mp hx
    exact is_road_l (g.en r hr).1 (g.en r hr).2) ?_
  simp_arith [allM_t, l1, l2, l3]
  exact TR.pure rfl ⟨rfl, rfl⟩
theorem need_world_l {M : Mem} {W : Wd} (g : GWd W) : F_need_world [wD W] M = .ok .non M := by
  refine RE.ev.eq (ev_fn rfl ?_)
  unfold b_need_world
  simp_arith []
  refine RE.ev.of (is_world_l g) ⟨true, rfl, ?_⟩
  simp_arith []
  exact TR.pure rfl ⟨rfl, rfl⟩
theorem need_place_l {M : Mem} {p : Pl} (h : NameP p) : F_need_place [pD p] M = .ok .non M := by
  refine RE.ev.eq (ev_fn rfl ?_)
  unfold b_need_place
  simp_arith []
  refine RE.ev.of (is_place_l h) ⟨true, rfl, ?_⟩
  simp_arith []
  exact TR.pure rfl ⟨rfl, rfl⟩
end H

namespace H
open PySem PySem.Spec PyProof.Rows L2 Lf
local macro_rules | `(tactic| simp_arith [$xs,*]) => `(tactic| simp only [e_ok, e_ex, e_bad, e_var, e_c, e_op2, e_op1, e_nilA, e_consA, e_callV, e_callS, e_asT, e_notT, e_andT, e_orT, e_andV, e_orV, e_notV, e_ifE, e_tup, e_lst, e_new, e_ch, e_frz, e_newOf, e_mtd, e_m1, e_part, e_slice, e_dnewT, e_dnewK, e_dget1, e_dget2, e_addN, e_next, e_seq, e_ret, e_expr, e_if, e_set, e_asg, e_setItem, e_dput, e_augExt, e_iseq, e_istr, e_ikeys, e_iitems, e_ienum, e_izip, e_range1, List.getElem?_cons_zero, List.getElem?_cons_succ, List.set_cons_zero, List.set_cons_succ, List.map_cons, List.map_nil, List.length_cons, List.length_nil, List.replicate, List.append_nil, List.nil_append, List.cons_append, Option.some.injEq, D.bl.injEq, D.int.injEq, D.str.injEq, D.ref.injEq, D.lst.injEq, D.tup.injEq, exists_eq_left', exists_eq_left, if_true, if_false, Bool.false_eq_true, Bool.not_true, Bool.not_false, Nat.zero_add, Nat.reduceAdd, Nat.reduceSub, Nat.reduceLeDiff, true_and, and_true, Tg.set, Tg.sets, wipeD, $xs,*])
open TL (tl numL)
open Pm
/-! ### plain data of places -/
theorem strOk_name {x : Str} (h : NameS x) : PySem.PyData.strOk x = true := by
  unfold PySem.PyData.strOk
  rw [← Array.all_toList, List.all_eq_true]
  intro c hc
  have := h.sign c hc
  simp
  omega
structure Lay (d : Nat) (p : PyData) : Prop where
  c : p.canLay0 = true
  h : p.depth ≤ d
structure LayA (d : Nat) (ps : List PyData) : Prop where
  c : PyData.canLayAll0 ps = true
  h : PyData.depthAll ps ≤ d
theorem LayA.nil {d : Nat} : LayA d [] := ⟨by simp [PyData.canLayAll0], by simp [PyData.depthAll]⟩
theorem LayA.cons {d : Nat} {p : PyData} {ps : List PyData} (h : Lay d p) (t : LayA d ps) : LayA d (p :: ps) :=
  ⟨by simp only [PyData.canLayAll0, h.c, t.c, Bool.and_self], by simp only [PyData.depthAll]; have := h.h; have := t.h; omega⟩
theorem LayA.all {d : Nat} {ps : List PyData} (h : ∀ p ∈ ps, Lay d p) : LayA d ps := by
  induction ps with
  | nil => exact .nil
  | cons p ps ih => exact .cons (h p (by simp)) (ih fun x hx => h x (by simp [hx]))
theorem LayA.list {d : Nat} {ps : List PyData} (h : LayA d ps) : Lay (d + 1) (.list ps) := ⟨by simp only [PyData.canLay0, h.c], by simp only [PyData.depth]; have := h.h; omega⟩
theorem LayA.tuple {d : Nat} {ps : List PyData} (h : LayA d ps) : Lay (d + 1) (.tuple ps) := ⟨by simp only [PyData.canLay0, h.c], by simp only [PyData.depth]; have := h.h; omega⟩
theorem Lay.int (i : Int) (d : Nat) : Lay d (.int i) := ⟨by simp [PyData.canLay0], by simp [PyData.depth]⟩
theorem Lay.non (d : Nat) : Lay d .none := ⟨by simp [PyData.canLay0], by simp [PyData.depth]⟩
theorem Lay.str {x : Str} (h : NameS x) (d : Nat) : Lay d (.str x) := ⟨by simp only [PyData.canLay0, strOk_name h], by simp [PyData.depth]⟩
theorem Lay.mono {d e : Nat} {p : PyData} (h : Lay d p) (k : d ≤ e) : Lay e p := ⟨h.c, Nat.le_trans h.h k⟩
theorem Lay.shaped {d : Nat} {p : PyData} (h : Lay d p) (k : d ≤ 64) : SeqAt.shaped p = true := by
  unfold SeqAt.shaped
  rw [h.c, decide_eq_true (Nat.le_trans h.h k)]
  rfl
theorem lay_pl {p : Pl} (h : NameP p) : Lay 1 (pyPl p) := LayA.tuple (.cons (.str h.1 0) (.cons (.str h.2 0) .nil))
mutual
theorem eqv_refl : ∀ p : PyData, p.canLay0 = true → PyData.eqv p p = true
  | .none, _ => rfl
  | .bool b, _ => by simp [PyData.eqv]
  | .int i, _ => by simp [PyData.eqv]
  | .str x, _ => by simp [PyData.eqv]
  | .list xs, h => by
    simp only [PyData.canLay0] at h
    simp only [PyData.eqv]
    exact eqv_reflA xs h
  | .tuple xs, h => by
    simp only [PyData.canLay0] at h
    simp only [PyData.eqv]
    exact eqv_reflA xs h
  | .dict _, h => by simp [PyData.canLay0] at h
theorem eqv_reflA : ∀ ps : List PyData, PyData.canLayAll0 ps = true → PyData.eqvAll ps ps = true
  | [], _ => rfl
  | p :: ps, h => by
    simp only [PyData.canLayAll0, Bool.and_eq_true] at h
    simp only [PyData.eqvAll, Bool.and_eq_true]
    exact ⟨eqv_refl p h.1, eqv_reflA ps h.2⟩
end
theorem eqv_pl (a b : Pl) : PyData.eqv (pyPl a) (pyPl b) = decide (a = b) := by
  simp only [pyPl, PyData.eqv, PyData.eqvAll, Bool.and_true]
  by_cases h : a = b
  · subst h; simp
  · rw [decide_eq_false h]
    by_cases h1 : a.1 = b.1
    · have h2 : a.2 ≠ b.2 := fun z => h (Prod.ext h1 z)
      simp [h2]
    · simp [h1]
theorem eqB_gen {M : Mem} {x y : D} {p q : PyData} {d e : Nat} (hx : toPy M x = some p) (hy : toPy M y = some q) (hp : Lay d p) (hq : Lay e q) (hd : d ≤ 64) (he : e ≤ 64) (h1 : eqNil M x y = none)
    (h2 : ∀ a b, ¬ (x = .str a ∧ y = .str b)) (h3 : ∀ a b, ¬ (x = .int a ∧ y = .int b)) (h4 : ∀ a b, ¬ (x = .bl a ∧ y = .bl b)) (h5 : ¬ (x = .non ∧ y = .non)) : eqB M x y = some (PyData.eqv p q) := by
  unfold eqB
  split
  · exact absurd ⟨rfl, rfl⟩ (h2 _ _)
  · exact absurd ⟨rfl, rfl⟩ (h3 _ _)
  · exact absurd ⟨rfl, rfl⟩ (h4 _ _)
  · exact absurd ⟨rfl, rfl⟩ h5
  · rw [h1, hx, hy]
    dsimp only
    rw [if_pos ⟨hp.shaped hd, hq.shaped he⟩]
theorem eq_pl (M : Mem) {a b : Pl} (ha : NameP a) (hb : NameP b) : eqM M (pD a) (pD b) = some (.bl (decide (a = b))) := by
  unfold eqM
  rw [eqB_gen (py_pD M a) (py_pD M b) (lay_pl ha) (lay_pl hb) (by omega) (by omega) rfl (fun _ _ z => by cases z.1) (fun _ _ z => by cases z.1) (fun _ _ z => by cases z.1) (fun z => by cases z.1), eqv_pl]
  rfl
theorem inB_pl (M : Mem) {p : Pl} {ps : List Pl} (hp : NameP p) (hs : ∀ q ∈ ps, NameP q) : inB M (pD p) (.lst (ps.map pD)) = some (decide (p ∈ ps)) := by
  unfold inB
  have e0 : flatD (pD p) = false := rfl
  have e3 : seqOf M (.lst (ps.map pD)) = some (ps.map pD) := rfl
  have e4 : lstOf M (.lst (ps.map pD)) = some (ps.map pD) := rfl
  simp only [pD] at e0 ⊢
  have e1 : toPy M (.tup [.str p.1, .str p.2]) = some (pyPl p) := py_pD M p
  have e2 : toPyA M (ps.map pD) = some (ps.map pyPl) := py_pDs M ps
  simp only [e0, e1, e2, e3, e4, Bool.false_eq_true, false_and, if_false]
  have hl : Lay 2 (.list (ps.map pyPl)) := LayA.list (LayA.all fun x hx => by
    obtain ⟨q, hq, rfl⟩ := List.mem_map.mp hx
    exact lay_pl (hs q hq))
  rw [if_pos ⟨(lay_pl hp).shaped (by omega), hl.shaped (by omega), rfl⟩]
  congr 1
  rw [List.any_map, Bool.eq_iff_iff, List.any_eq_true, decide_eq_true_eq]
  constructor
  · rintro ⟨x, hx, e⟩
    have e' : PyData.eqv (pyPl x) (pyPl p) = true := e
    rw [eqv_pl, decide_eq_true_eq] at e'
    exact e' ▸ hx
  · intro h
    refine ⟨p, h, ?_⟩
    show PyData.eqv (pyPl p) (pyPl p) = true
    rw [eqv_pl, decide_eq_true rfl]
theorem in_pl (M : Mem) {p : Pl} {ps : List Pl} (hp : NameP p) (hs : ∀ q ∈ ps, NameP q) : inM M (pD p) (.lst (ps.map pD)) = some (.bl (decide (p ∈ ps))) := by
  unfold inM
  rw [inB_pl M hp hs]
  rfl
theorem nin_pl (M : Mem) {p : Pl} {ps : List Pl} (hp : NameP p) (hs : ∀ q ∈ ps, NameP q) : ninM M (pD p) (.lst (ps.map pD)) = some (.bl (!decide (p ∈ ps))) := by
  unfold ninM
  rw [inB_pl M hp hs]
  rfl
/-! ### near, living -/
def nearB (E : List Pl) (a b : Str) : Bool := decide (a = b) || decide ((if ltStr b a = true then b else a, if ltStr a b = true then b else a) ∈ E)
theorem is_near_l {M : Mem} {E : List Pl} {a b : Str} (he : ∀ q ∈ E, NameP q) (ha : NameS a) (hb : NameS b) : F_is_near [.lst (E.map pD), .str a, .str b] M = .ok (.bl (nearB E a b)) M := by
  refine RE.ev.eq (ev_fn rfl ?_)
  unfold b_is_near
  have e1 : min2TM M [.str a, .str b] = some (.str (if ltStr b a = true then b else a)) := rfl
  have e2 : max2TM M [.str a, .str b] = some (.str (if ltStr a b = true then b else a)) := rfl
  have e3 := in_pl M (p := (if ltStr b a = true then b else a, if ltStr a b = true then b else a)) ⟨by dsimp only; split <;> assumption, by dsimp only; split <;> assumption⟩ he
  simp only [pD] at e3
  simp_arith [eq_s, e1, e2]
  unfold nearB
  by_cases h : a = b
  · simp only [decide_eq_true h, if_true, Bool.true_or]
    exact TR.pure rfl ⟨rfl, rfl⟩
  · rw [if_neg (by simpa using h)]
    refine ⟨_, e3, ?_⟩
    rw [decide_eq_false h, Bool.false_or]
    exact TR.pure rfl ⟨rfl, rfl⟩
def lvD (r : Rl Pl) : D := .tup [.int (r.n : Nat), pD r.q, .int (r.c : Nat), .lst (r.ps.map pD)]
def lvF (E : List Pl) : Nat → List RR → List (Rl Pl)
  | _, [] => []
  | n, r :: rs => if (r.ps.all fun p => nearB E r.q.1 p.1) = true then ⟨n, r.q, r.c, r.ps⟩ :: lvF E (n + 1) rs else lvF E (n + 1) rs
theorem lvF_app (E : List Pl) : ∀ (n : Nat) (a b : List RR), lvF E n (a ++ b) = lvF E n a ++ lvF E (n + a.length) b
  | n, [], b => by simp [lvF]
  | n, r :: a, b => by
    simp only [List.cons_append, lvF, lvF_app E (n + 1) a b, List.length_cons]
    have : n + 1 + a.length = n + (a.length + 1) := by omega
    rw [this]
    split <;> simp
theorem lvF_mem {E : List Pl} : ∀ {n : Nat} {rs : List RR} {x : Rl Pl}, x ∈ lvF E n rs → ∃ i r, rs[i]? = some r ∧ x = ⟨n + i, r.q, r.c, r.ps⟩ ∧ (r.ps.all fun p => nearB E r.q.1 p.1) = true
  | n, r :: rs, x, h => by
    unfold lvF at h
    split at h
    · rename_i hr
      rcases List.mem_cons.mp h with rfl | h
      · exact ⟨0, r, rfl, rfl, hr⟩
      · obtain ⟨i, r', e, ex, hn⟩ := lvF_mem h
        exact ⟨i + 1, r', by simpa using e, by rw [ex]; congr 1; omega, hn⟩
    · obtain ⟨i, r', e, ex, hn⟩ := lvF_mem h
      exact ⟨i + 1, r', by simpa using e, by rw [ex]; congr 1; omega, hn⟩
theorem lvF_len {E : List Pl} : ∀ {n : Nat} {rs : List RR}, (lvF E n rs).length ≤ rs.length
  | n, [] => by simp [lvF]
  | n, r :: rs => by
    have := lvF_len (E := E) (n := n + 1) (rs := rs)
    unfold lvF
    split <;> simp <;> omega
theorem lo_lv (n : Nat) (l : List (Rl Pl)) : loA n (l.map lvD) = true := by
  induction l with
  | nil => rfl
  | cons x l ih => simp [loA, lvD, D.lo, pD, lo_pDs, ih]
theorem numUp_at {n : Nat} {xs : List D} {i : Nat} {x : D} (h : (numUp n xs)[i]? = some x) : ∃ y, xs[i]? = some y ∧ x = .tup [.int ((n + i : Nat) : Int), y] := by
  rw [numUp_get] at h
  obtain ⟨y, hy, rfl⟩ := Option.map_eq_some_iff.mp h
  exact ⟨y, hy, rfl⟩
theorem getElem?_map' {α β : Type} {f : α → β} {l : List α} {i : Nat} {y : β} (h : (l.map f)[i]? = some y) : ∃ x, l[i]? = some x ∧ y = f x := by
  rw [List.getElem?_map] at h
  obtain ⟨x, hx, rfl⟩ := Option.map_eq_some_iff.mp h
  exact ⟨x, hx, rfl⟩
theorem append_at (Ma : Mem) (l : List D) {k : Nat} (d : D) (e : Ma.length = k) (hl : l.length < 16000000) : appendM (Ma ++ [MO.lst l]) (.ref k) [d] = some (.non, Ma ++ [.lst (l ++ [d])]) := by
  simp only [appendM, get_last Ma l e]
  rw [if_pos hl, List.set_append_right _ _ (by omega), e]
  simp
theorem isLst_at (Ma : Mem) (l : List D) {k : Nat} (e : Ma.length = k) : isLst (Ma ++ [MO.lst l]) (.ref k) = true := by
  simp only [isLst, get_last Ma l e]
theorem living_l {M : Mem} {W : Wd} (g : GWd W) : F_living [wD W] M = .ok (.lst ((lvF W.E 0 W.R).map lvD)) M := by
  refine RE.ev.eq (ev_fn rfl ?_)
  unfold b_living wD
  simp_arith []
  refine ev_for ?_
  have e0 : lstOf (M ++ [MO.lst []]) (.lst (W.R.map rD)) = some (W.R.map rD) := rfl
  simp_arith []
  refine ⟨_, e0, fun n σ M' => ∃ s5 s6 s7 s8 s9 s10 s11, σ = [some (wD W), some (.ref M.length), some (.lst (W.V.map pD)), some (.lst (W.R.map rD)), some (.lst (W.E.map pD)), s5, s6, s7, s8, s9, s10, s11] ∧ M' = M ++ [.lst ((lvF W.E 0 (W.R.take n)).map lvD)], fun _ _ _ _ => rfl, ⟨_, _, _, _, _, _, _, rfl, rfl⟩, ?_, ?_⟩
  · rintro n x σ M' hx ⟨s5, s6, s7, s8, s9, s10, s11, rfl, rfl⟩
    obtain ⟨y, hy, rfl⟩ := numUp_at hx
    obtain ⟨r, hr, rfl⟩ := getElem?_map' hy
    have gr := g.rs r (List.mem_of_getElem? hr)
    have hn := (List.getElem?_eq_some_iff.mp hr).1
    have htk : W.R.take (n + 1) = W.R.take n ++ [r] := by rw [List.take_succ, hr]; rfl
    have hstep := lvF_app W.E 0 (W.R.take n) [r]
    have hlen : (W.R.take n).length = n := by rw [List.length_take]; omega
    rw [← htk, hlen, Nat.zero_add] at hstep
    have hlt : ((lvF W.E 0 (W.R.take n)).map lvD).length < 16000000 := by
      have := lvF_len (E := W.E) (n := 0) (rs := W.R.take n)
      have := g.rl
      rw [List.length_map]
      omega
    generalize hM1 : M ++ [MO.lst ((lvF W.E 0 (W.R.take n)).map lvD)] = M1
    refine ⟨_, rfl, ?_⟩
    simp_arith [rD, ruleD]
    refine ev_lcm (fun d => match d with
      | .tup [.str a, _] => .bl (nearB W.E r.q.1 a)
      | _ => .non) ?_
    have e1 : seqOf M1 (.lst (r.ps.map pD)) = some (r.ps.map pD) := rfl
    simp_arith [e1]
    refine ⟨by have := gr.ps.2.1; rw [List.length_map]; omega, fun x hx => ?_, ?_⟩
    · obtain ⟨p, hp, rfl⟩ := List.mem_map.mp hx
      refine ⟨_, rfl, ?_⟩
      simp_arith []
      exact RE.ev.of (is_near_l (fun q hq => (g.en q hq).1) gr.q.1 (gr.ps.2.2.2 p hp).1) ⟨rfl, rfl⟩
    · have e2 : (r.ps.map pD).map (fun d => match d with
          | .tup [.str a, _] => D.bl (nearB W.E r.q.1 a)
          | _ => .non) = (r.ps.map fun p => nearB W.E r.q.1 p.1).map D.bl := by
        rw [List.map_map, List.map_map]
        rfl
      rw [e2, allM_lst]
      simp_arith []
      have e3 : (r.ps.map fun p => nearB W.E r.q.1 p.1).all id = r.ps.all fun p => nearB W.E r.q.1 p.1 := by
        rw [List.all_map]; rfl
      rw [e3]
      subst hM1
      by_cases hc : (r.ps.all fun p => nearB W.E r.q.1 p.1) = true
      · rw [if_pos hc]
        have e4 : lvF W.E n [r] = [⟨n, r.q, r.c, r.ps⟩] := by simp only [lvF, if_pos hc]
        rw [e4] at hstep
        refine ⟨isLst_at M _ rfl, _, append_at M _ _ rfl hlt, ⟨_, _, _, _, _, _, _, rfl, ?_⟩⟩
        rw [hstep, List.map_append]
        rfl
      · rw [if_neg hc]
        have e4 : lvF W.E n [r] = [] := by simp only [lvF, if_neg hc]
        rw [e4, List.append_nil] at hstep
        exact ⟨_, _, _, _, _, _, _, rfl, by rw [hstep]⟩
  · rintro σ M' ⟨s5, s6, s7, s8, s9, s10, s11, rfl, rfl⟩
    rw [numUp_len, List.length_map, List.take_length]
    simp_arith []
    refine ⟨_, get_last M _ rfl, ?_⟩
    rw [List.set_append_right _ _ (Nat.le_refl _)]
    exact TR.back (by simp only [D.lo]; exact lo_lv _ _) ⟨rfl, rfl⟩
end H

namespace H
open PySem PySem.Spec PyProof.Rows L2 Lf
local macro_rules | `(tactic| simp_arith [$xs,*]) => `(tactic| simp only [e_ok, e_ex, e_bad, e_var, e_c, e_op2, e_op1, e_nilA, e_consA, e_callV, e_callS, e_asT, e_notT, e_andT, e_orT, e_andV, e_orV, e_notV, e_ifE, e_tup, e_lst, e_new, e_ch, e_frz, e_newOf, e_mtd, e_m1, e_part, e_slice, e_dnewT, e_dnewK, e_dget1, e_dget2, e_addN, e_next, e_seq, e_ret, e_expr, e_if, e_set, e_asg, e_setItem, e_dput, e_augExt, e_iseq, e_istr, e_ikeys, e_iitems, e_ienum, e_izip, e_range1, List.getElem?_cons_zero, List.getElem?_cons_succ, List.set_cons_zero, List.set_cons_succ, List.map_cons, List.map_nil, List.length_cons, List.length_nil, List.replicate, List.append_nil, List.nil_append, List.cons_append, Option.some.injEq, D.bl.injEq, D.int.injEq, D.str.injEq, D.ref.injEq, D.lst.injEq, D.tup.injEq, exists_eq_left', exists_eq_left, if_true, if_false, Bool.false_eq_true, Bool.not_true, Bool.not_false, Nat.zero_add, Nat.reduceAdd, Nat.reduceSub, Nat.reduceLeDiff, true_and, and_true, Tg.set, Tg.sets, wipeD, $xs,*])
open Pm
/-! ### dicts of places -/
def pk (p : Pl) : List L2.Key := [.inr p.1, .inr p.2]
theorem pk_inj {a b : Pl} : pk a = pk b ↔ a = b := by
  constructor
  · intro h
    simp only [pk, List.cons.injEq, Sum.inr.injEq, and_true] at h
    exact Prod.ext h.1 h.2
  · rintro rfl; rfl
def encA {β : Type} (e : β → D) (hs : List (Pl × β)) : List (List L2.Key × D) := hs.map fun kv => (pk kv.1, e kv.2)
theorem valG_enc {β : Type} (e : β → D) (hs : List (Pl × β)) (p : Pl) : valG (encA e hs) (pk p) = (getA hs p).map e := by
  induction hs with
  | nil => rfl
  | cons kv hs ih =>
    rw [getA_cons]
    unfold valG encA at ih ⊢
    rw [List.map_cons, List.find?_cons]
    by_cases h : kv.1 = p
    · simp [h]
    · have : ¬ pk kv.1 = pk p := fun z => h (pk_inj.mp z)
      rw [if_neg h, decide_eq_false this]
      exact ih
theorem putG_enc {β : Type} (e : β → D) (hs : List (Pl × β)) (p : Pl) (b : β) : putG (encA e hs) (pk p) (e b) = encA e (putA hs p b) := by
  have h1 : ((encA e hs).any fun kv => decide (kv.1 = pk p)) = (hs.any fun kv => decide (kv.1 = p)) := by
    unfold encA
    rw [List.any_map]
    congr 1
    funext kv
    exact decide_eq_decide.mpr pk_inj
  unfold putG putA
  rw [h1]
  split
  · unfold encA
    rw [List.map_map, List.map_map]
    congr 1
    funext kv
    simp only [Function.comp]
    by_cases h : kv.1 = p
    · rw [if_pos (pk_inj.mpr h), if_pos h]
    · rw [if_neg (fun z => h (pk_inj.mp z)), if_neg h]
  · simp [encA]
/-- at i stands the dict, walked or not -/
def DctAt {β : Type} (M : Mem) (i : Nat) (e : β → D) (hs : List (Pl × β)) : Prop := M[i]? = some (.dT (encA e hs)) ∨ M[i]? = some (.lk (.dT (encA e hs)))
section
variable {β : Type} {M : Mem} {i : Nat} {e : β → D} {hs : List (Pl × β)} {p : Pl}
theorem kOf_pD (p : Pl) : kOf (pD p) = some (pk p) := rfl
theorem dget_pl (h : DctAt M i e hs) (p : Pl) : dgetM M (.ref i) (pD p) = some ((getA hs p).map e) := by
  rcases h with h | h <;> simp only [dgetM, h, kOf_pD, Option.map_some, valG_enc]
theorem din_pl (h : DctAt M i e hs) (p : Pl) : dinM M (pD p) (.ref i) = some (.bl (getA hs p).isSome) := by
  unfold dinM
  rw [dget_pl h p]
  cases getA hs p <;> rfl
theorem dnin_pl (h : DctAt M i e hs) (p : Pl) : dninM M (pD p) (.ref i) = some (.bl (!(getA hs p).isSome)) := by
  unfold dninM
  rw [dget_pl h p]
  cases getA hs p <;> rfl
theorem dix_pl (h : DctAt M i e hs) {b : β} (q : getA hs p = some b) : dixM M (.ref i) (pD p) = some (e b) := by
  unfold dixM
  rw [dget_pl h p, q]
  rfl
theorem isD_pl (h : DctAt M i e hs) : isD M (.ref i) = true := by
  rcases h with h | h <;> simp only [isD, h]
theorem dput_pl (h : M[i]? = some (.dT (encA e hs))) (hl : hs.length < 16000000) (p : Pl) (b : β) : dputM M (.ref i) (pD p) (e b) = some (M.set i (.dT (encA e (putA hs p b)))) := by
  have hl2 : (encA e hs).length < 16000000 := by unfold encA; rw [List.length_map]; exact hl
  simp only [dputM, h, kOf_pD, Option.bind_some, if_pos hl2, putG_enc]
end
def natD (n : Nat) : D := .int (n : Nat)
def hM (hs : Hs Pl) : MO := .dT (encA natD hs)
abbrev HAt (M : Mem) (i : Nat) (hs : Hs Pl) : Prop := DctAt M i natD hs
/-! ### the height by a rule -/
def optD : Option Nat → D
  | some k => .int (k : Nat)
  | none => .non
theorem flat_opt (o : Option Nat) : flatD (optD o) = true := by cases o <;> rfl
theorem in_none (M : Mem) (os : List (Option Nat)) : inM M .non (.lst (os.map optD)) = some (.bl (decide (none ∈ os))) := by
  have e1 : (os.map optD).all flatD = true := by
    rw [List.all_eq_true]
    intro x hx
    obtain ⟨o, _, rfl⟩ := List.mem_map.mp hx
    exact flat_opt o
  have e2 : inB M .non (.lst (os.map optD)) = some ((os.map optD).any fun d => eqF d .non) := by
    unfold inB
    have e0 : flatD .non = true := rfl
    simp only [seqOf, lstOf, e0, e1, and_self, if_true]
  have e3 : ((os.map optD).any fun d => eqF d .non) = decide (none ∈ os) := by
    rw [List.any_map, Bool.eq_iff_iff, List.any_eq_true, decide_eq_true_eq]
    constructor
    · rintro ⟨o, ho, h⟩
      cases o with
      | none => exact ho
      | some k => simp [optD, eqF] at h
    · intro h
      exact ⟨none, h, by simp [optD, eqF]⟩
  unfold inM
  rw [e2, e3]
  rfl
theorem maxI_nats : ∀ l : List Nat, maxI (l.map fun n => ((n : Nat) : Int)) = (maxN l : Nat)
  | [] => rfl
  | [n] => by simp [maxI, maxN]
  | n :: m :: l => by
    have ih := maxI_nats (m :: l)
    simp only [List.map_cons] at ih ⊢
    have e : maxI (((n : Nat) : Int) :: ((m : Nat) : Int) :: l.map fun n => ((n : Nat) : Int)) = if maxI (((m : Nat) : Int) :: l.map fun n => ((n : Nat) : Int)) < ((n : Nat) : Int) then ((n : Nat) : Int) else maxI (((m : Nat) : Int) :: l.map fun n => ((n : Nat) : Int)) := rfl
    rw [e, ih]
    simp only [maxN]
    have key : ∀ k : Nat, (if ((k : Nat) : Int) < ((n : Nat) : Int) then ((n : Nat) : Int) else ((k : Nat) : Int)) = ((max n k : Nat) : Int) := fun k => by
      by_cases h : ((k : Nat) : Int) < ((n : Nat) : Int)
      · rw [if_pos h]; omega
      · rw [if_neg h]; omega
    exact key _
theorem maxL_nats (M : Mem) {l : List Nat} (h : l ≠ []) (hl : l.length ≤ 1000) : maxLM M [.lst (l.map natD)] = some (natD (maxN l)) := by
  have e : ∀ l : List Nat, intsD (l.map natD) = some (l.map fun n => ((n : Nat) : Int)) := fun l => by
    induction l with
    | nil => rfl
    | cons n l ih => simp [intsD, natD, ih]
  have e2 := maxI_nats l
  cases l with
  | nil => exact absurd rfl h
  | cons n l =>
    have e' := e (n :: l)
    simp only [List.map_cons] at e' e2
    unfold maxLM
    simp only [lstOf, List.map_cons, e', e2]
    rfl
theorem height_by_l {M : Mem} {i : Nat} {hs : Hs Pl} {r : Rl Pl} (h : HAt M i hs) (h1 : 1 ≤ r.ps.length) (h8 : r.ps.length ≤ 8) : F_height_by [.ref i, lvD r] M = .ok (optD (hby hs r)) M := by
  refine RE.ev.eq (ev_fn rfl ?_)
  unfold b_height_by lvD
  simp_arith []
  refine ev_lcm (fun d => match d with
    | .tup [.str a, .str b] => optD (getA hs (a, b))
    | _ => .non) ?_
  have e1 : seqOf M (.lst (r.ps.map pD)) = some (r.ps.map pD) := rfl
  simp_arith [e1]
  refine ⟨by rw [List.length_map]; omega, fun x hx => ?_, ?_⟩
  · obtain ⟨p, hp, rfl⟩ := List.mem_map.mp hx
    simp_arith [isD_pl h, dget_pl h]
    show _ = optD (getA hs p)
    cases getA hs p <;> rfl
  · have e2 : (r.ps.map pD).map (fun d => match d with
        | .tup [.str a, .str b] => optD (getA hs (a, b))
        | _ => .non) = (r.ps.map (getH hs)).map optD := by
      rw [List.map_map, List.map_map]
      rfl
    rw [e2, in_none]
    simp_arith []
    unfold hby
    by_cases hn : none ∈ r.ps.map (getH hs)
    · rw [decide_eq_true hn, if_pos rfl, if_pos hn]
      exact TR.pure rfl ⟨rfl, rfl⟩
    · rw [decide_eq_false hn, if_neg (by simp), if_neg hn]
      have e3 : (r.ps.map (getH hs)).map optD = ((r.ps.map (getH hs)).filterMap id).map natD := by
        generalize r.ps.map (getH hs) = l at hn
        induction l with
        | nil => rfl
        | cons o l ih =>
          cases o with
          | none => exact absurd (List.mem_cons_self ..) hn
          | some k =>
            have := ih fun z => hn (List.mem_cons_of_mem _ z)
            simp [optD, natD, this]
      rw [e3, maxL_nats M (fun z => by
        have : (r.ps.map (getH hs)).map optD = [] := by rw [e3, z]; rfl
        simp at this
        rw [this] at h1
        simp at h1) (by
        refine Nat.le_trans (List.length_filterMap_le _ _) ?_
        rw [List.length_map]; omega)]
      simp_arith []
      exact ⟨_, rfl, TR.pure rfl ⟨rfl, rfl⟩⟩
end H

namespace H
open PySem PySem.Spec PyProof.Rows L2 Lf
local macro_rules | `(tactic| simp_arith [$xs,*]) => `(tactic| simp only [e_ok, e_ex, e_bad, e_var, e_c, e_op2, e_op1, e_nilA, e_consA, e_callV, e_callS, e_asT, e_notT, e_andT, e_orT, e_andV, e_orV, e_notV, e_ifE, e_tup, e_lst, e_new, e_ch, e_frz, e_newOf, e_mtd, e_m1, e_part, e_slice, e_dnewT, e_dnewK, e_dget1, e_dget2, e_addN, e_next, e_seq, e_ret, e_expr, e_if, e_set, e_asg, e_setItem, e_dput, e_augExt, e_iseq, e_istr, e_ikeys, e_iitems, e_ienum, e_izip, e_range1, List.getElem?_cons_zero, List.getElem?_cons_succ, List.set_cons_zero, List.set_cons_succ, List.map_cons, List.map_nil, List.length_cons, List.length_nil, List.replicate, List.append_nil, List.nil_append, List.cons_append, Option.some.injEq, D.bl.injEq, D.int.injEq, D.str.injEq, D.ref.injEq, D.lst.injEq, D.tup.injEq, exists_eq_left', exists_eq_left, if_true, if_false, Bool.false_eq_true, Bool.not_true, Bool.not_false, Nat.zero_add, Nat.reduceAdd, Nat.reduceSub, Nat.reduceLeDiff, true_and, and_true, Tg.set, Tg.sets, wipeD, $xs,*])
open Pm
/-! ### the least reading -/
theorem hM_len {hs : Hs Pl} : (encA natD hs).length = hs.length := by simp [encA]
theorem inv_len {V : List Pl} {R : List (Rl Pl)} {hs : Hs Pl} (I : Inv V R hs) : hs.length ≤ V.length + R.length := by
  have := nodup_sub_len (b := V ++ R.map (·.q)) I.nd fun p hp => by
    obtain ⟨h, e⟩ := getA_some.mpr hp
    rcases I.held p h e with ⟨hv, _⟩ | ⟨r, hr, hq, _⟩
    · exact List.mem_append_left _ hv
    · exact List.mem_append_right _ (List.mem_map.mpr ⟨r, hr, hq⟩)
  simpa using this
theorem put_new {β : Type} {hs : List (Pl × β)} {p : Pl} {b : β} (h : p ∉ hs.map (·.1)) : putA hs p b = hs ++ [(p, b)] := by
  unfold putA
  rw [any_key, if_neg (by simpa using h)]
theorem start_keys (V : List Pl) : (Pm.start V).map (·.1) = V := by
  unfold Pm.start
  rw [List.map_map]
  have e : ((fun x : Pl × Nat => x.1) ∘ fun p : Pl => (p, 0)) = id := rfl
  rw [e, List.map_id]
theorem start_put {V : List Pl} {p : Pl} (h : p ∉ V) : putA (Pm.start V) p 0 = Pm.start (V ++ [p]) := by
  rw [put_new (by rw [start_keys]; exact h)]
  simp [Pm.start]
structure GLv (R : List (Rl Pl)) : Prop where
  q : ∀ r ∈ R, NameP r.q
  c1 : Cost R
  ps : ∀ r ∈ R, GPrem r.ps
  l : R.length ≤ 60
theorem glv {W : Wd} (g : GWd W) : GLv (lvF W.E 0 W.R) := by
  refine ⟨fun r hr => ?_, fun r hr => ?_, fun r hr => ?_, Nat.le_trans lvF_len g.rl⟩ <;>
    (obtain ⟨i, r', e, rfl, _⟩ := lvF_mem hr; have gr := g.rs r' (List.mem_of_getElem? e))
  · exact gr.q
  · exact gr.c1
  · exact gr.ps
theorem isnot_non (M : Mem) (o : Option Nat) : isnotM M (optD o) .non = some (.bl o.isSome) := by cases o <;> rfl
theorem heights_at (M : Mem) (hs : Hs Pl) : HAt (M ++ [hM hs]) M.length hs := .inl (by simp [hM])
theorem sweep_take {R : List (Rl Pl)} {n : Nat} {r : Rl Pl} (h : R[n]? = some r) (s : Hs Pl × Bool) : sweep (R.take (n + 1)) s = stepH (sweep (R.take n) s) r := by
  unfold sweep
  rw [List.take_succ, h, Option.toList_some, List.foldl_append]
  rfl
theorem nat_lt_i (M : Mem) (a b : Nat) : ltM M (.int (a : Nat)) (.int (b : Nat)) = some (.bl (decide (a < b))) := lt_len M a b
theorem step_l {M : Mem} {R : List (Rl Pl)} (G : GLv R) {hs : Hs Pl} {b : Bool} {r : Rl Pl} (hr : r ∈ R) (hl : hs.length < 16000000) {d0 d1 : D} {s5 s6 : Option D} {P : Po}
    (h : ∀ s6, P.nx [some d0, some d1, some (.ref M.length), some (.bl (stepH (hs, b) r).2), some (lvD r), s5, s6] (M ++ [hM (stepH (hs, b) r).1])) :
    (seqS (setS 6 (callS F_height_by (consA (varS 2) (consA (varS 4) nilA))))
    (ifS (andT (asT (op2 isnotM (varS 6) (cS .non))) (orT (asT (op2 dninM (op2 ixM (varS 4) (cS (.int 1))) (varS 2))) (asT (op2 ltM (varS 6) (op2 dixM (varS 2) (op2 ixM (varS 4) (cS (.int 1)))))))) (seqS (dputS (varS 2) (op2 ixM (varS 4) (cS (.int 1))) (varS 6))
    (setS 3 (cS (.bl true)))) nextS) [some d0, some d1, some (.ref M.length), some (.bl b), some (lvD r), s5, s6] (M ++ [hM hs])).ev P := by
  have hA := heights_at M hs
  have gp := G.ps r hr
  simp_arith []
  refine RE.ev.of (height_by_l hA gp.1 gp.2.1) ?_
  have i1 : ixM (M ++ [hM hs]) (lvD r) (.int 1) = some (pD r.q) := ix_tup1 _ _
  cases eh : hby hs r with
  | none =>
    simp_arith [optD]
    have hl' : less hs r = false := by unfold less; rw [eh]
    have es : stepH (hs, b) r = (hs, b) := by simp [stepH, hl']
    rw [es] at h
    exact ⟨.bl false, rfl, false, rfl, by simp_arith []; exact h _⟩
  | some k =>
    have hput := dput_pl (M := M ++ [hM hs]) (i := M.length) (hs := hs) (e := natD) (by simp [hM]) hl r.q k
    have hset : (M ++ [hM hs]).set M.length (.dT (encA natD (putA hs r.q k))) = M ++ [hM (putA hs r.q k)] := by
      rw [List.set_append_right _ _ (Nat.le_refl _)]
      simp [hM]
    rw [hset] at hput
    have go : less hs r = true → ∀ s6, P.nx [some d0, some d1, some (.ref M.length), some (.bl true), some (lvD r), s5, s6] (M ++ [hM (putA hs r.q k)]) := fun hl' s6 => by
      have es : stepH (hs, b) r = (putA hs r.q k, true) := by simp [stepH, hl', eh]
      have := h s6
      rw [es] at this
      exact this
    have e0 : isnotM (M ++ [hM hs]) (optD (some k)) .non = some (.bl true) := isnot_non _ (some k)
    simp_arith [e0, i1, dnin_pl hA]
    cases eg : getA hs r.q with
    | none =>
      simp_arith [Option.isSome_none]
      refine ⟨_, hput, go ?_ _⟩
      unfold less
      rw [eh]
      show (match getA hs r.q with
        | none => true
        | some h => decide (k < h)) = true
      rw [eg]
    | some x =>
      have e2 := dix_pl hA eg
      have e3 : ltM (M ++ [hM hs]) (optD (some k)) (natD x) = some (.bl (decide (k < x))) := nat_lt_i _ k x
      simp_arith [Option.isSome_some, e2, e3]
      have hls : less hs r = decide (k < x) := by
        unfold less
        rw [eh]
        show (match getA hs r.q with
          | none => true
          | some h => decide (k < h)) = _
        rw [eg]
      by_cases hk : k < x
      · rw [if_pos (decide_eq_true hk)]
        exact ⟨_, hput, go (by rw [hls, decide_eq_true hk]) _⟩
      · rw [if_neg (by simpa using hk)]
        have es : stepH (hs, b) r = (hs, b) := by
          have : less hs r = false := by rw [hls, decide_eq_false hk]
          simp [stepH, this]
        rw [es] at h
        exact h _
theorem least_of_l {M : Mem} {V : List Pl} {R : List (Rl Pl)} (G : GLv R) (nd : V.Nodup) (hl : V.length ≤ 60) {n : Nat} {fin : Hs Pl} (hrun : Runs R n (Pm.start V) fin) : F_least_of [.lst (V.map pD), .lst (R.map lvD)] M = .ok (.ref M.length) (M ++ [hM fin]) := by
  refine RE.ev.eq (ev_fn rfl ?_)
  unfold b_least_of
  simp_arith []
  refine ev_dc ?_
  have e1 : seqOf M (.lst (V.map pD)) = some (V.map pD) := rfl
  simp_arith [e1]
  refine ⟨fun n M' acc => M' = M ∧ acc = hM (Pm.start (V.take n)), fun _ _ _ _ => rfl, ⟨rfl, rfl⟩, ?_, ?_⟩
  · rintro n x M' acc hx ⟨rfl, rfl⟩
    obtain ⟨p, hp, rfl⟩ := getElem?_map' hx
    have htk : V.take (n + 1) = V.take n ++ [p] := by rw [List.take_succ, hp]; rfl
    have hn : p ∉ V.take n := fun z => by
      have nd2 : (V.take n ++ [p]).Nodup := by
        rw [← htk]
        exact (List.take_sublist _ _).nodup nd
      rw [List.nodup_append] at nd2
      exact nd2.2.2 p z p (by simp) rfl
    simp_arith []
    have ev : (yesT [some (.lst (V.map pD)), some (.lst (R.map lvD)), none, none, none, some (pD p), none] M').ev noX fun b M1 => b = true ∧ M1 = M' := ⟨rfl, rfl⟩
    refine ev.imp fun b M1 ⟨hb, hM1⟩ => ?_
    subst hb hM1
    simp_arith []
    refine ⟨hM (Pm.start (V.take (n + 1))), ?_, rfl⟩
    · rw [htk, ← start_put hn]
      have hlen : (encA natD (Pm.start (V.take n))).length < 16000000 := by
        rw [hM_len]
        simp [Pm.start]
        omega
      simp only [putMO, hM, kOf_pD, Option.bind_some, if_pos hlen]
      rw [← putG_enc]
      rfl
  · rintro M' m ⟨rfl, rfl⟩
    rw [List.length_map, List.take_length]
    refine ev_while (· < ·) Nat.lt_wfRel.wf (fun m σ M1 => ∃ hs b s4 s5 s6, σ = [some (.lst (V.map pD)), some (.lst (R.map lvD)), some (.ref M'.length), some (.bl b), s4, s5, s6] ∧ M1 = M' ++ [hM hs] ∧ Inv V R hs ∧ ((b = true ∧ ∃ n, Runs R n hs fin ∧ m = n + 1) ∨ (b = false ∧ hs = fin ∧ m = 0))) ?_ (n + 1) _ _ ⟨Pm.start V, true, _, _, _, rfl, rfl, start_inv nd, .inl ⟨rfl, n, hrun, rfl⟩⟩
    rintro m σ M1 ⟨hs, b, s4, s5, s6, rfl, rfl, I, hb⟩
    simp_arith []
    rcases hb with ⟨rfl, n, hr, rfl⟩ | ⟨rfl, rfl, rfl⟩
    · rw [if_pos rfl]
      refine ev_forL (ds := R.map lvD) rfl (fun k σ M2 => ∃ s4 s5 s6, σ = [some (.lst (V.map pD)), some (.lst (R.map lvD)), some (.ref M'.length), some (.bl (sweep (R.take k) (hs, false)).2), s4, s5, s6] ∧ M2 = M' ++ [hM (sweep (R.take k) (hs, false)).1]) ⟨_, _, _, rfl, rfl⟩ ?_ ?_
      · rintro k x σ M2 hx ⟨s4, s5, s6, rfl, rfl⟩
        obtain ⟨r, hr', rfl⟩ := getElem?_map' hx
        obtain ⟨hs', b', es, I', _⟩ := sweep_go G.c1 (R.take k) hs false (fun r h => List.mem_of_mem_take h) I
        rw [sweep_take hr', es]
        refine ⟨_, rfl, ?_⟩
        refine step_l G (List.mem_of_getElem? hr') (by have := inv_len I'; have := G.l; show hs'.length < 16000000; omega) fun s6 => ⟨_, _, _, rfl, rfl⟩
      · rintro σ M2 ⟨s4, s5, s6, rfl, rfl⟩
        rw [List.length_map, List.take_length]
        obtain ⟨hs', b', es, I', _⟩ := sweep_go G.c1 R hs false (fun r h => h) I
        cases hr with
        | stop e =>
          rw [e] at es ⊢
          cases es
          exact ⟨0, by omega, _, _, _, _, _, rfl, rfl, I', .inr ⟨rfl, rfl, rfl⟩⟩
        | more e h2 =>
          rw [e] at es ⊢
          cases es
          exact ⟨_, Nat.lt_succ_self _, _, _, _, _, _, rfl, rfl, I', .inl ⟨rfl, _, h2, rfl⟩⟩
    · rw [if_neg (by simp)]
      exact TR.made (by simp [D.lo]) ⟨rfl, rfl⟩
end H

namespace H
open PySem PySem.Spec PyProof.Rows L2 Lf
local macro_rules | `(tactic| simp_arith [$xs,*]) => `(tactic| simp only [e_ok, e_ex, e_bad, e_var, e_c, e_op2, e_op1, e_nilA, e_consA, e_callV, e_callS, e_asT, e_notT, e_andT, e_orT, e_andV, e_orV, e_notV, e_ifE, e_tup, e_lst, e_new, e_ch, e_frz, e_newOf, e_mtd, e_m1, e_part, e_slice, e_dnewT, e_dnewK, e_dget1, e_dget2, e_addN, e_next, e_seq, e_ret, e_expr, e_if, e_set, e_asg, e_setItem, e_dput, e_augExt, e_iseq, e_istr, e_ikeys, e_iitems, e_ienum, e_izip, e_range1, List.getElem?_cons_zero, List.getElem?_cons_succ, List.set_cons_zero, List.set_cons_succ, List.map_cons, List.map_nil, List.length_cons, List.length_nil, List.replicate, List.append_nil, List.nil_append, List.cons_append, Option.some.injEq, D.bl.injEq, D.int.injEq, D.str.injEq, D.ref.injEq, D.lst.injEq, D.tup.injEq, exists_eq_left', exists_eq_left, if_true, if_false, Bool.false_eq_true, Bool.not_true, Bool.not_false, Nat.zero_add, Nat.reduceAdd, Nat.reduceSub, Nat.reduceLeDiff, true_and, and_true, Tg.set, Tg.sets, wipeD, $xs,*])
open Pm
/-! ### sorted -/
def srt {α : Type} (e : α → D) (l : List α) : List α := l.mergeSort fun a b => PySem.W.dataLe false pyOf (e a) (e b)
theorem sortD_map {α : Type} (e : α → D) (l : List α) : sortD (l.map e) = (srt e l).map e := by
  unfold sortD srt
  exact (List.map_mergeSort (r := fun a b => PySem.W.dataLe false pyOf (e a) (e b)) (s := PySem.W.dataLe false pyOf) (f := e) (fun a _ b _ => rfl)).symm
theorem srt_perm {α : Type} (e : α → D) (l : List α) : (srt e l).Perm l := List.mergeSort_perm _ _
theorem srt_pw {α : Type} (e : α → D) (l : List α) : (srt e l).Pairwise fun a b => PySem.W.dataLt (pyOf (e b)) (pyOf (e a)) = false := by
  have T := PySem.W.sortLe_total (PyProof.Rows.listOrd PyProof.Rows.itemOrd) false fun a : α => PySem.W.keyToks (pyOf (e a))
  have := List.pairwise_mergeSort (le := fun a b => PySem.W.dataLe false pyOf (e a) (e b)) (fun a b c h1 h2 => T.trans a b c h1 h2) (fun a b => by
    rcases T.total a b with h | h
    · rw [show PySem.W.dataLe false pyOf (e a) (e b) = true from h]; rfl
    · rw [show PySem.W.dataLe false pyOf (e b) (e a) = true from h, Bool.or_true]) l
  refine this.imp fun {a b} h => ?_
  have h' : (!PySem.W.dataLt (pyOf (e b)) (pyOf (e a))) = true := h
  simpa using h'
theorem sort_ok {α : Type} {e : α → D} {py : α → PyData} {l : List α} (h1 : ∀ a ∈ l, toPy0 (e a) = some (py a)) (h2 : ∀ a ∈ l, ∀ b ∈ l, PySem.W.alike (py a) (py b) = true) (h3 : (∀ a ∈ l, fullT (py a) = true) ∨ (∀ a ∈ l, noTup (py a) = true)) (h4 : ∀ a ∈ l, (py a).depth ≤ 100) : sortOk (l.map e) = true := by
  have hp : (l.map e).map pyOf = l.map py := by
    rw [List.map_map]
    refine List.map_congr_left fun a ha => ?_
    show (toPy0 (e a)).getD .none = _
    rw [h1 a ha]; rfl
  unfold sortOk
  rw [hp]
  simp only [Bool.and_eq_true, Bool.or_eq_true, List.all_map, List.all_eq_true, Function.comp, decide_eq_true_eq]
  refine ⟨⟨⟨fun a ha => by rw [h1 a ha]; rfl, fun a ha b hb => h2 a ha b hb⟩, ?_⟩, fun a ha => ?_⟩
  · rcases h3 with h | h
    · exact .inl h
    · exact .inr h
  · show ((toPy0 (e a)).getD .none).depth ≤ 100
    rw [h1 a ha]
    exact h4 a ha
theorem sort_at (M : Mem) {α : Type} {e : α → D} {l : List α} (h : sortOk (l.map e) = true) : sortM M [.lst (l.map e)] = some (.lst ((srt e l).map e)) := by
  simp only [sortM, lstOf, h, if_true, sortD_map]
theorem py0_pl (p : Pl) : toPy0 (pD p) = some (pyPl p) := by simp [toPy0, toPy0A, pD, pyPl]
theorem pyOf_pl (p : Pl) : pyOf (pD p) = pyPl p := by unfold pyOf; rw [py0_pl]; rfl
theorem alike_pl (a b : Pl) : PySem.W.alike (pyPl a) (pyPl b) = true := by simp [pyPl, PySem.W.alike, PySem.W.alikeAll]
theorem sort_pl (l : List Pl) : sortOk (l.map pD) = true := sort_ok (py := pyPl) (fun a _ => py0_pl a) (fun a _ b _ => alike_pl a b) (.inl fun _ _ => rfl) (fun a _ => by simp [pyPl, PyData.depth, PyData.depthAll])
def hpD (q : Nat × Pl) : D := .tup [natD q.1, pD q.2]
def hpY (q : Nat × Pl) : PyData := .tuple [.int (q.1 : Nat), pyPl q.2]
theorem py0_hp (q : Nat × Pl) : toPy0 (hpD q) = some (hpY q) := by simp [toPy0, toPy0A, hpD, hpY, natD, py0_pl]
theorem sort_hp (l : List (Nat × Pl)) : sortOk (l.map hpD) = true := sort_ok (py := hpY) (fun a _ => py0_hp a) (fun a _ b _ => by simp [hpY, PySem.W.alike, PySem.W.alikeAll, alike_pl]) (.inl fun _ _ => rfl) (fun a _ => by simp [hpY, pyPl, PyData.depth, PyData.depthAll])
theorem srt_hp (l : List (Nat × Pl)) : (srt hpD l).Pairwise fun a b => a.1 ≤ b.1 := by
  refine (srt_pw hpD l).imp fun {a b} h => ?_
  have e : ∀ q, pyOf (hpD q) = hpY q := fun q => by unfold pyOf; rw [py0_hp]; rfl
  rw [e, e] at h
  unfold hpY at h
  rw [PySem.W.dataLt_pair (by rfl) (alike_pl _ _)] at h
  have e2 : PyData.eqv (.int (b.1 : Nat)) (.int (a.1 : Nat)) = decide (b.1 = a.1) := by
    simp only [PyData.eqv]
    rw [Bool.eq_iff_iff]
    simp
    omega
  rw [e2, PySem.W.dataLt_int] at h
  by_cases hq : b.1 = a.1
  · omega
  · rw [if_neg (by simpa using hq)] at h
    simp at h
    omega
/-! ### reasons -/
theorem eq_opt (M : Mem) (o : Option Nat) (x : Nat) : eqM M (optD o) (natD x) = some (.bl (decide (o = some x))) := by
  cases o with
  | none => rfl
  | some k =>
    show some (D.bl (decide (((k : Nat) : Int) = ((x : Nat) : Int)))) = _
    rw [dec_eq]
    congr 2
    rw [decide_eq_decide]
    simp
theorem reason_in_l {M : Mem} {V : List Pl} {R : List (Rl Pl)} {hs : Hs Pl} {i : Nat} {p : Pl} {x : Nat} (G : GLv R) (F : Fin V R hs) (hv : ∀ q ∈ V, NameP q) (hp : NameP p) (h : HAt M i hs) (e : getA hs p = some x) :
    F_reason_in [.lst (V.map pD), .lst (R.map lvD), .ref i, pD p] M = .ok (.int (reason V R hs p)) M := by
  refine RE.ev.eq (ev_fn rfl ?_)
  unfold b_reason_in
  simp_arith [dnin_pl h, e, Option.isSome_some, in_pl M hp hv]
  by_cases hV : p ∈ V
  · rw [if_pos (decide_eq_true hV), (reason_v hV).1]
    exact TR.pure rfl ⟨rfl, rfl⟩
  · rw [if_neg (by simpa using hV)]
    refine ev_lcEL (l := R) (e := lvD) (fun r => decide (r.q = p) && decide (hby hs r = getH hs p)) (fun r => .int (r.n : Nat)) rfl (by have := G.l; omega) (fun r hr => ⟨_, rfl, ?_⟩) ?_
    · have i1 : ixM M (lvD r) (.int 1) = some (pD r.q) := ix_tup1 _ _
      have i0 : ixM M (lvD r) (.int 0) = some (.int (r.n : Nat)) := ix_tup0 _ _
      have eh : getH hs p = some x := e
      simp_arith [i1, i0, eq_pl M (G.q r hr) hp, eh]
      by_cases hq : r.q = p
      · rw [if_pos (decide_eq_true hq), decide_eq_true hq]
        refine RE.ev.of (height_by_l h (G.ps r hr).1 (G.ps r hr).2.1) ?_
        simp_arith [dix_pl h e, eq_opt]
        simp
      · rw [if_neg (by simpa using hq), decide_eq_false hq]
        simp
    · obtain ⟨r, _, _, _, ef, er, _⟩ := reason_r F hV e
      rw [er]
      refine ⟨.int (r.n : Nat), ?_, TR.pure rfl ⟨rfl, rfl⟩⟩
      rw [ix_lst0, List.getElem?_map, ← List.head?_eq_getElem?, List.head?_filter, ef]
      rfl
end H

namespace H
open PySem PySem.Spec PyProof.Rows L2 Lf
local macro_rules | `(tactic| simp_arith [$xs,*]) => `(tactic| simp only [e_ok, e_ex, e_bad, e_var, e_c, e_op2, e_op1, e_nilA, e_consA, e_callV, e_callS, e_asT, e_notT, e_andT, e_orT, e_andV, e_orV, e_notV, e_ifE, e_tup, e_lst, e_new, e_ch, e_frz, e_newOf, e_mtd, e_m1, e_part, e_slice, e_dnewT, e_dnewK, e_dget1, e_dget2, e_addN, e_next, e_seq, e_ret, e_expr, e_if, e_set, e_asg, e_setItem, e_dput, e_augExt, e_iseq, e_istr, e_ikeys, e_iitems, e_ienum, e_izip, e_range1, List.getElem?_cons_zero, List.getElem?_cons_succ, List.set_cons_zero, List.set_cons_succ, List.map_cons, List.map_nil, List.length_cons, List.length_nil, List.replicate, List.append_nil, List.nil_append, List.cons_append, Option.some.injEq, D.bl.injEq, D.int.injEq, D.str.injEq, D.ref.injEq, D.lst.injEq, D.tup.injEq, exists_eq_left', exists_eq_left, if_true, if_false, Bool.false_eq_true, Bool.not_true, Bool.not_false, Nat.zero_add, Nat.reduceAdd, Nat.reduceSub, Nat.reduceLeDiff, true_and, and_true, Tg.set, Tg.sets, wipeD, $xs,*])
open Pm
/-! ### three objects behind the memory -/
theorem mem_get (M l : Mem) (i : Nat) : (M ++ l)[M.length + i]? = l[i]? := by rw [List.getElem?_append_right (by omega)]; congr 1; omega
theorem mem_set (M l : Mem) (i : Nat) (m : MO) : (M ++ l).set (M.length + i) m = M ++ l.set i m := by rw [List.set_append_right _ _ (by omega)]; congr 2; omega
theorem ne_nil (M : Mem) {i : Nat} {ds : List D} (h : M[i]? = some (.lst ds)) : neM M (.ref i) (.lst []) = some (.bl (!ds.isEmpty)) := by
  simp only [neM, eqB, eqNil, lstOf, h, Option.map_some]
theorem pop_at {M : Mem} {i : Nat} {ds : List D} {d : D} (h : M[i]? = some (.lst (ds ++ [d]))) : popM M (.ref i) [] = some (d, M.set i (.lst ds)) := by
  simp only [popM, h]
  simp
theorem isLst_get {M : Mem} {i : Nat} {ds : List D} (h : M[i]? = some (.lst ds)) : isLst M (.ref i) = true := by simp only [isLst, h]
theorem least_l {M : Mem} {W : Wd} (g : GWd W) {n : Nat} {fin : Hs Pl} (hrun : Runs (lvF W.E 0 W.R) n (Pm.start W.V) fin) : F_least [wD W] M = .ok (.ref M.length) (M ++ [hM fin]) := by
  refine RE.ev.eq (ev_fn rfl ?_)
  unfold b_least
  simp_arith []
  refine RE.ev.of (need_world_l g) ?_
  have i0 : ixM M (wD W) (.int 0) = some (.lst (W.V.map pD)) := ix_tup0 _ _
  simp_arith [i0]
  refine RE.ev.of (living_l g) ?_
  refine RE.ev.of (least_of_l (glv g) g.vd g.vl hrun) ?_
  exact TR.made (by simp [D.lo]) ⟨rfl, rfl⟩
def rowD (q : Pl × Int) : D := .tup [pD q.1, .int q.2]

theorem ix_lstN (M : Mem) (ds : List D) (i : Nat) : ixM M (.lst ds) (.int (i : Nat)) = ds[i]? := ix_lst M ds i
theorem eq_m1 (M : Mem) (v : Int) : eqM M (.int v) (.int (-1)) = some (.bl (decide (v = -1))) := eq_i M v (-1)
theorem keys_enc {β : Type} {M : Mem} {i : Nat} {e : β → D} {hs : List (Pl × β)} (h : M[i]? = some (.lk (.dT (encA e hs)))) : keysD M (.ref i) = some (hs.map fun kv => pD kv.1) := by
  simp only [keysD, h, encA, List.map_map]
  rfl
theorem ikeys_at {β : Type} {σ : Sl} {M : Mem} {i : Nat} {e : β → D} {hs : List (Pl × β)} {f : SE} (hf : f σ M = .ok (.ref i) M) (h : M[i]? = some (.lk (.dT (encA e hs)))) : ikeysS f σ M = .ok ⟨hs.map fun kv => pD kv.1, fun M' => keysD M' (.ref i) = some (hs.map fun kv => pD kv.1)⟩ M := by
  unfold ikeysS
  rw [hf]
  simp only [RE.bind_ok, keys_enc h]
theorem lk_enc {β : Type} {M : Mem} {i : Nat} {e : β → D} {hs : List (Pl × β)} (h : M[i]? = some (.dT (encA e hs))) : lkM M i = some (M.set i (.lk (.dT (encA e hs)))) ∧ unM (M.set i (.lk (.dT (encA e hs)))) i = some M := by
  have hi := (List.getElem?_eq_some_iff.mp h).1
  refine ⟨by simp only [lkM, h], ?_⟩
  simp only [unM, List.getElem?_set_self hi, List.set_set]
  congr 1
  refine List.ext_getElem? fun j => ?_
  by_cases hj : i = j
  · subst hj
    rw [List.getElem?_set_self hi, h]
  · rw [List.getElem?_set_ne hj]
theorem why_end {M : Mem} {hs : Hs Pl} {f : Pl → Int} {S : List Pl} {pr : Pl → List Pl} {p : Pl} {fin : List (Pl × Int)} (hin : WInv f pr S p 8 [] fin) (hS : ∀ q ∈ S, q ∈ hs.map (·.1)) (hl : fin.length ≤ 16000) {d0 d1 d2 d5 : D} {s6 s7 : Option D} {X : XP} :
    (lcS (iseqS (callV sortM (consA (lockE 4 (lcS (ikeysS (varS 4)) (.nm 6) [6] yesT (tupS (consA (op2 dixM (varS 3) (varS 6)) (consA (varS 6) nilA))))) nilA))) (.tp [.nm 7, .nm 6]) [7, 6] yesT (tupS (consA (varS 6) (consA (op2 dixM (varS 4) (varS 6)) nilA)))
      [some d0, some d1, some d2, some (.ref M.length), some (.ref (M.length + 1)), some d5, s6, s7] (M ++ [hM hs, .dT (encA D.int fin), .lst []])).ev X
      (TR M noX fun b M2 => b = .lst (((srt hpD (fin.map fun q => ((getA hs q.1).getD 0, q.1))).map fun q => (q.2, f q.2)).map rowD) ∧ M2 = M) := by
  have g0 : HAt (M ++ [hM hs, .dT (encA D.int fin), .lst []]) M.length hs := .inl (by simp [hM])
  have g1 : (M ++ [hM hs, .dT (encA D.int fin), .lst []])[M.length + 1]? = some (.dT (encA D.int fin)) := mem_get _ _ 1
  have hgl : ∀ T : List (Nat × Pl), loA M.length ((T.map fun q => (q.2, f q.2)).map rowD) = true := fun T => by
    induction T with
    | nil => rfl
    | cons x T ih => simpa [loA, rowD, D.lo, pD] using ih
  generalize hM1 : M ++ [hM hs, .dT (encA D.int fin), .lst []] = M1 at *
  obtain ⟨l1, l2⟩ := lk_enc g1
  have hval : ∀ q ∈ fin, getA hs q.1 = some ((getA hs q.1).getD 0) := fun q hq => by
    obtain ⟨x, ex⟩ := getA_some.mpr (hS q.1 (hin.inS q.1 (List.mem_map.mpr ⟨q, hq, rfl⟩)))
    rw [ex]; rfl
  have hlock : lockE 4 (lcS (ikeysS (varS 4)) (.nm 6) [6] yesT (tupS (consA (op2 dixM (varS 3) (varS 6)) (consA (varS 6) nilA)))) [some d0, some d1, some d2, some (.ref M.length), some (.ref (M.length + 1)), some d5, s6, s7] M1 = .ok (.lst ((fin.map fun q => ((getA hs q.1).getD 0, q.1)).map hpD)) M1 := by
    refine RE.ev.eq (ev_lockE rfl l1 ?_)
    have hi := (List.getElem?_eq_some_iff.mp g1).1
    have g1k : (M1.set (M.length + 1) (.lk (.dT (encA D.int fin))))[M.length + 1]? = some (.lk (.dT (encA D.int fin))) := List.getElem?_set_self hi
    have g0k : HAt (M1.set (M.length + 1) (.lk (.dT (encA D.int fin)))) M.length hs := by
      rcases g0 with g | g
      · exact .inl (by rw [List.getElem?_set_ne (by omega)]; exact g)
      · exact .inr (by rw [List.getElem?_set_ne (by omega)]; exact g)
    refine ev_lcM (l := fin) (e := fun kv => pD kv.1) (fun q => hpD ((getA hs q.1).getD 0, q.1)) (ikeys_at rfl g1k) rfl (keys_enc g1k) (by omega) (fun q hq => ⟨_, rfl, ?_⟩) ?_
    · have := dix_pl g0k (hval q hq)
      simp_arith [this]
      rfl
    · rw [List.map_map]
      exact ⟨M1, l2, rfl, rfl⟩
  have hsort : callV sortM (consA (lockE 4 (lcS (ikeysS (varS 4)) (.nm 6) [6] yesT (tupS (consA (op2 dixM (varS 3) (varS 6)) (consA (varS 6) nilA))))) nilA) [some d0, some d1, some d2, some (.ref M.length), some (.ref (M.length + 1)), some d5, s6, s7] M1 = .ok (.lst ((srt hpD (fin.map fun q => ((getA hs q.1).getD 0, q.1))).map hpD)) M1 := by
    simp only [callV_ap, consA_ap, nilA_ap, hlock, RE.bind_ok, sort_at M1 (sort_hp _)]
  have hperm := srt_perm hpD (fin.map fun q => ((getA hs q.1).getD 0, q.1))
  refine ev_lcML (fun q => rowD (q.2, f q.2)) hsort (by rw [hperm.length_eq, List.length_map]; omega) (fun q hq => ⟨_, rfl, ?_⟩) ?_
  · have hq2 := hperm.mem_iff.mp hq
    obtain ⟨z, hz, rfl⟩ := List.mem_map.mp hq2
    have e : getA fin z.1 = some (f z.1) := getA_of_mem hin.nd (by rw [← hin.val z hz]; exact hz)
    have := dix_pl (.inl g1) e
    simp_arith [this]
    rfl
  · have e : (srt hpD (fin.map fun q => ((getA hs q.1).getD 0, q.1))).map (fun q => rowD (q.2, f q.2)) = ((srt hpD (fin.map fun q => ((getA hs q.1).getD 0, q.1))).map fun q => (q.2, f q.2)).map rowD := by rw [List.map_map]; rfl
    rw [e, ← hM1]
    exact TR.back (by simp only [D.lo]; exact hgl _) ⟨rfl, rfl⟩
/-- what is asked of the walk: the world's rules stand behind the reasons -/
theorem why_l {M : Mem} {W : Wd} (g : GWd W) {n : Nat} {hs : Hs Pl} (hrun : Runs (lvF W.E 0 W.R) n (Pm.start W.V) hs) (F : Fin W.V (lvF W.E 0 W.R) hs) {p : Pl} (hp : NameP p) (hb : p ∈ hs.map (·.1))
    {m : Nat} {fin : List (Pl × Int)} (hw : WRuns (reason W.V (lvF W.E 0 W.R) hs) (leans W.V (lvF W.E 0 W.R) hs) 16000 m [p] [] fin) (hin : WInv (reason W.V (lvF W.E 0 W.R) hs) (leans W.V (lvF W.E 0 W.R) hs) (below hs p) p 8 [] fin) (hnm : ∀ q ∈ hs.map (·.1), NameP q) :
    F_why [wD W, pD p] M = .ok (.lst (((srt hpD (fin.map fun q => ((getA hs q.1).getD 0, q.1))).map fun q => (q.2, reason W.V (lvF W.E 0 W.R) hs q.2)).map rowD)) M := by
  refine RE.ev.eq (ev_fn rfl ?_)
  unfold b_why
  simp_arith []
  refine RE.ev.of (need_world_l g) ?_
  refine RE.ev.of (need_place_l hp) ?_
  refine RE.ev.of (living_l g) ?_
  have i0 : ixM M (wD W) (.int 0) = some (.lst (W.V.map pD)) := ix_tup0 _ _
  simp_arith [i0]
  refine RE.ev.of (least_of_l (glv g) g.vd g.vl hrun) ?_
  have hA := heights_at M hs
  obtain ⟨x0, ex0⟩ := getA_some.mpr hb
  simp_arith [dnin_pl hA, ex0, Option.isSome_some]
  have hmem : M ++ [hM hs] ++ [MO.dT []] ++ [MO.lst [pD p]] = M ++ [hM hs, .dT [], .lst [pD p]] := by simp
  rw [hmem]
  have hl1 : (M ++ [hM hs]).length = M.length + 1 := by simp
  have hl2 : (M ++ [hM hs] ++ [MO.dT []]).length = M.length + 2 := by simp
  rw [hl1, hl2]
  generalize hR : lvF W.E 0 W.R = R at *
  have GR : GLv R := hR ▸ glv g
  refine ev_while (· < ·) Nat.lt_wfRel.wf (fun m σ M1 => ∃ w rs s6 s7, σ = [some (wD W), some (pD p), some (.lst (R.map lvD)), some (.ref M.length), some (.ref (M.length + 1)), some (.ref (M.length + 2)), s6, s7] ∧ M1 = M ++ [hM hs, .dT (encA D.int rs), .lst (w.map pD)] ∧ WRuns (reason W.V R hs) (leans W.V R hs) 16000 m w rs fin ∧ (∀ q ∈ w, q ∈ hs.map (·.1))) ?_ m _ _ ⟨[p], [], _, _, rfl, rfl, hw, by simpa using hb⟩
  rintro m σ M1 ⟨w, rs, s6, s7, rfl, rfl, hrw, hwk⟩
  have g0 : HAt (M ++ [hM hs, .dT (encA D.int rs), .lst (w.map pD)]) M.length hs := .inl (by simp [hM])
  have g1 : (M ++ [hM hs, .dT (encA D.int rs), .lst (w.map pD)])[M.length + 1]? = some (.dT (encA D.int rs)) := mem_get _ _ 1
  have g2 : (M ++ [hM hs, .dT (encA D.int rs), .lst (w.map pD)])[M.length + 2]? = some (.lst (w.map pD)) := mem_get _ _ 2
  have g1' : DctAt (M ++ [hM hs, .dT (encA D.int rs), .lst (w.map pD)]) (M.length + 1) D.int rs := .inl g1
  simp_arith [ne_nil _ g2]
  cases hrw with
  | stop =>
    simp_arith [List.isEmpty_nil]
    exact why_end hin (fun q hq => (below_mem.mp hq).1) (by have := nodup_sub_len hin.nd hin.inS; rw [List.length_map] at this; have h2 := List.length_filter_le (fun p' => decide (p' = p) || (match getH hs p', getH hs p with | some a, some b => decide (a < b) | _, _ => false)) (hs.map (·.1)); have h3 : (below hs p).length ≤ (hs.map (·.1)).length := h2; rw [List.length_map] at h3; have := inv_len F.toInv; have := g.vl; have := GR.l; omega)
  | @seen n w' one rs' fin' h1 h2 =>
    have hne : (!((w' ++ [one]).map pD).isEmpty) = true := by simp
    rw [if_pos hne]
    have g2' : (M ++ [hM hs, .dT (encA D.int rs), .lst ((w' ++ [one]).map pD)])[M.length + 2]? = some (.lst (w'.map pD ++ [pD one])) := by rw [g2]; simp
    have hp1 := pop_at g2'
    obtain ⟨v, ev⟩ := getA_some.mpr h1
    have hset : (M ++ [hM hs, .dT (encA D.int rs), .lst ((w' ++ [one]).map pD)]).set (M.length + 2) (.lst (w'.map pD)) = M ++ [hM hs, .dT (encA D.int rs), .lst (w'.map pD)] := mem_set _ _ 2 _
    rw [hset] at hp1
    have g1b : DctAt (M ++ [hM hs, .dT (encA D.int rs), .lst (w'.map pD)]) (M.length + 1) D.int rs := .inl (mem_get _ _ 1)
    simp_arith [hp1, dnin_pl g1b, ev, Option.isSome_some]
    exact ⟨isLst_get g2', n, Nat.lt_succ_self _, w', rs, _, _, rfl, rfl, h2, fun q hq => hwk q (by simp [hq])⟩
  | @new n w' one rs' fin' h1 h2 h3 h4 =>
    have hne : (!((w' ++ [one]).map pD).isEmpty) = true := by simp
    rw [if_pos hne]
    have g2' : (M ++ [hM hs, .dT (encA D.int rs), .lst ((w' ++ [one]).map pD)])[M.length + 2]? = some (.lst (w'.map pD ++ [pD one])) := by rw [g2]; simp
    have hp1 := pop_at g2'
    have ev : getA rs one = none := getA_none.mpr h1
    have hset : (M ++ [hM hs, .dT (encA D.int rs), .lst ((w' ++ [one]).map pD)]).set (M.length + 2) (.lst (w'.map pD)) = M ++ [hM hs, .dT (encA D.int rs), .lst (w'.map pD)] := mem_set _ _ 2 _
    rw [hset] at hp1
    have g1a : (M ++ [hM hs, .dT (encA D.int rs), .lst (w'.map pD)])[M.length + 1]? = some (.dT (encA D.int rs)) := mem_get _ _ 1
    have g1b : DctAt (M ++ [hM hs, .dT (encA D.int rs), .lst (w'.map pD)]) (M.length + 1) D.int rs := .inl g1a
    have g0b : HAt (M ++ [hM hs, .dT (encA D.int rs), .lst (w'.map pD)]) M.length hs := .inl (by simp [hM])
    simp_arith [hp1, dnin_pl g1b, ev, Option.isSome_none]
    refine ⟨isLst_get g2', ?_⟩
    have hok : one ∈ hs.map (·.1) := hwk one (by simp)
    obtain ⟨x, ex⟩ := getA_some.mpr hok
    have i0b : ixM (M ++ [hM hs, .dT (encA D.int rs), .lst (w'.map pD)]) (wD W) (.int 0) = some (.lst (W.V.map pD)) := ix_tup0 _ _
    simp_arith [i0b]
    refine RE.ev.of (reason_in_l GR F g.vn (hnm one hok) g0b ex) ?_
    have hput := dput_pl g1a (by omega) one (reason W.V R hs one)
    have hput2 : putA rs one (reason W.V R hs one) = rs ++ [(one, reason W.V R hs one)] := put_new h1
    rw [hput2] at hput
    have hset2 : (M ++ [hM hs, .dT (encA D.int rs), .lst (w'.map pD)]).set (M.length + 1) (.dT (encA D.int (rs ++ [(one, reason W.V R hs one)]))) = M ++ [hM hs, .dT (encA D.int (rs ++ [(one, reason W.V R hs one)])), .lst (w'.map pD)] := mem_set _ _ 1 _
    rw [hset2] at hput
    generalize hrs : rs ++ [(one, reason W.V R hs one)] = rs2 at *
    have e2 : getA rs2 one = some (reason W.V R hs one) := by
      rw [← hrs, getA_app, ev, getA_cons]
      simp
    have k1 : DctAt (M ++ [hM hs, .dT (encA D.int rs2), .lst (w'.map pD)]) (M.length + 1) D.int rs2 := .inl (mem_get _ _ 1)
    have k2 : (M ++ [hM hs, .dT (encA D.int rs2), .lst (w'.map pD)])[M.length + 2]? = some (.lst (w'.map pD)) := mem_get _ _ 2
    simp_arith [hput, dix_pl k1 e2, eq_m1]
    have hset3 : ∀ l : List Pl, (M ++ [hM hs, .dT (encA D.int rs2), .lst (w'.map pD)]).set (M.length + 2) (.lst (w'.map pD ++ l.map pD)) = M ++ [hM hs, .dT (encA D.int rs2), .lst ((w' ++ l).map pD)] := fun l => by
      rw [List.map_append]
      exact mem_set _ _ 2 _
    have hwk2 : ∀ q ∈ w' ++ leans W.V R hs one, q ∈ hs.map (·.1) := fun q hq => by
      rcases List.mem_append.mp hq with hq | hq
      · exact hwk q (by simp [hq])
      · obtain ⟨b, eb, _⟩ := leans_low GR.c1 F ex hq
        exact getA_some.mp ⟨b, eb⟩
    by_cases hV : one ∈ W.V
    · obtain ⟨e3, e4⟩ := reason_v (R := R) (hs := hs) hV
      rw [e3, if_pos (decide_eq_true rfl)]
      refine ⟨_, k2, [], rfl, by simp; omega, n, Nat.lt_succ_self _, _, rs2, _, s7, rfl, ?_, h4, hwk2⟩
      have := hset3 (leans W.V R hs one)
      rw [e4] at this ⊢
      exact this
    · obtain ⟨r, hr, hq, er, _, e3, e4⟩ := reason_r F hV ex
      have hn1 : ¬ (reason W.V R hs one = -1) := by rw [e3]; omega
      rw [if_neg (by simpa using hn1)]
      rw [← hR] at hr
      obtain ⟨j, r', hj, rfl, _⟩ := lvF_mem hr
      have e5 : reason W.V R hs one = ((j : Nat) : Int) := by rw [e3]; simp
      have e6 : leans W.V R hs one = r'.ps := e4
      refine ⟨.lst (W.R.map rD), ix_tup1 _ _, rD r', ?_, .lst (r'.ps.map pD), ix_tup3 _ _, _, k2, r'.ps.map pD, rfl, ?_, n, Nat.lt_succ_self _, _, rs2, _, s7, rfl, ?_, h4, hwk2⟩
      · rw [e5, ix_lstN, List.getElem?_map, hj]
        rfl
      · rw [List.length_map, List.length_map, ← e6]; omega
      · rw [e6]
        exact hset3 r'.ps
end H

namespace H
open PySem PySem.Spec PyProof.Rows L2 Lf
local macro_rules | `(tactic| simp_arith [$xs,*]) => `(tactic| simp only [e_ok, e_ex, e_bad, e_var, e_c, e_op2, e_op1, e_nilA, e_consA, e_callV, e_callS, e_asT, e_notT, e_andT, e_orT, e_andV, e_orV, e_notV, e_ifE, e_tup, e_lst, e_new, e_ch, e_frz, e_newOf, e_mtd, e_m1, e_part, e_slice, e_dnewT, e_dnewK, e_dget1, e_dget2, e_addN, e_next, e_seq, e_ret, e_expr, e_if, e_set, e_asg, e_setItem, e_dput, e_augExt, e_iseq, e_istr, e_ikeys, e_iitems, e_ienum, e_izip, e_range1, List.getElem?_cons_zero, List.getElem?_cons_succ, List.set_cons_zero, List.set_cons_succ, List.map_cons, List.map_nil, List.length_cons, List.length_nil, List.replicate, List.append_nil, List.nil_append, List.cons_append, Option.some.injEq, D.bl.injEq, D.int.injEq, D.str.injEq, D.ref.injEq, D.lst.injEq, D.tup.injEq, exists_eq_left', exists_eq_left, if_true, if_false, Bool.false_eq_true, Bool.not_true, Bool.not_false, Nat.zero_add, Nat.reduceAdd, Nat.reduceSub, Nat.reduceLeDiff, true_and, and_true, Tg.set, Tg.sets, wipeD, $xs,*])
open Pm
/-! ### the paper shows -/
theorem ev_allE {α : Type} {X : XP} {Q : D → Mem → Prop} {σ : Sl} {M M1 : Mem} {l : List α} {e : α → D} {fl : SE} {t : Tg} {vs : List Nat} {f : SE} (hf : fl σ M = .ok (.lst (l.map e)) M1) (hl : l.length ≤ 16000000)
    (step : ∀ a ∈ l, ∃ σ1, Tg.set t (e a) (wipeD σ vs) = some σ1 ∧ (f σ1 M1).ev noX fun y M3 => y = .bl true ∧ M3 = M1) (k : ∀ d, allM M1 [d] = some (.bl true) → Q d M1) : (lcS (iseqS fl) t vs yesT f σ M).ev X Q :=
  ev_lcML (fun _ => .bl true) hf hl step (k _ (by
    have : l.map (fun _ => D.bl true) = (l.map e).map fun _ => D.bl true := by rw [List.map_map]; rfl
    rw [this]
    exact allM_t M1 (l.map e)))
theorem isi_l (M : Mem) (ds : List D) : isiM M [.lst ds, .ty "list"] = some (.bl true) := by simp [isiM, tyN, tyL]
theorem isi_int (M : Mem) (i : Int) : isiM M [.int i, .ty "int"] = some (.bl true) := by simp [isiM, tyN, tyL]
theorem isi_nb (M : Mem) (i : Int) : isiM M [.int i, .ty "bool"] = some (.bl false) := by simp [isiM, tyN, tyL]
theorem is_why_l {M : Mem} {paper : List (Pl × Int)} (hn : ∀ q ∈ paper, NameP q.1) (hl : paper.length ≤ 16000) : F_is_why [.lst (paper.map rowD)] M = .ok (.bl true) M := by
  refine RE.ev.eq (ev_fn rfl ?_)
  unfold b_is_why
  simp_arith [isi_l]
  refine ev_allE (l := paper) (e := rowD) rfl (by omega) (fun q hq => ⟨_, rfl, ?_⟩) fun d hd => ?_
  · have e1 : isiM M [rowD q, .ty "tuple"] = some (.bl true) := isi_t M _
    have e2 : lenM M [rowD q] = some (.int ((2 : Nat) : Int)) := len_t M _
    have e3 : eqM M (.int ((2 : Nat) : Int)) (.int 2) = some (.bl true) := rfl
    simp_arith [e1, e2, e3]
  simp_arith [hd]
  refine ev_allE (l := paper) (e := rowD) rfl (by omega) (fun q hq => ⟨_, rfl, ?_⟩) fun d hd => ?_
  · simp_arith [isi_int, isi_nb]
  simp_arith [hd]
  refine ev_allE (l := paper) (e := rowD) rfl (by omega) (fun q hq => ⟨_, rfl, ?_⟩) fun d hd => ?_
  · simp_arith []
    exact RE.ev.of (is_place_l (hn q hq)) ⟨rfl, rfl⟩
  simp_arith [hd]
  exact TR.pure rfl ⟨rfl, rfl⟩
theorem ne_lst (M : Mem) (ds : List D) : neM M (.lst ds) (.lst []) = some (.bl (!ds.isEmpty)) := by
  simp only [neM, eqB, eqNil, lstOf, Option.map_some]
theorem lv_same {E : List Pl} {rs : List RR} {a b : Rl Pl} (ha : a ∈ lvF E 0 rs) (hb : b ∈ lvF E 0 rs) (h : a.n = b.n) : a = b := by
  obtain ⟨i, r, e, rfl, _⟩ := lvF_mem ha
  obtain ⟨j, s, e2, rfl, _⟩ := lvF_mem hb
  have hij : i = j := by
    have : 0 + i = 0 + j := h
    omega
  subst hij
  rw [e] at e2
  cases e2
  rfl
theorem stands_l {M : Mem} {W : Wd} (g : GWd W) {i : Nat} {A : List (Pl × Bool)} (hA : DctAt M i D.bl A) {p : Pl} {v : Int} (hp : NameP p) (hs : Stands W.V (lvF W.E 0 W.R) (A.map (·.1)) p v) : F_stands [wD W, .lst ((lvF W.E 0 W.R).map lvD), .ref i, pD p, .int v] M = .ok (.bl true) M := by
  refine RE.ev.eq (ev_fn rfl ?_)
  unfold b_stands
  have i0 : ixM M (wD W) (.int 0) = some (.lst (W.V.map pD)) := ix_tup0 _ _
  simp_arith [eq_m1, i0, in_pl M hp g.vn]
  rcases hs with ⟨rfl, hv⟩ | ⟨hv, r, hr, hn, hq, hx⟩
  · rw [if_pos (decide_eq_true rfl), decide_eq_true hv]
    exact TR.pure rfl ⟨rfl, rfl⟩
  · rw [if_neg (by simpa using hv)]
    have G := glv g
    refine ev_lcEL (l := lvF W.E 0 W.R) (e := lvD) (fun x => decide (((x.n : Nat) : Int) = v) && decide (x.q = p)) lvD rfl (by have := G.l; omega) (fun x hx => ⟨_, rfl, ?_⟩) ?_
    · have j0 : ixM M (lvD x) (.int 0) = some (.int (x.n : Nat)) := ix_tup0 _ _
      have j1 : ixM M (lvD x) (.int 1) = some (pD x.q) := ix_tup1 _ _
      simp_arith [j0, j1, eq_i, eq_pl M (G.q x hx) hp]
      by_cases h1 : ((x.n : Nat) : Int) = v
      · rw [if_pos (decide_eq_true h1), decide_eq_true h1]
        simp
      · rw [if_neg (by simpa using h1), decide_eq_false h1]
        simp
    · have hmem : r ∈ (lvF W.E 0 W.R).filter fun x => decide (((x.n : Nat) : Int) = v) && decide (x.q = p) := List.mem_filter.mpr ⟨hr, by simp [hn, hq]⟩
      have h0 : ((lvF W.E 0 W.R).filter fun x => decide (((x.n : Nat) : Int) = v) && decide (x.q = p))[0]? = some r := by
        cases hf : (lvF W.E 0 W.R).filter fun x => decide (((x.n : Nat) : Int) = v) && decide (x.q = p) with
        | nil => rw [hf] at hmem; cases hmem
        | cons y l =>
          have hy : y ∈ (lvF W.E 0 W.R).filter fun x => decide (((x.n : Nat) : Int) = v) && decide (x.q = p) := by rw [hf]; exact List.mem_cons_self
          obtain ⟨hy1, hy2⟩ := List.mem_filter.mp hy
          simp only [Bool.and_eq_true, decide_eq_true_eq] at hy2
          have : y = r := lv_same hy1 hr (by omega)
          rw [this]; rfl
      generalize (lvF W.E 0 W.R).filter (fun x => decide (((x.n : Nat) : Int) = v) && decide (x.q = p)) = fl at h0
      have hne : (fl.map lvD).isEmpty = false := by
        cases fl with
        | nil => cases h0
        | cons a l => rfl
      have j2 : ixM M (.lst (fl.map lvD)) (.int 0) = some (lvD r) := by rw [ix_lst0, List.getElem?_map, h0]; rfl
      have j3 : ixM M (lvD r) (.int 3) = some (.lst (r.ps.map pD)) := ix_tup3 _ _
      simp_arith [ne_lst, hne]
      refine ev_allE (l := r.ps) (e := pD) (M1 := M) (by simp [j2, j3]) (by have := (G.ps r hr).2.1; omega) (fun x hx' => ⟨_, rfl, ?_⟩) fun d hd => ?_
      · obtain ⟨b, eb⟩ := getA_some.mpr (hx x hx')
        simp_arith [din_pl hA, eb, Option.isSome_some]
      simp_arith [hd]
      exact TR.pure rfl ⟨rfl, rfl⟩
theorem ix_last (M : Mem) (ds : List D) (h : ds ≠ []) : ixM M (.lst ds) (.int (-1)) = ds[ds.length - 1]? := by
  have hl : 0 < ds.length := List.length_pos_iff.mpr h
  simp only [ixM, seqOf, lstOf, Option.bind_some, atI, ixN]
  rw [if_neg (by omega), if_pos (by omega), Option.bind_some]
  congr 1
  omega
theorem why_shows_l {M : Mem} {W : Wd} (g : GWd W) {p : Pl} (hp : NameP p) {paper : List (Pl × Int)} (hn : ∀ q ∈ paper, NameP q.1) (hl : paper.length ≤ 16000)
    (hs : ∀ i a v, paper[i]? = some (a, v) → a ∉ (paper.take i).map (·.1) ∧ Stands W.V (lvF W.E 0 W.R) ((paper.take i).map (·.1)) a v) (he : ∃ v, paper[paper.length - 1]? = some (p, v)) :
    F_why_shows [wD W, pD p, .lst (paper.map rowD)] M = .ok (.bl true) M := by
  refine RE.ev.eq (ev_fn rfl ?_)
  unfold b_why_shows
  simp_arith []
  refine RE.ev.of (need_world_l g) ?_
  refine RE.ev.of (need_place_l hp) ?_
  refine RE.ev.of (is_why_l hn hl) ?_
  simp_arith []
  refine RE.ev.of (living_l g) ?_
  have i0 : ixM M (wD W) (.int 0) = some (.lst (W.V.map pD)) := ix_tup0 _ _
  generalize hR : (D.lst ((lvF W.E 0 W.R).map lvD)) = dR
  refine ev_forL (ds := paper.map rowD) rfl (fun n σ M1 => ∃ s5 s6, σ = [some (wD W), some (pD p), some (.lst (paper.map rowD)), some dR, some (.ref M.length), s5, s6] ∧ M1 = M ++ [.dT (encA D.bl ((paper.take n).map fun q => (q.1, true)))]) ⟨_, _, rfl, by simp [encA]⟩ ?_ ?_
  · rintro n x σ M1 hx ⟨s5, s6, rfl, rfl⟩
    obtain ⟨⟨a, v⟩, ha, rfl⟩ := getElem?_map' hx
    obtain ⟨h1, h2⟩ := hs n a v ha
    refine ⟨_, rfl, ?_⟩
    have hk : ((paper.take n).map fun q => (q.1, true)).map (·.1) = (paper.take n).map (·.1) := by rw [List.map_map]; rfl
    have gA : (M ++ [MO.dT (encA D.bl ((paper.take n).map fun q => (q.1, true)))])[M.length]? = some (.dT (encA D.bl ((paper.take n).map fun q => (q.1, true)))) := by simp
    have hA : DctAt (M ++ [MO.dT (encA D.bl ((paper.take n).map fun q => (q.1, true)))]) M.length D.bl ((paper.take n).map fun q => (q.1, true)) := .inl gA
    have ha2 : NameP a := hn (a, v) (List.mem_of_getElem? ha)
    have eg : getA ((paper.take n).map fun q => (q.1, true)) a = none := getA_none.mpr (by rw [hk]; exact h1)
    simp_arith [rowD, din_pl hA, eg, Option.isSome_none]
    refine RE.ev.of (by rw [← hR]; exact stands_l g hA ha2 (by rw [hk]; exact h2)) ⟨true, rfl, ?_⟩
    have hput := dput_pl gA (by simp; omega) a true
    rw [put_new (by rw [hk]; exact h1)] at hput
    simp_arith [hput]
    refine ⟨_, _, rfl, ?_⟩
    have htk : paper.take (n + 1) = paper.take n ++ [(a, v)] := by rw [List.take_succ, ha]; rfl
    rw [htk, List.map_append, List.set_append_right _ _ (Nat.le_refl _)]
    simp
  · rintro σ M1 ⟨s5, s6, rfl, rfl⟩
    obtain ⟨v, ev⟩ := he
    have hne : paper ≠ [] := fun z => by subst z; cases ev
    have hne2 : (paper.map rowD).isEmpty = false := by cases paper with
      | nil => exact absurd rfl hne
      | cons a l => rfl
    simp_arith [ne_lst, hne2]
    have hneg : ∀ M : Mem, negM M (.int 1) = some (.int (-1)) := fun _ => rfl
    have hlast : ∀ M : Mem, ixM M (.lst (paper.map rowD)) (.int (-1)) = some (rowD (p, v)) := fun M => by
      rw [ix_last M _ (by simpa using hne), List.length_map, List.getElem?_map, ev]
      rfl
    have j0 : ∀ M : Mem, ixM M (rowD (p, v)) (.int 0) = some (pD p) := fun M => ix_tup0 _ _
    simp_arith [hneg, hlast, j0, eq_pl _ hp hp]
    exact TR.back rfl ⟨by simp, rfl⟩
end H

namespace H
open PySem PySem.Spec PyProof.Rows L2 Lf
local macro_rules | `(tactic| simp_arith [$xs,*]) => `(tactic| simp only [e_ok, e_ex, e_bad, e_var, e_c, e_op2, e_op1, e_nilA, e_consA, e_callV, e_callS, e_asT, e_notT, e_andT, e_orT, e_andV, e_orV, e_notV, e_ifE, e_tup, e_lst, e_new, e_ch, e_frz, e_newOf, e_mtd, e_m1, e_part, e_slice, e_dnewT, e_dnewK, e_dget1, e_dget2, e_addN, e_next, e_seq, e_ret, e_expr, e_if, e_set, e_asg, e_setItem, e_dput, e_augExt, e_iseq, e_istr, e_ikeys, e_iitems, e_ienum, e_izip, e_range1, List.getElem?_cons_zero, List.getElem?_cons_succ, List.set_cons_zero, List.set_cons_succ, List.map_cons, List.map_nil, List.length_cons, List.length_nil, List.replicate, List.append_nil, List.nil_append, List.cons_append, Option.some.injEq, D.bl.injEq, D.int.injEq, D.str.injEq, D.ref.injEq, D.lst.injEq, D.tup.injEq, exists_eq_left', exists_eq_left, if_true, if_false, Bool.false_eq_true, Bool.not_true, Bool.not_false, Nat.zero_add, Nat.reduceAdd, Nat.reduceSub, Nat.reduceLeDiff, true_and, and_true, Tg.set, Tg.sets, wipeD, $xs,*])
open Pm
/-! ### the set -/
theorem fails_app (a b : List (Rl Pl)) (hs : Hs Pl) (p : Pl) : fails (a ++ b) hs p = fails a hs p ++ fails b hs p := by
  unfold fails
  rw [List.filter_append, List.filterMap_append]
theorem fails_len (a : List (Rl Pl)) (hs : Hs Pl) (p : Pl) : (fails a hs p).length ≤ a.length := by
  unfold fails
  exact Nat.le_trans (List.length_filterMap_le _ _) (List.length_filter_le _ _)
theorem toKD_pk (p : Pl) : toKD (pk p) = pD p := rfl
theorem sortT_at {β : Type} {M : Mem} {i : Nat} {e : β → D} {hs : List (Pl × β)} (h : M[i]? = some (.dT (encA e hs))) : sortTM M [.ref i] = some (.lst ((srt pD (hs.map (·.1))).map pD)) := by
  have e1 : ((encA e hs).map (·.1)).map toKD = (hs.map (·.1)).map pD := by
    unfold encA
    rw [List.map_map, List.map_map, List.map_map]
    rfl
  simp only [sortTM, h, e1, sort_pl, if_true, sortD_map]
theorem why_not_l {M : Mem} {W : Wd} (g : GWd W) {n : Nat} {hs : Hs Pl} (hrun : Runs (lvF W.E 0 W.R) n (Pm.start W.V) hs) (F : Fin W.V (lvF W.E 0 W.R) hs) {p : Pl} (hp : NameP p) (hb : getA hs p = none)
    {m : Nat} {fin : List (Pl × Bool)} (hw : WRuns (fun _ => true) (fails (lvF W.E 0 W.R) hs) 16000 m [p] [] fin) :
    F_why_not [wD W, pD p] M = .ok (.lst ((srt pD (fin.map (·.1))).map pD)) M := by
  refine RE.ev.eq (ev_fn rfl ?_)
  unfold b_why_not
  simp_arith []
  refine RE.ev.of (need_world_l g) ?_
  refine RE.ev.of (need_place_l hp) ?_
  refine RE.ev.of (living_l g) ?_
  have i0 : ixM M (wD W) (.int 0) = some (.lst (W.V.map pD)) := ix_tup0 _ _
  simp_arith [i0]
  refine RE.ev.of (least_of_l (glv g) g.vd g.vl hrun) ?_
  have hA := heights_at M hs
  simp_arith [din_pl hA, hb, Option.isSome_none]
  have hmem : M ++ [hM hs] ++ [MO.dT []] ++ [MO.lst [pD p]] = M ++ [hM hs, .dT [], .lst [pD p]] := by simp
  rw [hmem]
  have hl1 : (M ++ [hM hs]).length = M.length + 1 := by simp
  have hl2 : (M ++ [hM hs] ++ [MO.dT []]).length = M.length + 2 := by simp
  rw [hl1, hl2]
  generalize hR : lvF W.E 0 W.R = R at *
  have GR : GLv R := hR ▸ glv g
  refine ev_while (· < ·) Nat.lt_wfRel.wf (fun m σ M1 => ∃ w rs s6 s7 s8, σ = [some (wD W), some (pD p), some (.lst (R.map lvD)), some (.ref M.length), some (.ref (M.length + 1)), some (.ref (M.length + 2)), s6, s7, s8] ∧ M1 = M ++ [hM hs, .dT (encA D.bl rs), .lst (w.map pD)] ∧ WRuns (fun _ => true) (fails R hs) 16000 m w rs fin ∧ (∀ q ∈ w, getA hs q = none ∧ NameP q)) ?_ m _ _ ⟨[p], [], _, _, _, rfl, rfl, hw, by simpa using ⟨hb, hp⟩⟩
  rintro m σ M1 ⟨w, rs, s6, s7, s8, rfl, rfl, hrw, hwk⟩
  have g1 : (M ++ [hM hs, .dT (encA D.bl rs), .lst (w.map pD)])[M.length + 1]? = some (.dT (encA D.bl rs)) := mem_get _ _ 1
  have g2 : (M ++ [hM hs, .dT (encA D.bl rs), .lst (w.map pD)])[M.length + 2]? = some (.lst (w.map pD)) := mem_get _ _ 2
  simp_arith [ne_nil _ g2]
  cases hrw with
  | stop =>
    have gS : (M ++ [hM hs, .dT (encA D.bl fin), .lst []])[M.length + 1]? = some (.dT (encA D.bl fin)) := mem_get _ _ 1
    simp_arith [List.isEmpty_nil, sortT_at gS]
    exact TR.back (by simp only [D.lo]; exact lo_pDs _ _) ⟨rfl, rfl⟩
  | @seen n w' one rs' fin' h1 h2 =>
    have hne : (!((w' ++ [one]).map pD).isEmpty) = true := by simp
    rw [if_pos hne]
    have g2' : (M ++ [hM hs, .dT (encA D.bl rs), .lst ((w' ++ [one]).map pD)])[M.length + 2]? = some (.lst (w'.map pD ++ [pD one])) := by rw [g2]; simp
    have hp1 := pop_at g2'
    obtain ⟨v, ev⟩ := getA_some.mpr h1
    have hset : (M ++ [hM hs, .dT (encA D.bl rs), .lst ((w' ++ [one]).map pD)]).set (M.length + 2) (.lst (w'.map pD)) = M ++ [hM hs, .dT (encA D.bl rs), .lst (w'.map pD)] := mem_set _ _ 2 _
    rw [hset] at hp1
    have g1b : DctAt (M ++ [hM hs, .dT (encA D.bl rs), .lst (w'.map pD)]) (M.length + 1) D.bl rs := .inl (mem_get _ _ 1)
    simp_arith [hp1, dnin_pl g1b, ev, Option.isSome_some]
    exact ⟨isLst_get g2', n, Nat.lt_succ_self _, w', rs, _, _, _, rfl, rfl, h2, fun q hq => hwk q (by simp [hq])⟩
  | @new n w' one rs' fin' h1 h2 h3 h4 =>
    have hne : (!((w' ++ [one]).map pD).isEmpty) = true := by simp
    rw [if_pos hne]
    have g2' : (M ++ [hM hs, .dT (encA D.bl rs), .lst ((w' ++ [one]).map pD)])[M.length + 2]? = some (.lst (w'.map pD ++ [pD one])) := by rw [g2]; simp
    have hp1 := pop_at g2'
    have ev : getA rs one = none := getA_none.mpr h1
    have hset : (M ++ [hM hs, .dT (encA D.bl rs), .lst ((w' ++ [one]).map pD)]).set (M.length + 2) (.lst (w'.map pD)) = M ++ [hM hs, .dT (encA D.bl rs), .lst (w'.map pD)] := mem_set _ _ 2 _
    rw [hset] at hp1
    have g1a : (M ++ [hM hs, .dT (encA D.bl rs), .lst (w'.map pD)])[M.length + 1]? = some (.dT (encA D.bl rs)) := mem_get _ _ 1
    have g1b : DctAt (M ++ [hM hs, .dT (encA D.bl rs), .lst (w'.map pD)]) (M.length + 1) D.bl rs := .inl g1a
    have hput := dput_pl g1a (by omega) one true
    rw [put_new h1] at hput
    have hset2 : (M ++ [hM hs, .dT (encA D.bl rs), .lst (w'.map pD)]).set (M.length + 1) (.dT (encA D.bl (rs ++ [(one, true)]))) = M ++ [hM hs, .dT (encA D.bl (rs ++ [(one, true)])), .lst (w'.map pD)] := mem_set _ _ 1 _
    rw [hset2] at hput
    simp_arith [hp1, dnin_pl g1b, ev, Option.isSome_none, hput]
    refine ⟨isLst_get g2', ?_⟩
    obtain ⟨ho1, ho2⟩ := hwk one (by simp)
    refine ev_forL (ds := R.map lvD) rfl (fun k σ M2 => ∃ s7 s8, σ = [some (wD W), some (pD p), some (.lst (R.map lvD)), some (.ref M.length), some (.ref (M.length + 1)), some (.ref (M.length + 2)), some (pD one), s7, s8] ∧ M2 = M ++ [hM hs, .dT (encA D.bl (rs ++ [(one, true)])), .lst ((w' ++ fails (R.take k) hs one).map pD)]) ⟨_, _, rfl, by simp [fails]⟩ ?_ ?_
    · rintro k x σ M2 hx ⟨s7, s8, rfl, rfl⟩
      obtain ⟨r, hr', rfl⟩ := getElem?_map' hx
      have hr := List.mem_of_getElem? hr'
      refine ⟨_, rfl, ?_⟩
      have htk : R.take (k + 1) = R.take k ++ [r] := by rw [List.take_succ, hr']; rfl
      have hfk := fails_app (R.take k) [r] hs one
      rw [← htk] at hfk
      have hlen := fails_len (R.take k) hs one
      have hlen2 : (R.take k).length ≤ 60 := by have := GR.l; rw [List.length_take]; omega
      have kg2 : (M ++ [hM hs, .dT (encA D.bl (rs ++ [(one, true)])), .lst ((w' ++ fails (R.take k) hs one).map pD)])[M.length + 2]? = some (.lst ((w' ++ fails (R.take k) hs one).map pD)) := mem_get _ _ 2
      have hset3 : ∀ x : Pl, (M ++ [hM hs, .dT (encA D.bl (rs ++ [(one, true)])), .lst ((w' ++ fails (R.take k) hs one).map pD)]).set (M.length + 2) (.lst ((w' ++ fails (R.take k) hs one).map pD ++ [pD x])) = M ++ [hM hs, .dT (encA D.bl (rs ++ [(one, true)])), .lst ((w' ++ (fails (R.take k) hs one ++ [x])).map pD)] := fun x => by
        have : (w' ++ (fails (R.take k) hs one ++ [x])).map pD = (w' ++ fails (R.take k) hs one).map pD ++ [pD x] := by simp
        rw [this]
        exact mem_set _ _ 2 _
      have kA : HAt (M ++ [hM hs, .dT (encA D.bl (rs ++ [(one, true)])), .lst ((w' ++ fails (R.take k) hs one).map pD)]) M.length hs := .inl (by simp [hM])
      have happ : ∀ x : Pl, appendM (M ++ [hM hs, .dT (encA D.bl (rs ++ [(one, true)])), .lst ((w' ++ fails (R.take k) hs one).map pD)]) (.ref (M.length + 2)) [pD x] = some (.non, M ++ [hM hs, .dT (encA D.bl (rs ++ [(one, true)])), .lst ((w' ++ (fails (R.take k) hs one ++ [x])).map pD)]) := fun x => by
        simp only [appendM, kg2]
        rw [if_pos (by simp; omega), hset3]
      generalize hM2 : M ++ [hM hs, .dT (encA D.bl (rs ++ [(one, true)])), .lst ((w' ++ fails (R.take k) hs one).map pD)] = M2 at *
      have j1 : ixM M2 (lvD r) (.int 1) = some (pD r.q) := ix_tup1 _ _
      have j3 : ixM M2 (lvD r) (.int 3) = some (.lst (r.ps.map pD)) := ix_tup3 _ _
      simp_arith [j1, eq_pl M2 (GR.q r hr) ho2]
      by_cases hq : r.q = one
      · rw [if_pos (decide_eq_true hq)]
        refine ⟨isLst_get kg2, ?_⟩
        obtain ⟨x, hx1, hx2, hx3, _⟩ := fails_ok F ho1 hr hq
        refine ev_lcEL (l := r.ps) (e := pD) (fun x => decide (getH hs x = none)) pD (M1 := M2) (by simp [j3]) (by have := (GR.ps r hr).2.1; omega) (fun y hy => ⟨_, rfl, ?_⟩) ?_
        · simp_arith [dnin_pl kA]
          refine ⟨?_, fun _ => trivial⟩
          show _ = decide (getA hs y = none)
          cases getA hs y <;> rfl
        · have e0 : ixM M2 (.lst ((r.ps.filter fun x => decide (getH hs x = none)).map pD)) (.int 0) = some (pD x) := by
            rw [ix_lst0, List.getElem?_map, ← List.head?_eq_getElem?, List.head?_filter, hx3]
            rfl
          simp_arith [e0, happ]
          have e4 : fails [r] hs one = [x] := by
            unfold fails
            simp [hq, hx3]
          rw [e4] at hfk
          exact ⟨_, _, rfl, by rw [hfk]⟩
      · rw [if_neg (by simpa using hq)]
        have e4 : fails [r] hs one = [] := by
          unfold fails
          simp [hq]
        rw [e4, List.append_nil] at hfk
        exact ⟨_, _, rfl, by rw [hfk]; exact hM2.symm⟩
    · rintro σ M2 ⟨s7, s8, rfl, rfl⟩
      rw [List.length_map, List.take_length]
      refine ⟨n, Nat.lt_succ_self _, _, _, _, _, _, rfl, rfl, h4, fun q hq => ?_⟩
      rcases List.mem_append.mp hq with hq | hq
      · exact hwk q (by simp [hq])
      · obtain ⟨h5, r, hr, h6⟩ := fails_mem hq
        exact ⟨h5, (GR.ps r hr).2.2.2 q h6⟩
end H

namespace H
open PySem PySem.Spec PyProof.Rows L2 Lf
local macro_rules | `(tactic| simp_arith [$xs,*]) => `(tactic| simp only [e_ok, e_ex, e_bad, e_var, e_c, e_op2, e_op1, e_nilA, e_consA, e_callV, e_callS, e_asT, e_notT, e_andT, e_orT, e_andV, e_orV, e_notV, e_ifE, e_tup, e_lst, e_new, e_ch, e_frz, e_newOf, e_mtd, e_m1, e_part, e_slice, e_dnewT, e_dnewK, e_dget1, e_dget2, e_addN, e_next, e_seq, e_ret, e_expr, e_if, e_set, e_asg, e_setItem, e_dput, e_augExt, e_iseq, e_istr, e_ikeys, e_iitems, e_ienum, e_izip, e_range1, List.getElem?_cons_zero, List.getElem?_cons_succ, List.set_cons_zero, List.set_cons_succ, List.map_cons, List.map_nil, List.length_cons, List.length_nil, List.replicate, List.append_nil, List.nil_append, List.cons_append, Option.some.injEq, D.bl.injEq, D.int.injEq, D.str.injEq, D.ref.injEq, D.lst.injEq, D.tup.injEq, exists_eq_left', exists_eq_left, if_true, if_false, Bool.false_eq_true, Bool.not_true, Bool.not_false, Nat.zero_add, Nat.reduceAdd, Nat.reduceSub, Nat.reduceLeDiff, true_and, and_true, Tg.set, Tg.sets, wipeD, $xs,*])
open Pm
/-! ### that set shows -/
theorem str_tri (a b : Str) : a.cps.toList < b.cps.toList ∨ a = b ∨ b.cps.toList < a.cps.toList := by
  rcases Decidable.em (a.cps.toList < b.cps.toList) with h | h
  · exact .inl h
  · rcases Decidable.em (b.cps.toList < a.cps.toList) with k | k
    · exact .inr (.inr k)
    · have h1 : b.cps.toList ≤ a.cps.toList := List.not_lt.mp h
      have h2 : a.cps.toList ≤ b.cps.toList := List.not_lt.mp k
      exact .inr (.inl (PySem.W.str_of_cps (List.le_antisymm h2 h1)))
theorem lt_pl (a b : Pl) : PySem.W.dataLt (pyPl a) (pyPl b) = if a.1 = b.1 then (if a.2 = b.2 then false else decide (a.2.cps.toList < b.2.cps.toList)) else decide (a.1.cps.toList < b.1.cps.toList) := by
  unfold pyPl
  rw [PySem.W.dataLt_pair (by rfl) (by rfl), PySem.W.dataLt_str, PySem.W.dataLt_str]
  simp only [PyData.eqv, beq_iff_eq]
theorem srt_pl {l : List Pl} (nd : l.Nodup) : (srt pD l).Pairwise fun a b => PySem.W.dataLt (pyPl a) (pyPl b) = true := by
  have h1 := srt_pw pD l
  have h2 : (srt pD l).Nodup := (srt_perm pD l).nodup_iff.mpr nd
  refine (h1.and h2).imp fun {a b} ⟨h, hne⟩ => ?_
  rw [pyOf_pl, pyOf_pl, lt_pl] at h
  rw [lt_pl]
  by_cases e1 : a.1 = b.1
  · rw [if_pos e1.symm] at h
    rw [if_pos e1]
    have e2 : a.2 ≠ b.2 := fun z => hne (Prod.ext e1 z)
    rw [if_neg (fun z => e2 z.symm)] at h
    rw [if_neg e2]
    simp only [decide_eq_false_iff_not] at h
    rcases str_tri a.2 b.2 with q | q | q
    · exact decide_eq_true q
    · exact absurd q e2
    · exact absurd q h
  · rw [if_neg (fun z => e1 z.symm)] at h
    rw [if_neg e1]
    simp only [decide_eq_false_iff_not] at h
    rcases str_tri a.1 b.1 with q | q | q
    · exact decide_eq_true q
    · exact absurd q e1
    · exact absurd q h
theorem ltD_pl (M : Mem) (a b : Pl) : ltDM M (pD a) (pD b) = some (.bl (PySem.W.dataLt (pyPl a) (pyPl b))) := by
  simp only [ltDM, py_pD, alike_pl]
  rw [if_pos ⟨trivial, rfl, by simp [pyPl, PyData.depth, PyData.depthAll]⟩]
theorem pairUp_map (e : Pl → D) : ∀ xs ys : List Pl, pairUp (xs.map e) (ys.map e) = (xs.zip ys).map fun q => .tup [e q.1, e q.2]
  | [], ys => by simp [pairUp]
  | x :: xs, [] => by simp [pairUp]
  | x :: xs, y :: ys => by simp [pairUp, pairUp_map e xs ys]
theorem why_not_shows_l {M : Mem} {W : Wd} (g : GWd W) {p : Pl} (hp : NameP p) {l : List Pl} (hn : ∀ q ∈ l, NameP q) (hl : l.length ≤ 16000) (hpl : p ∈ l) (hs : l.Pairwise fun a b => PySem.W.dataLt (pyPl a) (pyPl b) = true)
    (hv : ∀ q ∈ l, q ∉ W.V) (hr : ∀ r ∈ lvF W.E 0 W.R, r.q ∈ l → ∃ x ∈ r.ps, x ∈ l) : F_why_not_shows [wD W, pD p, .lst (l.map pD)] M = .ok (.bl true) M := by
  refine RE.ev.eq (ev_fn rfl ?_)
  unfold b_why_not_shows
  have G := glv g
  simp_arith []
  refine RE.ev.of (need_world_l g) ?_
  refine RE.ev.of (need_place_l hp) ?_
  simp_arith [isi_l]
  refine ev_allE (l := l) (e := pD) rfl (by omega) (fun q hq => ⟨_, rfl, ?_⟩) fun d hd => ?_
  · simp_arith []
    exact RE.ev.of (is_place_l (hn q hq)) ⟨rfl, rfl⟩
  have e1 := nin_pl M hp hn
  rw [decide_eq_true hpl] at e1
  simp_arith [hd, e1]
  have hz : izipS (consA (varS 2) (consA (sliceS (varS 2) (partS (cS (.int 1))) (fun _ M => .ok none M)) nilA)) [some (wD W), some (pD p), some (.lst (l.map pD)), none, none, none, none] M = .ok ⟨(l.zip (l.drop 1)).map fun q => .tup [pD q.1, pD q.2], fun M' => lstOf M' (.lst (l.map pD)) = some (l.map pD) ∧ lstOf M' (.lst ((l.drop 1).map pD)) = some ((l.drop 1).map pD)⟩ M := by
    refine RE.ev.eq ?_
    have e2 : slM M (.lst (l.map pD)) (some 1) none = some (.lst ((l.drop 1).map pD)) := by
      have := cut_from (l.map pD) 1
      simp only [slM, lstOf, Option.map_some]
      rw [show (some (1 : Int)) = some ((1 : Nat) : Int) from rfl, this, List.map_drop]
    simp_arith [e2]
    refine ⟨_, rfl, _, rfl, ?_⟩
    rw [pairUp_map]
  refine ev_lcM (l := l.zip (l.drop 1)) (e := fun q => .tup [pD q.1, pD q.2]) (fun _ => .bl true) hz rfl ⟨rfl, rfl⟩ (by rw [List.length_zip]; omega) (fun q hq => ⟨_, rfl, ?_⟩) ?_
  · have hlt : PySem.W.dataLt (pyPl q.1) (pyPl q.2) = true := by
      obtain ⟨i, hi, ei⟩ := List.getElem_of_mem hq
      rw [List.getElem_zip] at ei
      rw [← ei]
      rw [List.length_zip] at hi
      have := List.pairwise_iff_getElem.mp hs i (i + 1) (by omega) (by simp at hi; omega) (by omega)
      simp only [List.getElem_drop]
      have e3 : 1 + i = i + 1 := by omega
      simp only [e3]
      exact this
    simp_arith [ltD_pl, hlt]
  have e4 : (l.zip (l.drop 1)).map (fun _ => D.bl true) = ((l.zip (l.drop 1)).map fun q => D.tup [pD q.1, pD q.2]).map fun _ => .bl true := by rw [List.map_map]; rfl
  rw [e4]
  simp_arith [allM_t]
  have i0 : ixM M (wD W) (.int 0) = some (.lst (W.V.map pD)) := ix_tup0 _ _
  refine ev_allE (l := l) (e := pD) rfl (by omega) (fun q hq => ⟨_, rfl, ?_⟩) fun d hd => ?_
  · simp_arith [i0, nin_pl M (hn q hq) g.vn]
    simpa using hv q hq
  simp_arith [hd]
  refine ev_lcEL (l := lvF W.E 0 W.R) (e := lvD) (fun r => decide (r.q ∈ l)) lvD (M1 := M) (by simp [living_l g]) (by have := G.l; omega) (fun r hr' => ⟨_, rfl, ?_⟩) ?_
  · have j1 : ixM M (lvD r) (.int 1) = some (pD r.q) := ix_tup1 _ _
    simp_arith [j1, in_pl M (G.q r hr') hn]
    simp
  refine ev_allE (l := (lvF W.E 0 W.R).filter fun r => decide (r.q ∈ l)) (e := lvD) rfl (by have := G.l; have := List.length_filter_le (fun r : Rl Pl => decide (r.q ∈ l)) (lvF W.E 0 W.R); omega) (fun r hr' => ⟨_, rfl, ?_⟩) fun d hd => ?_
  · obtain ⟨h1, h2⟩ := List.mem_filter.mp hr'
    have j3 : ixM M (lvD r) (.int 3) = some (.lst (r.ps.map pD)) := ix_tup3 _ _
    simp_arith []
    refine ev_lcEL (l := r.ps) (e := pD) (fun x => decide (x ∈ l)) pD (M1 := M) (by simp [j3]) (by have := (G.ps r h1).2.1; omega) (fun x hx => ⟨_, rfl, ?_⟩) ?_
    · simp_arith [in_pl M ((G.ps r h1).2.2.2 x hx) hn]
      simp
    · obtain ⟨x, hx1, hx2⟩ := hr r h1 (by simpa using h2)
      have hne : ((r.ps.filter fun x => decide (x ∈ l)).map pD).isEmpty = false := by
        have : x ∈ r.ps.filter fun x => decide (x ∈ l) := List.mem_filter.mpr ⟨hx1, decide_eq_true hx2⟩
        cases hf : r.ps.filter fun x => decide (x ∈ l) with
        | nil => rw [hf] at this; cases this
        | cons a b => rfl
      simp_arith [ne_lst, hne]
  simp_arith [hd]
  exact TR.pure rfl ⟨rfl, rfl⟩
end H

namespace H
open PySem PySem.Spec PyProof.Rows L2 Lf
local macro_rules | `(tactic| simp_arith [$xs,*]) => `(tactic| simp only [e_ok, e_ex, e_bad, e_var, e_c, e_op2, e_op1, e_nilA, e_consA, e_callV, e_callS, e_asT, e_notT, e_andT, e_orT, e_andV, e_orV, e_notV, e_ifE, e_tup, e_lst, e_new, e_ch, e_frz, e_newOf, e_mtd, e_m1, e_part, e_slice, e_dnewT, e_dnewK, e_dget1, e_dget2, e_addN, e_next, e_seq, e_ret, e_expr, e_if, e_set, e_asg, e_setItem, e_dput, e_augExt, e_iseq, e_istr, e_ikeys, e_iitems, e_ienum, e_izip, e_range1, List.getElem?_cons_zero, List.getElem?_cons_succ, List.set_cons_zero, List.set_cons_succ, List.map_cons, List.map_nil, List.length_cons, List.length_nil, List.replicate, List.append_nil, List.nil_append, List.cons_append, Option.some.injEq, D.bl.injEq, D.int.injEq, D.str.injEq, D.ref.injEq, D.lst.injEq, D.tup.injEq, exists_eq_left', exists_eq_left, if_true, if_false, Bool.false_eq_true, Bool.not_true, Bool.not_false, Nat.zero_add, Nat.reduceAdd, Nat.reduceSub, Nat.reduceLeDiff, true_and, and_true, Tg.set, Tg.sets, wipeD, $xs,*])
open Pm
/-! ### what goes -/
def aloneL (hs hs2 : Hs Pl) : List Pl := (hs.filter fun q => decide (getH hs2 q.1 = none)).map (·.1)
def lessB (hs2 : Hs Pl) (q : Pl × Nat) : Bool := match getH hs2 q.1 with
  | some x => decide (q.2 < x)
  | none => false
def lesserL (hs hs2 : Hs Pl) : List Pl := (hs.filter (lessB hs2)).map (·.1)
def moreD (hs hs2 : Hs Pl) : D := .tup [.lst ((srt pD (aloneL hs hs2)).map pD), .lst ((srt pD (lesserL hs hs2)).map pD)]
theorem iitems_at {β : Type} {σ : Sl} {M : Mem} {i : Nat} {e : β → D} {hs : List (Pl × β)} {f : SE} (hf : f σ M = .ok (.ref i) M) (h : M[i]? = some (.lk (.dT (encA e hs)))) : iitemsS f σ M = .ok ⟨hs.map fun kv => .tup [pD kv.1, e kv.2], fun M' => itemsDM M' (.ref i) = some (hs.map fun kv => .tup [pD kv.1, e kv.2])⟩ M := by
  have e1 : itemsDM M (.ref i) = some (hs.map fun kv => .tup [pD kv.1, e kv.2]) := by
    simp only [itemsDM, h, encA, List.map_map]
    rfl
  unfold iitemsS
  rw [hf]
  simp only [RE.bind_ok, e1]
theorem more_of_l {M : Mem} {i j : Nat} {hs hs2 : Hs Pl} (hij : i ≠ j) (h1 : M[i]? = some (hM hs)) (h2 : M[j]? = some (hM hs2)) (hl : hs.length ≤ 16000) (nd : (hs.map (·.1)).Nodup) : F_more_of [.ref i, .ref j] M = .ok (moreD hs hs2) M := by
  refine RE.ev.eq (ev_fn rfl ?_)
  unfold b_more_of
  obtain ⟨l1, l2⟩ := lk_enc h1
  have hi := (List.getElem?_eq_some_iff.mp h1).1
  have g1k : (M.set i (.lk (.dT (encA natD hs))))[i]? = some (.lk (.dT (encA natD hs))) := List.getElem?_set_self hi
  have g2k : HAt (M.set i (.lk (.dT (encA natD hs)))) j hs2 := .inl (by rw [List.getElem?_set_ne hij]; exact h2)
  simp_arith []
  have hlo : ∀ l : List Pl, loA M.length (l.map pD) = true := lo_pDs _
  generalize hMk : M.set i (.lk (.dT (encA natD hs))) = Mk at *
  refine ev_lockE rfl l1 ?_
  refine ev_lcE (l := hs) (e := fun kv => pD kv.1) (fun q => decide (getH hs2 q.1 = none)) (fun q => pD q.1) (ikeys_at rfl g1k) rfl (keys_enc g1k) (by omega) (fun q hq => ⟨_, rfl, ?_⟩) ?_
  · simp_arith [dnin_pl g2k]
    refine ⟨?_, fun _ => trivial⟩
    show _ = decide (getA hs2 q.1 = none)
    cases getA hs2 q.1 <;> rfl
  have e1 : (hs.filter fun q => decide (getH hs2 q.1 = none)).map (fun q => pD q.1) = (aloneL hs hs2).map pD := by
    unfold aloneL
    rw [List.map_map]
    rfl
  rw [e1]
  refine ⟨M, l2, ?_⟩
  simp_arith [sort_at M (sort_pl _)]
  refine ev_lockE rfl l1 ?_
  refine ev_lcE (l := hs) (e := fun kv => .tup [pD kv.1, natD kv.2]) (lessB hs2) (fun q => pD q.1) (iitems_at rfl g1k) rfl (by
    have := iitems_at (σ := []) (f := cS (.ref i)) rfl g1k
    simp only [itemsDM, g1k, encA, List.map_map]
    rfl) (by omega) (fun q hq => ⟨_, rfl, ?_⟩) ?_
  · simp_arith [din_pl g2k]
    unfold lessB
    cases eg : getA hs2 q.1 with
    | none =>
      have eg' : getH hs2 q.1 = none := eg
      simp_arith [Option.isSome_none, eg']
      simp
    | some x =>
      have eg' : getH hs2 q.1 = some x := eg
      have e3 := dix_pl g2k eg
      have e4 : ltM Mk (natD q.2) (natD x) = some (.bl (decide (q.2 < x))) := nat_lt_i _ q.2 x
      simp_arith [Option.isSome_some, e3, e4, eg']
      simp
  have e2 : (hs.filter (lessB hs2)).map (fun q => pD q.1) = (lesserL hs hs2).map pD := by
    unfold lesserL
    rw [List.map_map]
    rfl
  rw [e2]
  refine ⟨M, l2, ?_⟩
  simp_arith [sort_at M (sort_pl _)]
  exact TR.pure (by simp [D.lo, loA, hlo]) ⟨rfl, rfl⟩
theorem falls_l {M : Mem} {W : Wd} (g : GWd W) {ps : List Pl} (hn : ∀ p ∈ ps, NameP p) (nd : ps.Nodup) (hl : ps.length ≤ 60) (hv : ∀ p ∈ ps, p ∈ W.V) {n n2 : Nat} {hs hs2 : Hs Pl} (hrun : Runs (lvF W.E 0 W.R) n (Pm.start W.V) hs) (F : Fin W.V (lvF W.E 0 W.R) hs)
    (hrun2 : Runs (lvF W.E 0 W.R) n2 (Pm.start (W.V.filter fun p => decide (p ∉ ps))) hs2) : F_falls [wD W, .lst (ps.map pD)] M = .ok (moreD hs hs2) M := by
  refine RE.ev.eq (ev_fn rfl ?_)
  unfold b_falls
  have G := glv g
  simp_arith []
  refine RE.ev.of (need_world_l g) ?_
  refine RE.ev.of (are_places_l hn nd hl) ?_
  have i0 : ∀ M : Mem, ixM M (wD W) (.int 0) = some (.lst (W.V.map pD)) := fun M => ix_tup0 _ _
  simp_arith []
  refine ev_allE (l := ps) (e := pD) rfl (by omega) (fun q hq => ⟨_, rfl, ?_⟩) fun d hd => ?_
  · simp_arith [i0, in_pl M (hn q hq) g.vn]
    simpa using hv q hq
  simp_arith [hd]
  refine RE.ev.of (living_l g) ?_
  refine ev_lcEL (l := W.V) (e := pD) (fun p => decide (p ∉ ps)) pD (M1 := M) (by simp [i0]) (by have := g.vl; omega) (fun x hx => ⟨_, rfl, ?_⟩) ?_
  · simp_arith [nin_pl M (g.vn x hx) hn]
    simp
  simp_arith [i0]
  refine RE.ev.of (least_of_l G g.vd g.vl hrun) ?_
  refine RE.ev.of (least_of_l G ((List.filter_sublist).nodup g.vd) (by have := g.vl; have := List.length_filter_le (fun p => decide (p ∉ ps)) W.V; omega) hrun2) ?_
  have hm : M ++ [hM hs] ++ [hM hs2] = M ++ [hM hs, hM hs2] := by simp
  have hl1 : (M ++ [hM hs]).length = M.length + 1 := by simp
  rw [hm, hl1]
  refine RE.ev.of (more_of_l (by omega) (by simp) (mem_get _ _ 1) (by have := inv_len F.toInv; have := g.vl; have := G.l; omega) F.nd) ?_
  exact TR.back (by simp [moreD, D.lo, loA, lo_pDs]) ⟨rfl, rfl⟩
/-! ### the named places -/
def addK (ks : List Pl) (p : Pl) : List Pl := if p ∈ ks then ks else ks ++ [p]
def addR (ks : List Pl) (r : RR) : List Pl := (r.q :: r.ps).foldl addK ks
def namedK (W : Wd) : List Pl := W.R.foldl addR W.V
def trues (ks : List Pl) : List (Pl × Bool) := ks.map fun p => (p, true)
theorem trues_keys (ks : List Pl) : (trues ks).map (·.1) = ks := by
  unfold trues
  rw [List.map_map]
  have e : ((fun x : Pl × Bool => x.1) ∘ fun p : Pl => (p, true)) = id := rfl
  rw [e, List.map_id]
theorem put_true (ks : List Pl) (p : Pl) : putA (trues ks) p true = trues (addK ks p) := by
  unfold addK
  by_cases h : p ∈ ks
  · rw [if_pos h]
    unfold putA
    rw [any_key, trues_keys, if_pos (by simpa using h)]
    unfold trues
    rw [List.map_map]
    congr 1
    funext x
    simp only [Function.comp]
    split <;> rfl
  · rw [if_neg h, put_new (by rw [trues_keys]; exact h)]
    simp [trues]
theorem addK_mem {ks : List Pl} {p x : Pl} : x ∈ addK ks p ↔ x ∈ ks ∨ x = p := by
  unfold addK
  split
  · rename_i h
    exact ⟨.inl, fun z => z.elim id fun e => e ▸ h⟩
  · simp
theorem addK_nodup {ks : List Pl} {p : Pl} (nd : ks.Nodup) : (addK ks p).Nodup := by
  unfold addK
  split
  · exact nd
  · rename_i h
    rw [List.nodup_append]
    refine ⟨nd, by simp, fun a ha b hb => ?_⟩
    simp at hb
    subst hb
    exact fun z => h (z ▸ ha)
theorem addK_len (ks : List Pl) (p : Pl) : (addK ks p).length ≤ ks.length + 1 := by unfold addK; split <;> simp
theorem foldK : ∀ (l ks : List Pl), (∀ x, x ∈ l.foldl addK ks ↔ x ∈ ks ∨ x ∈ l) ∧ (ks.Nodup → (l.foldl addK ks).Nodup) ∧ (l.foldl addK ks).length ≤ ks.length + l.length
  | [], ks => ⟨fun x => by simp, fun h => h, by simp⟩
  | p :: l, ks => by
    obtain ⟨h1, h2, h3⟩ := foldK l (addK ks p)
    rw [List.foldl_cons]
    refine ⟨fun x => ?_, fun nd => h2 (addK_nodup nd), ?_⟩
    · rw [h1, addK_mem, List.mem_cons, or_assoc]
    · have := addK_len ks p
      simp
      omega
theorem foldR : ∀ (l : List RR) (ks : List Pl), (∀ r ∈ l, r.ps.length ≤ 8) → (∀ x, x ∈ l.foldl addR ks ↔ x ∈ ks ∨ ∃ r ∈ l, x = r.q ∨ x ∈ r.ps) ∧ (ks.Nodup → (l.foldl addR ks).Nodup) ∧ (l.foldl addR ks).length ≤ ks.length + 9 * l.length
  | [], ks, _ => ⟨fun x => by simp, fun h => h, by simp⟩
  | r :: l, ks, h => by
    obtain ⟨h1, h2, h3⟩ := foldR l (addR ks r) fun r hr => h r (by simp [hr])
    obtain ⟨k1, k2, k3⟩ := foldK (r.q :: r.ps) ks
    have k1' : ∀ x, x ∈ addR ks r ↔ x ∈ ks ∨ x ∈ r.q :: r.ps := k1
    have k3' : (addR ks r).length ≤ ks.length + (r.q :: r.ps).length := k3
    rw [List.foldl_cons]
    refine ⟨fun x => ?_, fun nd => h2 (k2 nd), ?_⟩
    · rw [h1, k1', or_assoc]
      simp
    · have := h r (by simp)
      simp at k3' ⊢
      omega
theorem named_mem {W : Wd} (g : GWd W) (x : Pl) : x ∈ namedK W ↔ x ∈ W.V ∨ ∃ r ∈ W.R, x = r.q ∨ x ∈ r.ps := (foldR W.R W.V fun r hr => (g.rs r hr).ps.2.1).1 x
theorem named_nd {W : Wd} (g : GWd W) : (namedK W).Nodup := (foldR W.R W.V fun r hr => (g.rs r hr).ps.2.1).2.1 g.vd
theorem named_len {W : Wd} (g : GWd W) : (namedK W).length ≤ 600 := by
  have := (foldR W.R W.V fun r hr => (g.rs r hr).ps.2.1).2.2
  have h1 := g.vl
  have h2 := g.rl
  unfold namedK
  omega
theorem named_name {W : Wd} (g : GWd W) : ∀ p ∈ namedK W, NameP p := fun p hp => by
  rcases (named_mem g p).mp hp with h | ⟨r, hr, rfl | h⟩
  · exact g.vn p h
  · exact (g.rs r hr).q
  · exact (g.rs r hr).ps.2.2.2 p h
theorem named_l {M : Mem} {W : Wd} (g : GWd W) : F_named [wD W] M = .ok (.lst ((srt pD (namedK W)).map pD)) M := by
  refine RE.ev.eq (ev_fn rfl ?_)
  unfold b_named
  have i0 : ∀ M : Mem, ixM M (wD W) (.int 0) = some (.lst (W.V.map pD)) := fun M => ix_tup0 _ _
  have i1 : ∀ M : Mem, ixM M (wD W) (.int 1) = some (.lst (W.R.map rD)) := fun M => ix_tup1 _ _
  simp_arith []
  refine RE.ev.of (need_world_l g) ?_
  refine ev_dc ?_
  have e1 : seqOf M (.lst (W.V.map pD)) = some (W.V.map pD) := rfl
  simp_arith [i0, e1]
  refine ⟨fun n M' acc => M' = M ∧ acc = .dT (encA D.bl (trues (W.V.take n))), fun _ _ _ _ => rfl, ⟨rfl, rfl⟩, ?_, ?_⟩
  · rintro n x M' acc hx ⟨rfl, rfl⟩
    obtain ⟨p, hp, rfl⟩ := getElem?_map' hx
    have htk : W.V.take (n + 1) = W.V.take n ++ [p] := by rw [List.take_succ, hp]; rfl
    have hn : p ∉ W.V.take n := fun z => by
      have nd2 : (W.V.take n ++ [p]).Nodup := by
        rw [← htk]
        exact (List.take_sublist _ _).nodup g.vd
      rw [List.nodup_append] at nd2
      exact nd2.2.2 p z p (by simp) rfl
    have ev : ∀ σ, (yesT σ M').ev noX fun b M1 => b = true ∧ M1 = M' := fun σ => ⟨rfl, rfl⟩
    refine (ev _).imp fun b M1 ⟨hb, hM1⟩ => ?_
    subst hb hM1
    simp_arith []
    refine ⟨.dT (encA D.bl (trues (W.V.take (n + 1)))), ?_, rfl⟩
    have hlen : (encA D.bl (trues (W.V.take n))).length < 16000000 := by
      have := g.vl
      simp [encA, trues]
      omega
    simp only [putMO, kOf_pD, Option.bind_some, if_pos hlen, putG_enc, put_true]
    rw [htk]
    unfold addK
    rw [if_neg hn]
  · rintro M' m ⟨rfl, rfl⟩
    rw [List.length_map, List.take_length]
    refine ev_forL (ds := W.R.map rD) (by simp [i1]) (fun n σ M1 => ∃ s2 s3 s4 s5 s6, σ = [some (wD W), some (.ref M'.length), s2, s3, s4, s5, s6] ∧ M1 = M' ++ [.dT (encA D.bl (trues ((W.R.take n).foldl addR W.V)))]) ⟨_, _, _, _, _, rfl, rfl⟩ ?_ ?_
    · rintro n x σ M1 hx ⟨s2, s3, s4, s5, s6, rfl, rfl⟩
      obtain ⟨r, hr', rfl⟩ := getElem?_map' hx
      have gr := g.rs r (List.mem_of_getElem? hr')
      have htk : W.R.take (n + 1) = W.R.take n ++ [r] := by rw [List.take_succ, hr']; rfl
      rw [htk, List.foldl_append]
      have hkl := (foldR (W.R.take n) W.V fun r hr => (g.rs r (List.mem_of_mem_take hr)).ps.2.1).2.2
      have hnl : (W.R.take n).length ≤ 60 := by have := g.rl; rw [List.length_take]; omega
      have hvl := g.vl
      generalize (W.R.take n).foldl addR W.V = ks at *
      refine ⟨_, rfl, ?_⟩
      have hadd : op2 addM (lstS (consA (tupS (consA (varS 2) (consA (varS 3) nilA))) nilA)) (varS 5) [some (wD W), some (.ref M'.length), some (.str r.q.1), some (.str r.q.2), some (.int (r.c : Nat)), some (.lst (r.ps.map pD)), s6] (M' ++ [.dT (encA D.bl (trues ks))]) = .ok (.lst ((r.q :: r.ps).map pD)) (M' ++ [.dT (encA D.bl (trues ks))]) := by
        have := add_l (M' ++ [.dT (encA D.bl (trues ks))]) (a := [pD r.q]) (b := r.ps.map pD) (by have := gr.ps.2.1; simp; omega)
        simp only [pD] at this
        simp [this, pD]
      refine ev_forL hadd (fun k σ M1 => ∃ s6, σ = [some (wD W), some (.ref M'.length), some (.str r.q.1), some (.str r.q.2), some (.int (r.c : Nat)), some (.lst (r.ps.map pD)), s6] ∧ M1 = M' ++ [.dT (encA D.bl (trues (((r.q :: r.ps).take k).foldl addK ks)))]) ⟨_, rfl, rfl⟩ ?_ ?_
      · rintro k x σ M1 hx ⟨s6, rfl, rfl⟩
        obtain ⟨p, hp, rfl⟩ := getElem?_map' hx
        have htk2 : (r.q :: r.ps).take (k + 1) = (r.q :: r.ps).take k ++ [p] := by rw [List.take_succ, hp]; rfl
        have hk3 := (foldK ((r.q :: r.ps).take k) ks).2.2
        have hk4 : ((r.q :: r.ps).take k).length ≤ 9 := by
          have h := List.length_take_le k (r.q :: r.ps)
          have h2 : (r.q :: r.ps).length = r.ps.length + 1 := rfl
          have := gr.ps.2.1
          have h3 : ((r.q :: r.ps).take k).length ≤ (r.q :: r.ps).length := by rw [List.length_take]; omega
          omega
        rw [htk2, List.foldl_append]
        generalize ((r.q :: r.ps).take k).foldl addK ks = ks2 at *
        have gA : (M' ++ [MO.dT (encA D.bl (trues ks2))])[M'.length]? = some (.dT (encA D.bl (trues ks2))) := by simp
        have hput := dput_pl gA (by unfold trues; rw [List.length_map]; omega) p true
        rw [put_true, List.set_append_right _ _ (Nat.le_refl _)] at hput
        refine ⟨_, rfl, ?_⟩
        simp_arith [hput]
        exact ⟨_, rfl, by simp⟩
      · rintro σ M1 ⟨s6, rfl, rfl⟩
        rw [List.length_map, List.take_length]
        exact ⟨_, _, _, _, _, rfl, rfl⟩
    · rintro σ M1 ⟨s2, s3, s4, s5, s6, rfl, rfl⟩
      rw [List.length_map, List.take_length]
      have gS : (M' ++ [MO.dT (encA D.bl (trues (W.R.foldl addR W.V)))])[M'.length]? = some (.dT (encA D.bl (trues (W.R.foldl addR W.V)))) := by simp
      simp_arith [sortT_at gS]
      rw [trues_keys]
      exact TR.back (by simp only [D.lo]; exact lo_pDs _ _) ⟨rfl, rfl⟩
end H

namespace H
open PySem PySem.Spec PyProof.Rows L2 Lf
local macro_rules | `(tactic| simp_arith [$xs,*]) => `(tactic| simp only [e_ok, e_ex, e_bad, e_var, e_c, e_op2, e_op1, e_nilA, e_consA, e_callV, e_callS, e_asT, e_notT, e_andT, e_orT, e_andV, e_orV, e_notV, e_ifE, e_tup, e_lst, e_new, e_ch, e_frz, e_newOf, e_mtd, e_m1, e_part, e_slice, e_dnewT, e_dnewK, e_dget1, e_dget2, e_addN, e_next, e_seq, e_ret, e_expr, e_if, e_set, e_asg, e_setItem, e_dput, e_augExt, e_iseq, e_istr, e_ikeys, e_iitems, e_ienum, e_izip, e_range1, List.getElem?_cons_zero, List.getElem?_cons_succ, List.set_cons_zero, List.set_cons_succ, List.map_cons, List.map_nil, List.length_cons, List.length_nil, List.replicate, List.append_nil, List.nil_append, List.cons_append, Option.some.injEq, D.bl.injEq, D.int.injEq, D.str.injEq, D.ref.injEq, D.lst.injEq, D.tup.injEq, exists_eq_left', exists_eq_left, if_true, if_false, Bool.false_eq_true, Bool.not_true, Bool.not_false, decide_true, decide_false, Nat.zero_add, Nat.reduceAdd, Nat.reduceSub, Nat.reduceLeDiff, true_and, and_true, Tg.set, Tg.sets, wipeD, $xs,*])
open TL (tl numL)
open Pm
/-! ### rules read -/
theorem big_c {r : RR} (g : GRul r) : r.c < 10 ^ 4300 := Nat.lt_of_le_of_lt g.c2 (by decide +kernel)
theorem show_rule_l {M : Mem} {r : RR} (g : GRul r) : F_show_rule [rD r] M = .ok (.str (Txt.join " " (ruleW r.q r.c r.ps))) M := show_rule_at g.q g.c1 (big_c g) (.inl rfl) g.ps
theorem read_rule_l {M : Mem} {r : RR} (g : GRul r) : F_read_rule [.str (Txt.join " " (ruleW r.q r.c r.ps))] M = .ok (rD r) M := by
  refine RE.ev.eq (ev_fn rfl ?_)
  unfold b_read_rule
  have hw := words_at (M := M) (ws := ruleW r.q r.c r.ps) (by simp [ruleW]) (rule_words g.q (big_c g) g.ps) (by simp [ruleW]; have := g.ps.2.1; omega)
  have el : (ruleW r.q r.c r.ps).map D.str = [D.str (pT r.q), .str "=", .str (numT r.c)] ++ r.ps.map (fun p => .str (pT p)) := by simp [ruleW]
  rw [el] at hw
  have hgt : gtM M (.int (([D.str (pT r.q), .str "=", .str (numT r.c)] ++ r.ps.map (fun p => D.str (pT p))).length : Nat)) (.int 3) = some (.bl true) := by
    have e := gt_len M ([D.str (pT r.q), .str "=", .str (numT r.c)] ++ r.ps.map (fun p => D.str (pT p))).length 3
    rw [decide_eq_true (by simp; have := g.ps.1; omega)] at e
    exact e
  have i0 : ixM M (.lst ([D.str (pT r.q), .str "=", .str (numT r.c)] ++ r.ps.map (fun p => D.str (pT p)))) (.int 0) = some (.str (pT r.q)) := by rw [ix_lst0]; rfl
  have i1 : ixM M (.lst ([D.str (pT r.q), .str "=", .str (numT r.c)] ++ r.ps.map (fun p => D.str (pT p)))) (.int 1) = some (.str "=") := by rw [ix_lst1]; rfl
  have i2 : ixM M (.lst ([D.str (pT r.q), .str "=", .str (numT r.c)] ++ r.ps.map (fun p => D.str (pT p)))) (.int 2) = some (.str (numT r.c)) := by rw [ix_lst2]; rfl
  have hln := len_l M ([D.str (pT r.q), .str "=", .str (numT r.c)] ++ r.ps.map (fun p => D.str (pT p)))
  have hs : slM M (.lst ([D.str (pT r.q), .str "=", .str (numT r.c)] ++ r.ps.map (fun p => D.str (pT p)))) (some 3) none = some (.lst (r.ps.map fun p => D.str (pT p))) := by
    rw [sl_lst3]
    rfl
  have hi : isnotM M (pD r.q) .non = some (.bl true) := rfl
  have ha : addM M (pD r.q) (.tup [.int (r.c : Nat), .lst (r.ps.map pD)]) = some (rD r) := add_t _ (by simp)
  generalize ([D.str (pT r.q), .str "=", .str (numT r.c)] ++ r.ps.map (fun p => D.str (pT p))) = L at *
  simp_arith []
  refine RE.ev.of hw ?_
  simp_arith [hln, hgt, i0, i1, i2, eq_s]
  refine RE.ev.of (need_ok M) ?_
  simp_arith [i0]
  refine RE.ev.of (place_in_pT g.q) ?_
  simp_arith [hi]
  refine RE.ev.of (need_ok M) ?_
  simp_arith [i2]
  refine RE.ev.of (number_in_num (big_c g)) ?_
  refine ev_lcML (l := r.ps) (e := fun p => .str (pT p)) pD (M1 := M) (by simp [hs]) (by have := g.ps.2.1; omega) (fun p hp => ⟨_, rfl, ?_⟩) ?_
  · simp_arith []
    exact RE.ev.of (place_in_pT (g.ps.2.2.2 p hp)) ⟨rfl, rfl⟩
  simp_arith [ha]
  refine RE.ev.of (is_rule_l g) ?_
  refine RE.ev.of (need_ok M) ?_
  exact TR.pure (by simp [rD, ruleD, D.lo, loA, lo_pDs]) ⟨rfl, rfl⟩
theorem by_texts_l {M : Mem} {W : Wd} (g : GWd W) : F_l_by_texts [wD W] M = .ok (wD W) M := by
  refine RE.ev.eq (ev_fn rfl ?_)
  unfold b_l_by_texts
  have i0 : ∀ M : Mem, ixM M (wD W) (.int 0) = some (.lst (W.V.map pD)) := fun M => ix_tup0 _ _
  have i1 : ∀ M : Mem, ixM M (wD W) (.int 1) = some (.lst (W.R.map rD)) := fun M => ix_tup1 _ _
  have i2 : ∀ M : Mem, ixM M (wD W) (.int 2) = some (.lst (W.E.map pD)) := fun M => ix_tup2 _ _
  simp_arith []
  refine ev_lcML (l := W.V) (e := pD) pD (M1 := M) (by simp [i0]) (by have := g.vl; omega) (fun p hp => ⟨_, rfl, ?_⟩) ?_
  · simp_arith []
    exact RE.ev.of (show_place_at (g.vn p hp)) (RE.ev.of (read_place_at (g.vn p hp)) ⟨rfl, rfl⟩)
  refine ev_lcML (l := W.R) (e := rD) rD (M1 := M) (by simp [i1]) (by have := g.rl; omega) (fun p hp => ⟨_, rfl, ?_⟩) ?_
  · simp_arith []
    exact RE.ev.of (show_rule_l (g.rs p hp)) (RE.ev.of (read_rule_l (g.rs p hp)) ⟨rfl, rfl⟩)
  refine ev_lcML (l := W.E) (e := pD) pD (M1 := M) (by simp [i2]) (by have := g.el; omega) (fun p hp => ⟨_, rfl, ?_⟩) ?_
  · have hp2 := (g.en p hp).1
    simp_arith []
    refine RE.ev.of (show_place_at hp2) ?_
    have e1 : splitM M (.str (pT p)) (.str ".") = some (.lst [.str p.1, .str p.2]) := by
      have e : Txt.split (pT p) "." = [p.1, p.2] := TL.split_join (y := Str.ofString ".") dot_ok (by decide +kernel) (by simp) fun q hq => by
        simp only [List.mem_cons, List.not_mem_nil, or_false] at hq
        rcases hq with rfl | rfl
        · exact fun hm => by have := hp2.1.sign _ hm; omega
        · exact fun hm => by have := hp2.2.sign _ hm; omega
      have h1 := pT_len hp2
      have h2 : (Str.ofString ".").length = 1 := by decide +kernel
      simp only [splitM]
      rw [if_pos ⟨by omega, by omega⟩, e]
      rfl
    have e2 : tupleM M [.lst [.str p.1, .str p.2]] = some (pD p) := rfl
    simp_arith [isStr, e1, e2]
  have hr : ∀ l : List RR, loA M.length (l.map rD) = true := fun l => by
    induction l with
    | nil => rfl
    | cons r l ih => simp [loA, rD, ruleD, D.lo, lo_pDs, ih]
  exact TR.pure (by simp [D.lo, loA, lo_pDs, hr]) ⟨rfl, rfl⟩
end H

namespace H
open PySem PySem.Spec PyProof.Rows L2 Lf
local macro_rules | `(tactic| simp_arith [$xs,*]) => `(tactic| simp only [e_ok, e_ex, e_bad, e_var, e_c, e_op2, e_op1, e_nilA, e_consA, e_callV, e_callS, e_asT, e_notT, e_andT, e_orT, e_andV, e_orV, e_notV, e_ifE, e_tup, e_lst, e_new, e_ch, e_frz, e_newOf, e_mtd, e_m1, e_part, e_slice, e_dnewT, e_dnewK, e_dget1, e_dget2, e_addN, e_next, e_seq, e_ret, e_expr, e_if, e_set, e_asg, e_setItem, e_dput, e_augExt, e_iseq, e_istr, e_ikeys, e_iitems, e_ienum, e_izip, e_range1, List.getElem?_cons_zero, List.getElem?_cons_succ, List.set_cons_zero, List.set_cons_succ, List.map_cons, List.map_nil, List.length_cons, List.length_nil, List.replicate, List.append_nil, List.nil_append, List.cons_append, Option.some.injEq, D.bl.injEq, D.int.injEq, D.str.injEq, D.ref.injEq, D.lst.injEq, D.tup.injEq, exists_eq_left', exists_eq_left, if_true, if_false, Bool.false_eq_true, Bool.not_true, Bool.not_false, decide_true, decide_false, Nat.zero_add, Nat.reduceAdd, Nat.reduceSub, Nat.reduceLeDiff, true_and, and_true, Tg.set, Tg.sets, wipeD, $xs,*])
open Pm
/-! ### draws -/
theorem dip_w {M : Mem} {p n : Nat} {many : Int} (h : PotAt M p n) (hn : n ≤ 1000000) (h1 : 1 ≤ many) (h2 : many ≤ 2 ^ 60) :
    (F_l_dip [.ref p, .int many] M).ev noX fun d M' => ∃ r : Int, d = .int r ∧ (0 ≤ r ∧ r < many) ∧ Mv p M M' (n + 1) := by
  obtain ⟨r, M', e, hr, mv⟩ := dip_at h hn h1 (small2000 h2)
  exact RE.ev.of e ⟨r, rfl, hr, mv⟩
theorem popAt_last (Mb : Mem) (left : List D) {k jn : Nat} (e : Mb.length = k) (h : jn < left.length) (hl : left.length ≤ 100) : popAtM (Mb ++ [MO.lst left]) (.ref k) [.int (jn : Int)] = some (left[jn], Mb ++ [.lst (left.eraseIdx jn)]) := by
  simp only [popAtM, get_last Mb _ e]
  rw [if_pos ⟨by omega, by omega, by omega⟩]
  simp only [Int.toNat_natCast, List.getElem?_eq_getElem h, Option.map_some]
  rw [List.set_append_right _ _ (by omega), e]
  simp
theorem len_lastD (Ma : Mem) (l : List D) {k : Nat} (e : Ma.length = k) : lenM (Ma ++ [MO.lst l]) [.ref k] = some (.int l.length) := by
  simp only [lenM, seqOf, lstOf, get_last Ma _ e, Option.map_some]
theorem Mv.lt' {M M' : Mem} {p n : Nat} (h : Mv p M M' n) : p < M'.length := by
  rw [h.len]; exact h.lt
theorem some_w {M : Mem} {p n : Nat} {ds : List D} {most : Int} (h : PotAt M p n) (hn : n ≤ 800000) (hp1 : 1 ≤ ds.length) (hp2 : ds.length ≤ 100) (hm : 1 ≤ most ∧ most ≤ 8) (hlo : ∀ k, ∀ d ∈ ds, d.lo k = true) :
    (F_l_some [.ref p, .lst ds, .int most] M).ev noX fun d M' => ∃ qs rest, d = .lst qs ∧ (qs ++ rest).Perm ds ∧ (1 ≤ qs.length ∧ (qs.length : Int) ≤ most) ∧ Mv p M M' (n + 10) := by
  have hpl := h.mv.lt
  refine ev_fn rfl ?_
  unfold b_l_some
  simp_arith []
  refine ⟨ds, rfl, ?_⟩
  have hln := len_lastD M ds rfl
  simp_arith [hln, min_at]
  have hk : 1 ≤ (if (ds.length : Int) < most then (ds.length : Int) else most) ∧ (if (ds.length : Int) < most then (ds.length : Int) else most) ≤ 8 ∧ (if (ds.length : Int) < most then (ds.length : Int) else most) ≤ ds.length ∧ (if (ds.length : Int) < most then (ds.length : Int) else most) ≤ most := by
    split <;> omega
  generalize (if (ds.length : Int) < most then (ds.length : Int) else most) = kk at hk
  refine (dip_w (h.app [.lst ds]) (by omega) hk.1 (by omega)).go fun d M1' ⟨r, hd, hr, mv⟩ => ?_
  obtain ⟨M1, mva, rfl⟩ := mv.app hpl
  subst hd
  simp_arith [add_i]
  refine ev_lc ?_
  simp_arith []
  refine ⟨⟨by omega, by omega⟩, by rw [rng_len]; omega, fun t M' acc => ∃ Ma left, M' = Ma ++ [.lst left] ∧ Mv p M Ma (n + 1 + t) ∧ acc.length = t ∧ (acc ++ left).Perm ds, fun _ _ _ _ => trivial, ⟨M1, ds, rfl, mva, rfl, by simp⟩, ?_, ?_⟩
  · rintro t x M' acc hx ⟨Ma, left, rfl, mv2, hacc, hperm⟩
    have ht := (rng_get hx).1
    have hL := mv2.len
    have hlen2 := hperm.length_eq
    rw [List.length_append] at hlen2
    have hy : ∀ σ, (yesT σ (Ma ++ [MO.lst left])).ev noX fun b M1 => b = true ∧ M1 = Ma ++ [.lst left] := fun σ => ⟨rfl, rfl⟩
    refine (hy _).imp fun b M2 ⟨hb, hM2⟩ => ?_
    subst hb hM2
    have hld := len_lastD Ma left hL
    have q2 : 1 ≤ left.length := by omega
    simp_arith [isLst_at Ma left hL, hld]
    refine (dip_w (mv2.pot.app [.lst left]) (by omega) (by omega) (by omega)).go fun d M2' ⟨jr, hd, hj, mv3⟩ => ?_
    obtain ⟨Mb, mvb, rfl⟩ := mv3.app mv2.lt'
    subst hd
    obtain ⟨jn, rfl⟩ := Int.eq_ofNat_of_zero_le hj.1
    have hjn : jn < left.length := by omega
    have hpop := popAt_last Mb left (mvb.len.trans hL) hjn (by omega)
    simp_arith [hpop]
    refine ⟨Mb, left.eraseIdx jn, rfl, (mv2.trans mvb).mono (by omega), by simp [hacc], ?_⟩
    rw [List.append_assoc]
    exact (List.Perm.append_left acc (erase_perm left jn hjn)).trans hperm
  · rintro M' ds2 ⟨Ma, left, rfl, mv2, hacc, hperm⟩
    rw [rng_len] at mv2 hacc
    have hmv2 : Mv p M Ma (n + 10) := mv2.mono (by omega)
    have hlen2 := hperm.length_eq
    rw [List.length_append] at hlen2
    refine TR.to ?_ hmv2.okT ⟨ds2, left, rfl, hperm, by omega, hmv2⟩
    have : ∀ l : List D, (∀ d ∈ l, d.lo M.length = true) → loA M.length l = true := fun l hl => by
      induction l with
      | nil => rfl
      | cons d l ih => simp only [loA, hl d (by simp), ih fun x hx => hl x (by simp [hx]), Bool.and_self]
    exact this ds2 fun d hd => hlo _ d (hperm.subset (List.mem_append_left _ hd))
end H

namespace H
open PySem PySem.Spec PyProof.Rows L2 Lf
local macro_rules | `(tactic| simp_arith [$xs,*]) => `(tactic| simp only [e_ok, e_ex, e_bad, e_var, e_c, e_op2, e_op1, e_nilA, e_consA, e_callV, e_callS, e_asT, e_notT, e_andT, e_orT, e_andV, e_orV, e_notV, e_ifE, e_tup, e_lst, e_new, e_ch, e_frz, e_newOf, e_mtd, e_m1, e_part, e_slice, e_dnewT, e_dnewK, e_dget1, e_dget2, e_addN, e_next, e_seq, e_ret, e_expr, e_if, e_set, e_asg, e_setItem, e_dput, e_augExt, e_iseq, e_istr, e_ikeys, e_iitems, e_ienum, e_izip, e_range1, List.getElem?_cons_zero, List.getElem?_cons_succ, List.set_cons_zero, List.set_cons_succ, List.map_cons, List.map_nil, List.length_cons, List.length_nil, List.replicate, List.append_nil, List.nil_append, List.cons_append, Option.some.injEq, D.bl.injEq, D.int.injEq, D.str.injEq, D.ref.injEq, D.lst.injEq, D.tup.injEq, exists_eq_left', exists_eq_left, if_true, if_false, Bool.false_eq_true, Bool.not_true, Bool.not_false, decide_true, decide_false, Nat.zero_add, Nat.reduceAdd, Nat.reduceSub, Nat.reduceLeDiff, true_and, and_true, Tg.set, Tg.sets, wipeD, $xs,*])
open Pm
/-! ### worlds drawn -/
def undoS : D → Str
  | .str x => x
  | _ => ""
theorem perm_str {qs rest : List D} {xs : List Str} (h : (qs ++ rest).Perm (xs.map .str)) : ∃ ys zs : List Str, qs = ys.map D.str ∧ (ys ++ zs).Perm xs := by
  refine ⟨qs.map undoS, rest.map undoS, ?_, ?_⟩
  · rw [List.map_map]
    have : ∀ d ∈ qs, (D.str ∘ undoS) d = d := fun d hd => by
      obtain ⟨x, _, rfl⟩ := List.mem_map.mp (h.subset (List.mem_append_left _ hd))
      rfl
    rw [List.map_congr_left this]
    simp
  · have := h.map undoS
    rw [List.map_append, List.map_map] at this
    have e : (undoS ∘ D.str) = id := rfl
    rw [e, List.map_id] at this
    exact this
theorem lo_str (k : Nat) (xs : List Str) : ∀ d ∈ xs.map D.str, d.lo k = true := fun d hd => by
  obtain ⟨x, _, rfl⟩ := List.mem_map.mp hd
  rfl
theorem names_w {M : Mem} {p n : Nat} {xs : List Str} {most : Int} (h : PotAt M p n) (hn : n ≤ 800000) (hp1 : 1 ≤ xs.length) (hp2 : xs.length ≤ 100) (hm : 1 ≤ most ∧ most ≤ 8) (nd : xs.Nodup) (hx : ∀ x ∈ xs, NameS x) :
    (F_l_some [.ref p, .lst (xs.map .str), .int most] M).ev noX fun d M' => ∃ ys : List Str, d = .lst (ys.map .str) ∧ ys.Nodup ∧ (∀ y ∈ ys, NameS y) ∧ (1 ≤ ys.length ∧ (ys.length : Int) ≤ most) ∧ Mv p M M' (n + 10) := by
  refine (some_w h hn (by rw [List.length_map]; exact hp1) (by rw [List.length_map]; exact hp2) hm (fun k => lo_str k xs)).imp fun d M' ⟨qs, rest, hd, hperm, hl, mv⟩ => ?_
  obtain ⟨ys, zs, rfl, hp⟩ := perm_str hperm
  rw [List.length_map] at hl
  have nd2 : (ys ++ zs).Nodup := hp.nodup_iff.mpr nd
  exact ⟨ys, hd, (List.nodup_append.mp nd2).1, fun y hy => hx y (hp.subset (List.mem_append_left _ hy)), hl, mv⟩
structure GWd2 (W : Wd) : Prop extends GWd W where
  vl2 : W.V.length ≤ 20
  rl2 : W.R.length ≤ 12
  el2 : W.E.length ≤ 25
theorem prod_nodup {xs ys : List Str} (h1 : xs.Nodup) (h2 : ys.Nodup) : (prodP xs ys).Nodup := by
  unfold prodP
  induction xs with
  | nil => simp
  | cons x xs ih =>
    simp only [List.nodup_cons] at h1
    rw [List.flatMap_cons, List.nodup_append]
    refine ⟨?_, ih h1.2, ?_⟩
    · exact List.Pairwise.map _ (fun a b hne e => hne (by simpa using e)) h2
    · intro a ha b hb e
      subst e
      obtain ⟨y, _, rfl⟩ := List.mem_map.mp ha
      obtain ⟨x', hx', hb'⟩ := List.mem_flatMap.mp hb
      obtain ⟨y', _, e⟩ := List.mem_map.mp hb'
      cases e
      exact h1.1 hx'
theorem prod_mem {xs ys : List Str} {p : Pl} : p ∈ prodP xs ys ↔ p.1 ∈ xs ∧ p.2 ∈ ys := by
  unfold prodP
  rw [List.mem_flatMap]
  constructor
  · rintro ⟨x, hx, h⟩
    obtain ⟨y, hy, rfl⟩ := List.mem_map.mp h
    exact ⟨hx, hy⟩
  · rintro ⟨h1, h2⟩
    exact ⟨p.1, h1, List.mem_map.mpr ⟨p.2, h2, rfl⟩⟩
theorem prod_len (xs ys : List Str) : (prodP xs ys).length = xs.length * ys.length := by
  unfold prodP
  induction xs with
  | nil => simp
  | cons x xs ih => rw [List.flatMap_cons, List.length_append, ih, List.length_map, List.length_cons, Nat.succ_mul, Nat.add_comm]
theorem sort_str (l : List Str) : sortOk (l.map D.str) = true := sort_ok (py := fun x => .str x) (fun a _ => by simp [toPy0]) (fun a _ b _ => by simp [PySem.W.alike]) (.inr fun _ _ => rfl) (fun a _ => by simp [PyData.depth])
theorem gt_i (M : Mem) (a b : Int) : gtM M (.int a) (.int b) = some (.bl (decide (a > b))) := rfl
theorem insert_at {M : Mem} {i jn : Nat} {l : List D} {y : D} (h : M[i]? = some (.lst l)) (hj : jn < 16000000) (hl : l.length < 16000000) : insertM M (.ref i) [.int (jn : Nat), y] = some (.non, M.set i (.lst (l.take jn ++ [y] ++ l.drop jn))) := by
  simp only [insertM, h]
  rw [if_pos ⟨by omega, by omega, hl⟩, Int.toNat_natCast]
theorem append_get {M : Mem} {i : Nat} {l : List D} {y : D} (h : M[i]? = some (.lst l)) (hl : l.length < 16000000) : appendM M (.ref i) [y] = some (.non, M.set i (.lst (l ++ [y]))) := by
  simp only [appendM, h, if_pos hl]
theorem rev_l (M : Mem) (l : List D) : revM M (.lst l) = some (.lst l.reverse) := rfl
theorem world_w {M : Mem} {p n : Nat} (h : PotAt M p n) (hn : n ≤ 100000) : (F_l_world [.ref p] M).ev noX fun d M' => ∃ W, d = wD W ∧ GWd2 W ∧ Mv p M M' (n + 2000) := by
  have hpl := h.mv.lt
  refine ev_fn rfl ?_
  unfold b_l_world
  simp_arith []
  have n1 : ∀ x ∈ (["an", "bo", "cy", "di", "zzzzzzzz"] : List Str), NameS x := by
    have e : (["an", "bo", "cy", "di", "zzzzzzzz"] : List Str).all (fun x => isName (.str x)) = true := by decide +kernel
    exact fun x hx => List.all_eq_true.mp e x hx
  have n2 : ∀ x ∈ (["a", "an", "wet", "abcdefgh"] : List Str), NameS x := by
    have e : (["a", "an", "wet", "abcdefgh"] : List Str).all (fun x => isName (.str x)) = true := by decide +kernel
    exact fun x hx => List.all_eq_true.mp e x hx
  refine (names_w (xs := ["an", "bo", "cy", "di", "zzzzzzzz"]) h (by omega) (by simp) (by simp) (by omega) (by decide +kernel) n1).go fun d M1 ⟨hands, hd, hnd, hnm, hlen, mv1⟩ => ?_
  subst hd
  refine (names_w (xs := ["a", "an", "wet", "abcdefgh"]) mv1.pot (by omega) (by simp) (by simp) (by omega) (by decide +kernel) n2).go fun d M2 ⟨says, hd, snd, snm, slen, mv2⟩ => ?_
  subst hd
  refine RE.ev.of (pairs_at (by omega) (by omega)) ?_
  have mv3 := mv1.trans mv2
  have hpn : ∀ q ∈ prodP hands says, NameP q := fun q hq => ⟨hnm q.1 (prod_mem.mp hq).1, snm q.2 (prod_mem.mp hq).2⟩
  have hpd := prod_nodup hnd snd
  have hpl2 : (prodP hands says).length ≤ 20 := by
    rw [prod_len]
    have h1 : hands.length ≤ 5 := by omega
    have h2 : says.length ≤ 4 := by omega
    exact Nat.mul_le_mul h1 h2
  have hpl1 : 1 ≤ (prodP hands says).length := by
    rw [prod_len]
    exact Nat.mul_le_mul hlen.1 slen.1
  generalize hpp : prodP hands says = pls at *
  refine ev_lc ?_
  have e1 : seqOf M2 (.lst (pls.map pD)) = some (pls.map pD) := rfl
  simp_arith [e1]
  refine ⟨by rw [List.length_map]; omega, fun k M' acc => ∃ l, acc = l.map pD ∧ l.Sublist (pls.take k) ∧ Mv p M M' (n + 10 + 10 + k), fun _ _ _ _ => rfl, ⟨[], rfl, by simp, mv3⟩, ?_, ?_⟩
  · rintro k x M' acc hx ⟨l, rfl, hsub, mv⟩
    obtain ⟨q, hq, rfl⟩ := getElem?_map' hx
    have hk := (List.getElem?_eq_some_iff.mp hq).1
    have htk : pls.take (k + 1) = pls.take k ++ [q] := by rw [List.take_succ, hq]; rfl
    refine (dip_w mv.pot (by omega) (by omega) (by omega)).go fun d M4 ⟨r, hd, hr, mv4⟩ => ?_
    subst hd
    have mv5 := (mv.trans mv4).mono (show _ ≤ n + 10 + 10 + (k + 1) by omega)
    simp_arith [eq_i]
    by_cases hr0 : r = 0
    · rw [if_pos (decide_eq_true hr0)]
      exact ⟨l ++ [q], by simp, by rw [htk]; exact hsub.append (List.Sublist.refl _), mv5⟩
    · rw [if_neg (by simpa using hr0)]
      exact ⟨l, rfl, hsub.trans (by rw [htk]; exact List.sublist_append_left _ _), mv5⟩
  rintro M4 ds ⟨vs, rfl, vsub, mv4⟩
  rw [List.length_map, List.take_length] at vsub
  rw [List.length_map] at mv4
  have mv5 := mv4.mono (show _ ≤ n + 40 by omega)
  clear mv4 mv3 e1
  refine ev_for ?_
  simp_arith []
  refine (dip_w (mv5.pot.app [.lst []]) (by omega) (by omega) (by omega)).go fun d M5' ⟨rn, hd, hrn, mv6⟩ => ?_
  obtain ⟨M5, mv7, rfl⟩ := mv6.app (by have := mv5.len; omega)
  subst hd
  have mv8 := (mv5.trans mv7).mono (show _ ≤ n + 50 by omega)
  have hL5 := mv8.len
  obtain ⟨rk, rfl⟩ := Int.eq_ofNat_of_zero_le hrn.1
  have hM4 : M4.length = M.length := mv5.len
  rw [hM4]
  refine ⟨⟨by omega, by omega⟩, fun k σ M' => ∃ Ma rs s6 s7 s8 s9 s10 s11 s12 s13, σ = [some (.ref p), some (.lst (hands.map .str)), some (.lst (says.map .str)), some (.lst (pls.map pD)), some (.lst (vs.map pD)), some (.ref M.length), s6, s7, s8, s9, s10, s11, s12, s13] ∧ M' = Ma ++ [.lst (rs.map rD)] ∧ rs.length ≤ k ∧ (∀ r ∈ rs, GRul r) ∧ Mv p M Ma (n + 50 + 40 * k), fun _ _ _ _ => trivial, ⟨M5, [], _, _, _, _, _, _, _, _, rfl, rfl, by simp, by simp, mv8⟩, ?_, ?_⟩
  · rintro k x σ M' hx ⟨Ma, rs, s6, s7, s8, s9, s10, s11, s12, s13, rfl, rfl, hrl, hrg, mv⟩
    have hk := (rng_get hx).1
    have hLa := mv.len
    have hlp : ∀ M : Mem, lenM M [.lst (pls.map pD)] = some (.int (pls.length : Nat)) := fun M => by rw [len_l, List.length_map]
    refine ⟨_, rfl, ?_⟩
    simp_arith [hlp, List.length_map]
    refine (dip_w (mv.pot.app [.lst (rs.map rD)]) (by omega) (by omega) (by omega)).go fun d M6' ⟨jr, hd, hj, mv6⟩ => ?_
    obtain ⟨M6, mv7, rfl⟩ := mv6.app mv.lt'
    subst hd
    obtain ⟨jn, rfl⟩ := Int.eq_ofNat_of_zero_le hj.1
    have hjn : jn < pls.length := by omega
    have e1 : ∀ M : Mem, ixM M (.lst (pls.map pD)) (.int (jn : Nat)) = some (pD pls[jn]) := fun M => by rw [ix_lstN, List.getElem?_map, List.getElem?_eq_getElem hjn]; rfl
    have hqn := hpn pls[jn] (List.getElem_mem hjn)
    generalize pls[jn] = q at e1 hqn
    simp_arith [e1, pD]
    have mv8 := (mv.trans mv7).mono (show _ ≤ n + 50 + 40 * k + 1 by omega)
    refine (dip_w (mv8.pot.app [.lst (rs.map rD)]) (by omega) (by omega) (by omega)).go fun d M7' ⟨c1, hd, hc1, mv6⟩ => ?_
    obtain ⟨M7, mv9, rfl⟩ := mv6.app mv8.lt'
    subst hd
    have mv10 := (mv8.trans mv9).mono (show _ ≤ n + 50 + 40 * k + 2 by omega)
    simp_arith [add_i]
    refine (dip_w (mv10.pot.app [.lst (rs.map rD)]) (by omega) (by omega) (by omega)).go fun d M8' ⟨c2, hd, hc2, mv6⟩ => ?_
    obtain ⟨M8, mv11, rfl⟩ := mv6.app mv10.lt'
    subst hd
    have mv12 := (mv10.trans mv11).mono (show _ ≤ n + 50 + 40 * k + 3 by omega)
    simp_arith [add_i]
    refine (dip_w (mv12.pot.app [.lst (rs.map rD)]) (by omega) (by omega) (by omega)).go fun d M9' ⟨c3, hd, hc3, mv6⟩ => ?_
    obtain ⟨M9, mv13, rfl⟩ := mv6.app mv12.lt'
    subst hd
    have mv14 := (mv12.trans mv13).mono (show _ ≤ n + 50 + 40 * k + 4 by omega)
    have hdiv : ∀ (M : Mem) (x : Int), divM M (.int x) (.int 3) = some (.int (x / 3)) := fun M x => by
      simp only [divM]
      rw [if_pos ⟨by omega, by decide +kernel⟩]
    simp_arith [hdiv]
    obtain ⟨c, hc, hcb⟩ : ∃ c : Nat, (∀ M : Mem, ixM M (.lst [.int 1, .int (1 + c1), .int (1 + c2)]) (.int (c3 / 3)) = some (.int (c : Nat))) ∧ 1 ≤ c ∧ c ≤ 10 ^ 9 := by
      obtain ⟨m1, rfl⟩ := Int.eq_ofNat_of_zero_le hc1.1
      obtain ⟨m2, rfl⟩ := Int.eq_ofNat_of_zero_le hc2.1
      have h3 : c3 / 3 = 0 ∨ c3 / 3 = 1 ∨ c3 / 3 = 2 := by omega
      rcases h3 with e | e | e <;> rw [e]
      · exact ⟨1, fun M => by rw [ix_lst0]; rfl, by omega, by omega⟩
      · exact ⟨1 + m1, fun M => by rw [ix_lst1]; rfl, by omega, by omega⟩
      · exact ⟨1 + m2, fun M => by rw [ix_lst2]; rfl, by omega, by omega⟩
    simp_arith [hc, isLst_at M9 _ (mv14.len)]
    have hps := premises_at (mv14.pot.app [.lst (rs.map rD)]) (by omega) hpl1 (by omega) hpd hpn
    obtain ⟨qs, M10', ep, mv6, gq⟩ := hps
    obtain ⟨M10, mv15, rfl⟩ := mv6.app mv14.lt'
    have mv16 := (mv14.trans mv15).mono (show _ ≤ n + 50 + 40 * (k + 1) by omega)
    refine RE.ev.of ep ?_
    have happ := append_at M10 (rs.map rD) (rD ⟨q, c, qs⟩) mv16.len (by rw [List.length_map]; omega)
    have hrd : (D.tup [.str q.1, .str q.2, .int (c : Nat), .lst (qs.map pD)]) = rD ⟨q, c, qs⟩ := rfl
    have htu : ∀ x, (D.tup [.str q.1, .str q.2, .int (c : Nat), .lst (qs.map pD)]) = x ↔ rD ⟨q, c, qs⟩ = x := fun x => Iff.rfl
    rw [hrd]
    simp_arith [happ]
    refine ⟨M10, rs ++ [⟨q, c, qs⟩], _, _, _, _, _, _, _, _, rfl, by simp, by simp; omega, fun r hr => ?_, mv16⟩
    rcases List.mem_append.mp hr with hr | hr
    · exact hrg r hr
    · simp at hr
      subst hr
      exact ⟨hqn, hcb.1, hcb.2, gq⟩
  · rintro σ M' ⟨Ma, rs, s6, s7, s8, s9, s10, s11, s12, s13, rfl, rfl, hrl, hrg, mv⟩
    rw [rng_len] at mv hrl
    have hrk : ((rk : Nat) : Int).toNat ≤ 12 := by omega
    have mvr := mv.mono (show _ ≤ n + 600 by omega)
    clear mv mv8 mv7 mv5
    have hLa := mvr.len
    simp_arith []
    have hmem : Ma ++ [MO.lst (rs.map rD)] ++ [MO.lst []] = Ma ++ [.lst (rs.map rD), .lst []] := by simp
    have hl1 : (Ma ++ [MO.lst (rs.map rD)]).length = M.length + 1 := by simp [hLa]
    rw [hmem, hl1]
    have hsort : ∀ σ M, σ[1]? = some (some (.lst (hands.map .str))) → callV sortM (consA (varS 1) nilA) σ M = .ok (.lst ((srt .str hands).map .str)) M := fun σ M h => by
      simp [h, sort_at M (sort_str hands)]
    have hsp := srt_perm D.str hands
    have hsn : (srt D.str hands).Nodup := hsp.nodup_iff.mpr hnd
    have hsm : ∀ x ∈ srt D.str hands, NameS x := fun x hx => hnm x (hsp.mem_iff.mp hx)
    have hsl : (srt D.str hands).length ≤ 5 := by rw [hsp.length_eq]; omega
    generalize srt D.str hands = sh at *
    let I : Nat → Nat → Sl → Mem → Prop := fun a b σ M' => ∃ (Mb : Mem) (es : List Pl) (s6 s8 s9 s10 s11 s12 s13 : Option D), σ = [some (.ref p), some (.lst (hands.map .str)), some (.lst (says.map .str)), some (.lst (pls.map pD)), some (.lst (vs.map pD)), some (.ref M.length), s6, some (.ref (M.length + 1)), s8, s9, s10, s11, s12, s13] ∧ M' = Mb ++ [.lst (rs.map rD), .lst (es.map pD)] ∧ es.Nodup ∧ (∀ e ∈ es, NameP e ∧ ltStr e.1 e.2 = true ∧ (e.1 ∈ sh.take a ∨ (sh[a]? = some e.1 ∧ e.2 ∈ sh.take b)) ∧ e.2 ∈ sh) ∧ Mv p M Mb (n + 600 + 20 * a + 2 * b)
    refine ev_forL (hsort _ _ rfl) (fun a => I a 0) ⟨Ma, [], _, _, _, _, _, _, _, rfl, rfl, by simp, by simp, mvr⟩ ?_ ?_
    · intro a x σ M' hx hI
      obtain ⟨ha', hha, rfl⟩ := getElem?_map' hx
      have hal := (List.getElem?_eq_some_iff.mp hha).1
      refine ⟨_, rfl, ?_⟩
      obtain ⟨Mb, es, s6, s8, s9, s10, s11, s12, s13, rfl, rfl, hnd1, hes, mvb⟩ := hI
      have hnm1 := hsm ha' (List.mem_of_getElem? hha)
      refine ev_forL (hsort _ _ rfl) (fun b σ M' => I a b σ M' ∧ σ[8]? = some (some (.str ha'))) ⟨⟨Mb, es, _, _, _, _, _, _, _, rfl, rfl, hnd1, hes, mvb⟩, rfl⟩ ?_ ?_
      · rintro b x σ M' hx ⟨⟨Mb, es, s6, s8, s9, s10, s11, s12, s13, rfl, rfl, hnd1, hes, mvb⟩, h8⟩
        obtain ⟨hb', hhb, rfl⟩ := getElem?_map' hx
        have hbl := (List.getElem?_eq_some_iff.mp hhb).1
        refine ⟨_, rfl, ?_⟩
        have h8' : s8 = some (.str ha') := by simpa using h8
        subst h8'
        simp_arith [lt_s]
        have hLb := mvb.len
        have htb : sh.take (b + 1) = sh.take b ++ [hb'] := by rw [List.take_succ, hhb]; rfl
        have hes2 : ∀ e ∈ es, NameP e ∧ ltStr e.1 e.2 = true ∧ (e.1 ∈ sh.take a ∨ (sh[a]? = some e.1 ∧ e.2 ∈ sh.take (b + 1))) ∧ e.2 ∈ sh := fun e he => by
          obtain ⟨k1, k2, k3, k4⟩ := hes e he
          refine ⟨k1, k2, ?_, k4⟩
          rcases k3 with k3 | ⟨k3, k5⟩
          · exact .inl k3
          · exact .inr ⟨k3, by rw [htb]; exact List.mem_append_left _ k5⟩
        by_cases hlt : ltStr ha' hb' = true
        · rw [if_pos hlt]
          refine (dip_w (mvb.pot.app [.lst (rs.map rD), .lst (es.map pD)]) (by omega) (by omega) (by omega)).go fun d Mc' ⟨r, hd, hr, mv6⟩ => ?_
          obtain ⟨Mc, mvc, rfl⟩ := mv6.app mvb.lt'
          subst hd
          have mvd := (mvb.trans mvc).mono (show _ ≤ n + 600 + 20 * a + 2 * b + 1 by omega)
          have hLc := mvd.len
          simp_arith [gt_i]
          by_cases hr0 : r > 0
          · rw [if_pos (decide_eq_true hr0)]
            have g7 : (Mc ++ [MO.lst (rs.map rD), MO.lst (es.map pD)])[M.length + 1]? = some (.lst (es.map pD)) := by rw [← hLc]; exact mem_get _ _ 1
            have hln : lenM (Mc ++ [MO.lst (rs.map rD), MO.lst (es.map pD)]) [.ref (M.length + 1)] = some (.int (es.length : Nat)) := by
              simp only [lenM, seqOf, lstOf, g7, Option.map_some, List.length_map]
            have hel : es.length ≤ 25 := by
              have h1 := nodup_sub_len hnd1 (b := prodP sh sh) fun e he => by
                obtain ⟨k1, k2, k3, k4⟩ := hes e he
                refine prod_mem.mpr ⟨?_, k4⟩
                rcases k3 with k3 | ⟨k3, _⟩
                · exact List.mem_of_mem_take k3
                · exact List.mem_of_getElem? k3
              have h2 := prod_len sh sh
              have h3 : sh.length * sh.length ≤ 5 * 5 := Nat.mul_le_mul hsl hsl
              omega
            simp_arith [isLst_get g7, hln, add_i]
            refine (dip_w (mvd.pot.app [.lst (rs.map rD), .lst (es.map pD)]) (by omega) (by omega) (by omega)).go fun d Me' ⟨r2, hd, hr2, mv6⟩ => ?_
            obtain ⟨Me, mve, rfl⟩ := mv6.app mvd.lt'
            subst hd
            have mvf := (mvd.trans mve).mono (show _ ≤ n + 600 + 20 * a + 2 * (b + 1) by omega)
            have hLe := mvf.len
            obtain ⟨jn, rfl⟩ := Int.eq_ofNat_of_zero_le hr2.1
            have g8 : (Me ++ [MO.lst (rs.map rD), MO.lst (es.map pD)])[M.length + 1]? = some (.lst (es.map pD)) := by rw [← hLe]; exact mem_get _ _ 1
            have hins := insert_at (jn := jn) (y := pD (ha', hb')) g8 (by omega) (by rw [List.length_map]; omega)
            have hset : (Me ++ [MO.lst (rs.map rD), MO.lst (es.map pD)]).set (M.length + 1) (.lst ((es.map pD).take jn ++ [pD (ha', hb')] ++ (es.map pD).drop jn)) = Me ++ [.lst (rs.map rD), .lst ((es.take jn ++ [(ha', hb')] ++ es.drop jn).map pD)] := by
              rw [← hLe]
              have := mem_set Me [.lst (rs.map rD), .lst (es.map pD)] 1 (.lst ((es.map pD).take jn ++ [pD (ha', hb')] ++ (es.map pD).drop jn))
              rw [this]
              simp
            rw [hset] at hins
            have hpp : (D.tup [.str ha', .str hb']) = pD (ha', hb') := rfl
            rw [hpp]
            simp_arith [hins]
            have hnew : (ha', hb') ∉ es := fun z => by
              obtain ⟨k1, k2, k3, k4⟩ := hes _ z
              rcases k3 with k3 | ⟨_, k5⟩
              · have nd2 : (sh.take (a + 1)).Nodup := (List.take_sublist _ _).nodup hsn
                rw [List.take_succ, hha, List.nodup_append] at nd2
                exact nd2.2.2 ha' k3 ha' (by simp) rfl
              · have nd2 : (sh.take (b + 1)).Nodup := (List.take_sublist _ _).nodup hsn
                rw [htb, List.nodup_append] at nd2
                exact nd2.2.2 hb' k5 hb' (by simp) rfl
            have hperm : (es.take jn ++ [(ha', hb')] ++ es.drop jn).Perm ((ha', hb') :: es) := by
              rw [List.append_assoc]
              have := List.perm_middle (a := (ha', hb')) (l₁ := es.take jn) (l₂ := es.drop jn)
              rw [List.take_append_drop] at this
              exact this
            refine ⟨Me, es.take jn ++ [(ha', hb')] ++ es.drop jn, _, _, _, _, _, _, _, rfl, rfl, hperm.nodup_iff.mpr (List.nodup_cons.mpr ⟨hnew, hnd1⟩), fun e he => ?_, mvf⟩
            rcases List.mem_cons.mp (hperm.mem_iff.mp he) with rfl | he
            · exact ⟨⟨hnm1, hsm hb' (List.mem_of_getElem? hhb)⟩, hlt, .inr ⟨hha, by rw [htb]; simp⟩, List.mem_of_getElem? hhb⟩
            · exact hes2 e he
          · rw [if_neg (by simpa using hr0)]
            refine ⟨Mc, es, _, _, _, _, _, _, _, rfl, rfl, hnd1, hes2, mvd.mono (by omega)⟩
        · rw [if_neg hlt]
          exact ⟨Mb, es, _, _, _, _, _, _, _, rfl, rfl, hnd1, hes2, mvb.mono (by omega)⟩
      · rintro σ M' ⟨⟨Mb, es, s6, s8, s9, s10, s11, s12, s13, rfl, rfl, hnd1, hes, mvb⟩, _⟩
        rw [List.length_map] at hes mvb
        refine ⟨Mb, es, _, _, _, _, _, _, _, rfl, rfl, hnd1, fun e he => ?_, mvb.mono (by omega)⟩
        obtain ⟨k1, k2, k3, k4⟩ := hes e he
        refine ⟨k1, k2, .inl ?_, k4⟩
        rw [List.take_succ, hha]
        rcases k3 with k3 | ⟨k3, _⟩
        · exact List.mem_append_left _ k3
        · rw [hha] at k3
          cases k3
          simp
    · rintro σ M' ⟨Mb, es, s6, s8, s9, s10, s11, s12, s13, rfl, rfl, hnd1, hes, mvb⟩
      rw [List.length_map] at mvb
      have hLb := mvb.len
      have mvz := mvb.mono (show _ ≤ n + 2000 by omega)
      have g5 : (Mb ++ [MO.lst (rs.map rD), MO.lst (es.map pD)])[M.length]? = some (.lst (rs.map rD)) := by rw [← hLb]; exact mem_get _ _ 0
      have s5 : (Mb ++ [MO.lst (rs.map rD), MO.lst (es.map pD)]).set M.length .gone = Mb ++ [.gone, .lst (es.map pD)] := by rw [← hLb]; exact mem_set _ _ 0 _
      have g7 : (Mb ++ [MO.gone, MO.lst (es.map pD)])[M.length + 1]? = some (.lst (es.map pD)) := by rw [← hLb]; exact mem_get _ _ 1
      have s7 : (Mb ++ [MO.gone, MO.lst (es.map pD)]).set (M.length + 1) .gone = Mb ++ [.gone, .gone] := by rw [← hLb]; exact mem_set _ _ 1 _
      simp_arith [rev_l, g5]
      refine ⟨_, rfl, ?_⟩
      rw [s5]
      refine ⟨_, g7, ?_⟩
      rw [s7]
      have hel : es.length ≤ 25 := by
        have h1 := nodup_sub_len hnd1 (b := prodP sh sh) fun e he => by
          obtain ⟨k1, k2, k3, k4⟩ := hes e he
          refine prod_mem.mpr ⟨?_, k4⟩
          rcases k3 with k3 | ⟨k3, _⟩
          · exact List.mem_of_mem_take k3
          · exact List.mem_of_getElem? k3
        have h2 := prod_len sh sh
        have h3 : sh.length * sh.length ≤ 5 * 5 := Nat.mul_le_mul hsl hsl
        omega
      have hvl := vsub.length_le
      have hr : ∀ l : List RR, loA M.length (l.map rD) = true := fun l => by
        induction l with
        | nil => rfl
        | cons r l ih => simp [loA, rD, ruleD, D.lo, lo_pDs, ih]
      refine TR.to ?_ mvz.okT ⟨⟨vs.reverse, rs, es⟩, ?_, ?_, mvz⟩
      · rw [← List.map_reverse]
        simp only [D.lo, loA, lo_pDs, hr, Bool.and_true, Bool.and_self]
      · rw [← List.map_reverse]
        rfl
      · exact { vn := fun q hq => hpn q (vsub.subset (List.mem_reverse.mp hq)), vd := (List.reverse_perm vs).nodup_iff.mpr (vsub.nodup hpd), vl := by rw [List.length_reverse]; omega, rs := hrg, rl := by show rs.length ≤ 60; omega, en := fun e he => ⟨(hes e he).1, (hes e he).2.1⟩, ed := hnd1, el := by show es.length ≤ 60; omega, vl2 := by rw [List.length_reverse]; omega, rl2 := by show rs.length ≤ 12; omega, el2 := hel }
end H

namespace H
open PySem PySem.Spec PyProof.Rows L2 Lf
local macro_rules | `(tactic| simp_arith [$xs,*]) => `(tactic| simp only [e_ok, e_ex, e_bad, e_var, e_c, e_op2, e_op1, e_nilA, e_consA, e_callV, e_callS, e_asT, e_notT, e_andT, e_orT, e_andV, e_orV, e_notV, e_ifE, e_tup, e_lst, e_new, e_ch, e_frz, e_newOf, e_mtd, e_m1, e_part, e_slice, e_dnewT, e_dnewK, e_dget1, e_dget2, e_addN, e_next, e_seq, e_ret, e_expr, e_if, e_set, e_asg, e_setItem, e_dput, e_augExt, e_iseq, e_istr, e_ikeys, e_iitems, e_ienum, e_izip, e_range1, List.getElem?_cons_zero, List.getElem?_cons_succ, List.set_cons_zero, List.set_cons_succ, List.map_cons, List.map_nil, List.length_cons, List.length_nil, List.replicate, List.append_nil, List.nil_append, List.cons_append, Option.some.injEq, D.bl.injEq, D.int.injEq, D.str.injEq, D.ref.injEq, D.lst.injEq, D.tup.injEq, exists_eq_left', exists_eq_left, if_true, if_false, Bool.false_eq_true, Bool.not_true, Bool.not_false, decide_true, decide_false, Nat.zero_add, Nat.reduceAdd, Nat.reduceSub, Nat.reduceLeDiff, true_and, and_true, Tg.set, Tg.sets, wipeD, $xs,*])
open TL (tl numL)
open Pm
/-! ### the law's looks -/
theorem ne_same {M : Mem} {ds : List D} {p : PyData} {d : Nat} (h : toPy M (.lst ds) = some p) (hp : Lay d p) (hd : d ≤ 64) : neM M (.lst ds) (.lst ds) = some (.bl false) := by
  unfold neM
  cases ds with
  | nil => rfl
  | cons x ds =>
    rw [eqB_gen h h hp hp hd hd rfl (fun _ _ z => by cases z.1) (fun _ _ z => by cases z.1) (fun _ _ z => by cases z.1) (fun z => by cases z.1), eqv_refl p hp.c]
    rfl
theorem ne_sameT {M : Mem} {ds : List D} {p : PyData} {d : Nat} (h : toPy M (.tup ds) = some p) (hp : Lay d p) (hd : d ≤ 64) : neM M (.tup ds) (.tup ds) = some (.bl false) := by
  unfold neM
  rw [eqB_gen h h hp hp hd hd rfl (fun _ _ z => by cases z.1) (fun _ _ z => by cases z.1) (fun _ _ z => by cases z.1) (fun z => by cases z.1), eqv_refl p hp.c]
  rfl
def pyRow (q : Pl × Int) : PyData := .tuple [pyPl q.1, .int q.2]
theorem py_rows (M : Mem) (l : List (Pl × Int)) : toPyA M (l.map rowD) = some (l.map pyRow) := by
  induction l with
  | nil => rfl
  | cons q l ih => simp [toPyA, toPy, rowD, pyRow, py_pD, ih]
theorem ne_rows {M : Mem} {l : List (Pl × Int)} (h : ∀ q ∈ l, NameP q.1) : neM M (.lst (l.map rowD)) (.lst (l.map rowD)) = some (.bl false) :=
  ne_same (p := .list (l.map pyRow)) (d := 3) (by simp [toPy, py_rows]) (LayA.list (LayA.all fun x hx => by
    obtain ⟨q, hq, rfl⟩ := List.mem_map.mp hx
    exact LayA.tuple (.cons (lay_pl (h q hq)) (.cons (.int _ _) .nil)))) (by omega)
theorem ne_pls {M : Mem} {l : List Pl} (h : ∀ q ∈ l, NameP q) : neM M (.lst (l.map pD)) (.lst (l.map pD)) = some (.bl false) :=
  ne_same (p := .list (l.map pyPl)) (d := 2) (by simp [toPy, py_pDs]) (LayA.list (LayA.all fun x hx => by
    obtain ⟨q, hq, rfl⟩ := List.mem_map.mp hx
    exact lay_pl (h q hq))) (by omega)
theorem ne_more {M : Mem} {a b : List Pl} (ha : ∀ q ∈ a, NameP q) (hb : ∀ q ∈ b, NameP q) : neM M (.tup [.lst (a.map pD), .lst (b.map pD)]) (.tup [.lst (a.map pD), .lst (b.map pD)]) = some (.bl false) :=
  ne_sameT (p := .tuple [.list (a.map pyPl), .list (b.map pyPl)]) (d := 3) (by simp [toPy, toPyA, py_pDs]) (LayA.tuple (.cons (LayA.list (LayA.all fun x hx => by
    obtain ⟨q, hq, rfl⟩ := List.mem_map.mp hx
    exact lay_pl (ha q hq))) (.cons (LayA.list (LayA.all fun x hx => by
    obtain ⟨q, hq, rfl⟩ := List.mem_map.mp hx
    exact lay_pl (hb q hq))) .nil))) (by omega)
theorem texts_right_n {M : Mem} {d1 d2 : D} {n : Nat} {e : Nat → D} {t : Nat → Str} (hn : n ≤ 16000) (hl : ∀ M, lenM M [d1] = some (.int (n : Nat))) (h1 : ∀ M (i : Nat), i < n → ixM M d1 (.int (i : Nat)) = some (e i)) (h2 : ∀ M (i : Nat), i < n → ixM M d2 (.int (i : Nat)) = some (.str (t i)))
    (he : ∀ (M : Mem) i, i < n → ∀ j, j < n → eqM M (e i) (e j) = some (.bl (decide (t i = t j)))) : F_l_texts_right [d1, d2] M = .ok (.bl true) M := by
  refine RE.ev.eq ?_
  refine ev_fn rfl ?_
  unfold b_l_texts_right
  simp_arith []
  refine ev_for ?_
  simp_arith [hl]
  refine ⟨⟨by omega, by omega⟩, fun _ σ M' => M' = M ∧ ∃ s2 s3, σ = [some d1, some d2, s2, s3], fun _ _ _ _ => trivial, ⟨rfl, _, _, rfl⟩, ?_, ?_⟩
  · rintro a x σ M' hx ⟨rfl, s2, s3, rfl⟩
    obtain ⟨ha, rfl⟩ := rng_get hx
    rw [Int.zero_add]
    have ha' : a < n := by omega
    have hi : irange1S (consA (varS 2) nilA) [some d1, some d2, some (.int (a : Nat)), s3] M' = .ok ⟨rngItems 0 a, fun _ => True⟩ M' := by
      have := range_at (fa := consA (varS 2) nilA) (σ := [some d1, some d2, some (.int (a : Nat)), s3]) (M := M') (M' := M') (j := (a : Nat)) (by simp) (by omega) (by omega)
      rw [Int.toNat_natCast] at this
      exact this
    generalize hfi : irange1S (consA (varS 2) nilA) = fi at hi
    refine ev_for (RE.ev.of hi ⟨fun _ σ M1 => M1 = M' ∧ ∃ s3, σ = [some d1, some d2, some (.int (a : Nat)), s3], fun _ _ _ _ => trivial, ⟨rfl, _, rfl⟩, ?_, ?_⟩)
    · rintro k x σ M1 hx ⟨rfl, s3, rfl⟩
      obtain ⟨hk, rfl⟩ := rng_get hx
      rw [Int.zero_add]
      have hk' : k < n := by omega
      have hne : ∀ b : Bool, neM M1 (.bl b) (.bl b) = some (.bl false) := fun b => by cases b <;> rfl
      refine ⟨_, rfl, ?_⟩
      simp_arith [h1 M1 a ha', h1 M1 k hk', h2 M1 a ha', h2 M1 k hk', he M1 a ha' k hk', eq_s, hne]
      exact ⟨_, rfl⟩
    · rintro σ M1 ⟨rfl, s3, rfl⟩
      exact ⟨rfl, _, _, rfl⟩
  · rintro σ M' ⟨rfl, s2, s3, rfl⟩
    exact TR.pure rfl ⟨rfl, rfl⟩
theorem texts_right_l {α : Type} {M : Mem} {l : List α} {e : α → D} {t : α → Str} (hl : l.length ≤ 16000) (he : ∀ (M : Mem) a, a ∈ l → ∀ b, b ∈ l → eqM M (e a) (e b) = some (.bl (decide (t a = t b)))) :
    F_l_texts_right [.lst (l.map e), .lst (l.map fun a => .str (t a))] M = .ok (.bl true) M := by
  refine texts_right_n (n := l.length) (e := fun i => if h : i < l.length then e l[i] else .non) (t := fun i => if h : i < l.length then t l[i] else "") hl (fun M => by rw [len_l, List.length_map]) (fun M i hi => ?_) (fun M i hi => ?_) (fun M i hi j hj => ?_)
  · rw [ix_lstN, List.getElem?_map, List.getElem?_eq_getElem hi]
    simp [hi]
  · rw [ix_lstN, List.getElem?_map, List.getElem?_eq_getElem hi]
    simp [hi]
  · simp only [hi, hj, dif_pos]
    exact he M _ (List.getElem_mem hi) _ (List.getElem_mem hj)
theorem pT_inj {a b : Pl} (ha : NameP a) (hb : NameP b) (h : pT a = pT b) : a = b := by
  have h1 := read_place_at (M := []) ha
  have h2 := read_place_at (M := []) hb
  rw [h, h2] at h1
  have e : RE.ok (pD b) ([] : Mem) = .ok (pD a) [] := h1
  simp only [RE.ok.injEq, and_true] at e
  exact (pD_inj e).symm
end H

namespace H
open PySem PySem.Spec PyProof.Rows L2 Lf
local macro_rules | `(tactic| simp_arith [$xs,*]) => `(tactic| simp only [e_ok, e_ex, e_bad, e_var, e_c, e_op2, e_op1, e_nilA, e_consA, e_callV, e_callS, e_asT, e_notT, e_andT, e_orT, e_andV, e_orV, e_notV, e_ifE, e_tup, e_lst, e_new, e_ch, e_frz, e_newOf, e_mtd, e_m1, e_part, e_slice, e_dnewT, e_dnewK, e_dget1, e_dget2, e_addN, e_next, e_seq, e_ret, e_expr, e_if, e_set, e_asg, e_setItem, e_dput, e_augExt, e_iseq, e_istr, e_ikeys, e_iitems, e_ienum, e_izip, e_range1, List.getElem?_cons_zero, List.getElem?_cons_succ, List.set_cons_zero, List.set_cons_succ, List.map_cons, List.map_nil, List.length_cons, List.length_nil, List.replicate, List.append_nil, List.nil_append, List.cons_append, Option.some.injEq, D.bl.injEq, D.int.injEq, D.str.injEq, D.ref.injEq, D.lst.injEq, D.tup.injEq, exists_eq_left', exists_eq_left, if_true, if_false, Bool.false_eq_true, Bool.not_true, Bool.not_false, decide_true, decide_false, Nat.zero_add, Nat.reduceAdd, Nat.reduceSub, Nat.reduceLeDiff, true_and, and_true, Tg.set, Tg.sets, wipeD, $xs,*])
open TL (tl numL)
open Pm
/-! ### each place is shown -/
theorem keys_named {W : Wd} (g : GWd W) {hs : Hs Pl} (F : Fin W.V (lvF W.E 0 W.R) hs) : ∀ q ∈ hs.map (·.1), q ∈ namedK W := fun q hq => by
  obtain ⟨x, ex⟩ := getA_some.mpr hq
  refine (named_mem g q).mpr ?_
  rcases F.held q x ex with ⟨h, _⟩ | ⟨r, hr, rfl, _⟩
  · exact .inl h
  · obtain ⟨i, r', e, rfl, _⟩ := lvF_mem hr
    exact .inr ⟨r', List.mem_of_getElem? e, .inl rfl⟩
theorem isnotB_t (M : Mem) : isnotBM M (.bl true) (.bl true) = some (.bl false) := rfl
theorem places_right_l {M : Mem} {W : Wd} (g2 : GWd2 W) {i n : Nat} {hs : Hs Pl} (hrun : Runs (lvF W.E 0 W.R) n (Pm.start W.V) hs) (F : Fin W.V (lvF W.E 0 W.R) hs) (hA : HAt M i hs) : F_l_places_right [wD W, wD W, .ref i] M = .ok (.bl true) M := by
  refine RE.ev.eq (ev_fn rfl ?_)
  unfold b_l_places_right
  have g := g2.toGWd
  have G := glv g
  have hsp := srt_perm pD (namedK W)
  have hn : callS F_named (consA (varS 0) nilA) [some (wD W), some (wD W), some (.ref i), none, none, none] M = .ok (.lst ((srt pD (namedK W)).map pD)) M := by
    simp [named_l g]
  simp_arith []
  refine ev_forL hn (fun _ σ M' => M' = M ∧ ∃ s3 s4 s5, σ = [some (wD W), some (wD W), some (.ref i), s3, s4, s5]) ⟨rfl, _, _, _, rfl⟩ ?_ ?_
  · rintro k x σ M' hx ⟨rfl, s3, s4, s5, rfl⟩
    obtain ⟨p, hp, rfl⟩ := getElem?_map' hx
    have hpn : p ∈ namedK W := hsp.mem_iff.mp (List.mem_of_getElem? hp)
    have hpN := named_name g p hpn
    refine ⟨_, rfl, ?_⟩
    simp_arith [din_pl hA]
    cases eg : getA hs p with
    | some x =>
      have hb : p ∈ hs.map (·.1) := getA_some.mp ⟨x, eg⟩
      have hhl : hs.length ≤ 120 := by have := inv_len F.toInv; have := g.vl; have := G.l; omega
      obtain ⟨m, fin, hw, hin⟩ := why_ex G.c1 F hb (L := 16000) (fun r hr => (G.ps r hr).2.1) (by omega)
      have hnm : ∀ q ∈ hs.map (·.1), NameP q := fun q hq => named_name g q (keys_named g F q hq)
      have e1 := why_l (M := M') g hrun F hpN hb hw hin hnm
      have hperm := srt_perm hpD (fin.map fun q => ((getA hs q.1).getD 0, q.1))
      have hfk : ∀ q ∈ fin.map (·.1), q ∈ hs.map (·.1) := fun q hq => (below_mem.mp (hin.inS q hq)).1
      obtain ⟨pk1, pk2⟩ := paper_ok G.c1 F hin hperm (srt_hp _)
      have hfl : fin.length ≤ 120 := by
        have := nodup_sub_len hin.nd (b := hs.map (·.1)) hfk
        simp only [List.length_map] at this
        omega
      have hTl : (srt hpD (fin.map fun q => ((getA hs q.1).getD 0, q.1))).length ≤ 120 := by rw [hperm.length_eq, List.length_map]; exact hfl
      have hTn : ∀ q ∈ srt hpD (fin.map fun q => ((getA hs q.1).getD 0, q.1)), NameP q.2 := fun q hq => by
        obtain ⟨z, hz, rfl⟩ := List.mem_map.mp (hperm.mem_iff.mp hq)
        exact hnm z.1 (hfk z.1 (List.mem_map.mpr ⟨z, hz, rfl⟩))
      generalize srt hpD (fin.map fun q => ((getA hs q.1).getD 0, q.1)) = T at *
      generalize hP : T.map (fun q => (q.2, reason W.V (lvF W.E 0 W.R) hs q.2)) = paper at *
      have hPn : ∀ q ∈ paper, NameP q.1 := fun q hq => by
        rw [← hP] at hq
        obtain ⟨z, hz, rfl⟩ := List.mem_map.mp hq
        exact hTn z hz
      have hPt : ∀ j, (paper.take j).map (·.1) = (T.take j).map (·.2) := fun j => by
        rw [← hP, ← List.map_take, List.map_map]
        rfl
      have e2 := why_shows_l (M := M') g hpN hPn (by rw [← hP, List.length_map]; omega) (fun j a v hj => by
        rw [← hP] at hj
        obtain ⟨⟨h, a'⟩, hz, e⟩ := getElem?_map' hj
        cases e
        rw [hPt]
        exact pk1 j h _ hz) (by
        obtain ⟨h, hz⟩ := pk2
        refine ⟨reason W.V (lvF W.E 0 W.R) hs p, ?_⟩
        rw [← hP, List.length_map, List.getElem?_map, hz]
        rfl)
      simp_arith [Option.isSome_some]
      refine RE.ev.of e1 ?_
      refine RE.ev.of e1 ?_
      simp_arith [ne_rows hPn]
      refine RE.ev.of e2 ?_
      simp_arith [isnotB_t]
      exact ⟨_, _, _, rfl⟩
    | none =>
      have hNl : (namedK W).length ≤ 128 := by
        have := (foldR W.R W.V fun r hr => (g.rs r hr).ps.2.1).2.2
        have h1 := g2.vl2
        have h2 := g2.rl2
        unfold namedK
        omega
      have hRl : (lvF W.E 0 W.R).length ≤ 12 := Nat.le_trans lvF_len g2.rl2
      obtain ⟨m, fin, hw, hin⟩ := why_not_ex F (place := p) eg (N := namedK W) (L := 16000) (B := 12) (fun r hr x hx => by
        obtain ⟨j, r', e, rfl, _⟩ := lvF_mem hr
        exact (named_mem g x).mpr (.inr ⟨r', List.mem_of_getElem? e, .inr hx⟩)) hpn hRl (by omega) (by omega)
      have e1 := why_not_l (M := M') g hrun F hpN eg hw
      have hfk : ∀ q ∈ fin.map (·.1), q ∈ namedK W ∧ getH hs q = none := fun q hq => by
        obtain ⟨h1, h2⟩ := List.mem_filter.mp (hin.inS q hq)
        exact ⟨h1, of_decide_eq_true h2⟩
      have hperm := srt_perm pD (fin.map (·.1))
      have hpw := srt_pl hin.nd
      have hfl : (fin.map (·.1)).length ≤ 128 := Nat.le_trans (nodup_sub_len hin.nd (b := namedK W) fun q hq => (hfk q hq).1) hNl
      have hpin : p ∈ fin.map (·.1) := by
        rcases hin.has with h | h
        · exact h
        · cases h
      have hcl := hin.cl
      generalize fin.map (·.1) = ks at *
      have hl' : (srt pD ks).length ≤ 128 := by rw [hperm.length_eq]; exact hfl
      have hmem : ∀ q, q ∈ srt pD ks ↔ q ∈ ks := fun q => hperm.mem_iff
      generalize srt pD ks = l at *
      have hlN : ∀ q ∈ l, NameP q := fun q hq => named_name g q (hfk q ((hmem q).mp hq)).1
      have e2 := why_not_shows_l (M := M') g hpN hlN (by omega) ((hmem p).mpr hpin) hpw (fun q hq hv => by
        have h1 := (hfk q ((hmem q).mp hq)).2
        rw [F.v0 q hv] at h1
        cases h1) (fun r hr hq => by
        obtain ⟨x, hx1, hx2, _, hx4⟩ := fails_ok F (hfk r.q ((hmem _).mp hq)).2 hr rfl
        refine ⟨x, hx1, (hmem x).mpr ?_⟩
        rcases hcl r.q ((hmem _).mp hq) x hx4 with h | h
        · exact h
        · cases h)
      simp_arith [Option.isSome_none]
      refine RE.ev.of e1 ?_
      refine RE.ev.of e1 ?_
      simp_arith [ne_pls hlN]
      refine RE.ev.of e2 ?_
      simp_arith [isnotB_t]
      exact ⟨_, _, _, rfl⟩
  · rintro σ M' ⟨rfl, s3, s4, s5, rfl⟩
    exact TR.pure rfl ⟨rfl, rfl⟩
end H

namespace H
open PySem PySem.Spec PyProof.Rows L2 Lf
local macro_rules | `(tactic| simp_arith [$xs,*]) => `(tactic| simp only [e_ok, e_ex, e_bad, e_var, e_c, e_op2, e_op1, e_nilA, e_consA, e_callV, e_callS, e_asT, e_notT, e_andT, e_orT, e_andV, e_orV, e_notV, e_ifE, e_tup, e_lst, e_new, e_ch, e_frz, e_newOf, e_mtd, e_m1, e_part, e_slice, e_dnewT, e_dnewK, e_dget1, e_dget2, e_addN, e_next, e_seq, e_ret, e_expr, e_if, e_set, e_asg, e_setItem, e_dput, e_augExt, e_iseq, e_istr, e_ikeys, e_iitems, e_ienum, e_izip, e_range1, List.getElem?_cons_zero, List.getElem?_cons_succ, List.set_cons_zero, List.set_cons_succ, List.map_cons, List.map_nil, List.length_cons, List.length_nil, List.replicate, List.append_nil, List.nil_append, List.cons_append, Option.some.injEq, D.bl.injEq, D.int.injEq, D.str.injEq, D.ref.injEq, D.lst.injEq, D.tup.injEq, exists_eq_left', exists_eq_left, if_true, if_false, Bool.false_eq_true, Bool.not_true, Bool.not_false, decide_true, decide_false, Nat.zero_add, Nat.reduceAdd, Nat.reduceSub, Nat.reduceLeDiff, true_and, and_true, Tg.set, Tg.sets, wipeD, $xs,*])
open TL (tl numL)
open Pm
/-! ### the law -/
def pyR (r : RR) : PyData := pyRule r.q r.c r.ps
theorem py_rD (M : Mem) (r : RR) : toPy M (rD r) = some (pyR r) := py_rule (.inl rfl)
theorem py_rDs (M : Mem) (l : List RR) : toPyA M (l.map rD) = some (l.map pyR) := by
  induction l with
  | nil => rfl
  | cons r l ih => simp [toPyA, py_rD, ih]
def pyW (W : Wd) : PyData := .tuple [.list (W.V.map pyPl), .list (W.R.map pyR), .list (W.E.map pyPl)]
theorem py_wD (M : Mem) (W : Wd) : toPy M (wD W) = some (pyW W) := by simp [toPy, toPyA, wD, pyW, py_pDs, py_rDs]
theorem fit_pls {l : List Pl} (h : ∀ q ∈ l, NameP q) (hl : l.length ≤ 60) : Fit 20000 2 (.list (l.map pyPl)) := by
  have q := FitA.all (b := 300) (d := 1) (ps := l.map pyPl) fun p hp => by
    obtain ⟨r, hr, rfl⟩ := List.mem_map.mp hp
    exact fit_pl (h r hr)
  refine (FitA.list (q.mono (c := 18120) ?_)).mono (by omega) (by omega)
  rw [List.length_map]
  have := Nat.mul_le_mul_right (300 + 2) hl
  omega
theorem fit_W {W : Wd} (g : GWd W) : showOk (pyW W) = true := by
  have h1 := fit_pls g.vn g.vl
  have h2 := fit_pls (fun q hq => (g.en q hq).1) g.el
  have q := FitA.all (b := 5000) (d := 3) (ps := W.R.map pyR) fun p hp => by
    obtain ⟨r, hr, rfl⟩ := List.mem_map.mp hp
    exact fit_rule (g.rs r hr).q (g.rs r hr).c2 (g.rs r hr).ps
  have h3 : Fit 400000 4 (.list (W.R.map pyR)) := by
    refine (FitA.list (q.mono (c := 300120) ?_)).mono (by omega) (by omega)
    rw [List.length_map]
    have := Nat.mul_le_mul_right (5000 + 2) g.rl
    omega
  have h4 : Fit 500000 5 (pyW W) := (FitA.tuple (FitA.cons (h1.mono (Nat.le_refl _) (by omega)) (FitA.cons h3 (FitA.cons (h2.mono (Nat.le_refl _) (by omega)) FitA.nil (c := 0))) (d := 4))).mono (by omega) (by omega)
  exact fit_ok h4 rfl (by omega) (by omega)
theorem rule_inj {a b : RR} (ha : GRul a) (hb : GRul b) (h : Txt.join " " (ruleW a.q a.c a.ps) = Txt.join " " (ruleW b.q b.c b.ps)) : rD a = rD b := by
  have h1 := read_rule_l (M := []) ha
  have h2 := read_rule_l (M := []) hb
  rw [h, h2] at h1
  have e : RE.ok (rD b) ([] : Mem) = .ok (rD a) [] := h1
  simp only [RE.ok.injEq, and_true] at e
  exact e.symm
theorem pDs_inj : ∀ {a b : List Pl}, a.map pD = b.map pD → a = b
  | [], [], _ => rfl
  | [], _ :: _, h => by simp at h
  | _ :: _, [], h => by simp at h
  | x :: a, y :: b, h => by
    simp only [List.map_cons, List.cons.injEq] at h
    rw [pD_inj h.1, pDs_inj h.2]
theorem rD_inj {a b : RR} (h : rD a = rD b) : a = b := by
  simp only [rD, ruleD, D.tup.injEq, List.cons.injEq, D.str.injEq, D.int.injEq, D.lst.injEq, and_true] at h
  obtain ⟨h1, h2, h3, h4⟩ := h
  have h5 := pDs_inj h4
  have h3' : a.c = b.c := by omega
  cases a; cases b
  simp only [RR.mk.injEq] at *
  exact ⟨Prod.ext h1 h2, h3', h5⟩
theorem lay_rule {r : RR} (g : GRul r) : Lay 3 (pyR r) := LayA.tuple (.cons (.str g.q.1 _) (.cons (.str g.q.2 _) (.cons (.int _ _) (.cons (LayA.list (LayA.all fun x hx => by
    obtain ⟨q, hq, rfl⟩ := List.mem_map.mp hx
    exact lay_pl (g.ps.2.2.2 q hq))) .nil))))
theorem eqvA_pls : ∀ a b : List Pl, PyData.eqvAll (a.map pyPl) (b.map pyPl) = decide (a = b)
  | [], [] => by simp [PyData.eqvAll]
  | [], _ :: _ => by simp [PyData.eqvAll]
  | _ :: _, [] => by simp [PyData.eqvAll]
  | x :: a, y :: b => by
    simp only [List.map_cons, PyData.eqvAll, eqv_pl, eqvA_pls a b]
    by_cases h1 : x = y <;> by_cases h2 : a = b <;> simp [h1, h2]
theorem eqv_rule (a b : RR) : PyData.eqv (pyR a) (pyR b) = true ↔ a = b := by
  simp only [pyR, pyRule, PyData.eqv, PyData.eqvAll, eqvA_pls, Bool.and_true, Bool.and_eq_true, beq_iff_eq, decide_eq_true_eq]
  constructor
  · rintro ⟨h1, h2, h3, h4⟩
    cases a; cases b
    simp only [RR.mk.injEq] at *
    exact ⟨Prod.ext h1 h2, by omega, h4⟩
  · rintro rfl
    simp
theorem eq_rule (M : Mem) {a b : RR} (ha : GRul a) (hb : GRul b) : eqM M (rD a) (rD b) = some (.bl (decide (Txt.join " " (ruleW a.q a.c a.ps) = Txt.join " " (ruleW b.q b.c b.ps)))) := by
  have e : PyData.eqv (pyR a) (pyR b) = decide (Txt.join " " (ruleW a.q a.c a.ps) = Txt.join " " (ruleW b.q b.c b.ps)) := by
    rw [Bool.eq_iff_iff, eqv_rule, decide_eq_true_eq]
    exact ⟨fun h => by rw [h], fun h => rD_inj (rule_inj ha hb h)⟩
  unfold eqM
  rw [eqB_gen (py_rD M a) (py_rD M b) (lay_rule ha) (lay_rule hb) (by omega) (by omega) rfl (fun _ _ z => by cases z.1) (fun _ _ z => by cases z.1) (fun _ _ z => by cases z.1) (fun z => by cases z.1), e]
  rfl
theorem eq_plT (M : Mem) {a b : Pl} (ha : NameP a) (hb : NameP b) : eqM M (pD a) (pD b) = some (.bl (decide (pT a = pT b))) := by
  rw [eq_pl M ha hb]
  congr 2
  rw [decide_eq_decide]
  exact ⟨fun h => by rw [h], pT_inj ha hb⟩
theorem same_hs {hs : Hs Pl} (nd : (hs.map (·.1)).Nodup) {M : Mem} {i j : Nat} (h1 : M[i]? = some (hM hs)) (h2 : M[j]? = some (hM hs)) : dsameM false M (.ref i) (.ref j) = some (.bl false) := by
  have hk : sameKv (encA natD hs) (encA natD hs) := ⟨rfl, fun p hp => by
    obtain ⟨kv, hkv, rfl⟩ := List.mem_map.mp hp
    refine ⟨?_, rfl⟩
    rw [valG_enc, getA_of_mem nd hkv]
    rfl⟩
  unfold dsameM hM at *
  simp only [h1, h2]
  rw [if_pos hk]
end H

namespace H
open PySem PySem.Spec PyProof.Rows L2 Lf
local macro_rules | `(tactic| simp_arith [$xs,*]) => `(tactic| simp only [e_ok, e_ex, e_bad, e_var, e_c, e_op2, e_op1, e_nilA, e_consA, e_callV, e_callS, e_asT, e_notT, e_andT, e_orT, e_andV, e_orV, e_notV, e_ifE, e_tup, e_lst, e_new, e_ch, e_frz, e_newOf, e_mtd, e_m1, e_part, e_slice, e_dnewT, e_dnewK, e_dget1, e_dget2, e_addN, e_next, e_seq, e_ret, e_expr, e_if, e_set, e_asg, e_setItem, e_dput, e_augExt, e_iseq, e_istr, e_ikeys, e_iitems, e_ienum, e_izip, e_range1, List.getElem?_cons_zero, List.getElem?_cons_succ, List.set_cons_zero, List.set_cons_succ, List.map_cons, List.map_nil, List.length_cons, List.length_nil, List.replicate, List.append_nil, List.nil_append, List.cons_append, Option.some.injEq, D.bl.injEq, D.int.injEq, D.str.injEq, D.ref.injEq, D.lst.injEq, D.tup.injEq, exists_eq_left', exists_eq_left, if_true, if_false, Bool.false_eq_true, Bool.not_true, Bool.not_false, decide_true, decide_false, Nat.zero_add, Nat.reduceAdd, Nat.reduceSub, Nat.reduceLeDiff, true_and, and_true, Tg.set, Tg.sets, wipeD, $xs,*])
open TL (tl numL)
open Pm
theorem cutto (M : Mem) (l : List Pl) (k : Nat) : slM M (.lst (l.map pD)) none (some ((k : Nat) : Int)) = some (.lst ((l.take k).map pD)) := by
  have := cut_to (l.map pD) k
  simp only [slM, lstOf, Option.map_some, this, List.map_take]
theorem more_names {hs hs2 : Hs Pl} (h : ∀ q ∈ hs.map (·.1), NameP q) : (∀ q ∈ srt pD (aloneL hs hs2), NameP q) ∧ ∀ q ∈ srt pD (lesserL hs hs2), NameP q := by
  constructor
  · intro q hq
    have hq := (srt_perm pD _).mem_iff.mp hq
    obtain ⟨z, hz, rfl⟩ := List.mem_map.mp hq
    exact h z.1 (List.mem_map.mpr ⟨z, (List.mem_filter.mp hz).1, rfl⟩)
  · intro q hq
    have hq := (srt_perm pD _).mem_iff.mp hq
    obtain ⟨z, hz, rfl⟩ := List.mem_map.mp hq
    exact h z.1 (List.mem_map.mpr ⟨z, (List.mem_filter.mp hz).1, rfl⟩)
theorem ne_str (M : Mem) (a : Str) : neM M (.str a) (.str a) = some (.bl false) := by rw [ne_s]; simp
theorem law_true (ns : List Int) (h : ns.length ≤ 63) : ∃ M, F_law [.scr (ns.map D.int)] [] = .ok (.bl true) M := by
  suffices hw : (F_law [.scr (ns.map D.int)] []).ev noX fun d _ => d = .bl true by
    obtain ⟨d, M, e, rfl⟩ := hw.get
    exact ⟨M, e⟩
  refine ev_fn rfl ?_
  unfold b_law
  have hln : ∀ M, lenM M [.scr (ns.map D.int)] = some (.int (ns.length : Int)) := fun M => by simp [lenM, seqOf, lstOf]
  simp_arith []
  refine ev_for ?_
  simp_arith [hln]
  have hmn : min2M [] [.int 8, .int (ns.length : Int)] = some (.int (if (ns.length : Int) < 8 then (ns.length : Int) else 8)) := rfl
  generalize hm : (if (ns.length : Int) < 8 then (ns.length : Int) else 8) = m at hmn
  have hm2 : 0 ≤ m ∧ m ≤ 8 := by rw [← hm]; split <;> omega
  have hmx : max2M [] [.int 1, .int m] = some (.int (if m > 1 then m else 1)) := rfl
  generalize hm3 : (if m > 1 then m else 1) = m2 at hmx
  have hm4 : 0 ≤ m2 ∧ m2 ≤ 8 := by rw [← hm3]; split <;> omega
  simp_arith [hmn, hmx]
  refine ⟨⟨by omega, by omega⟩, fun _ σ _ => ∃ s1 s2 s3 s4 s5 s6 s7 s8 s9 s10 s11 s12 s13 s14, σ = [some (.scr (ns.map D.int)), s1, s2, s3, s4, s5, s6, s7, s8, s9, s10, s11, s12, s13, s14], fun _ _ _ _ => trivial, ⟨_, _, _, _, _, _, _, _, _, _, _, _, _, _, rfl⟩, ?_, ?_⟩
  · rintro k x σ M hx ⟨s1, s2, s3, s4, s5, s6, s7, s8, s9, s10, s11, s12, s13, s14, rfl⟩
    obtain ⟨hk, rfl⟩ := rng_get hx
    rw [Int.zero_add]
    simp_arith []
    obtain ⟨a, b, ep, ha, hb⟩ := pot_at (M := M) ns k (by omega)
    refine RE.ev.of ep ?_
    have hp0 : PotAt (M ++ [potL a b 0]) M.length 0 := ⟨a, b, 0, by simp, ha, hb, by omega, by omega⟩
    generalize hp : M.length = p at hp0
    generalize M ++ [potL a b 0] = M1 at hp0
    refine (world_w hp0 (by omega)).go fun d M2 ⟨W, hd, g2, mv⟩ => ?_
    subst hd
    have g := g2.toGWd
    have G := glv g
    have hpot := mv.pot
    refine RE.ev.of (by_texts_l g) ?_
    obtain ⟨n1, hs, hrun, F⟩ := least_ex G.c1 g.vd
    have hrepr := repr_at (py_wD M2 W) (fit_W g)
    simp_arith [hrepr, ne_str]
    refine RE.ev.of (least_l g hrun) ?_
    refine RE.ev.of (least_l g hrun) ?_
    have hm1 : M2 ++ [hM hs] ++ [hM hs] = M2 ++ [hM hs, hM hs] := by simp
    have hl1 : (M2 ++ [hM hs]).length = M2.length + 1 := by simp
    rw [hm1, hl1]
    have hpot2 := hpot.app [hM hs, hM hs]
    have q0 : (M2 ++ [hM hs, hM hs])[M2.length]? = some (hM hs) := by simp
    have q1 : (M2 ++ [hM hs, hM hs])[M2.length + 1]? = some (hM hs) := by simp
    simp_arith [same_hs F.nd q0 q1]
    generalize M2 ++ [hM hs, hM hs] = M3 at hpot2
    refine RE.ev.of (named_l g) ?_
    have hsp := srt_perm pD (namedK W)
    have hnl : (srt pD (namedK W)).length ≤ 600 := by rw [hsp.length_eq]; exact named_len g
    have hnn : ∀ q ∈ srt pD (namedK W), NameP q := fun q hq => named_name g q (hsp.mem_iff.mp hq)
    refine ev_lcML (l := srt pD (namedK W)) (e := pD) (fun q => .str (pT q)) rfl (by omega) (fun q hq => ⟨_, rfl, ?_⟩) ?_
    · simp_arith []
      exact RE.ev.of (show_place_at (hnn q hq)) ⟨rfl, rfl⟩
    have ht1 : ∀ M, F_l_texts_right [.lst ((srt pD (namedK W)).map pD), .lst ((srt pD (namedK W)).map fun q => .str (pT q))] M = .ok (.bl true) M := fun M => texts_right_l (e := pD) (t := pT) (by omega) fun M a ha b hb => eq_plT M (hnn a ha) (hnn b hb)
    have ht2 : ∀ M, F_l_texts_right [.lst (W.R.map rD), .lst (W.R.map fun r => .str (Txt.join " " (ruleW r.q r.c r.ps)))] M = .ok (.bl true) M := fun M => texts_right_l (e := rD) (t := fun r => Txt.join " " (ruleW r.q r.c r.ps)) (by have := g.rl; omega) fun M a ha b hb => eq_rule M (g.rs a ha) (g.rs b hb)
    generalize F_l_texts_right = FF at ht1 ht2 ⊢
    refine RE.ev.of (ht1 _) ?_
    have i1 : ∀ M : Mem, ixM M (wD W) (.int 1) = some (.lst (W.R.map rD)) := fun M => ix_tup1 _ _
    have i0 : ∀ M : Mem, ixM M (wD W) (.int 0) = some (.lst (W.V.map pD)) := fun M => ix_tup0 _ _
    simp_arith [i1]
    refine ev_lcML (l := W.R) (e := rD) (fun r => .str (Txt.join " " (ruleW r.q r.c r.ps))) (M1 := M3) (by simp [i1]) (by have := g.rl; omega) (fun r hr => ⟨_, rfl, ?_⟩) ?_
    · simp_arith []
      exact RE.ev.of (show_rule_l (g.rs r hr)) ⟨rfl, rfl⟩
    refine RE.ev.of (ht2 _) ?_
    simp_arith []
    refine ev_forL (ds := W.R.map rD) (M1 := M3) (by simp [i1]) (fun _ σ M' => M' = M3 ∧ ∃ s7 s8 s9 s10 s11, σ = [some (.scr (ns.map D.int)), some (.int (k : Nat)), some (.ref p), some (wD W), some (wD W), some (.lst ((srt pD (namedK W)).map pD)), s6, s7, s8, s9, s10, s11, s12, s13, s14]) ⟨rfl, _, _, _, _, _, rfl⟩ ?_ ?_
    · rintro j x σ M' hx ⟨rfl, s7, s8, s9, s10, s11, rfl⟩
      obtain ⟨r, hr', rfl⟩ := getElem?_map' hx
      have hr := g.rs r (List.mem_of_getElem? hr')
      refine ⟨_, rfl, ?_⟩
      have hsp1 : F_show_place [.tup [.str r.q.1, .str r.q.2]] M' = .ok (.str (pT r.q)) M' := show_place_at hr.q
      have hstr : strM M' [.int (r.c : Nat)] = some (.str (numT r.c)) := by
        have := big_c hr
        simp only [strM]
        rw [if_pos (by simpa using this)]
        rfl
      have hsr : F_show_rule [.tup [.str r.q.1, .str r.q.2, .int (r.c : Nat), .lst (r.ps.map pD)]] M' = .ok (.str (Txt.join " " (ruleW r.q r.c r.ps))) M' := show_rule_l hr
      have hps := hr.ps.2.1
      have hjoin : joinM M' (.str " ") (.lst ((ruleW r.q r.c r.ps).map .str)) = some (.str (Txt.join " " (ruleW r.q r.c r.ps))) := join_lst M' (join_bd (by decide +kernel) (by simp [ruleW]; omega) fun y hy => by
        have := (rule_words hr.q (big_c hr) hr.ps y hy).2
        omega)
      have hadd : addM M' (.lst [.str (pT r.q), .str "=", .str (numT r.c)]) (.lst (r.ps.map fun q => .str (pT q))) = some (.lst ((ruleW r.q r.c r.ps).map .str)) := by
        rw [add_l _ (by simp; omega)]
        simp [ruleW]
      simp_arith []
      refine RE.ev.of hsp1 ?_
      simp_arith [hstr]
      refine ev_lcML (l := r.ps) (e := pD) (fun q => .str (pT q)) rfl (by omega) (fun q hq => ⟨_, rfl, ?_⟩) ?_
      · simp_arith []
        exact RE.ev.of (show_place_at (hr.ps.2.2.2 q hq)) ⟨rfl, rfl⟩
      simp_arith [hadd]
      refine RE.ev.of hsr ?_
      simp_arith [hjoin, isStr, ne_str]
      exact ⟨_, _, _, _, _, rfl⟩
    · rintro σ M' ⟨rfl, s7, s8, s9, s10, s11, rfl⟩
      simp_arith []
      refine RE.ev.of (least_l g hrun) ?_
      have hA := heights_at M' hs
      refine RE.ev.of (places_right_l g2 hrun F hA) ?_
      simp_arith [i0]
      have hpot3 := hpot2.app [hM hs]
      generalize M' ++ [hM hs] = M4 at hpot3
      refine (dip_w hpot3 (by omega) (by omega) (by omega)).go fun d M5 ⟨r, hd, hr, _⟩ => ?_
      subst hd
      obtain ⟨rk, rfl⟩ := Int.eq_ofNat_of_zero_le hr.1
      have hcut : ∀ M, slM M (.lst (W.V.map pD)) none (some (1 + (rk : Int))) = some (.lst ((W.V.take (1 + rk)).map pD)) := fun M => by
        have := cutto M W.V (1 + rk)
        rw [show (((1 + rk : Nat)) : Int) = 1 + (rk : Int) by omega] at this
        exact this
      simp_arith [add_i, hcut]
      have hsub := List.take_sublist (1 + rk) W.V
      obtain ⟨n2, hs2, hrun2, F2⟩ := least_ex (R := lvF W.E 0 W.R) (V := W.V.filter fun p => decide (p ∉ W.V.take (1 + rk))) G.c1 ((List.filter_sublist).nodup g.vd)
      have hf : ∀ M, F_falls [wD W, .lst ((W.V.take (1 + rk)).map pD)] M = .ok (moreD hs hs2) M := fun M => falls_l g (fun q hq => g.vn q (hsub.subset hq)) (hsub.nodup g.vd) (by have := g.vl; have := hsub.length_le; omega) (fun q hq => hsub.subset hq) hrun F hrun2
      refine RE.ev.of (hf _) ?_
      refine RE.ev.of (hf _) ?_
      obtain ⟨m1, m2⟩ := more_names (hs := hs) (hs2 := hs2) fun q hq => named_name g q (keys_named g F q hq)
      have hne := ne_more (M := M5) m1 m2
      unfold moreD
      simp_arith [hne]
      exact ⟨_, _, _, _, _, _, _, _, _, _, _, _, _, _, rfl⟩
  · rintro σ M ⟨s1, s2, s3, s4, s5, s6, s7, s8, s9, s10, s11, s12, s13, s14, rfl⟩
    exact TR.both rfl fun _ _ => rfl
end H

namespace H
open PySem PySem.Spec PyProof.Rows L2 Lf
theorem law_sp {K : PySem.W.Frag} {mg : Str → Option Value} (H : Hp) (a : Addr) (ns : List Int) (hl : ns.length ≤ 63) (hS : SqL K H a (ns.map V.int)) : spD ⟨K, mg⟩ F_law [.ref a] H (fun v _ => v = .bl true) fun _ _ _ => False := by
  obtain ⟨M, hM⟩ := law_true ns hl
  refine ⟨⟨H, []⟩, [.scr (ns.map D.int)], [], ⟨fun _ _ e => e, rfl, List.nodup_nil, fun a h => (by cases h), fun i a m h => (by simp at h), fun i a m h => (by simp at h), SlR.nil⟩, RvA.cons ?_ RvA.nil, ?_⟩
  · simp only [Rv]
    refine ⟨a, ns.map V.int, rfl, hS, ?_⟩
    clear hM hS hl
    induction ns with
    | nil => exact RvA.nil
    | cons n ns ih => exact RvA.cons (by simp only [Rv]) ih
  · rw [hM]
    intro g' H' l c v r
    simpa only [Rv] using r
theorem facts {P : Program} {w : World} {K : PySem.W.Frag} {h : Heap} {mg : Str → Option Value} {f : Addr} (X : K.In h) (G : h.Ns mainGlobals mg) (hfa : mg ("law" : Str) = some (.ref f)) (c : He.SaysX fa fn [] [] ex w h K) :
    ∃ fd : FuncData, (∀ (s : Shared) (v : Value), BindsTo s fd ⟨[v], []⟩ [("script", v)]) ∧ ∀ base : Heap, K.In base → base.Ns mainGlobals mg → base.NoDigits → FnG P w K mg base (L2.CX P w) 10 f fd ["script"] (spD ⟨K, mg⟩ F_law) := by
  have s : He.SaysD fa fn K := congrArg (fun z : He.AlT => z.1) c.t
  obtain ⟨fd, F⟩ := s.def_ 44 (d := d_law) rfl
  have e := hfa.symm.trans (He.glo_ok X G (s.fact 44 (f := .glo "law") rfl))
  cases e
  have b := FunD.bindsA (ps := ["script"]) F fun _ _ _ _ _ _ us hl => match us, hl with | [_], _ => rfl
  exact ⟨fd, fun s v => b s [v] rfl, fun base kin ns dig => (⟨kin, ns, dig, s, c.more⟩ : Md K mg base).fo_law F⟩
end H
open PySem PySem.W PySem.Calls PyProof.Rows
theorem PySem.Challenge.cw_leanfar_k68_whole_a_world_by_texts_holds : PySem.Challenge.rw_leanfar_k68_whole_a_world_by_texts.Holds := by
  w_on; o_law
  refine HandSHeadRun.head_any (r := OpenLaw.row PySem.Challenge.rw_leanfar_k68_whole_a_world_by_texts) (q := view (OpenLaw.row PySem.Challenge.rw_leanfar_k68_whole_a_world_by_texts).prog [63]) (H := H.hk) (ob := H.ob) (M := 8000) (loose := _) (d := HandSHeadRun.topDef (OpenLaw.row PySem.Challenge.rw_leanfar_k68_whole_a_world_by_texts).prog 63) (kwd := []) H.ob_eq
    (by kernel_rfl) (fun s => by kernel_rfl) H.run (by kernel_rfl) (by kernel_rfl) (by kernel_rfl) (by rfl) (by first | assumption | decide +kernel) (by decide +kernel) ⟨rfl, rfl, rfl, rfl, rfl, by decide +kernel⟩ ?hw ?hc
  case hw => w_witness2
  case hc =>
    refine Lf.walk_ofEG (l := PySem.Challenge.rw_leanfar_k68_whole_a_world_by_texts) (n := 63) (k := 10) (x := "script") (CX := fun w => L2.CX (PySem.Challenge.rw_leanfar_k68_whole_a_world_by_texts).prog w) rfl (by decide) (by kernel_rfl) ⟨⟨rfl, by decide, by decide⟩, rfl⟩ ?F (fun _ _ _ _ _ z => z.elim fun _ z => z.elim fun _ z => z.elim fun _ z => z.elim fun _ z => z.elim fun _ z => z.2.2.2.2.2.2.2)
    intro w mg fa h Y G hmg0
    obtain ⟨K, KX, c⟩ := Y
    have hmg : mg ("law" : PySem.Str) = some (.ref fa) := by
      have e : (HandSHeadRun.topDef (OpenLaw.row PySem.Challenge.rw_leanfar_k68_whole_a_world_by_texts).prog 63).name = ("law" : PySem.Str) := by kernel_rfl
      rw [← e]
      exact hmg0
    obtain ⟨fd, hb, hF⟩ := H.facts (P := (PySem.Challenge.rw_leanfar_k68_whole_a_world_by_texts).prog) (w := w) KX G hmg c
    exact ⟨K, fd, Lf.spD ⟨K, mg⟩ H.F_law, KX, hb, fun Hh a ns hl _ hS => H.law_sp Hh a ns hl hS, hF⟩

