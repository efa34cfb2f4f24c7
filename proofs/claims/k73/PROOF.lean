import PyProof.Rows.All
import Wide.All
import OpenK.AllK
import Wide.FinOn
import HandS.ForMost
import HandS.ForExc
import KE.KDictKeyed
import HandS.CallSlots
import HandS.More
import KE.DataMinMax
import KE.KIndexOf
import HandS.TupAny
import PyProof.Rows.SeqMore
import HandS.Wide
import HandS.IsInst
import HandS.RevTup
import HandS.Rev
import HandS.Codes
import HandS.EndBits
import HandS.Head0
import HandS.Head1
import HandS.Head2
import HandS.HeadEnd
import HandS.HeadHook1
import HandS.HeadHook2
import HandS.HeadHook3
import HandS.HeadHook4
import HandS.Dict
import HandS.Deep
import PySem.Challenge.RW_roundcall_k73_players_by_papers
set_option Elab.async false
set_option linter.all false
set_option maxRecDepth 100000
set_option maxHeartbeats 1000000
/-! Data over the hand layer: what stands frozen in the heap is told as a tree (D), what the def owns as a store of cells. -/
namespace Dz
open PySem L2

/-! ### data -/
inductive D where
  | non | bl (b : Bool) | int (i : Int) | str (x : Str)
  | tup (xs : List D) | lst (xs : List D) | dct (kvs : List (NestedKey × D)) | obj (C : Addr) (fs : List (Str × D))
mutual
def kD : NestedKey → D
  | .none => .non
  | .num i => .int i
  | .text x => .str x
  | .tup ks => .tup (kDs ks)
def kDs : List NestedKey → List D
  | [] => []
  | k :: ks => kD k :: kDs ks
end
/-- a slot's value: frozen data, the k-th owned cell, or what is lent by the caller -/
inductive Sl where
  | dat (d : D) | ptr (k : Nat) | bor (d : D)
inductive Cell where
  | gone | lst (xs : List Sl) | dct (kvs : List (NestedKey × Sl)) | dK (kvs : List (Key × Sl)) | obj (C : Addr) (fs : List (Str × Sl))
abbrev Rho := List (Option Sl)
abbrev Sto := List Cell

/-- what the dict's own object says: its keys with their places, its values -/
def dPhi (P : Program) (w : World) (d : Addr) (es : List (NestedKey × Addr × V)) (h : Heap) : Prop :=
  es.length ≤ sizeLine ∧ (d == sysModules) = false ∧ (es.map (·.1)).Nodup ∧ (∀ e ∈ es, e.1.depth ≤ 8) ∧
  ∃ (xs : List (NestedKey × Addr × Value)) (o : Obj) (ar : Array DictEntry) (ep : Nat),
    Paired (fun (e : NestedKey × Addr × V) (x : NestedKey × Addr × Value) => e.1 = x.1 ∧ e.2.1 = x.2.1 ∧ RelV e.2.2 x.2.2) es xs ∧
    h.get? d = some o ∧ o.ExactDict ∧ o.data = .dict ar ep ∧ ar.toList = xs.map (entryOfKey (nestedKind P w))

section
variable (P : Program) (w : World) (K : PySem.W.Frag) (F : Hp)
mutual
inductive Rp : V → D → Prop
  | non : Rp .non .non
  | bl (b : Bool) : Rp (.bl b) (.bl b)
  | int (i : Int) : Rp (.int i) (.int i)
  | str (x : Str) : Rp (.str x) (.str x)
  | tup {a : Addr} {o : Obj} {vs : List V} {ds : List D} : F a = some (.frz o (.tup vs)) → o.dict = none → Rps vs ds → Rp (.ref a) (.tup ds)
  | lst {a : Addr} {vs : List V} {ds : List D} : SqL K F a vs → Rps vs ds → Rp (.ref a) (.lst ds)
  | dct {a : Addr} {es : List (NestedKey × Addr × V)} {kvs : List (NestedKey × D)} : F a = some (.ext (dPhi P w a es)) → Rpe es kvs → Rp (.ref a) (.dct kvs)
  | obj {a C dx : Addr} {vfs : List (Str × V)} {fs : List (Str × D)} : F a = some (.ins C dx vfs) → Rpf vfs fs → Rp (.ref a) (.obj C fs)
inductive Rps : List V → List D → Prop
  | nil : Rps [] []
  | cons {v : V} {d : D} {vs : List V} {ds : List D} : Rp v d → Rps vs ds → Rps (v :: vs) (d :: ds)
inductive Rpe : List (NestedKey × Addr × V) → List (NestedKey × D) → Prop
  | nil : Rpe [] []
  | cons {k : NestedKey} {a : Addr} {v : V} {d : D} {es : List (NestedKey × Addr × V)} {kvs : List (NestedKey × D)} : Rp (.ref a) (kD k) → Rp v d → Rpe es kvs → Rpe ((k, a, v) :: es) ((k, d) :: kvs)
inductive Rpf : List (Str × V) → List (Str × D) → Prop
  | nil : Rpf [] []
  | cons {f : Str} {v : V} {d : D} {vs : List (Str × V)} {ds : List (Str × D)} : Rp v d → Rpf vs ds → Rpf ((f, v) :: vs) ((f, d) :: ds)
end
end
section
variable {P : Program} {w : World} {K : PySem.W.Frag} {F F' : Hp}
theorem same_t (e : Same F F') {a : Addr} {xs : List V} (h : SqT K F a xs) : SqT K F' a xs := by
  rcases h with (h | ⟨o, h⟩) | h
  · exact .inl (.inl (e _ _ h))
  · exact .inl (.inr ⟨o, e _ _ h⟩)
  · exact .inr h
mutual
theorem Rp.mono (e : Same F F') : ∀ {v : V} {d : D}, Rp P w K F v d → Rp P w K F' v d
  | _, _, .non => .non
  | _, _, .bl b => .bl b
  | _, _, .int i => .int i
  | _, _, .str x => .str x
  | _, _, .tup h d t => .tup (e _ _ h) d (Rps.mono e t)
  | _, _, .lst h t => .lst (e.seq h) (Rps.mono e t)
  | _, _, .dct h t => .dct (e _ _ h) (Rpe.mono e t)
  | _, _, .obj h t => .obj (e _ _ h) (Rpf.mono e t)
theorem Rps.mono (e : Same F F') : ∀ {v : List V} {d : List D}, Rps P w K F v d → Rps P w K F' v d
  | _, _, .nil => .nil
  | _, _, .cons h t => .cons (Rp.mono e h) (Rps.mono e t)
theorem Rpe.mono (e : Same F F') : ∀ {v : List (NestedKey × Addr × V)} {d : List (NestedKey × D)}, Rpe P w K F v d → Rpe P w K F' v d
  | _, _, .nil => .nil
  | _, _, .cons h1 h2 t => .cons (Rp.mono e h1) (Rp.mono e h2) (Rpe.mono e t)
theorem Rpf.mono (e : Same F F') : ∀ {v : List (Str × V)} {d : List (Str × D)}, Rpf P w K F v d → Rpf P w K F' v d
  | _, _, .nil => .nil
  | _, _, .cons h t => .cons (Rp.mono e h) (Rpf.mono e t)
end
theorem Rps.length : ∀ {v : List V} {d : List D}, Rps P w K F v d → v.length = d.length
  | _, _, .nil => rfl
  | _, _, .cons _ t => congrArg (· + 1) (Rps.length t)
theorem Rps.get : ∀ {v : List V} {d : List D} {i : Nat} {x : D}, Rps P w K F v d → d[i]? = some x → ∃ u, v[i]? = some u ∧ Rp P w K F u x
  | _, _, i, x, .nil, h => by simp at h
  | _, _, 0, x, .cons r _, h => by simp at h; subst h; exact ⟨_, rfl, r⟩
  | _, _, i + 1, x, .cons _ t, h => by
    obtain ⟨u, h1, h2⟩ := Rps.get (i := i) (x := x) t (by simpa using h)
    exact ⟨u, by simpa using h1, h2⟩
theorem Rps.get' : ∀ {v : List V} {d : List D} {i : Nat} {u : V}, Rps P w K F v d → v[i]? = some u → ∃ x, d[i]? = some x ∧ Rp P w K F u x
  | _, _, i, x, .nil, h => by simp at h
  | _, _, 0, x, .cons r _, h => by simp at h; subst h; exact ⟨_, rfl, r⟩
  | _, _, i + 1, x, .cons _ t, h => by
    obtain ⟨u, h1, h2⟩ := Rps.get' (i := i) (u := x) t (by simpa using h)
    exact ⟨u, by simpa using h1, h2⟩
theorem Rps.append : ∀ {v v' : List V} {d d' : List D}, Rps P w K F v d → Rps P w K F v' d' → Rps P w K F (v ++ v') (d ++ d')
  | _, _, _, _, .nil, h => h
  | _, _, _, _, .cons r t, h => .cons r (Rps.append t h)
theorem Rps.take : ∀ {v : List V} {d : List D} (n : Nat), Rps P w K F v d → Rps P w K F (v.take n) (d.take n)
  | _, _, 0, _ => .nil
  | _, _, _ + 1, .nil => .nil
  | _, _, n + 1, .cons r t => .cons r (Rps.take n t)
theorem Rps.drop : ∀ {v : List V} {d : List D} (n : Nat), Rps P w K F v d → Rps P w K F (v.drop n) (d.drop n)
  | _, _, 0, h => h
  | _, _, _ + 1, .nil => .nil
  | _, _, n + 1, .cons _ t => Rps.drop n t
theorem Rps.ints {F : Hp} : ∀ (ns : List Int), Rps P w K F (ns.map V.int) (ns.map D.int)
  | [] => .nil
  | n :: ns => .cons (.int n) (Rps.ints ns)
theorem Rps.ints_of {F : Hp} : ∀ {vs : List V} {ns : List Int}, Rps P w K F vs (ns.map D.int) → vs = ns.map V.int
  | _, [], .nil => rfl
  | _, n :: ns, .cons h t => by cases h; rw [Rps.ints_of t]; rfl
end

/-- what is lent by the caller: its object stands in B, what it holds is frozen in F -/
def Bor (P : Program) (w : World) (K : PySem.W.Frag) (B F : Hp) (v : V) : D → Prop
  | .lst ds => ∃ a vs, v = .ref a ∧ SqL K B a vs ∧ Rps P w K F vs ds
  | .dct kvs => ∃ a es, v = .ref a ∧ B a = some (.ext (dPhi P w a es)) ∧ Rpe P w K F es kvs
  | _ => False
theorem Bor.mono {P : Program} {w : World} {K : PySem.W.Frag} {B B' F F' : Hp} {v : V} (eB : Same B B') (eF : Same F F') : ∀ {d : D}, Bor P w K B F v d → Bor P w K B' F' v d
  | .lst _, ⟨a, vs, e, h1, h2⟩ => ⟨a, vs, e, eB.seq h1, h2.mono eF⟩
  | .dct _, ⟨a, es, e, h1, h2⟩ => ⟨a, es, e, eB _ _ h1, h2.mono eF⟩
theorem Bor.rp {P : Program} {w : World} {K : PySem.W.Frag} {B F H : Hp} {v : V} (eB : Same B H) (eF : Same F H) : ∀ {d : D}, Bor P w K B F v d → Rp P w K H v d
  | .lst _, ⟨a, vs, e, h1, h2⟩ => by subst e; exact .lst (eB.seq h1) (h2.mono eF)
  | .dct _, ⟨a, es, e, h1, h2⟩ => by subst e; exact .dct (eB _ _ h1) (h2.mono eF)
theorem Bor.ref {P : Program} {w : World} {K : PySem.W.Frag} {B F : Hp} {v : V} : ∀ {d : D}, Bor P w K B F v d → ∃ a, v = .ref a
  | .lst _, ⟨a, vs, e, h1, h2⟩ => ⟨a, e⟩
  | .dct _, ⟨a, es, e, h1, h2⟩ => ⟨a, e⟩
/-- what a def's run keeps (B), what was frozen (F0) and owned (a0) at its entry, what is wanted of an exception: its class, the slots, the store -/
structure Cc where
  B : Hp
  F0 : Hp
  a0 : List Addr
  ex : Value → Rho → Sto → Prop
/-! ### slots and cells -/
section
variable (P : Program) (w : World) (K : PySem.W.Frag) (B F : Hp) (al : List Addr)
def RpS (v : V) : Sl → Prop
  | .dat d => Rp P w K F v d
  | .bor d => Bor P w K B F v d
  | .ptr k => ∃ p, al[k]? = some p ∧ v = .ref p
def CellOk (H : Hp) (p : Addr) : Cell → Prop
  | .gone => True
  | .lst xs => ∃ vs, H p = some (.lst vs) ∧ Paired (RpS P w K B F al) vs xs
  | .dct kvs => ∃ es, H p = some (.ext (dPhi P w p es)) ∧ Paired (fun (e : NestedKey × Addr × V) (q : NestedKey × Sl) => e.1 = q.1 ∧ Rp P w K F (.ref e.2.1) (kD e.1) ∧ RpS P w K B F al e.2.2 q.2) es kvs
  | .dK kvs => ∃ es, H p = some (.dK es) ∧ Paired (fun (e : Key × V) (q : Key × Sl) => e.1 = q.1 ∧ RpS P w K B F al e.2 q.2) es kvs
  | .obj C fs => ∃ dx es, H p = some (.ins C dx es) ∧ Paired (fun (e : Str × V) (q : Str × Sl) => e.1 = q.1 ∧ RpS P w K B F al e.2 q.2) es fs
end
structure CoreP (P : Program) (w : World) (K : PySem.W.Frag) (B F0 : Hp) (a0 : List Addr) (F : Hp) (al : List Addr) (S : Sto) (H : Hp) : Prop where
  pre : ∃ be, al = a0 ++ be
  sub : Same F H
  base : Same B H
  f0 : Same F0 F
  fr : ∀ a o, F a = some o → F0 a = some o ∨ B a = none
  len : al.length = S.length
  nd : al.Nodup
  trk : ∀ (k : Nat) (p : Addr), al[k]? = some p → ∃ o, H p = some o
  own : ∀ (k : Nat) (p : Addr) (c : Cell), al[k]? = some p → S[k]? = some c → c ≠ .gone → B p = none ∧ F p = none
  cells : ∀ (k : Nat) (p : Addr) (c : Cell), al[k]? = some p → S[k]? = some c → CellOk P w K B F al H p c
abbrev Core (X : Cx) (c : Cc) := CoreP X.prog X.w X.K c.B c.F0 c.a0
structure Ext (F : Hp) (al : List Addr) (F' : Hp) (al' : List Addr) : Prop where
  same : Same F F'
  pre : ∃ be, al' = al ++ be
def Slots (X : Cx) (cc : Cc) (F : Hp) (al : List Addr) (r : Rho) (σ : L2.St) : Prop :=
  r.length = σ.length ∧ ∀ (i : Nat) (s : Sl), r[i]? = some (some s) → ∃ v, σ[i]? = some (some v) ∧ RpS X.prog X.w X.K cc.B F al v s

theorem Ext.refl {F : Hp} {al : List Addr} : Ext F al F al := ⟨Same.refl F, [], by simp⟩
theorem Ext.trans {F F1 F2 : Hp} {al al1 al2 : List Addr} (a : Ext F al F1 al1) (b : Ext F1 al1 F2 al2) : Ext F al F2 al2 := by
  obtain ⟨a1, be, rfl⟩ := a
  obtain ⟨b1, be', rfl⟩ := b
  exact ⟨a1.trans b1, be ++ be', by simp⟩
section
variable {P : Program} {w : World} {K : PySem.W.Frag} {B F F' : Hp} {al al' : List Addr} {H H' : Hp}
theorem RpS.mono (e : Ext F al F' al') {v : V} {s : Sl} (h : RpS P w K B F al v s) : RpS P w K B F' al' v s := by
  cases s with
  | dat d => exact Rp.mono e.same h
  | bor d => exact Bor.mono (Same.refl _) e.same h
  | ptr k =>
    obtain ⟨p, h1, h2⟩ := h
    obtain ⟨_, be, rfl⟩ := e
    exact ⟨p, by rw [List.getElem?_append_left (List.getElem?_eq_some_iff.mp h1).1]; exact h1, h2⟩
theorem Paired.mono' {α β : Type} {G G' : α → β → Prop} (f : ∀ a b, G a b → G' a b) {l₁ : List α} {l₂ : List β} (h : Paired G l₁ l₂) : Paired G' l₁ l₂ := Paired.mapP h f
theorem CellOk.mono (e : Ext F al F' al') {p : Addr} {c : Cell} (hp : c ≠ .gone → H' p = H p) (h : CellOk P w K B F al H p c) : CellOk P w K B F' al' H' p c := by
  cases c with
  | gone => trivial
  | lst xs =>
    obtain ⟨vs, h1, h2⟩ := h
    exact ⟨vs, (hp (by intro z; cases z)).trans h1, Paired.mono' (fun _ _ q => q.mono e) h2⟩
  | dct kvs =>
    obtain ⟨vs, h1, h2⟩ := h
    exact ⟨vs, (hp (by intro z; cases z)).trans h1, Paired.mono' (fun _ _ q => ⟨q.1, q.2.1.mono e.same, q.2.2.mono e⟩) h2⟩
  | dK kvs =>
    obtain ⟨vs, h1, h2⟩ := h
    exact ⟨vs, (hp (by intro z; cases z)).trans h1, Paired.mono' (fun _ _ q => ⟨q.1, q.2.mono e⟩) h2⟩
  | obj C fs =>
    obtain ⟨dx, vs, h1, h2⟩ := h
    exact ⟨dx, vs, (hp (by intro z; cases z)).trans h1, Paired.mono' (fun _ _ q => ⟨q.1, q.2.mono e⟩) h2⟩
end
section
variable {X : Cx} {cc : Cc} {F F' : Hp} {al al' : List Addr} {S S' : Sto} {H H' : Hp} {r : Rho} {σ : L2.St}
theorem Slots.mono (e : Ext F al F' al') (h : Slots X cc F al r σ) : Slots X cc F' al' r σ := ⟨h.1, fun i s q => by
  obtain ⟨v, h1, h2⟩ := h.2 i s q
  exact ⟨v, h1, h2.mono e⟩⟩
theorem Slots.get (h : Slots X cc F al r σ) {i : Nat} {s : Sl} (q : r[i]? = some (some s)) : ∃ v, σ[i]? = some (some v) ∧ RpS X.prog X.w X.K cc.B F al v s := h.2 i s q
theorem Slots.set (h : Slots X cc F al r σ) {i : Nat} {v : V} {s : Sl} (q : RpS X.prog X.w X.K cc.B F al v s) : Slots X cc F al (r.set i (some s)) (σ.set i (some v)) := ⟨by simpa using h.1, fun j t e => by
  by_cases hj : i = j
  · subst hj
    by_cases hi : i < r.length
    · rw [List.getElem?_set_self hi] at e
      cases e
      exact ⟨v, by rw [List.getElem?_set_self (by rw [← h.1]; exact hi)], q⟩
    · rw [List.getElem?_eq_none (by simpa using Nat.le_of_not_lt hi)] at e
      cases e
  · rw [List.getElem?_set_ne hj] at e
    rw [List.getElem?_set_ne hj]
    exact h.2 j t e⟩
theorem Slots.drop (h : Slots X cc F al r σ) {r' : Rho} (hl : r'.length = r.length) (q : ∀ (i : Nat) (s : Sl), r'[i]? = some (some s) → r[i]? = some (some s)) : Slots X cc F al r' σ := ⟨hl.trans h.1, fun i s e => h.2 i s (q i s e)⟩
/-- behind what kept all that was tracked, with new frozen things -/
theorem Core.grow (c : Core X cc F al S H) (h1 : Same H H') (h2 : Same F F') (h3 : Same F' H') (h4 : ∀ a o, F' a = some o → F a = some o ∨ H a = none)   : Core X cc F' al S H' where
  pre := c.pre
  sub := h3
  base := c.base.trans h1
  f0 := c.f0.trans h2
  fr := fun a o e => by
    rcases h4 a o e with q | q
    · exact c.fr a o q
    · exact .inr (c.base.free q)
  len := c.len
  nd := c.nd
  trk := fun k p e => by
    obtain ⟨o, q⟩ := c.trk k p e
    exact ⟨o, h1 _ _ q⟩
  own := fun k p d e1 e2 e3 => by
    obtain ⟨b1, b2⟩ := c.own k p d e1 e2 e3
    refine ⟨b1, ?_⟩
    cases q : F' p with
    | none => rfl
    | some o =>
      rcases h4 p o q with z | z
      · rw [b2] at z; cases z
      · obtain ⟨o', y⟩ := c.trk k p e1
        rw [z] at y; cases y
  cells := fun k p d e1 e2 => (c.cells k p d e1 e2).mono ⟨h2, [], by simp⟩ fun _ => by
    obtain ⟨o, q⟩ := c.trk k p e1
    rw [q]
    exact h1 _ _ q
theorem same_upd {H : Hp} {p : Addr} {o : HO} (h : H p = none) : Same H (upd H p o) := fun b x e => by
  rw [upd_ne (ne_of_none e h)]
  exact e
theorem same_upd2 {F H : Hp} {p : Addr} {o : HO} (e : Same F H) : Same (upd F p o) (upd H p o) := fun b x q => by
  by_cases hb : b = p
  · subst hb; rw [upd_same] at q ⊢; exact q
  · rw [upd_ne hb] at q ⊢; exact e b x q
/-- a new frozen object -/
theorem Core.laid (c : Core X cc F al S H) {p : Addr} {o : HO} (h : H p = none) : Core X cc (upd F p o) al S (upd H p o) :=
  c.grow (same_upd h) (same_upd (c.sub.free h)) (same_upd2 c.sub) fun a u e => by
    by_cases hb : a = p
    · subst hb; exact .inr h
    · rw [upd_ne hb] at e; exact .inl e
theorem Core.kept (c : Core X cc F al S H) (h1 : Same H H') : Core X cc F al S H' := c.grow h1 (Same.refl F) (c.sub.trans h1) fun _ _ e => .inl e
theorem Ext.laid (c : Core X cc F al S H) {p : Addr} {o : HO} (h : H p = none) : Ext F al (upd F p o) al := ⟨same_upd (c.sub.free h), [], by simp⟩
/-- a new owned cell -/
theorem Core.born (c : Core X cc F al S H) {p : Addr} {o : HO} {d : Cell} (h : H p = none) (hd : CellOk X.prog X.w X.K cc.B F (al ++ [p]) (upd H p o) p d) : Core X cc F (al ++ [p]) (S ++ [d]) (upd H p o) := by
  have c1 := c.kept (same_upd (o := o) h)
  have nal : ∀ k q, al[k]? = some q → q ≠ p := fun k q e z => by
    obtain ⟨o', y⟩ := c.trk k q e
    rw [z, h] at y; cases y
  have at_ : ∀ k q, (al ++ [p])[k]? = some q → (al[k]? = some q ∧ k < al.length) ∨ (k = al.length ∧ q = p) := fun k q e => by
    by_cases hk : k < al.length
    · rw [List.getElem?_append_left hk] at e; exact .inl ⟨e, hk⟩
    · rw [List.getElem?_append_right (Nat.le_of_not_lt hk)] at e
      have : k - al.length = 0 := by
        have := (List.getElem?_eq_some_iff.mp e).1
        simp at this; omega
      rw [this] at e
      simp at e
      exact .inr ⟨by omega, e.symm⟩
  have sAt : ∀ k x, k < al.length → (S ++ [d])[k]? = some x → S[k]? = some x := fun k x hk e => by
    rw [List.getElem?_append_left (by rw [← c.len]; exact hk)] at e; exact e
  have ex : Ext F al F (al ++ [p]) := ⟨Same.refl F, [p], rfl⟩
  refine ⟨(by obtain ⟨be, hb⟩ := c.pre; exact ⟨be ++ [p], by rw [hb, List.append_assoc]⟩), c1.sub, c1.base, c.f0, c.fr, by simp [c.len], ?_, fun k q e => ?_, fun k q x e1 e2 e3 => ?_, fun k q x e1 e2 => ?_⟩
  · refine List.nodup_append.mpr ⟨c.nd, by simp, fun a ha b hb => ?_⟩
    have hb' : b = p := by simpa using hb
    rw [hb']
    obtain ⟨k, hk, e⟩ := List.mem_iff_getElem.mp ha
    exact nal k a (by rw [List.getElem?_eq_getElem hk, e])
  · rcases at_ k q e with ⟨z, _⟩ | ⟨_, rfl⟩
    · exact c1.trk k q z
    · exact ⟨o, upd_same⟩
  · rcases at_ k q e1 with ⟨z, hk⟩ | ⟨hk, rfl⟩
    · exact c.own k q x z (sAt k x hk e2) e3
    · exact ⟨c.base.free h, c.sub.free h⟩
  · rcases at_ k q e1 with ⟨z, hk⟩ | ⟨hk, rfl⟩
    · exact (c1.cells k q x z (sAt k x hk e2)).mono ex fun _ => rfl
    · rw [hk, c.len, List.getElem?_append_right (Nat.le_refl _)] at e2
      simp at e2
      rw [← e2]
      exact hd
/-- an owned cell written -/
theorem Core.put (c : Core X cc F al S H) {k : Nat} {p : Addr} {o : HO} {d d0 : Cell} (hk : al[k]? = some p) (h0 : S[k]? = some d0) (hg : d0 ≠ .gone) (hd : CellOk X.prog X.w X.K cc.B F al (upd H p o) p d) : Core X cc F al (S.set k d) (upd H p o) := by
  obtain ⟨b1, b2⟩ := c.own k p d0 hk h0 hg
  have nal : ∀ j q, j ≠ k → al[j]? = some q → q ≠ p := fun j q hj e z => by
    subst z
    obtain ⟨l1, e1⟩ := List.getElem?_eq_some_iff.mp e
    obtain ⟨l2, e2⟩ := List.getElem?_eq_some_iff.mp hk
    exact hj ((List.getElem_inj c.nd).mp (e1.trans e2.symm))
  refine ⟨c.pre, fun a u e => ?_, fun a u e => ?_, c.f0, c.fr, by simp [c.len], c.nd, fun j q e => ?_, fun j q x e1 e2 e3 => ?_, fun j q x e1 e2 => ?_⟩
  · rw [upd_ne (ne_of_none e b2)]; exact c.sub a u e
  · rw [upd_ne (ne_of_none e b1)]; exact c.base a u e
  · by_cases hq : q = p
    · subst hq; exact ⟨o, upd_same⟩
    · rw [upd_ne hq]; exact c.trk j q e
  · by_cases hj : j = k
    · subst hj
      rw [hk] at e1; cases e1
      exact ⟨b1, b2⟩
    · rw [List.getElem?_set_ne (Ne.symm hj)] at e2
      exact c.own j q x e1 e2 e3
  · by_cases hj : j = k
    · subst hj
      rw [hk] at e1; cases e1
      rw [List.getElem?_set_self (List.getElem?_eq_some_iff.mp h0).1] at e2
      cases e2
      exact hd
    · rw [List.getElem?_set_ne (Ne.symm hj)] at e2
      exact (c.cells j q x e1 e2).mono Ext.refl fun _ => upd_ne (nal j q hj e1)
end
end Dz

namespace Dz
open PySem L2

section
variable (X : Cx) (c : Cc)
def VQ (F : Hp) (al : List Addr) (Q : Sl → Sto → Prop) : VK := fun v H' => ∃ F' al' sl S', Ext F al F' al' ∧ Core X c F' al' S' H' ∧ RpS X.prog X.w X.K c.B F' al' v sl ∧ Q sl S'
def BQ (F : Hp) (al : List Addr) (Q : Bool → Sto → Prop) : Bool → Hp → Prop := fun b H' => ∃ F' al' S', Ext F al F' al' ∧ Core X c F' al' S' H' ∧ Q b S'
def LQ (F : Hp) (al : List Addr) (Q : List Sl → Sto → Prop) : List V → Hp → Prop := fun vs H' => ∃ F' al' sls S', Ext F al F' al' ∧ Core X c F' al' S' H' ∧ Paired (RpS X.prog X.w X.K c.B F' al') vs sls ∧ Q sls S'
/-- e, from the slots r and the store S, gives what Q wants -/
def EW (e : Expr) (r : Rho) (S : Sto) (Q : Sl → Sto → Prop) : Prop :=
  ∀ (pins : List (Addr × Obj)) (s : Shared) (σ : L2.St) (H F : Hp) (al : List Addr), Inv X pins σ H s → Core X c F al S H → Slots X c F al r σ →
    wpAny (model X.prog X.w) X.A (eval e X.env) (EP X pins σ (VQ X c F al Q)) X.xe s
def TW (e : Expr) (r : Rho) (S : Sto) (Q : Bool → Sto → Prop) : Prop :=
  ∀ (pins : List (Addr × Obj)) (s : Shared) (σ : L2.St) (H F : Hp) (al : List Addr), Inv X pins σ H s → Core X c F al S H → Slots X c F al r σ →
    wpAny (model X.prog X.w) X.A (isTrue e X.env (eval e X.env)) (TP X pins σ (BQ X c F al Q)) X.xe s
def TWW (e : Expr) (r : Rho) (S : Sto) (Q : Bool → Sto → Prop) : Prop :=
  ∀ (wh : Sem Value) (pins : List (Addr × Obj)) (s : Shared) (σ : L2.St) (H F : Hp) (al : List Addr), Inv X pins σ H s → Core X c F al S H → Slots X c F al r σ →
    wpAny (model X.prog X.w) X.A (isTrue e X.env wh) (TP X pins σ (BQ X c F al Q)) X.xe s
def AW (es : List Expr) (r : Rho) (S : Sto) (Q : List Sl → Sto → Prop) : Prop :=
  ∀ (pos : Pos) (pins : List (Addr × Obj)) (s : Shared) (σ : L2.St) (H F : Hp) (al : List Addr), Inv X pins σ H s → Core X c F al S H → Slots X c F al r σ →
    wpAny (model X.prog X.w) X.A (spliced (backTo pos (starEach es X.env))) (AP X pins σ (LQ X c F al Q)) X.xe s
/-- e gives the value sl and leaves the store -/
def EE (e : Expr) (r : Rho) (S : Sto) (sl : Sl) : Prop := ∀ Q : Sl → Sto → Prop, Q sl S → EW X c e r S Q
def ET (e : Expr) (r : Rho) (S : Sto) (b : Bool) : Prop := ∀ Q : Bool → Sto → Prop, Q b S → TW X c e r S Q
def ETW (e : Expr) (r : Rho) (S : Sto) (b : Bool) : Prop := ∀ Q : Bool → Sto → Prop, Q b S → TWW X c e r S Q
def EA (es : List Expr) (r : Rho) (S : Sto) (sls : List Sl) : Prop := ∀ Q : List Sl → Sto → Prop, Q sls S → AW X c es r S Q
end

/-! ### the weakest readings -/
def tW (X : Cx) (e : Expr) : TE := fun σ H Q => ∀ (pins : List (Addr × Obj)) (s : Shared), Inv X pins σ H s → wpAny (model X.prog X.w) X.A (eval e X.env) (EP X pins σ Q) X.xe s
def tTW (X : Cx) (e : Expr) : TT := fun σ H Q => ∀ (pins : List (Addr × Obj)) (s : Shared), Inv X pins σ H s → wpAny (model X.prog X.w) X.A (isTrue e X.env (eval e X.env)) (TP X pins σ Q) X.xe s
def tTWW (X : Cx) (e : Expr) : TT := fun σ H Q => ∀ (wh : Sem Value) (pins : List (Addr × Obj)) (s : Shared), Inv X pins σ H s → wpAny (model X.prog X.w) X.A (isTrue e X.env wh) (TP X pins σ Q) X.xe s
def tAW (X : Cx) (es : List Expr) : TA := fun σ H Q => ∀ (pos : Pos) (pins : List (Addr × Obj)) (s : Shared), Inv X pins σ H s → wpAny (model X.prog X.w) X.A (spliced (backTo pos (starEach es X.env))) (AP X pins σ Q) X.xe s
section
variable {X : Cx} {c : Cc} {e a b : Expr} {es : List Expr} {r : Rho} {S : Sto} {pos : Pos} {σ : L2.St} {H F : Hp} {al : List Addr}
theorem pe_self : PE X e (tW X e) := ⟨fun pins s σ H Q I h => h pins s I⟩
theorem pt_self : PT X e (tTW X e) := ⟨fun pins s σ H Q I h => h pins s I⟩
theorem pw_self : PW X e (tTWW X e) := ⟨fun wh pins s σ H Q I h => h wh pins s I⟩
theorem pa_self : PA X es (tAW X es) := ⟨fun pos pins s σ H Q I h => h pos pins s I⟩
theorem tW_mono {Q Q' : VK} (h : tW X e σ H Q) (k : ∀ v H', Q v H' → Q' v H') : tW X e σ H Q' := fun pins s I => thn (h pins s I) fun u s1 ⟨v, H', I', rv, q⟩ => ⟨v, H', I', rv, k v H' q⟩
theorem tTW_mono {Q Q' : Bool → Hp → Prop} (h : tTW X e σ H Q) (k : ∀ v H', Q v H' → Q' v H') : tTW X e σ H Q' := fun pins s I => thn (h pins s I) fun u s1 ⟨H', I', q⟩ => ⟨H', I', k u H' q⟩
theorem tTWW_mono {Q Q' : Bool → Hp → Prop} (h : tTWW X e σ H Q) (k : ∀ v H', Q v H' → Q' v H') : tTWW X e σ H Q' := fun wh pins s I => thn (h wh pins s I) fun u s1 ⟨H', I', q⟩ => ⟨H', I', k u H' q⟩
theorem tAW_mono {Q Q' : List V → Hp → Prop} (h : tAW X es σ H Q) (k : ∀ v H', Q v H' → Q' v H') : tAW X es σ H Q' := fun pos pins s I => thn (h pos pins s I) fun u s1 ⟨v, H', I', rv, q⟩ => ⟨v, H', I', rv, k v H' q⟩
theorem EW.tw {Q : Sl → Sto → Prop} (h : EW X c e r S Q) (co : Core X c F al S H) (sl : Slots X c F al r σ) : tW X e σ H (VQ X c F al Q) := fun pins s I => h pins s σ H F al I co sl
theorem TW.tw {Q : Bool → Sto → Prop} (h : TW X c e r S Q) (co : Core X c F al S H) (sl : Slots X c F al r σ) : tTW X e σ H (BQ X c F al Q) := fun pins s I => h pins s σ H F al I co sl
theorem TWW.tw {Q : Bool → Sto → Prop} (h : TWW X c e r S Q) (co : Core X c F al S H) (sl : Slots X c F al r σ) : tTWW X e σ H (BQ X c F al Q) := fun wh pins s I => h wh pins s σ H F al I co sl
theorem AW.tw {Q : List Sl → Sto → Prop} (h : AW X c es r S Q) (co : Core X c F al S H) (sl : Slots X c F al r σ) : tAW X es σ H (LQ X c F al Q) := fun pos pins s I => h pos pins s σ H F al I co sl
/-- by a rule of the hand layer -/
theorem EW.of {t : TE} {Q : Sl → Sto → Prop} (p : PE X e t) (h : ∀ σ H F al, Core X c F al S H → Slots X c F al r σ → t σ H (VQ X c F al Q)) : EW X c e r S Q := fun pins s σ H F al I co sl => p.run pins s σ H _ I (h σ H F al co sl)
theorem TW.of {t : TT} {Q : Bool → Sto → Prop} (p : PT X e t) (h : ∀ σ H F al, Core X c F al S H → Slots X c F al r σ → t σ H (BQ X c F al Q)) : TW X c e r S Q := fun pins s σ H F al I co sl => p.run pins s σ H _ I (h σ H F al co sl)
theorem TWW.of {t : TT} {Q : Bool → Sto → Prop} (p : PW X e t) (h : ∀ σ H F al, Core X c F al S H → Slots X c F al r σ → t σ H (BQ X c F al Q)) : TWW X c e r S Q := fun wh pins s σ H F al I co sl => p.run wh pins s σ H _ I (h σ H F al co sl)
theorem AW.of {t : TA} {Q : List Sl → Sto → Prop} (p : PA X es t) (h : ∀ σ H F al, Core X c F al S H → Slots X c F al r σ → t σ H (LQ X c F al Q)) : AW X c es r S Q := fun pos pins s σ H F al I co sl => p.run pos pins s σ H _ I (h σ H F al co sl)
theorem VQ.up {Q : Sl → Sto → Prop} {F' : Hp} {al' : List Addr} {v : V} {H' : Hp} (e : Ext F al F' al') (h : VQ X c F' al' Q v H') : VQ X c F al Q v H' := by
  obtain ⟨F2, al2, sl, S', e2, q⟩ := h
  exact ⟨F2, al2, sl, S', e.trans e2, q⟩
theorem BQ.up {Q : Bool → Sto → Prop} {F' : Hp} {al' : List Addr} {v : Bool} {H' : Hp} (e : Ext F al F' al') (h : BQ X c F' al' Q v H') : BQ X c F al Q v H' := by
  obtain ⟨F2, al2, S', e2, q⟩ := h
  exact ⟨F2, al2, S', e.trans e2, q⟩
theorem LQ.up {Q : List Sl → Sto → Prop} {F' : Hp} {al' : List Addr} {v : List V} {H' : Hp} (e : Ext F al F' al') (h : LQ X c F' al' Q v H') : LQ X c F al Q v H' := by
  obtain ⟨F2, al2, sl, S', e2, q⟩ := h
  exact ⟨F2, al2, sl, S', e.trans e2, q⟩
theorem VQ.here {Q : Sl → Sto → Prop} {sl : Sl} {v : V} (co : Core X c F al S H) (rv : RpS X.prog X.w X.K c.B F al v sl) (q : Q sl S) : VQ X c F al Q v H := ⟨F, al, sl, S, Ext.refl, co, rv, q⟩
theorem BQ.here {Q : Bool → Sto → Prop} {k : Bool} (co : Core X c F al S H) (q : Q k S) : BQ X c F al Q k H := ⟨F, al, S, Ext.refl, co, q⟩
/-- one expression, then what follows -/
theorem tW_then {Q : Sl → Sto → Prop} {R : VK} (h : EW X c e r S Q) (co : Core X c F al S H) (sl : Slots X c F al r σ)
    (k : ∀ v H' F' al' x S', Ext F al F' al' → Core X c F' al' S' H' → Slots X c F' al' r σ → RpS X.prog X.w X.K c.B F' al' v x → Q x S' → R v H') : tW X e σ H R :=
  tW_mono (h.tw co sl) fun v H' ⟨F', al', x, S', ex, co', rv, q⟩ => k v H' F' al' x S' ex co' (sl.mono ex) rv q
theorem tTW_then {Q : Bool → Sto → Prop} {R : Bool → Hp → Prop} (h : TW X c e r S Q) (co : Core X c F al S H) (sl : Slots X c F al r σ)
    (k : ∀ v H' F' al' S', Ext F al F' al' → Core X c F' al' S' H' → Slots X c F' al' r σ → Q v S' → R v H') : tTW X e σ H R :=
  tTW_mono (h.tw co sl) fun v H' ⟨F', al', S', ex, co', q⟩ => k v H' F' al' S' ex co' (sl.mono ex) q
theorem tTWW_then {Q : Bool → Sto → Prop} {R : Bool → Hp → Prop} (h : TWW X c e r S Q) (co : Core X c F al S H) (sl : Slots X c F al r σ)
    (k : ∀ v H' F' al' S', Ext F al F' al' → Core X c F' al' S' H' → Slots X c F' al' r σ → Q v S' → R v H') : tTWW X e σ H R :=
  tTWW_mono (h.tw co sl) fun v H' ⟨F', al', S', ex, co', q⟩ => k v H' F' al' S' ex co' (sl.mono ex) q
theorem tAW_then {Q : List Sl → Sto → Prop} {R : List V → Hp → Prop} (h : AW X c es r S Q) (co : Core X c F al S H) (sl : Slots X c F al r σ)
    (k : ∀ v H' F' al' x S', Ext F al F' al' → Core X c F' al' S' H' → Slots X c F' al' r σ → Paired (RpS X.prog X.w X.K c.B F' al') v x → Q x S' → R v H') : tAW X es σ H R :=
  tAW_mono (h.tw co sl) fun v H' ⟨F', al', x, S', ex, co', rv, q⟩ => k v H' F' al' x S' ex co' (sl.mono ex) rv q
theorem EW.mono {Q Q' : Sl → Sto → Prop} (h : EW X c e r S Q) (k : ∀ x S', Q x S' → Q' x S') : EW X c e r S Q' := fun pins s σ H F al I co sl =>
  (tW_then (Q := Q) h co sl fun v H' F' al' x S' ex co' _ rv q => (⟨F', al', x, S', ex, co', rv, k x S' q⟩ : VQ X c F al Q' v H')) pins s I
theorem TW.mono {Q Q' : Bool → Sto → Prop} (h : TW X c e r S Q) (k : ∀ x S', Q x S' → Q' x S') : TW X c e r S Q' := fun pins s σ H F al I co sl =>
  (tTW_then (Q := Q) h co sl fun v H' F' al' S' ex co' _ q => (⟨F', al', S', ex, co', k v S' q⟩ : BQ X c F al Q' v H')) pins s I
theorem AW.mono {Q Q' : List Sl → Sto → Prop} (h : AW X c es r S Q) (k : ∀ x S', Q x S' → Q' x S') : AW X c es r S Q' := fun pos pins s σ H F al I co sl =>
  (tAW_then (Q := Q) h co sl fun v H' F' al' x S' ex co' _ rv q => (⟨F', al', x, S', ex, co', rv, k x S' q⟩ : LQ X c F al Q' v H')) pos pins s I
end
section
variable {P : Program} {w : World} {K : PySem.W.Frag} {F : Hp} {al : List Addr} {v : V}
theorem rp_int {i : Int} (h : RpS P w K B F al v (.dat (.int i))) : v = .int i := by cases (h : Rp P w K F v (.int i)); rfl
theorem rp_bl {i : Bool} (h : RpS P w K B F al v (.dat (.bl i))) : v = .bl i := by cases (h : Rp P w K F v (.bl i)); rfl
theorem rp_str {i : Str} (h : RpS P w K B F al v (.dat (.str i))) : v = .str i := by cases (h : Rp P w K F v (.str i)); rfl
theorem rp_non (h : RpS P w K B F al v (.dat .non)) : v = .non := by cases (h : Rp P w K F v .non); rfl
theorem rp_tupF {ds : List D} (h : RpS P w K B F al v (.dat (.tup ds))) : ∃ a o vs, v = .ref a ∧ F a = some (.frz o (.tup vs)) ∧ o.dict = none ∧ Rps P w K F vs ds := by
  cases (h : Rp P w K F v (.tup ds)) with
  | tup a b c => exact ⟨_, _, _, rfl, a, b, c⟩
theorem rp_tup {ds : List D} (h : RpS P w K B F al v (.dat (.tup ds))) : ∃ a vs, v = .ref a ∧ SqT K F a vs ∧ Rps P w K F vs ds := by
  obtain ⟨a, o, vs, e, h1, _, h2⟩ := rp_tupF h
  exact ⟨a, vs, e, .inl (.inr ⟨o, h1⟩), h2⟩
theorem rp_lst {ds : List D} (h : RpS P w K B F al v (.dat (.lst ds))) : ∃ a vs, v = .ref a ∧ SqL K F a vs ∧ Rps P w K F vs ds := by
  cases (h : Rp P w K F v (.lst ds)) with
  | lst a b => exact ⟨_, _, rfl, a, b⟩
theorem rp_dct {ds : List (NestedKey × D)} (h : RpS P w K B F al v (.dat (.dct ds))) : ∃ a es, v = .ref a ∧ F a = some (.ext (dPhi P w a es)) ∧ Rpe P w K F es ds := by
  cases (h : Rp P w K F v (.dct ds)) with
  | dct a b => exact ⟨_, _, rfl, a, b⟩
theorem rp_obj {C : Addr} {ds : List (Str × D)} (h : RpS P w K B F al v (.dat (.obj C ds))) : ∃ a dx es, v = .ref a ∧ F a = some (.ins C dx es) ∧ Rpf P w K F es ds := by
  cases (h : Rp P w K F v (.obj C ds)) with
  | obj a b => exact ⟨_, _, _, rfl, a, b⟩
end

/-! ### expressions -/
section
variable {X : Cx} {c : Cc} {e a b t : Expr} {es rest : List Expr} {r : Rho} {S : Sto} {pos : Pos} {x y z : Sl} {i j : Int} {p q : Bool}
theorem ee_is (h : EE X c e r S x) (k : x = y) : EE X c e r S y := k ▸ h
theorem et_is (h : ET X c e r S p) (k : p = q) : ET X c e r S q := k ▸ h
theorem ew_ee {Q : Sl → Sto → Prop} (h : EE X c e r S x) (q : Q x S) : EW X c e r S Q := h Q q
/-- one value, then more, both told -/
theorem ew_of1 {tf : TE → TE} {Q : Sl → Sto → Prop} (p : PE X e (tf (tW X a))) (h : EE X c a r S x)
    (k : ∀ (σ : L2.St) H F al, Core X c F al S H → Slots X c F al r σ → (∀ R : VK, (∀ v H' F' al', Ext F al F' al' → Core X c F' al' S H' → Slots X c F' al' r σ → RpS X.prog X.w X.K c.B F' al' v x → R v H') → tW X a σ H R) → tf (tW X a) σ H (VQ X c F al Q)) : EW X c e r S Q :=
  EW.of p fun σ H F al co sl => k σ H F al co sl fun R kk => tW_then (h (fun x' S' => x' = x ∧ S' = S) ⟨rfl, rfl⟩) co sl fun v H' F' al' x' S' ex co' sl' rv ⟨e1, e2⟩ => by
    subst e1; subst e2
    exact kk v H' F' al' ex co' sl' rv
theorem ee_v (i : Nat) {n : Str} (h : r[i]? = some (some x) := by rfl) (hN : X.N[i]? = some n := by rfl) (hv : Vis X.env.scope n := by first | exact Or.inl rfl | exact Or.inr (Or.inl rfl) | exact Or.inr (Or.inr rfl)) (hd : (n == ("__debug__" : Str)) = false := by decide)
    (hcd : (n == ("__classdict__" : Str)) = false := by decide) : EE X c (.Name n pos) r S x := fun Q q =>
  EW.of (pe_var hN hv hd hcd) fun σ H F al co sl => by
    obtain ⟨v, h1, h2⟩ := sl.get h
    exact ⟨v, h1, VQ.here co h2 q⟩
theorem ee_int {i : Int} {k : Nat} : EE X c (.Constant (.int i) k pos) r S (.dat (.int i)) := fun Q q => EW.of pe_int fun σ H F al co sl => VQ.here co (sl := .dat _) (Rp.int i) q
theorem ee_bl {i : Bool} {k : Nat} : EE X c (.Constant (.bool i) k pos) r S (.dat (.bl i)) := fun Q q => EW.of pe_bl fun σ H F al co sl => VQ.here co (sl := .dat _) (Rp.bl i) q
theorem ee_non {k : Nat} : EE X c (.Constant .none k pos) r S (.dat .non) := fun Q q => EW.of pe_non fun σ H F al co sl => VQ.here co (sl := .dat _) Rp.non q
theorem ee_str {i : Str} {k : Nat} : EE X c (.Constant (.str i) k pos) r S (.dat (.str i)) := fun Q q => EW.of pe_str fun σ H F al co sl => VQ.here co (sl := .dat _) (Rp.str i) q
theorem ee_glob {n : Str} {v : V} {u : Value} {d : D} (hg : Gl X n) (hm : X.mg n = some u) (rv : RelV v u) (hd : ∀ F, Rp X.prog X.w X.K F v d) (hdb : (n == ("__debug__" : Str)) = false := by decide) : EE X c (.Name n pos) r S (.dat d) := fun Q q =>
  EW.of (pe_glob hg hm rv hdb) fun σ H F al co sl => VQ.here co (sl := .dat _) (hd F) q
/-- two values, then more -/
theorem ew_two {pos' : Pos} {ee : Expr} {rr : R2} {Q : Sl → Sto → Prop} (p : PE X ee (tOp rr (tW X a) (tW X b)))
    (h : EW X c a r S fun x S1 => EW X c b r S1 fun y S2 => ∀ H F al v u, Core X c F al S2 H → RpS X.prog X.w X.K c.B F al v x → RpS X.prog X.w X.K c.B F al u y → rr v u H (VQ X c F al Q))
    (mono : ∀ v u H (R R' : VK), (∀ z H', R z H' → R' z H') → rr v u H R → rr v u H R') : EW X c ee r S Q :=
  EW.of p fun σ H F al co sl => tW_then h co sl fun v H1 F1 al1 x S1 ex1 co1 sl1 rv h2 =>
    tW_then h2 co1 sl1 fun u H2 F2 al2 y S2 ex2 co2 sl2 ru h3 => mono _ _ _ _ _ (fun z H' q => q.up (ex1.trans ex2)) (h3 H2 F2 al2 v u co2 (rv.mono ex2) ru)
/-- a two-place rule that gives a scalar -/
theorem ee_two {ee : Expr} {rr : R2} (p : PE X ee (tOp rr (tW X a) (tW X b))) (ha : EE X c a r S x) (hb : EE X c b r S y) {z : D}
    (k : ∀ H F al v u, Core X c F al S H → RpS X.prog X.w X.K c.B F al v x → RpS X.prog X.w X.K c.B F al u y → ∀ R : VK, (∀ vz, Rp X.prog X.w X.K F vz z → R vz H) → rr v u H R) : EE X c ee r S (.dat z) := fun Q q =>
  EW.of p fun σ H F al co sl => tW_then (ha (fun x' S' => x' = x ∧ S' = S) ⟨rfl, rfl⟩) co sl fun v H1 F1 al1 x' S1 ex1 co1 sl1 rv ⟨e1, e2⟩ => by
    subst e1; subst e2
    exact tW_then (hb (fun y' S' => y' = y ∧ S' = S1) ⟨rfl, rfl⟩) co1 sl1 fun u H2 F2 al2 y' S2 ex2 co2 sl2 ru ⟨e1, e2⟩ => by
      subst e1; subst e2
      exact k H2 F2 al2 v u co2 (rv.mono ex2) ru _ fun vz hz => (VQ.here co2 (sl := .dat z) hz q).up (ex1.trans ex2)
abbrev DI (i : Int) : Sl := .dat (.int i)
abbrev DB (b : Bool) : Sl := .dat (.bl b)
abbrev DS (x : Str) : Sl := .dat (.str x)
/-- two ints -/
theorem ee_i0 {ee : Expr} {g : Int → Int → V} {gd : Int → Int → D} (p : PE X ee (tOp (rI0 g) (tW X a) (tW X b))) (hg : ∀ i j F, Rp X.prog X.w X.K F (g i j) (gd i j)) (ha : EE X c a r S (DI i)) (hb : EE X c b r S (DI j)) : EE X c ee r S (.dat (gd i j)) :=
  ee_two p ha hb fun H F al v u co rv ru R k => ⟨i, j, rp_int rv, rp_int ru, k _ (hg i j F)⟩
theorem ee_i1 {ee : Expr} {C : Int → Int → Prop} {g : Int → Int → V} {gd : Int → Int → D} (p : PE X ee (tOp (rI C g) (tW X a) (tW X b))) (hg : ∀ i j F, Rp X.prog X.w X.K F (g i j) (gd i j)) (ha : EE X c a r S (DI i)) (hb : EE X c b r S (DI j)) (hc : C i j) : EE X c ee r S (.dat (gd i j)) :=
  ee_two p ha hb fun H F al v u co rv ru R k => ⟨i, j, rp_int rv, rp_int ru, hc, k _ (hg i j F)⟩
theorem ee_add (ha : EE X c a r S (DI i)) (hb : EE X c b r S (DI j)) : EE X c (.BinOp a .Add b pos) r S (DI (i + j)) := ee_i0 (gd := fun i j => .int (i + j)) (pe_op op_add pe_self pe_self) (fun _ _ _ => .int _) ha hb
theorem ee_sub (ha : EE X c a r S (DI i)) (hb : EE X c b r S (DI j)) : EE X c (.BinOp a .Sub b pos) r S (DI (i - j)) := ee_i0 (gd := fun i j => .int (i - j)) (pe_op op_sub pe_self pe_self) (fun _ _ _ => .int _) ha hb
theorem ee_mod (ha : EE X c a r S (DI i)) (hb : EE X c b r S (DI j)) (h : 0 < j := by decide) : EE X c (.BinOp a .Mod b pos) r S (DI (i % j)) := ee_i1 (gd := fun i j => .int (i % j)) (pe_op op_mod pe_self pe_self) (fun _ _ _ => .int _) ha hb h
theorem ee_fdiv (ha : EE X c a r S (DI i)) (hb : EE X c b r S (DI j)) (h : CDiv i j := by exact ⟨by decide, by decide⟩) : EE X c (.BinOp a .FloorDiv b pos) r S (DI (i / j)) := ee_i1 (gd := fun i j => .int (i / j)) (pe_op op_fdiv pe_self pe_self) (fun _ _ _ => .int _) ha hb h
theorem ee_mul (ha : EE X c a r S (DI i)) (hb : EE X c b r S (DI j)) (h : CMul i j) : EE X c (.BinOp a .Mult b pos) r S (DI (i * j)) := ee_i1 (gd := fun i j => .int (i * j)) (pe_op op_mul pe_self pe_self) (fun _ _ _ => .int _) ha hb h

/-- a comparison by values -/
def CmpD (X : Cx) (c : Cc) (S : Sto) (op : CmpOp) (x y : Sl) (p : Bool) : Prop :=
  ∃ rr : R2, OpR X (compareOp op) rr ∧ ∀ H F al v u, Core X c F al S H → RpS X.prog X.w X.K c.B F al v x → RpS X.prog X.w X.K c.B F al u y → ∀ R : VK, R (.bl p) H → rr v u H R
theorem ee_cmp {op : CmpOp} (ha : EE X c a r S x) (hb : EE X c b r S y) (h : CmpD X c S op x y p) (hm : behindInMarks op b = false := by first | exact nomark _ | with_unfolding_all rfl) : EE X c (.Compare a [op] [b] pos) r S (DB p) := by
  obtain ⟨rr, ho, k⟩ := h
  exact ee_two (z := .bl p) (pe_cmpR ho pe_self pe_self hm) ha hb fun H F al v u co rv ru R q => k H F al v u co rv ru R (q _ (Rp.bl p))
theorem et_cmp {op : CmpOp} (ha : EE X c a r S x) (hb : EE X c b r S y) (h : CmpD X c S op x y p) (hm : behindInMarks op b = false := by first | exact nomark _ | with_unfolding_all rfl) : ET X c (.Compare a [op] [b] pos) r S p := by
  obtain ⟨rr, ho, k⟩ := h
  exact fun Q q => TW.of (pt_cmpR ho pe_self pe_self hm) fun σ H F al co sl => tW_then (ha (fun x' S' => x' = x ∧ S' = S) ⟨rfl, rfl⟩) co sl fun v H1 F1 al1 x' S1 ex1 co1 sl1 rv ⟨e1, e2⟩ => by
    subst e1; subst e2
    exact tW_then (hb (fun y' S' => y' = y ∧ S' = S1) ⟨rfl, rfl⟩) co1 sl1 fun u H2 F2 al2 y' S2 ex2 co2 sl2 ru ⟨e1, e2⟩ => by
      subst e1; subst e2
      exact k H2 F2 al2 v u co2 (rv.mono ex2) ru _ ⟨p, rfl, (BQ.here co2 q).up (ex1.trans ex2)⟩
theorem cd_i0 {op : CmpOp} {g : Int → Int → Bool} (ho : OpR X (compareOp op) (rI0 fun i j => .bl (g i j))) : CmpD X c S op (DI i) (DI j) (g i j) := ⟨_, ho, fun H F al v u co rv ru R k => ⟨i, j, rp_int rv, rp_int ru, k⟩⟩
theorem cd_lt : CmpD X c S .Lt (DI i) (DI j) (decide (i < j)) := cd_i0 (g := fun i j => decide (i < j)) op_lt
theorem cd_le : CmpD X c S .LtE (DI i) (DI j) (decide (i ≤ j)) := cd_i0 (g := fun i j => decide (i ≤ j)) op_le
theorem cd_gt : CmpD X c S .Gt (DI i) (DI j) (decide (j < i)) := cd_i0 (g := fun i j => decide (j < i)) op_gt
theorem cd_ge : CmpD X c S .GtE (DI i) (DI j) (decide (j ≤ i)) := cd_i0 (g := fun i j => decide (j ≤ i)) op_ge
theorem cd_eqI : CmpD X c S .Eq (DI i) (DI j) (decide (i = j)) := ⟨_, op_eq, fun H F al v u co rv ru R k => by
  rw [rp_int rv, rp_int ru]
  exact ⟨rfl, by rw [dec_int, Bool.beq_eq_decide_eq]; exact k⟩⟩
theorem cd_neI : CmpD X c S .NotEq (DI i) (DI j) (!decide (i = j)) := ⟨_, op_ne, fun H F al v u co rv ru R k => by
  rw [rp_int rv, rp_int ru]
  exact ⟨rfl, by rw [dec_int, Bool.beq_eq_decide_eq]; exact k⟩⟩
theorem cd_eqS {x y : Str} : CmpD X c S .Eq (DS x) (DS y) (decide (x = y)) := ⟨_, op_eq, fun H F al v u co rv ru R k => by
  rw [rp_str rv, rp_str ru]
  exact ⟨rfl, by rw [dec_str, Bool.beq_eq_decide_eq]; exact k⟩⟩
theorem cd_neS {x y : Str} : CmpD X c S .NotEq (DS x) (DS y) (!decide (x = y)) := ⟨_, op_ne, fun H F al v u co rv ru R k => by
  rw [rp_str rv, rp_str ru]
  exact ⟨rfl, by rw [dec_str, Bool.beq_eq_decide_eq]; exact k⟩⟩
theorem cd_eqB {x y : Bool} : CmpD X c S .Eq (DB x) (DB y) (decide (x = y)) := ⟨_, op_eq, fun H F al v u co rv ru R k => by
  rw [rp_bl rv, rp_bl ru]
  exact ⟨rfl, by rw [dec_bl, Bool.beq_eq_decide_eq]; exact k⟩⟩
theorem cd_neB {x y : Bool} : CmpD X c S .NotEq (DB x) (DB y) (!decide (x = y)) := ⟨_, op_ne, fun H F al v u co rv ru R k => by
  rw [rp_bl rv, rp_bl ru]
  exact ⟨rfl, by rw [dec_bl, Bool.beq_eq_decide_eq]; exact k⟩⟩
def isNonS : Sl → Bool
  | .dat .non => true
  | _ => false
theorem rp_isNon {P : Program} {w : World} {K : PySem.W.Frag} {B F : Hp} {al : List Addr} {v : V} {s : Sl} (h : RpS P w K B F al v s) : decide (v = .non) = isNonS s := by
  cases s with
  | dat d =>
    cases (h : Rp P w K F v d) <;> first | rfl | exact decide_eq_false (by intro z; cases z)
  | bor d =>
    obtain ⟨a, rfl⟩ := Bor.ref (show Bor P w K B F v d from h)
    exact decide_eq_false (by intro z; cases z)
  | ptr k =>
    obtain ⟨p, _, rfl⟩ := h
    exact decide_eq_false (by intro z; cases z)
theorem cd_isN : CmpD X c S .Is x (.dat .non) (isNonS x) := ⟨_, op_isN, fun H F al v u co rv ru R k => ⟨rp_non ru, by rw [rp_isNon rv]; exact k⟩⟩
theorem cd_notN : CmpD X c S .IsNot x (.dat .non) (!isNonS x) := ⟨_, op_notN, fun H F al v u co rv ru R k => ⟨rp_non ru, by rw [rp_isNon rv]; exact k⟩⟩
/-- a op1 b op2 c -/
theorem ee_chain {d : Expr} {op op' : CmpOp} {z : Sl} (ha : EE X c a r S x) (hb : EE X c b r S y) (hd : p = true → EE X c d r S z) (h : CmpD X c S op x y p) (h' : CmpD X c S op' y z q) (hm : lastMarks [op, op'] [b, d] = false := by with_unfolding_all rfl) :
    EE X c (.Compare a [op, op'] [b, d] pos) r S (DB (p && q)) := by
  obtain ⟨rr, ho, k⟩ := h
  obtain ⟨rr', ho', k'⟩ := h'
  refine fun Q kq => EW.of (pe_chain ho ho' pe_self pe_self pe_self hm) fun σ H F al co sl => tW_then (ha (fun x' S' => x' = x ∧ S' = S) ⟨rfl, rfl⟩) co sl fun v H1 F1 al1 x' S1 ex1 co1 sl1 rv ⟨e1, e2⟩ => ?_
  subst e1; subst e2
  refine tW_then (hb (fun y' S' => y' = y ∧ S' = S1) ⟨rfl, rfl⟩) co1 sl1 fun u H2 F2 al2 y' S2 ex2 co2 sl2 ru ⟨e1, e2⟩ => ?_
  subst e1; subst e2
  refine k H2 F2 al2 v u co2 (rv.mono ex2) ru _ ⟨p, rfl, ?_⟩
  cases p with
  | false =>
    rw [if_neg Bool.false_ne_true]
    exact (VQ.here co2 (sl := DB false) (Rp.bl _) kq).up (ex1.trans ex2)
  | true =>
    rw [if_pos rfl]
    refine tW_then (hd rfl (fun y' S' => y' = z ∧ S' = S2) ⟨rfl, rfl⟩) co2 sl2 fun u3 H3 F3 al3 z' S3 ex3 co3 sl3 ru3 ⟨e1, e2⟩ => ?_
    subst e1; subst e2
    exact k' H3 F3 al3 u u3 co3 (ru.mono ex3) ru3 _ ((VQ.here co3 (sl := DB q) (Rp.bl _) kq).up ((ex1.trans ex2).trans ex3))
/-! items -/

theorem rps_at {P : Program} {w : World} {K : PySem.W.Frag} {F : Hp} {vs : List V} {ds : List D} {d : D} (h2 : Rps P w K F vs ds) (h : atI ds i = some d) : ∃ y, atI vs i = some y ∧ Rp P w K F y d := by
  unfold atI at h ⊢
  rw [h2.length]
  cases e : ixN ds.length i with
  | none => rw [e] at h; cases h
  | some j =>
    rw [e] at h
    exact h2.get h
theorem ee_ixT {ds : List D} {d : D} (ha : EE X c a r S (.dat (.tup ds))) (hb : EE X c b r S (DI i)) (h : atI ds i = some d) (hs : PlainIx b := by exact fun _ _ => rfl) : EE X c (.Subscript a b pos) r S (.dat d) :=
  ee_two (z := d) (pe_ix ix_tup pe_self pe_self hs) ha hb fun H F al v u co rv ru R k => by
    obtain ⟨p, vs, rfl, h1, h2⟩ := rp_tup rv
    obtain ⟨y, hy, ry⟩ := rps_at h2 h
    exact ⟨p, vs, i, y, rfl, rp_int ru, same_t co.sub h1, hy, k y ry⟩
theorem ee_ixL {ds : List D} {d : D} (ha : EE X c a r S (.dat (.lst ds))) (hb : EE X c b r S (DI i)) (h : atI ds i = some d) (hs : PlainIx b := by exact fun _ _ => rfl) : EE X c (.Subscript a b pos) r S (.dat d) :=
  ee_two (z := d) (pe_ix ix_list pe_self pe_self hs) ha hb fun H F al v u co rv ru R k => by
    obtain ⟨p, vs, rfl, h1, h2⟩ := rp_lst rv
    obtain ⟨y, hy, ry⟩ := rps_at h2 h
    exact ⟨p, vs, i, y, rfl, rp_int ru, co.sub.seq h1, hy, k y ry⟩
/-! tests -/
theorem et_val (h : EE X c e r S (DB p)) (he : ∀ whole, isTrue e X.env whole = (do let v ← whole; standAt e.pos; holding [v] (truthy v)) := by intro _; rfl) : ET X c e r S p := fun Q q =>
  TW.of (pt_val pe_self he) fun σ H F al co sl => tW_then (h (fun x' S' => x' = DB p ∧ S' = S) ⟨rfl, rfl⟩) co sl fun v H1 F1 al1 x' S1 ex1 co1 sl1 rv ⟨e1, e2⟩ => by
    subst e1; subst e2
    exact ⟨p, rp_bl rv, (BQ.here co1 q).up ex1⟩

theorem et_w (h : ETW X c e r S p) : ET X c e r S p := fun Q q pins s σ H F al I co sl => h Q q _ pins s σ H F al I co sl
theorem tt_then {R : Bool → Hp → Prop} {σ : L2.St} {H F : Hp} {al : List Addr} (h : ET X c e r S p) (co : Core X c F al S H) (sl : Slots X c F al r σ)
    (k : ∀ H' F' al', Ext F al F' al' → Core X c F' al' S H' → Slots X c F' al' r σ → R p H') : tTW X e σ H R :=
  tTW_then (h (fun x' S' => x' = p ∧ S' = S) ⟨rfl, rfl⟩) co sl fun v H1 F1 al1 S1 ex1 co1 sl1 ⟨e1, e2⟩ => by
    subst e1; subst e2
    exact k H1 F1 al1 ex1 co1 sl1
theorem te_then {R : VK} {σ : L2.St} {H F : Hp} {al : List Addr} (h : EE X c e r S x) (co : Core X c F al S H) (sl : Slots X c F al r σ)
    (k : ∀ v H' F' al', Ext F al F' al' → Core X c F' al' S H' → Slots X c F' al' r σ → RpS X.prog X.w X.K c.B F' al' v x → R v H') : tW X e σ H R :=
  tW_then (h (fun x' S' => x' = x ∧ S' = S) ⟨rfl, rfl⟩) co sl fun v H1 F1 al1 x' S1 ex1 co1 sl1 rv ⟨e1, e2⟩ => by
    subst e1; subst e2
    exact k v H1 F1 al1 ex1 co1 sl1 rv
theorem ta_then {R : List V → Hp → Prop} {sls : List Sl} {σ : L2.St} {H F : Hp} {al : List Addr} (h : EA X c es r S sls) (co : Core X c F al S H) (sl : Slots X c F al r σ)
    (k : ∀ vs H' F' al', Ext F al F' al' → Core X c F' al' S H' → Slots X c F' al' r σ → Paired (RpS X.prog X.w X.K c.B F' al') vs sls → R vs H') : tAW X es σ H R :=
  tAW_then (h (fun x' S' => x' = sls ∧ S' = S) ⟨rfl, rfl⟩) co sl fun v H1 F1 al1 x' S1 ex1 co1 sl1 rv ⟨e1, e2⟩ => by
    subst e1; subst e2
    exact k v H1 F1 al1 ex1 co1 sl1 rv
theorem etw_and1 (h : ET X c a r S p) : ETW X c (.BoolOp .And [a] pos) r S p := fun Q q => TWW.of (pw_and1 pt_self) fun σ H F al co sl => (h Q q).tw co sl
theorem etw_or1 (h : ET X c a r S p) : ETW X c (.BoolOp .Or [a] pos) r S p := fun Q q => TWW.of (pw_or1 pt_self) fun σ H F al co sl => (h Q q).tw co sl
theorem etw_and (h : ET X c a r S p) (h2 : p = true → ETW X c (.BoolOp .And (b :: rest) pos) r S q) : ETW X c (.BoolOp .And (a :: b :: rest) pos) r S (p && q) := fun Q k => TWW.of (pw_and pt_self pw_self) fun σ H F al co sl =>
  tt_then h co sl fun H1 F1 al1 ex1 co1 sl1 => by
    cases p with
    | true =>
      rw [if_pos rfl]
      exact tTWW_mono ((h2 rfl Q k).tw co1 sl1) fun v H' z => z.up ex1
    | false =>
      rw [if_neg Bool.false_ne_true]
      exact (BQ.here co1 k).up ex1
theorem etw_or (h : ET X c a r S p) (h2 : p = false → ETW X c (.BoolOp .Or (b :: rest) pos) r S q) : ETW X c (.BoolOp .Or (a :: b :: rest) pos) r S (p || q) := fun Q k => TWW.of (pw_or pt_self pw_self) fun σ H F al co sl =>
  tt_then h co sl fun H1 F1 al1 ex1 co1 sl1 => by
    cases p with
    | true =>
      rw [if_pos rfl]
      exact (BQ.here co1 k).up ex1
    | false =>
      rw [if_neg Bool.false_ne_true]
      exact tTWW_mono ((h2 rfl Q k).tw co1 sl1) fun v H' z => z.up ex1
theorem et_not (h : ET X c a r S p) : ET X c (.UnaryOp .Not a pos) r S (!p) := fun Q k => TW.of (pt_not pt_self) fun σ H F al co sl => tt_then h co sl fun H1 F1 al1 ex1 co1 sl1 => (BQ.here co1 k).up ex1
theorem ee_one {op} (h : EE X c a r S x) : EE X c (.BoolOp op [a] pos) r S x := fun Q k => EW.of (pe_one pe_self) fun σ H F al co sl => (h Q k).tw co sl
theorem ee_and (h : EE X c a r S (DB p)) (h2 : p = true → EE X c (.BoolOp .And (b :: rest) pos) r S (DB q)) : EE X c (.BoolOp .And (a :: b :: rest) pos) r S (DB (p && q)) := fun Q k => EW.of (pe_and pe_self pe_self) fun σ H F al co sl =>
  te_then h co sl fun v H1 F1 al1 ex1 co1 sl1 rv => ⟨p, rp_bl rv, by
    cases p with
    | true =>
      rw [if_pos rfl]
      exact tW_mono ((h2 rfl Q k).tw co1 sl1) fun v H' z => z.up ex1
    | false =>
      rw [if_neg Bool.false_ne_true]
      exact (VQ.here co1 (sl := DB false) (Rp.bl _) k).up ex1⟩
theorem ee_or (h : EE X c a r S (DB p)) (h2 : p = false → EE X c (.BoolOp .Or (b :: rest) pos) r S (DB q)) : EE X c (.BoolOp .Or (a :: b :: rest) pos) r S (DB (p || q)) := fun Q k => EW.of (pe_or pe_self pe_self) fun σ H F al co sl =>
  te_then h co sl fun v H1 F1 al1 ex1 co1 sl1 rv => ⟨p, rp_bl rv, by
    cases p with
    | true =>
      rw [if_pos rfl]
      exact (VQ.here co1 (sl := DB true) (Rp.bl _) k).up ex1
    | false =>
      rw [if_neg Bool.false_ne_true]
      exact tW_mono ((h2 rfl Q k).tw co1 sl1) fun v H' z => z.up ex1⟩
theorem ee_not (h : EE X c a r S (DB p)) : EE X c (.UnaryOp .Not a pos) r S (DB (!p)) := fun Q k => EW.of (pe_not pe_self) fun σ H F al co sl =>
  te_then h co sl fun v H1 F1 al1 ex1 co1 sl1 rv => ⟨p, rp_bl rv, (VQ.here co1 (sl := DB _) (Rp.bl _) k).up ex1⟩
theorem ee_if (h : ET X c t r S p) (h1 : p = true → EE X c a r S x) (h2 : p = false → EE X c b r S x) : EE X c (.IfExp t a b pos) r S x := fun Q k => EW.of (pe_ifExp pt_self pe_self pe_self) fun σ H F al co sl =>
  tt_then h co sl fun H1 F1 al1 ex1 co1 sl1 => by
    cases p with
    | true =>
      rw [if_pos rfl]
      exact tW_mono ((h1 rfl Q k).tw co1 sl1) fun v H' z => z.up ex1
    | false =>
      rw [if_neg Bool.false_ne_true]
      exact tW_mono ((h2 rfl Q k).tw co1 sl1) fun v H' z => z.up ex1
theorem ew_if {Q : Sl → Sto → Prop} (h : ET X c t r S p) (h1 : p = true → EW X c a r S Q) (h2 : p = false → EW X c b r S Q) : EW X c (.IfExp t a b pos) r S Q := EW.of (pe_ifExp pt_self pe_self pe_self) fun σ H F al co sl =>
  tt_then h co sl fun H1 F1 al1 ex1 co1 sl1 => by
    cases p with
    | true =>
      rw [if_pos rfl]
      exact tW_mono ((h1 rfl).tw co1 sl1) fun v H' z => z.up ex1
    | false =>
      rw [if_neg Bool.false_ne_true]
      exact tW_mono ((h2 rfl).tw co1 sl1) fun v H' z => z.up ex1
/-! argument lists, displays -/
theorem ea_nil : EA X c [] r S [] := fun Q k => AW.of pa_nil fun σ H F al co sl => ⟨F, al, [], S, Ext.refl, co, .nil, k⟩
theorem ea_cons {sls : List Sl} (h : EE X c a r S x) (ht : EA X c es r S sls) (hs : starEach (a :: es) X.env = (false, eval a X.env) :: starEach es X.env := by rfl) : EA X c (a :: es) r S (x :: sls) := fun Q k => AW.of (pa_cons pe_self pa_self hs) fun σ H F al co sl =>
  te_then h co sl fun v H1 F1 al1 ex1 co1 sl1 rv => ta_then ht co1 sl1 fun vs H2 F2 al2 ex2 co2 sl2 rvs => ⟨F2, al2, x :: sls, S, ex1.trans ex2, co2, .cons (rv.mono ex2) rvs, k⟩
abbrev dats (ds : List D) : List Sl := ds.map Sl.dat
theorem rps_of {P : Program} {w : World} {K : PySem.W.Frag} {F : Hp} {al : List Addr} : ∀ {vs : List V} {ds : List D}, Paired (RpS P w K B F al) vs (dats ds) → Rps P w K F vs ds
  | _, [], .nil => .nil
  | _, _ :: _, .cons h t => .cons h (rps_of t)
theorem of_rps {P : Program} {w : World} {K : PySem.W.Frag} {F : Hp} {al : List Addr} : ∀ {vs : List V} {ds : List D}, Rps P w K F vs ds → Paired (RpS P w K B F al) vs (dats ds)
  | _, [], .nil => .nil
  | _, _ :: _, .cons h t => .cons h (of_rps t)
theorem sz_of {n : Nat} (h : n ≤ 100000) : n ≤ sizeLine := Nat.le_trans h (by decide)
theorem paired_len {α β : Type} {G : α → β → Prop} : ∀ {l₁ : List α} {l₂ : List β}, Paired G l₁ l₂ → l₁.length = l₂.length
  | _, _, .nil => rfl
  | _, _, .cons _ t => congrArg (· + 1) (paired_len t)
/-- a tuple, its object known (no dict of its own) -/
def tTupF (t : TA) : TE := fun σ H Q => t σ H fun xs H1 => xs.length ≤ sizeLine ∧ ∀ p (o : Obj), H1 p = none → o.dict = none → Q (.ref p) (upd H1 p (.frz o (.tup xs)))
theorem pe_tupF {x1} {t : TA} (h : PA X es t) : PE X (.Tuple es x1 pos) (tTupF t) := by
  refine ⟨fun pins s σ H Q I hq => ?_⟩
  refine wpAny_Tuple_spliced (thn (h.run pos pins s σ H _ I hq) fun us s1 ⟨xs, H1, I1, r, z, q⟩ => ⟨by rw [← r.length]; exact z, ?_⟩)
  have hf : H1 s1.heap.objs.size = none := I1.hok.fresh (Nat.le_refl _)
  refine ⟨.ref s1.heap.objs.size, upd H1 s1.heap.objs.size (.frz { cls := .type "tuple", data := .seq us.toArray } (.tup xs)), I1.laid (t' := s1.toks) (fun b u e => Heap.get?_push_of_some _ e) (Nat.le_refl _) ?_, rfl, q _ _ hf rfl⟩
  exact ⟨Heap.get?_push_size _ rfl, z, us, r, ⟨_, Heap.get?_push_size _ rfl, rfl, _, rfl⟩⟩
/-- (a, b, ..) of frozen things; [a, b, ..] frozen -/
theorem ee_tup {ds : List D} {x1} (h : EA X c es r S (dats ds)) (hl : ds.length ≤ 100000 := by first | decide | simp) : EE X c (.Tuple es x1 pos) r S (.dat (.tup ds)) := fun Q k => EW.of (pe_tupF pa_self) fun σ H F al co sl =>
  ta_then h co sl fun vs H1 F1 al1 ex1 co1 sl1 rvs => ⟨by rw [(rps_of rvs).length]; exact sz_of hl, fun p o hp ho =>
    ⟨_, _, .dat (.tup ds), S, ex1.trans (Ext.laid (o := .frz o (.tup vs)) co1 hp), co1.laid hp, Rp.tup upd_same ho ((rps_of rvs).mono (same_upd (co1.sub.free hp))), k⟩⟩
theorem ee_lst {ds : List D} (h : EA X c es r S (dats ds)) (hl : ds.length ≤ 100000 := by first | decide | simp) : EE X c (.List es pos) r S (.dat (.lst ds)) := fun Q k => EW.of (pe_lst pa_self) fun σ H F al co sl =>
  ta_then h co sl fun vs H1 F1 al1 ex1 co1 sl1 rvs => ⟨by rw [(rps_of rvs).length]; exact sz_of hl, fun p hp =>
    ⟨_, _, .dat (.lst ds), S, ex1.trans (Ext.laid (o := .lst vs) co1 hp), co1.laid hp, Rp.lst (.of upd_same) ((rps_of rvs).mono (same_upd (co1.sub.free hp))), k⟩⟩
/-- [a, b, ..] as a cell of one's own -/
theorem ew_lst {sls : List Sl} {Q : Sl → Sto → Prop} (h : EA X c es r S sls) (k : Q (.ptr S.length) (S ++ [.lst sls])) (hl : sls.length ≤ 100000 := by first | decide | simp) : EW X c (.List es pos) r S Q := EW.of (pe_lst pa_self) fun σ H F al co sl =>
  ta_then h co sl fun vs H1 F1 al1 ex1 co1 sl1 rvs => ⟨by rw [paired_len rvs]; exact sz_of hl, fun p hp =>
    have ex2 : Ext F1 al1 F1 (al1 ++ [p]) := ⟨Same.refl _, [p], rfl⟩
    ⟨F1, al1 ++ [p], .ptr S.length, _, ex1.trans ex2, co1.born (d := .lst sls) hp ⟨vs, upd_same, Paired.mono' (fun _ _ q => q.mono ex2) rvs⟩, ⟨p, by rw [List.getElem?_append_right (by rw [co1.len]; exact Nat.le_refl _), co1.len, Nat.sub_self]; rfl, rfl⟩, k⟩⟩
end
end Dz

namespace Dz
open PySem L2

/-- the heap without p -/
def del (H : Hp) (p : Addr) : Hp := fun a => if a = p then none else H a
theorem del_same {H : Hp} {p : Addr} : Same (del H p) H := fun b o e => by
  unfold del at e
  by_cases h : b = p
  · rw [if_pos h] at e; cases e
  · rw [if_neg h] at e; exact e
theorem same_del {F H : Hp} {p : Addr} (h : Same F H) (hp : F p = none) : Same F (del H p) := fun b o e => by
  unfold del
  rw [if_neg (ne_of_none e hp)]
  exact h b o e
/-! ### contracts -/
/-- from the data of the arguments the data of the result, or the class of what is raised -/
abbrev Rel := List Sl → Except Value D → Prop
/-- an argument is frozen data, or lent -/
def ArgS (P : Program) (w : World) (K : PySem.W.Frag) (B F : Hp) : List V → List Sl → Prop := Paired fun v s => (∃ d, s = .dat d ∧ Rp P w K F v d) ∨ ∃ d, s = .bor d ∧ Bor P w K B F v d
def SpD (P : Program) (w : World) (K : PySem.W.Frag) (R : Rel) : Sp := fun vs H Q E => ∃ (F : Hp) (ds : List Sl) (res : Except Value D), Same F H ∧ ArgS P w K H F vs ds ∧ R ds res ∧
  match res with
  | .ok d => ∀ (v : V) (H' F' : Hp), Same H H' → Same F F' → Same F' H' → (∀ a o, F' a = some o → F a = some o ∨ H a = none) → Rp P w K F' v d → Q v H'
  | .error cls => ∀ H', Same H H' → E cls none H'
/-- a method that changes its own object -/
abbrev RelM := List (Str × D) → List Sl → Except Value (D × List (Str × D)) → Prop
def SpM (P : Program) (w : World) (K : PySem.W.Frag) (C : Addr) (R : RelM) : Sp := fun vs H Q E => ∃ (F : Hp) (p dx : Addr) (vfs : List (Str × V)) (fs : List (Str × D)) (us : List V) (ds : List Sl) (res : Except Value (D × List (Str × D))),
  vs = .ref p :: us ∧ Same F H ∧ F p = none ∧ H p = some (.ins C dx vfs) ∧ Rpf P w K F vfs fs ∧ ArgS P w K (del H p) F us ds ∧ R fs ds res ∧
  match res with
  | .ok (d, fs') => ∀ (v : V) (H' F' : Hp) (vfs' : List (Str × V)) (dx' : Addr), (∀ a o, a ≠ p → H a = some o → H' a = some o) → Same F F' → Same F' H' → (∀ a o, F' a = some o → F a = some o ∨ H a = none) → H' p = some (.ins C dx' vfs') → Rpf P w K F' vfs' fs' → Rp P w K F' v d → Q v H'
  | .error cls => ∀ (H' F' : Hp) (vfs' : List (Str × V)) (dx' : Addr), (∀ a o, a ≠ p → H a = some o → H' a = some o) → Same F F' → Same F' H' → (∀ a o, F' a = some o → F a = some o ∨ H a = none) → H' p = some (.ins C dx' vfs') → Rpf P w K F' vfs' fs → E cls none H'
/-- what is wanted of exceptions, told over data -/
def wxOf (X : Cx) (c : Cc) : WX := fun cls d σ H => d = none ∧ ∃ F al r S, Core X c F al S H ∧ Slots X c F al r σ ∧ c.ex cls r S
/-- a def of the text, ready to be called with the defaults dvs -/
structure Def (P : Program) (w : World) (K : PySem.W.Frag) (mg : Str → Option Value) (base : Heap) (x : Str) (k : Nat) (dvs : List D) (sp : Sp) : Prop where
  ex : ∃ (f : Addr) (fd : FuncData) (ps : List Str) (us : List Value) (vs : List V), mg x = some (.ref f) ∧ PySem.W.keepIn K (.ref f) = true ∧ Binds K fd ps us ∧ Vals vs us ∧ (∀ F, Rps P w K F vs dvs) ∧ FnOk P w K mg base (L2.CX P w) k f fd ps sp
/-- a method -/
structure DefM (P : Program) (w : World) (K : PySem.W.Frag) (mg : Str → Option Value) (base : Heap) (C : Addr) (m : Str) (k : Nat) (sp : Sp) : Prop where
  ex : ∃ (f : Addr) (fd : FuncData) (ps : List Str), Meth K C m f ∧ Binds K fd ps [] ∧ FnOk P w K mg base (L2.CX P w) k f fd ps sp
/-- a class that is made by its __init__ -/
structure DefC (P : Program) (w : World) (K : PySem.W.Frag) (mg : Str → Option Value) (base : Heap) (x : Str) (C : Addr) (k : Nat) (sp : Sp) : Prop where
  ex : ∃ (f : Addr) (fd : FuncData) (ps : List Str), mg x = some (.ref C) ∧ Mk K C f ∧ Binds K fd ps [] ∧ FnOk P w K mg base (L2.CX P w) k f fd ps sp

section
variable {X : Cx} {c : Cc} {e a b o : Expr} {es : List Expr} {r : Rho} {S : Sto} {pos p apos : Pos} {x : Sl} {n m : Str} {k : Nat}
section
theorem rpe_of {P : Program} {w : World} {K : PySem.W.Frag} {F F' : Hp} {al : List Addr} (sm : Same F F') : ∀ {es : List (NestedKey × Addr × V)} {kvs : List (NestedKey × D)}, Paired (fun (e : NestedKey × Addr × V) (q : NestedKey × Sl) => e.1 = q.1 ∧ Rp P w K F (.ref e.2.1) (kD e.1) ∧ RpS P w K B F al e.2.2 q.2) es (kvs.map fun q => (q.1, .dat q.2)) → Rpe P w K F' es kvs
  | _, [], .nil => .nil
  | (k, a, v) :: _, (k', d) :: _, .cons ⟨e1, h1, h2⟩ t => by
    have e1 : k = k' := e1
    subst e1
    exact .cons (h1.mono sm) ((show Rp P w K F v d from h2).mono sm) (rpe_of sm t)
end
/-- how a value is handed: as it is, an owned list of frozen things as lent -/
inductive Lend (S : Sto) : Sl → Sl → Prop
  | dat (d : D) : Lend S (.dat d) (.dat d)
  | bor (d : D) : Lend S (.bor d) (.bor d)
  | lst {k : Nat} {ds : List D} : S[k]? = some (.lst (dats ds)) → Lend S (.ptr k) (.bor (.lst ds))
  | dct {k : Nat} {kvs : List (NestedKey × D)} : S[k]? = some (.dct (kvs.map fun q => (q.1, .dat q.2))) → Lend S (.ptr k) (.bor (.dct kvs))
theorem args_of {H F : Hp} {al : List Addr} (co : Core X c F al S H) : ∀ {vs : List V} {sls as : List Sl}, Paired (RpS X.prog X.w X.K c.B F al) vs sls → Paired (Lend S) sls as → ArgS X.prog X.w X.K H F vs as
  | _, _, _, .nil, .nil => .nil
  | _, _, _, .cons rv t, .cons l tl => .cons (by
      cases l with
      | dat d => exact .inl ⟨d, rfl, rv⟩
      | bor d => exact .inr ⟨d, rfl, Bor.mono co.base (Same.refl _) rv⟩
      | lst h =>
        obtain ⟨p, hp, rfl⟩ := rv
        obtain ⟨vs, h1, h2⟩ := co.cells _ p _ hp h
        exact .inr ⟨_, rfl, p, vs, rfl, .of h1, rps_of h2⟩
      | dct h =>
        obtain ⟨p, hp, rfl⟩ := rv
        obtain ⟨es, h1, h2⟩ := co.cells _ p _ hp h
        exact .inr ⟨_, rfl, p, es, rfl, h1, rpe_of (Same.refl _) h2⟩) (args_of co t tl)
/-- .. while the object at q is another's -/
theorem args_del {q : Addr} {H F : Hp} {al : List Addr} {k : Nat} {C : Addr} {fs : List (Str × Sl)} (co : Core X c F al S H) (hq : al[k]? = some q) (hk : S[k]? = some (.obj C fs)) : ∀ {vs : List V} {sls as : List Sl}, Paired (RpS X.prog X.w X.K c.B F al) vs sls → Paired (Lend S) sls as → ArgS X.prog X.w X.K (del H q) F vs as
  | _, _, _, .nil, .nil => .nil
  | _, _, _, .cons rv t, .cons l tl => .cons (by
      obtain ⟨b1, b2⟩ := co.own k q _ hq hk (by intro z; cases z)
      obtain ⟨dx, vfs, h0, _⟩ := co.cells k q _ hq hk
      cases l with
      | dat d => exact .inl ⟨d, rfl, rv⟩
      | bor d => exact .inr ⟨d, rfl, Bor.mono (same_del co.base b1) (Same.refl _) rv⟩
      | lst h =>
        obtain ⟨p, hp, rfl⟩ := rv
        obtain ⟨vs, h1, h2⟩ := co.cells _ p _ hp h
        have hpq : p ≠ q := by
          intro z
          rw [z, h0] at h1
          cases h1
        exact .inr ⟨_, rfl, p, vs, rfl, .of (by unfold del; rw [if_neg hpq]; exact h1), rps_of h2⟩
      | dct h =>
        obtain ⟨p, hp, rfl⟩ := rv
        obtain ⟨es, h1, h2⟩ := co.cells _ p _ hp h
        have hpq : p ≠ q := by
          intro z
          rw [z, h0] at h1
          cases h1
        exact .inr ⟨_, rfl, p, es, rfl, by unfold del; rw [if_neg hpq]; exact h1, rpe_of (Same.refl _) h2⟩) (args_del co hq hk t tl)
theorem lend_dats : ∀ {ds : List D}, Paired (Lend S) (dats ds) (dats ds)
  | [] => .nil
  | d :: ds => .cons (.dat d) lend_dats
theorem ArgS.length {P : Program} {w : World} {K : PySem.W.Frag} {B F : Hp} {vs : List V} {as : List Sl} (h : ArgS P w K B F vs as) : vs.length = as.length := paired_len h
theorem ArgS.rps {P : Program} {w : World} {K : PySem.W.Frag} {B F : Hp} {al : List Addr} : ∀ {vs : List V} {as : List Sl}, ArgS P w K B F vs as → Paired (RpS P w K B F al) vs as
  | _, _, .nil => .nil
  | _, _, .cons h t => .cons (by
      rcases h with ⟨d, rfl, h⟩ | ⟨d, rfl, h⟩
      · exact h
      · exact h) (ArgS.rps t)
theorem paired_app {α β : Type} {G : α → β → Prop} : ∀ {l₁ l₃ : List α} {l₂ l₄ : List β}, Paired G l₁ l₂ → Paired G l₃ l₄ → Paired G (l₁ ++ l₃) (l₂ ++ l₄)
  | _, _, _, _, .nil, h => h
  | _, _, _, _, .cons q t, h => .cons q (paired_app t h)
theorem argS_dats {P : Program} {w : World} {K : PySem.W.Frag} {B F : Hp} : ∀ {vs : List V} {ds : List D}, Rps P w K F vs ds → ArgS P w K B F vs (dats ds)
  | _, [], .nil => .nil
  | _, d :: _, .cons h t => .cons (.inl ⟨d, rfl, h⟩) (argS_dats t)
/-- what a def that keeps its data promise gives -/
theorem spd_of {Fb : Hp} {alb : List Addr} {R : Rel} {ds : List Sl} {res : Except Value D} {Q : Sl → Sto → Prop} {σ : L2.St} {H F : Hp} {al : List Addr} (exb : Ext Fb alb F al) {vs : List V} (co : Core X c F al S H) (sl : Slots X c F al r σ) (rv : ArgS X.prog X.w X.K H F vs ds) (hR : R ds res)
    (ho : ∀ d, res = .ok d → Q (.dat d) S) (he : ∀ cls, res = .error cls → c.ex cls r S) : SpD X.prog X.w X.K R vs H (VQ X c Fb alb Q) (WE (wxOf X c) σ) := by
  refine ⟨F, ds, res, co.sub, rv, hR, ?_⟩
  cases res with
  | ok d => exact fun v H' F' h1 h2 h3 h4 h5 => ⟨F', al, .dat d, S, exb.trans ⟨h2, [], by simp⟩, co.grow h1 h2 h3 h4, h5, ho d rfl⟩
  | error cls => exact fun H' h1 => ⟨rfl, F, al, r, S, co.kept h1, sl, he cls rfl⟩
theorem ew_call {dvs : List D} {sls ds : List Sl} {R : Rel} {res : Except Value D} {Q : Sl → Sto → Prop} (d : Def X.prog X.w X.K X.mg X.base n k dvs (SpD X.prog X.w X.K R)) (tk : Takes X (wxOf X c)) (hr : Room k X.A) (ha : EA X c (e :: es) r S sls) (hl : Paired (Lend S) sls ds) (hR : R (ds ++ dats dvs) res)
    (ho : ∀ d, res = .ok d → Q (.dat d) S) (he : ∀ cls, res = .error cls → c.ex cls r S) (hg : Gl X n := by rfl) (hdb : (n == ("__debug__" : Str)) = false := by decide)
    (hst : starEach (e :: es) X.env = (false, eval e X.env) :: starEach es X.env := by rfl) (hpl : (backTo pos (starEach es X.env)).any (·.1) = false := by rfl) : EW X c (.Call (.Name n p) (e :: es) [] pos) r S Q := by
  obtain ⟨f, fd, ps, us, vs, hm, hk, hb, hv, hd, F⟩ := d.ex
  exact EW.of (pe_callSD F hr hg hm hk hb hv (fun σ => passAt tk σ) pa_self hdb hst hpl) fun σ H F al co sl => ta_then ha co sl fun ws H1 F1 al1 ex1 co1 sl1 rvs =>
    spd_of (Q := Q) ex1 co1 sl1 (paired_app (args_of (sls := sls) (as := ds) co1 rvs hl) (argS_dats (hd F1))) hR ho he
theorem ee_call {dvs : List D} {sls ds : List Sl} {R : Rel} {z : D} (d : Def X.prog X.w X.K X.mg X.base n k dvs (SpD X.prog X.w X.K R)) (tk : Takes X (wxOf X c)) (hr : Room k X.A) (ha : EA X c (e :: es) r S sls) (hl : Paired (Lend S) sls ds) (hR : R (ds ++ dats dvs) (.ok z))
    (hg : Gl X n := by rfl) (hdb : (n == ("__debug__" : Str)) = false := by decide)
    (hst : starEach (e :: es) X.env = (false, eval e X.env) :: starEach es X.env := by rfl) (hpl : (backTo pos (starEach es X.env)).any (·.1) = false := by rfl) : EE X c (.Call (.Name n p) (e :: es) [] pos) r S (.dat z) := fun Q q =>
  ew_call d tk hr ha hl hR (fun d e => by cases e; exact q) (fun cls e => by cases e) hg hdb hst hpl

/-! ### built-ins -/
def CallD (X : Cx) (c : Cc) (S : Sto) (rr : List V → Hp → VK → Prop) (sls : List Sl) (Q : Sl → Sto → Prop) : Prop :=
  ∀ H F al vs, Core X c F al S H → Paired (RpS X.prog X.w X.K c.B F al) vs sls → rr vs H (VQ X c F al Q)
def RMono (rr : List V → Hp → VK → Prop) : Prop := ∀ vs H (Q Q' : VK), (∀ v H', Q v H' → Q' v H') → rr vs H Q → rr vs H Q'
theorem ew_callB {id : String} {rr : List V → Hp → VK → Prop} {sls : List Sl} {Q : Sl → Sto → Prop} (hc : CallR X (.builtin id) rr) (hm : X.mg n = none) (ha : EA X c (e :: es) r S sls) (k : CallD X c S rr sls Q) (mo : RMono rr)
    (hg : Gl X n := by rfl) (hv : bootBuiltins n = some (.builtin id) := by first | rfl | decide +kernel) (hn : n ≠ "__name__" := by decide) (hdb : (n == ("__debug__" : Str)) = false := by decide)
    (hst : starEach (e :: es) X.env = (false, eval e X.env) :: starEach es X.env := by rfl) (hpl : (backTo pos (starEach es X.env)).any (·.1) = false := by rfl) : EW X c (.Call (.Name n p) (e :: es) [] pos) r S Q :=
  EW.of (pe_callB hc hg hm hv pa_self hn hdb hst hpl) fun σ H F al co sl => ta_then ha co sl fun ws H1 F1 al1 ex1 co1 sl1 rvs => mo _ _ _ _ (fun v H' q => q.up ex1) (k H1 F1 al1 ws co1 rvs)
theorem ew_callTy {T : String} {rr : List V → Hp → VK → Prop} {sls : List Sl} {Q : Sl → Sto → Prop} (hc : CallR X (.type T) rr) (hm : X.mg n = none) (ha : EA X c (e :: es) r S sls) (k : CallD X c S rr sls Q) (mo : RMono rr)
    (hg : Gl X n := by rfl) (hv : bootBuiltins n = some (.type T) := by first | rfl | decide +kernel) (hn : n ≠ "__name__" := by decide) (hdb : (n == ("__debug__" : Str)) = false := by decide)
    (hst : starEach (e :: es) X.env = (false, eval e X.env) :: starEach es X.env := by rfl) (hpl : (backTo pos (starEach es X.env)).any (·.1) = false := by rfl) : EW X c (.Call (.Name n p) (e :: es) [] pos) r S Q :=
  EW.of (pe_callTy hc hg hm hv pa_self hn hdb hst hpl) fun σ H F al co sl => ta_then ha co sl fun ws H1 F1 al1 ex1 co1 sl1 rvs => mo _ _ _ _ (fun v H' q => q.up ex1) (k H1 F1 al1 ws co1 rvs)

/-! ### attributes -/
theorem rpf_lookup {P : Program} {w : World} {K : PySem.W.Frag} {F : Hp} {f : Str} : ∀ {vs : List (Str × V)} {ds : List (Str × D)} {d : D}, Rpf P w K F vs ds → ds.lookup f = some d → ∃ v, vs.lookup f = some v ∧ Rp P w K F v d
  | _, _, d, .nil, h => by cases h
  | _, _, d, .cons (f := g) rv t, h => by
    rw [List.lookup_cons] at h ⊢
    cases e : f == g with
    | true => rw [e] at h; cases h; exact ⟨_, rfl, rv⟩
    | false => rw [e] at h; exact rpf_lookup t h
theorem prf_lookup {P : Program} {w : World} {K : PySem.W.Frag} {F : Hp} {al : List Addr} {f : Str} : ∀ {vs : List (Str × V)} {ds : List (Str × Sl)} {d : Sl}, Paired (fun (e : Str × V) (q : Str × Sl) => e.1 = q.1 ∧ RpS P w K B F al e.2 q.2) vs ds → ds.lookup f = some d → ∃ v, vs.lookup f = some v ∧ RpS P w K B F al v d
  | _, [], d, .nil, h => by cases h
  | (g, v) :: vs, (g', s) :: ds, d, .cons rv t, h => by
    obtain ⟨e1, rv⟩ := rv
    have e1 : g = g' := e1
    subst e1
    rw [List.lookup_cons] at h ⊢
    cases e : f == g with
    | true => rw [e] at h; cases h; exact ⟨_, rfl, rv⟩
    | false => rw [e] at h; exact prf_lookup t h
theorem ee_fldD {C : Addr} {fs : List (Str × D)} {d : D} (h : EE X c o r S (.dat (.obj C fs))) (cl : Cls X.K C) (na : NoAttr X.K C n) (hl : fs.lookup n = some d) (hb : attributeBase o n X.env (eval o X.env) = eval o X.env := by rfl) : EE X c (.Attribute o n pos) r S (.dat d) := fun Q q =>
  EW.of (pe_fld pe_self hb) fun σ H F al co sl => te_then h co sl fun v H1 F1 al1 ex1 co1 sl1 rv => by
    obtain ⟨a, dx, es, rfl, h1, h2⟩ := rp_obj rv
    obtain ⟨v, h3, h4⟩ := rpf_lookup h2 hl
    exact ⟨a, C, dx, es, v, rfl, co1.sub _ _ h1, cl, na, h3, (VQ.here co1 (sl := .dat d) h4 q).up ex1⟩
theorem ee_fldP {C : Addr} {fs : List (Str × Sl)} {d : Sl} {j : Nat} (h : EE X c o r S (.ptr j)) (hj : S[j]? = some (.obj C fs)) (cl : Cls X.K C) (na : NoAttr X.K C n) (hl : fs.lookup n = some d) (hb : attributeBase o n X.env (eval o X.env) = eval o X.env := by rfl) : EE X c (.Attribute o n pos) r S d := fun Q q =>
  EW.of (pe_fld pe_self hb) fun σ H F al co sl => te_then h co sl fun v H1 F1 al1 ex1 co1 sl1 rv => by
    obtain ⟨a, ha, rfl⟩ := rv
    obtain ⟨dx, es, h1, h2⟩ := co1.cells j a _ ha hj
    obtain ⟨v, h3, h4⟩ := prf_lookup h2 hl
    exact ⟨a, C, dx, es, v, rfl, h1, cl, na, h3, (VQ.here co1 h4 q).up ex1⟩
end
end Dz

namespace Dz
open PySem L2

theorem paired_get {α β : Type} {G : α → β → Prop} : ∀ {l₁ : List α} {l₂ : List β} {i : Nat} {y : β}, Paired G l₁ l₂ → l₂[i]? = some y → ∃ x, l₁[i]? = some x ∧ G x y
  | _, _, i, y, .nil, h => by simp at h
  | _, _, 0, y, .cons q _, h => by simp at h; subst h; exact ⟨_, rfl, q⟩
  | _, _, i + 1, y, .cons _ t, h => by
    obtain ⟨x, h1, h2⟩ := paired_get (i := i) t (by simpa using h)
    exact ⟨x, by simpa using h1, h2⟩
/-! ### statements -/
structure Res where
  nx : Rho → Sto → Prop
  rt : Sl → Sto → Prop
  bk : Rho → Sto → Prop := fun _ _ => False
  ct : Rho → Sto → Prop := fun _ _ => False
def RQ (X : Cx) (c : Cc) (F : Hp) (al : List Addr) (Q : Rho → Sto → Prop) : L2.St → Hp → Prop := fun σ H => ∃ F' al' r S, Ext F al F' al' ∧ Core X c F' al' S H ∧ Slots X c F' al' r σ ∧ Q r S
def endsOf (X : Cx) (c : Cc) (F : Hp) (al : List Addr) (R : Res) : Ends := { nx := RQ X c F al R.nx, rt := VQ X c F al R.rt, bk := RQ X c F al R.bk, ct := RQ X c F al R.ct }
def tWS (X : Cx) (st : Stmt) : TS := fun D σ H => ∀ (pins : List (Addr × Obj)) (s : Shared), Inv X pins σ H s → wpAny (model X.prog X.w) X.A (exec st X.env) (SP X pins D) X.xe s
def tWSs (X : Cx) (st : List Stmt) : TS := fun D σ H => ∀ (pins : List (Addr × Obj)) (s : Shared), Inv X pins σ H s → wpAny (model X.prog X.w) X.A (execs st X.env) (SP X pins D) X.xe s
def W1 (X : Cx) (c : Cc) (st : Stmt) (r : Rho) (S : Sto) (R : Res) : Prop := ∀ (σ : L2.St) (H F : Hp) (al : List Addr), Core X c F al S H → Slots X c F al r σ → tWS X st (endsOf X c F al R) σ H
def WS (X : Cx) (c : Cc) (st : List Stmt) (r : Rho) (S : Sto) (R : Res) : Prop := ∀ (σ : L2.St) (H F : Hp) (al : List Addr), Core X c F al S H → Slots X c F al r σ → tWSs X st (endsOf X c F al R) σ H
/-! what a target takes -/
inductive Item where
  | one (s : Sl) | many (ss : List Sl)
def VOk (X : Cx) (c : Cc) (F : Hp) (al : List Addr) (H : Hp) (v : V) : Item → Prop
  | .one s => RpS X.prog X.w X.K c.B F al v s
  | .many ss => ∃ a vs, v = .ref a ∧ SqT X.K H a vs ∧ Paired (RpS X.prog X.w X.K c.B F al) vs ss
def tGW (X : Cx) (tg : Expr) : TG := fun v σ H Q => ∀ (pins : List (Addr × Obj)) (s : Shared) (u : Value), Inv X pins σ H s → RelV v u → wpAny (model X.prog X.w) X.A (assign tg X.env u) (fun _ s' => ∃ σ' H', Inv X pins σ' H' s' ∧ Q σ' H') X.xe s
def tGWs (X : Cx) (ts : List Expr) : TGs := fun vs σ H Q => ∀ (pins : List (Addr × Obj)) (s : Shared) (us : List Value), Inv X pins σ H s → Vals vs us → wpAny (model X.prog X.w) X.A (assignInOrder ((assignEach ts X.env).map (·.2)) us) (fun _ s' => ∃ σ' H', Inv X pins σ' H' s' ∧ Q σ' H') X.xe s
def GW (X : Cx) (c : Cc) (tg : Expr) (it : Item) (r : Rho) (S : Sto) (Q : Rho → Sto → Prop) : Prop := ∀ (σ : L2.St) (H F : Hp) (al : List Addr) (v : V), Core X c F al S H → Slots X c F al r σ → VOk X c F al H v it → tGW X tg v σ H (RQ X c F al Q)
def GWs (X : Cx) (c : Cc) (ts : List Expr) (its : List Sl) (r : Rho) (S : Sto) (Q : Rho → Sto → Prop) : Prop := ∀ (σ : L2.St) (H F : Hp) (al : List Addr) (vs : List V), Core X c F al S H → Slots X c F al r σ → Paired (RpS X.prog X.w X.K c.B F al) vs its → tGWs X ts vs σ H (RQ X c F al Q)
section
variable {X : Cx} {c : Cc} {e a b o tg iter : Expr} {es ts : List Expr} {st : Stmt} {sts rest body : List Stmt} {r : Rho} {S : Sto} {R : Res} {pos p apos pos' : Pos} {x : Sl} {n m : Str} {k : Nat} {b : Bool} {it : Item}
theorem ps_self : PS X st (tWS X st) := ⟨fun pins s σ H D I h => h pins s I⟩
theorem pss_self : PSs X sts (tWSs X sts) := ⟨fun pins s σ H D I h => h pins s I⟩
theorem pg_self : PG X tg (tGW X tg) := ⟨fun pins s σ H v u Q I rv h => h pins s u I rv⟩
theorem pgs_self : PGs X ts (tGWs X ts) := ⟨fun pins s σ H v u Q I rv h => h pins s u I rv⟩
theorem RQ.up {Q : Rho → Sto → Prop} {F F' : Hp} {al al' : List Addr} {σ : L2.St} {H' : Hp} (ex : Ext F al F' al') (h : RQ X c F' al' Q σ H') : RQ X c F al Q σ H' := by
  obtain ⟨F2, al2, r2, S', e2, q⟩ := h
  exact ⟨F2, al2, r2, S', ex.trans e2, q⟩
theorem RQ.here {Q : Rho → Sto → Prop} {F : Hp} {al : List Addr} {σ : L2.St} {H : Hp} (co : Core X c F al S H) (sl : Slots X c F al r σ) (q : Q r S) : RQ X c F al Q σ H := ⟨F, al, r, S, Ext.refl, co, sl, q⟩
theorem SP.mono {pins : List (Addr × Obj)} {D D' : Ends} {f : Flow} {s' : Shared} (h : SP X pins D f s') (h1 : ∀ σ H, D.nx σ H → D'.nx σ H) (h2 : ∀ σ H, D.rt σ H → D'.rt σ H) (h3 : ∀ σ H, D.bk σ H → D'.bk σ H) (h4 : ∀ σ H, D.ct σ H → D'.ct σ H) : SP X pins D' f s' := by
  cases f with
  | next => obtain ⟨σ', H', I, q⟩ := h; exact ⟨σ', H', I, h1 _ _ q⟩
  | brk => obtain ⟨σ', H', I, q⟩ := h; exact ⟨σ', H', I, h3 _ _ q⟩
  | cont => obtain ⟨σ', H', I, q⟩ := h; exact ⟨σ', H', I, h4 _ _ q⟩
  | ret u => obtain ⟨v, σ', H', I, rv, q⟩ := h; exact ⟨v, σ', H', I, rv, h2 _ _ q⟩
theorem tWS_mono {D D' : Ends} {σ : L2.St} {H : Hp} (h : tWS X st D σ H) (h1 : ∀ σ H, D.nx σ H → D'.nx σ H) (h2 : ∀ σ H, D.rt σ H → D'.rt σ H) (h3 : ∀ σ H, D.bk σ H → D'.bk σ H) (h4 : ∀ σ H, D.ct σ H → D'.ct σ H) : tWS X st D' σ H :=
  fun pins s I => thn (h pins s I) fun f s1 q => SP.mono q h1 h2 h3 h4
theorem tWSs_mono {D D' : Ends} {σ : L2.St} {H : Hp} (h : tWSs X sts D σ H) (h1 : ∀ σ H, D.nx σ H → D'.nx σ H) (h2 : ∀ σ H, D.rt σ H → D'.rt σ H) (h3 : ∀ σ H, D.bk σ H → D'.bk σ H) (h4 : ∀ σ H, D.ct σ H → D'.ct σ H) : tWSs X sts D' σ H :=
  fun pins s I => thn (h pins s I) fun f s1 q => SP.mono q h1 h2 h3 h4
theorem tWSs_up {F F' : Hp} {al al' : List Addr} {σ : L2.St} {H : Hp} (ex : Ext F al F' al') (h : tWSs X sts (endsOf X c F' al' R) σ H) : tWSs X sts (endsOf X c F al R) σ H :=
  tWSs_mono h (fun _ _ q => RQ.up ex q) (fun _ _ q => VQ.up ex q) (fun _ _ q => RQ.up ex q) (fun _ _ q => RQ.up ex q)
theorem WS.mono {R' : Res} (h : WS X c sts r S R) (h1 : ∀ r S, R.nx r S → R'.nx r S) (h2 : ∀ v S, R.rt v S → R'.rt v S) (h3 : ∀ r S, R.bk r S → R'.bk r S) (h4 : ∀ r S, R.ct r S → R'.ct r S) : WS X c sts r S R' :=
  fun σ H F al co sl => tWSs_mono (h σ H F al co sl) (fun _ _ ⟨F', al', r', S', e, co', sl', q⟩ => ⟨F', al', r', S', e, co', sl', h1 _ _ q⟩) (fun _ _ ⟨F', al', r', S', e, co', sl', q⟩ => ⟨F', al', r', S', e, co', sl', h2 _ _ q⟩)
    (fun _ _ ⟨F', al', r', S', e, co', sl', q⟩ => ⟨F', al', r', S', e, co', sl', h3 _ _ q⟩) (fun _ _ ⟨F', al', r', S', e, co', sl', q⟩ => ⟨F', al', r', S', e, co', sl', h4 _ _ q⟩)
/-- by a rule of the hand layer -/
theorem W1.of {t : TS} (p : PS X st t) (h : ∀ σ H F al, Core X c F al S H → Slots X c F al r σ → t (endsOf X c F al R) σ H) : W1 X c st r S R := fun σ H F al co sl pins s I => p.run pins s σ H _ I (h σ H F al co sl)
theorem ws_nil (h : R.nx r S) : WS X c [] r S R := fun σ H F al co sl pins s I => pss_nil.run pins s σ H _ I (RQ.here co sl h)
theorem ws_cons (h : W1 X c st r S { R with nx := fun r' S' => WS X c rest r' S' R }) : WS X c (st :: rest) r S R := fun σ H F al co sl pins s I =>
  (pss_cons (t := tWS X st) (u := tWSs X rest) ps_self pss_self).run pins s σ H _ I (tWS_mono (h σ H F al co sl) (fun σ' H' ⟨F', al', r', S', ex, co', sl', q⟩ => tWSs_up ex (q σ' H' F' al' co' sl')) (fun _ _ q => q) (fun _ _ q => q) (fun _ _ q => q))
theorem w1_pass (h : R.nx r S) : W1 X c (.Pass pos) r S R := W1.of ps_pass fun σ H F al co sl => RQ.here co sl h
theorem w1_break (h : R.bk r S) : W1 X c (.Break pos) r S R := W1.of ps_break fun σ H F al co sl => RQ.here co sl h
theorem w1_continue (h : R.ct r S) : W1 X c (.Continue pos) r S R := W1.of ps_continue fun σ H F al co sl => RQ.here co sl h
theorem w1_expr (h : EW X c e r S fun _ S' => R.nx r S') (hs : swapsWith e none pos.line X.env = pure false := by rfl) : W1 X c (.Expr e pos) r S R := W1.of (ps_expr pe_self hs) fun σ H F al co sl =>
  tW_then h co sl fun v H1 F1 al1 x S1 ex1 co1 sl1 rv q => ⟨F1, al1, r, S1, ex1, co1, sl1, q⟩
theorem w1_ret (h : EW X c e r S R.rt) : W1 X c (.Return (some e) pos) r S R := W1.of (ps_ret pe_self) fun σ H F al co sl => h.tw co sl
theorem w1_retN (h : R.rt (.dat .non) S) : W1 X c (.Return none pos) r S R := W1.of ps_retN fun σ H F al co sl => VQ.here co (sl := .dat .non) Rp.non h
theorem w1_set (i : Nat) (h : EW X c e r S fun x S' => R.nx (r.set i (some x)) S') (hN : X.N.Nodup) (hi : X.N[i]? = some n := by rfl) (hx : Loc X.env.scope n := by first | exact Or.inl rfl | exact Or.inr rfl) (hs : swapsWith e (some (.Name n pos')) pos.line X.env = pure false := by rfl)
    (hf : X.fn n = true ∨ X.env.scope.names.lookup n = some .local := by first | exact .inl rfl | exact .inr rfl | assumption) : W1 X c (.Assign [.Name n pos'] e pos) r S R := W1.of (ps_set hN hi hx pe_self hs hf) fun σ H F al co sl =>
  tW_then h co sl fun v H1 F1 al1 x S1 ex1 co1 sl1 rv q => ⟨F1, al1, _, S1, ex1, co1, sl1.set rv, q⟩
theorem w1_if {p : Bool} {ps qs : List Stmt} (h : ET X c e r S p) (h1 : p = true → WS X c ps r S R) (h2 : p = false → WS X c qs r S R) : W1 X c (.If e ps qs pos) r S R := W1.of (ps_if pt_self pss_self pss_self) fun σ H F al co sl =>
  tt_then h co sl fun H1 F1 al1 ex1 co1 sl1 => by
    cases p with
    | true =>
      rw [if_pos rfl]
      exact tWSs_up ex1 (h1 rfl σ H1 F1 al1 co1 sl1)
    | false =>
      rw [if_neg Bool.false_ne_true]
      exact tWSs_up ex1 (h2 rfl σ H1 F1 al1 co1 sl1)
/-! targets -/
theorem gw_n {Q : Rho → Sto → Prop} (i : Nat) (hN : X.N.Nodup) (h : Q (r.set i (some x)) S) (hi : X.N[i]? = some n := by rfl) (hx : Loc X.env.scope n := by first | exact Or.inl rfl | exact Or.inr rfl)
    (hf : X.fn n = true ∨ X.env.scope.names.lookup n = some .local := by first | exact .inl rfl | exact .inr rfl | assumption) : GW X c (.Name n pos) (.one x) r S Q := fun σ H F al v co sl ok pins s u I rv =>
  (pg_name hN hi hx hf).run pins s σ H v u _ I rv ⟨F, al, _, S, Ext.refl, co, sl.set ok, h⟩
theorem gws_nil {Q : Rho → Sto → Prop} (h : Q r S) : GWs X c [] [] r S Q := fun σ H F al vs co sl ok pins s us I rv => pgs_nil.run pins s σ H vs us _ I rv ⟨by cases ok; rfl, RQ.here co sl h⟩
theorem tGW_mono {Q Q' : L2.St → Hp → Prop} {v : V} {σ : L2.St} {H : Hp} (h : tGW X tg v σ H Q) (k : ∀ σ H, Q σ H → Q' σ H) : tGW X tg v σ H Q' := fun pins s u I rv => thn (h pins s u I rv) fun _ s1 ⟨σ', H', I', q⟩ => ⟨σ', H', I', k _ _ q⟩
theorem tGWs_mono {Q Q' : L2.St → Hp → Prop} {v : List V} {σ : L2.St} {H : Hp} (h : tGWs X ts v σ H Q) (k : ∀ σ H, Q σ H → Q' σ H) : tGWs X ts v σ H Q' := fun pins s u I rv => thn (h pins s u I rv) fun _ s1 ⟨σ', H', I', q⟩ => ⟨σ', H', I', k _ _ q⟩
theorem gws_cons {Q : Rho → Sto → Prop} {its : List Sl} (h : GW X c tg (.one x) r S fun r' S' => GWs X c ts its r' S' Q) (hs : (assignEach (tg :: ts) X.env).map (·.2) = assign tg X.env :: (assignEach ts X.env).map (·.2) := by rfl) : GWs X c (tg :: ts) (x :: its) r S Q := fun σ H F al vs co sl ok pins s us I rv => by
  cases ok with
  | cons r1 r2 =>
    rename_i v vs
    refine (pgs_cons (t := tGW X tg) (u := tGWs X ts) pg_self pgs_self hs).run pins s σ H _ us _ I rv ⟨v, vs, rfl, tGW_mono (h σ H F al v co sl r1) fun σ' H' ⟨F', al', r', S', ex, co', sl', q⟩ => ?_⟩
    exact tGWs_mono (q σ' H' F' al' vs co' sl' (Paired.mono' (fun _ _ z => z.mono ex) r2)) fun _ _ q => RQ.up ex q
/-- a, b = a tuple: an item of several, or a tuple's data -/
theorem gw_tup {Q : Rho → Sto → Prop} {its : List Sl} {kk : Nat} (hc : X.calm = true) (h : GWs X c es its r S Q) (hl : its.length = es.length) (hn : (assignEach es X.env).length = es.length := by rfl) (hst : (assignEach es X.env).findIdx? (·.1) = none := by rfl) : GW X c (.Tuple es kk pos) (.many its) r S Q :=
  fun σ H F al v co sl ⟨q, vs, e1, h1, h2⟩ pins s u I rv => (pg_tup (n := es.length) hc pgs_self hn hst).run pins s σ H v u _ I rv ⟨q, vs, e1, h1, by rw [paired_len h2, hl], h σ H F al vs co sl h2⟩
theorem gw_tupD {Q : Rho → Sto → Prop} {ds : List D} {kk : Nat} (hc : X.calm = true) (h : GWs X c es (dats ds) r S Q) (hl : ds.length = es.length) (hn : (assignEach es X.env).length = es.length := by rfl) (hst : (assignEach es X.env).findIdx? (·.1) = none := by rfl) : GW X c (.Tuple es kk pos) (.one (.dat (.tup ds))) r S Q :=
  fun σ H F al v co sl ok => by
    obtain ⟨q, vs, e1, h1, h2⟩ := rp_tup (B := c.B) (al := al) ok
    exact gw_tup hc h (by simpa using hl) hn hst σ H F al v co sl ⟨q, vs, e1, same_t co.sub h1, of_rps h2⟩
theorem w1_asg (h : EW X c e r S fun x S' => GW X c tg (.one x) r S' R.nx) (hs : swapsWithSole [tg] e pos.line X.env = pure false := by rfl) (hw : swappedStores [tg] e X.env = pure none := by rfl)
    (h1 : (assignEach [tg] X.env).map (·.2) = [assign tg X.env] := by rfl) : W1 X c (.Assign [tg] e pos) r S R := W1.of (ps_asg pe_self pg_self hs hw h1) fun σ H F al co sl =>
  tW_then h co sl fun v H1 F1 al1 x S1 ex1 co1 sl1 rv q => tGW_mono (q σ H1 F1 al1 v co1 sl1 rv) fun _ _ q => RQ.up ex1 q
/-! for -/
def JOk (X : Cx) (c : Cc) (J : It) (F : Hp) (al : List Addr) (its : List Item) (keep : Sto → Prop) : Prop :=
  ∀ (i : Nat) (H2 F2 : Hp) (al2 : List Addr) (S2 : Sto), Ext F al F2 al2 → Core X c F2 al2 S2 H2 → keep S2 → (i = its.length → J.stop i H2) ∧ ∀ it, its[i]? = some it → J.go i H2 ∧ ∀ v H3, J.yld i H2 v H3 → Same H2 H3 ∧ VOk X c F2 al2 H3 v it
structure IW (X : Cx) (c : Cc) (tg iter : Expr) (r : Rho) (S : Sto) (its : List Item) (keep : Sto → Prop) : Prop where
  ex : ∃ wi : TI, PI X tg iter wi ∧ ∀ (σ : L2.St) (H F : Hp) (al : List Addr), Core X c F al S H → Slots X c F al r σ → ∀ RR : It → Hp → Prop, (∀ J H' F' al', Ext F al F' al' → Core X c F' al' S H' → Slots X c F' al' r σ → JOk X c J F' al' its keep → RR J H') → wi σ H RR
theorem w1_for {its : List Item} {keep : Sto → Prop} (hi : IW X c tg iter r S its keep) (Pv : Nat → Rho → Sto → Prop) (h0 : Pv 0 r S) (hk : ∀ i r S, Pv i r S → keep S)
    (hs : ∀ i it r S, its[i]? = some it → Pv i r S → GW X c tg it r S fun r2 S2 => WS X c body r2 S2 { R with nx := Pv (i + 1), ct := Pv (i + 1), bk := R.nx })
    (hd : ∀ r S, Pv its.length r S → R.nx r S) (hp : PassesOwn (model X.prog X.w) X.A X.env X.xe) (hc : X.calm = true) (hst : ∀ x, foldedSetIterable iter X.env x = pure x := by intro _; rfl) : W1 X c (.For tg iter body [] pos) r S R := by
  obtain ⟨wi, p, hw⟩ := hi.ex
  refine W1.of (ps_for hp hc p pg_self pss_self hst) fun σ H F al co sl => hw σ H F al co sl _ fun J H1 F1 al1 ex1 co1 sl1 jo => ?_
  refine ⟨fun i m σ H => m = its.length - i ∧ i ≤ its.length ∧ RQ X c F1 al1 (Pv i) σ H, ⟨its.length, by simp, Nat.zero_le _, RQ.here co1 sl1 h0⟩, ?_⟩
  rintro i m σ2 H2 ⟨rfl, hi, F2, al2, r2, S2, ex2, co2, sl2, pv⟩
  obtain ⟨j1, j2⟩ := jo i H2 F2 al2 S2 ex2 co2 (hk i r2 S2 pv)
  by_cases hlt : i < its.length
  · obtain ⟨g, y⟩ := j2 its[i] (List.getElem?_eq_getElem hlt)
    refine .inr ⟨g, RQ X c F1 al1 (Pv (i + 1)), fun σ' H' q => ⟨its.length - (i + 1), by omega, rfl, hlt, q⟩, fun v H3 hy => ?_⟩
    obtain ⟨sm, ok⟩ := y v H3 hy
    refine tGW_mono (hs i its[i] r2 S2 (List.getElem?_eq_getElem hlt) pv σ2 H3 F2 al2 v (co2.kept sm) sl2 ok) fun σ4 H4 ⟨F4, al4, r4, S4, ex4, co4, sl4, q⟩ => ?_
    exact tWSs_mono (q σ4 H4 F4 al4 co4 sl4) (fun _ _ z => RQ.up (ex2.trans ex4) z) (fun _ _ z => VQ.up ((ex1.trans ex2).trans ex4) z) (fun _ _ z => RQ.up ((ex1.trans ex2).trans ex4) z) (fun _ _ z => RQ.up (ex2.trans ex4) z)
  · have e : i = its.length := by omega
    exact .inl ⟨j1 e, F2, al2, r2, S2, ex1.trans ex2, co2, sl2, hd r2 S2 (e ▸ pv)⟩
theorem w1_while (Pv : Nat → Rho → Sto → Prop) (m0 : Nat) (h0 : Pv m0 r S)
    (hs : ∀ m r S, Pv m r S → ∃ p, ET X c e r S p ∧ (p = true → WS X c body r S { R with nx := fun r S => ∃ m', m' < m ∧ Pv m' r S, ct := fun r S => ∃ m', m' < m ∧ Pv m' r S, bk := R.nx }) ∧ (p = false → R.nx r S))
    (hp : PassesOwn (model X.prog X.w) X.A X.env X.xe) : W1 X c (.While e body [] pos) r S R := by
  refine W1.of (ps_while hp pt_self pss_self) fun σ H F al co sl => ⟨fun m σ H => RQ X c F al (Pv m) σ H, ⟨m0, RQ.here co sl h0⟩, ?_⟩
  rintro m σ2 H2 ⟨F2, al2, r2, S2, ex2, co2, sl2, pv⟩
  obtain ⟨p, ht, h1, h2⟩ := hs m r2 S2 pv
  refine tt_then ht co2 sl2 fun H3 F3 al3 ex3 co3 sl3 => ?_
  cases p with
  | true =>
    rw [if_pos rfl]
    refine ⟨RQ X c F al (fun r S => ∃ m', m' < m ∧ Pv m' r S), fun σ' H' ⟨F', al', r', S', e', c', s', m', l, q⟩ => ⟨m', l, F', al', r', S', e', c', s', q⟩, ?_⟩
    exact tWSs_mono (h1 rfl σ2 H3 F3 al3 co3 sl3) (fun _ _ z => RQ.up (ex2.trans ex3) z) (fun _ _ z => VQ.up (ex2.trans ex3) z) (fun _ _ z => RQ.up (ex2.trans ex3) z) (fun _ _ z => RQ.up (ex2.trans ex3) z)
  | false =>
    rw [if_neg Bool.false_ne_true]
    exact ⟨F3, al3, r2, S2, ex2.trans ex3, co3, sl3, h2 rfl⟩
theorem len_items {f : Nat → Item} {i n : Nat} (h : i = ((List.range n).map f).length) : i = n := by
  rw [List.length_map, List.length_range] at h
  exact h
/-! ### sequences, owned, frozen or lent -/
def LstS (S : Sto) (sl : Sl) (xs : List Sl) : Prop := (∃ ds, sl = .dat (.lst ds) ∧ xs = dats ds) ∨ (∃ ds, sl = .bor (.lst ds) ∧ xs = dats ds) ∨ ∃ k, sl = .ptr k ∧ S[k]? = some (.lst xs)
def TupS (sl : Sl) (xs : List Sl) : Prop := ∃ ds, sl = .dat (.tup ds) ∧ xs = dats ds
def SeqS (S : Sto) (sl : Sl) (xs : List Sl) : Prop := LstS S sl xs ∨ TupS sl xs
theorem ls_d {S : Sto} {ds : List D} : LstS S (.dat (.lst ds)) (dats ds) := .inl ⟨ds, rfl, rfl⟩
theorem ls_b {S : Sto} {ds : List D} : LstS S (.bor (.lst ds)) (dats ds) := .inr (.inl ⟨ds, rfl, rfl⟩)
theorem ls_p {S : Sto} {k : Nat} {xs : List Sl} (h : S[k]? = some (.lst xs)) : LstS S (.ptr k) xs := .inr (.inr ⟨k, rfl, h⟩)
theorem ts_d {ds : List D} : TupS (.dat (.tup ds)) (dats ds) := ⟨ds, rfl, rfl⟩
theorem ss_d {S : Sto} {ds : List D} : SeqS S (.dat (.lst ds)) (dats ds) := .inl ls_d
theorem ss_b {S : Sto} {ds : List D} : SeqS S (.bor (.lst ds)) (dats ds) := .inl ls_b
theorem ss_p {S : Sto} {k : Nat} {xs : List Sl} (h : S[k]? = some (.lst xs)) : SeqS S (.ptr k) xs := .inl (ls_p h)
theorem ss_t {S : Sto} {ds : List D} : SeqS S (.dat (.tup ds)) (dats ds) := .inr ts_d
theorem lst_v {v : V} {F H : Hp} {al : List Addr} {xs : List Sl} (co : Core X c F al S H) (rv : RpS X.prog X.w X.K c.B F al v x) (h : LstS S x xs) : ∃ a vs, v = .ref a ∧ SqL X.K H a vs ∧ Paired (RpS X.prog X.w X.K c.B F al) vs xs := by
  rcases h with ⟨ds, rfl, rfl⟩ | ⟨ds, rfl, rfl⟩ | ⟨k, rfl, h⟩
  · obtain ⟨a, vs, e, h1, h2⟩ := rp_lst rv
    exact ⟨a, vs, e, co.sub.seq h1, of_rps h2⟩
  · obtain ⟨a, vs, e, h1, h2⟩ := (show Bor X.prog X.w X.K c.B F v (.lst ds) from rv)
    exact ⟨a, vs, e, co.base.seq h1, of_rps h2⟩
  · obtain ⟨q, hq, e⟩ := rv
    obtain ⟨vs, h1, h2⟩ := co.cells k q _ hq h
    exact ⟨q, vs, e, .of h1, h2⟩
theorem tup_v {v : V} {F H : Hp} {al : List Addr} {xs : List Sl} (co : Core X c F al S H) (rv : RpS X.prog X.w X.K c.B F al v x) (h : TupS x xs) : ∃ a vs, v = .ref a ∧ SqT X.K H a vs ∧ Paired (RpS X.prog X.w X.K c.B F al) vs xs := by
  obtain ⟨ds, rfl, rfl⟩ := h
  obtain ⟨a, vs, e, h1, h2⟩ := rp_tup rv
  exact ⟨a, vs, e, same_t co.sub h1, of_rps h2⟩
theorem seq_v {v : V} {F H : Hp} {al : List Addr} {xs : List Sl} (co : Core X c F al S H) (rv : RpS X.prog X.w X.K c.B F al v x) (h : SeqS S x xs) : ∃ a vs, v = .ref a ∧ (SqL X.K H a vs ∨ SqT X.K H a vs) ∧ Paired (RpS X.prog X.w X.K c.B F al) vs xs := by
  rcases h with h | h
  · obtain ⟨a, vs, e, h1, h2⟩ := lst_v co rv h
    exact ⟨a, vs, e, .inl h1, h2⟩
  · obtain ⟨a, vs, e, h1, h2⟩ := tup_v co rv h
    exact ⟨a, vs, e, .inr h1, h2⟩
theorem gw_tupS {Q : Rho → Sto → Prop} {its : List Sl} {kk : Nat} (hc : X.calm = true) (ht : TupS x its) (h : GWs X c es its r S Q) (hl : its.length = es.length) (hn : (assignEach es X.env).length = es.length := by rfl) (hst : (assignEach es X.env).findIdx? (·.1) = none := by rfl) : GW X c (.Tuple es kk pos) (.one x) r S Q :=
  fun σ H F al v co sl ok => by
    obtain ⟨q, vs, e1, h1, h2⟩ := tup_v co ok ht
    exact gw_tup hc h hl hn hst σ H F al v co sl ⟨q, vs, e1, h1, h2⟩
/-- what is walked does not change: a list, a tuple -/
def KeepS (x : Sl) (xs : List Sl) : Sto → Prop := fun S => SeqS S x xs
theorem iw_seqL {xs : List Sl} (h : EE X c iter r S x) (hs : LstS S x xs) : IW X c tg iter r S (xs.map .one) (fun S' => LstS S' x xs) := ⟨_, pi_list pe_self, fun σ H F al co sl RR k => te_then h co sl fun v H1 F1 al1 ex1 co1 sl1 rv => by
  obtain ⟨a, vs0, e1, h0, _⟩ := lst_v co1 rv hs
  refine ⟨a, e1, ⟨vs0, h0⟩, k _ H1 F1 al1 ex1 co1 sl1 fun i H2 F2 al2 S2 ex2 co2 ks => ?_⟩
  obtain ⟨a2, vs, e2, h1, h2⟩ := lst_v co2 (rv.mono ex2) ks
  rw [e1] at e2
  cases e2
  refine ⟨fun hi => ⟨vs, h1, by rw [paired_len h2, hi]; simp⟩, fun it hit => ?_⟩
  rw [List.getElem?_map] at hit
  obtain ⟨d, hd, rfl⟩ := Option.map_eq_some_iff.mp hit
  obtain ⟨u, hu, ru⟩ := paired_get h2 hd
  refine ⟨⟨vs, u, h1, hu⟩, fun v H3 ⟨e3, y⟩ => ?_⟩
  subst e3
  have := (y vs h1).symm.trans hu
  cases this
  exact ⟨Same.refl _, ru⟩⟩
theorem iw_seqT {xs : List Sl} (h : EE X c iter r S x) (hs : TupS x xs) : IW X c tg iter r S (xs.map .one) (fun _ => True) := ⟨_, pi_tup pe_self, fun σ H F al co sl RR k => te_then h co sl fun v H1 F1 al1 ex1 co1 sl1 rv => by
  obtain ⟨a, vs0, e1, h0, _⟩ := tup_v co1 rv hs
  refine ⟨a, e1, ⟨vs0, h0⟩, k _ H1 F1 al1 ex1 co1 sl1 fun i H2 F2 al2 S2 ex2 co2 ks => ?_⟩
  obtain ⟨a2, vs, e2, h1, h2⟩ := tup_v co2 (rv.mono ex2) hs
  rw [e1] at e2
  cases e2
  refine ⟨fun hi => ⟨vs, h1, by rw [paired_len h2, hi]; simp⟩, fun it hit => ?_⟩
  rw [List.getElem?_map] at hit
  obtain ⟨d, hd, rfl⟩ := Option.map_eq_some_iff.mp hit
  obtain ⟨u, hu, ru⟩ := paired_get h2 hd
  refine ⟨⟨vs, u, h1, hu⟩, fun v H3 ⟨e3, y⟩ => ?_⟩
  subst e3
  have := (y vs h1).symm.trans hu
  cases this
  exact ⟨Same.refl _, ru⟩⟩
/-! what is walked -/
theorem iw_lst {ds : List D} (h : EE X c iter r S (.dat (.lst ds))) : IW X c tg iter r S (ds.map fun d => .one (.dat d)) (fun _ => True) := ⟨_, pi_list pe_self, fun σ H F al co sl RR k => te_then h co sl fun v H1 F1 al1 ex1 co1 sl1 rv => by
  obtain ⟨a, vs, e1, h1, h2⟩ := rp_lst rv
  refine ⟨a, e1, ⟨vs, co1.sub.seq h1⟩, k _ H1 F1 al1 ex1 co1 sl1 fun i H2 F2 al2 S2 ex2 co2 _ => ⟨fun hi => ⟨vs, co2.sub.seq (ex2.same.seq h1), by rw [h2.length, hi]; simp⟩, fun it hit => ?_⟩⟩
  rw [List.getElem?_map] at hit
  obtain ⟨d, hd, rfl⟩ := Option.map_eq_some_iff.mp hit
  obtain ⟨u, hu, ru⟩ := h2.get hd
  have hq := co2.sub.seq (ex2.same.seq h1)
  refine ⟨⟨vs, u, hq, hu⟩, fun v H3 ⟨e3, y⟩ => ?_⟩
  subst e3
  have := (y vs hq).symm.trans hu
  cases this
  exact ⟨Same.refl _, ru.mono ex2.same⟩⟩
theorem iw_tup {ds : List D} (h : EE X c iter r S (.dat (.tup ds))) : IW X c tg iter r S (ds.map fun d => .one (.dat d)) (fun _ => True) := ⟨_, pi_tup pe_self, fun σ H F al co sl RR k => te_then h co sl fun v H1 F1 al1 ex1 co1 sl1 rv => by
  obtain ⟨a, vs, e1, h1, h2⟩ := rp_tup rv
  refine ⟨a, e1, ⟨vs, same_t co1.sub h1⟩, k _ H1 F1 al1 ex1 co1 sl1 fun i H2 F2 al2 S2 ex2 co2 _ => ⟨fun hi => ⟨vs, same_t co2.sub (same_t ex2.same h1), by rw [h2.length, hi]; simp⟩, fun it hit => ?_⟩⟩
  rw [List.getElem?_map] at hit
  obtain ⟨d, hd, rfl⟩ := Option.map_eq_some_iff.mp hit
  obtain ⟨u, hu, ru⟩ := h2.get hd
  have hq := same_t co2.sub (same_t ex2.same h1)
  refine ⟨⟨vs, u, hq, hu⟩, fun v H3 ⟨e3, y⟩ => ?_⟩
  subst e3
  have := (y vs hq).symm.trans hu
  cases this
  exact ⟨Same.refl _, ru.mono ex2.same⟩⟩
theorem iw_ptr {xs : List Sl} {j : Nat} (h : EE X c iter r S (.ptr j)) (hj : S[j]? = some (.lst xs)) : IW X c tg iter r S (xs.map .one) (fun S' => S'[j]? = some (.lst xs)) := ⟨_, pi_list pe_self, fun σ H F al co sl RR k => te_then h co sl fun v H1 F1 al1 ex1 co1 sl1 rv => by
  obtain ⟨a, ha, e1⟩ := rv
  obtain ⟨vs0, h0, _⟩ := co1.cells j a _ ha hj
  refine ⟨a, e1, ⟨vs0, .of h0⟩, k _ H1 F1 al1 ex1 co1 sl1 fun i H2 F2 al2 S2 ex2 co2 ks => ?_⟩
  have ha2 : al2[j]? = some a := by
    obtain ⟨_, be, rfl⟩ := ex2
    rw [List.getElem?_append_left (List.getElem?_eq_some_iff.mp ha).1]; exact ha
  obtain ⟨vs, h1, h2⟩ := co2.cells j a _ ha2 ks
  refine ⟨fun hi => ⟨vs, .of h1, by rw [paired_len h2, hi]; simp⟩, fun it hit => ?_⟩
  rw [List.getElem?_map] at hit
  obtain ⟨d, hd, rfl⟩ := Option.map_eq_some_iff.mp hit
  obtain ⟨u, hu, ru⟩ := paired_get h2 hd
  refine ⟨⟨vs, u, .of h1, hu⟩, fun v H3 ⟨e3, y⟩ => ?_⟩
  subst e3
  have := (y vs (.of h1)).symm.trans hu
  cases this
  exact ⟨Same.refl _, ru⟩⟩
theorem iw_range {j : Int} (h : EE X c e r S (DI j)) (hm : X.mg "range" = none) (hj : -(2 ^ 62) ≤ j ∧ j < 2 ^ 62) (hg : Gl X "range" := by rfl) (hs : starEach [e] X.env = [(false, eval e X.env)] := by rfl) (hs' : starEach (e :: []) X.env = (false, eval e X.env) :: starEach [] X.env := by rfl) :
    IW X c tg (.Call (.Name "range" p) [e] [] pos) r S ((List.range j.toNat).map fun i => .one (DI (i : Nat))) (fun _ => True) := ⟨_, pi_range1 hg hm pa_self hs, fun σ H F al co sl RR k => ta_then (ea_cons h ea_nil hs') co sl fun vs H1 F1 al1 ex1 co1 sl1 rvs => by
  have ev : vs = [.int j] := by
    cases rvs with
    | cons q t => cases t; rw [rp_int q]
  refine ⟨j, ev, hj.1, hj.2, k _ H1 F1 al1 ex1 co1 sl1 fun i H2 F2 al2 S2 ex2 co2 _ => ⟨fun hi => Nat.le_of_eq (len_items hi).symm, fun it hit => ?_⟩⟩
  rw [List.getElem?_map] at hit
  obtain ⟨d, hd, rfl⟩ := Option.map_eq_some_iff.mp hit
  have hlt : i < j.toNat := by have := (List.getElem?_eq_some_iff.mp hd).1; simpa using this
  rw [List.getElem?_range hlt] at hd
  cases hd
  refine ⟨hlt, fun v H3 ⟨e3, y⟩ => ?_⟩
  subst e3
  rw [Int.zero_add] at y
  rw [y]
  exact ⟨Same.refl _, Rp.int _⟩⟩
theorem iw_range2 {i0 j : Int} (h0 : EE X c a r S (DI i0)) (h : EE X c e r S (DI j)) (hm : X.mg "range" = none) (hj : -(2 ^ 62) ≤ i0 ∧ i0 < 2 ^ 62 ∧ -(2 ^ 62) ≤ j ∧ j < 2 ^ 62) (hg : Gl X "range" := by rfl) (hs : starEach [a, e] X.env = [(false, eval a X.env), (false, eval e X.env)] := by rfl) (hs2 : starEach [e] X.env = [(false, eval e X.env)] := by rfl)
    (hs3 : starEach (a :: [e]) X.env = (false, eval a X.env) :: starEach [e] X.env := by rfl) (hs' : starEach (e :: []) X.env = (false, eval e X.env) :: starEach [] X.env := by rfl) :
    IW X c tg (.Call (.Name "range" p) [a, e] [] pos) r S ((List.range (j - i0).toNat).map fun i => .one (DI (i0 + (i : Nat)))) (fun _ => True) := ⟨_, pi_range2 hg hm pa_self hs hs2, fun σ H F al co sl RR k => ta_then (ea_cons h0 (ea_cons h ea_nil hs') hs3) co sl fun vs H1 F1 al1 ex1 co1 sl1 rvs => by
  have ev : vs = [.int i0, .int j] := by
    cases rvs with
    | cons q t =>
      cases t with
      | cons q2 t => cases t; rw [rp_int q, rp_int q2]
  refine ⟨i0, j, ev, hj, k _ H1 F1 al1 ex1 co1 sl1 fun i H2 F2 al2 S2 ex2 co2 _ => ⟨fun hi => Nat.le_of_eq (len_items hi).symm, fun it hit => ?_⟩⟩
  rw [List.getElem?_map] at hit
  obtain ⟨d, hd, rfl⟩ := Option.map_eq_some_iff.mp hit
  have hlt : i < (j - i0).toNat := by have := (List.getElem?_eq_some_iff.mp hd).1; simpa using this
  rw [List.getElem?_range hlt] at hd
  cases hd
  refine ⟨hlt, fun v H3 ⟨e3, y⟩ => ?_⟩
  subst e3
  rw [y]
  exact ⟨Same.refl _, Rp.int _⟩⟩
end
end Dz

namespace Dz
open PySem L2

/-! ### a def keeps its data contract -/
def startR (N : List Str) (ss : List Sl) : Rho := ss.map some ++ List.replicate (N.length - ss.length) none
def Fz (S : Sto) : Sl → D → Prop
  | .dat d, d' => d = d'
  | .bor _, _ => False
  | .ptr k, d' => (∃ ds, S[k]? = some (.lst (dats ds)) ∧ d' = .lst ds) ∨ (∃ kvs : List (NestedKey × D), S[k]? = some (.dct (kvs.map fun q => (q.1, .dat q.2))) ∧ d' = .dct kvs) ∨ (∃ C fs, S[k]? = some (.obj C (fs.map fun q => (q.1, .dat q.2))) ∧ d' = .obj C fs)
section
variable {X : Cx} {c : Cc} {F H : Hp} {al : List Addr} {S : Sto} {v : V} {sl : Sl} {d : D}
theorem rpf_of {P : Program} {w : World} {K : PySem.W.Frag} {F F' : Hp} {al : List Addr} (sm : Same F F') : ∀ {es : List (Str × V)} {kvs : List (Str × D)}, Paired (fun (e : Str × V) (q : Str × Sl) => e.1 = q.1 ∧ RpS P w K B F al e.2 q.2) es (kvs.map fun q => (q.1, .dat q.2)) → Rpf P w K F' es kvs
  | _, [], .nil => .nil
  | (k, v) :: _, (k', d) :: _, .cons ⟨e1, h2⟩ t => by
    have e1 : k = k' := e1
    subst e1
    exact .cons ((show Rp P w K F v d from h2).mono sm) (rpf_of sm t)
/-- an owned cell given up: it is frozen data from here on -/
theorem Core.freeze (co : Core X c F al S H) {k : Nat} {p : Addr} {o : HO} {d0 : Cell} (hk : al[k]? = some p) (h0 : S[k]? = some d0) (hg : d0 ≠ .gone) (ho : H p = some o) : Core X c (upd F p o) al (S.set k .gone) H := by
  obtain ⟨b1, b2⟩ := co.own k p d0 hk h0 hg
  have nal : ∀ j q, j ≠ k → al[j]? = some q → q ≠ p := fun j q hj e z => by
    subst z
    obtain ⟨l1, e1⟩ := List.getElem?_eq_some_iff.mp e
    obtain ⟨l2, e2⟩ := List.getElem?_eq_some_iff.mp hk
    exact hj ((List.getElem_inj co.nd).mp (e1.trans e2.symm))
  refine ⟨co.pre, fun a u e => ?_, co.base, fun a u e => ?_, fun a u e => ?_, by simp [co.len], co.nd, co.trk, fun j q x e1 e2 e3 => ?_, fun j q x e1 e2 => ?_⟩
  · by_cases ha : a = p
    · subst ha; rw [upd_same] at e; cases e; exact ho
    · rw [upd_ne ha] at e; exact co.sub a u e
  · rw [upd_ne (ne_of_none (co.f0 a u e) b2)]; exact co.f0 a u e
  · by_cases ha : a = p
    · subst ha; exact .inr b1
    · rw [upd_ne ha] at e; exact co.fr a u e
  · have hj : j ≠ k := fun z => by
      subst z
      rw [List.getElem?_set_self (List.getElem?_eq_some_iff.mp h0).1] at e2
      cases e2
      exact e3 rfl
    rw [List.getElem?_set_ne (Ne.symm hj)] at e2
    obtain ⟨q1, q2⟩ := co.own j q x e1 e2 e3
    exact ⟨q1, by rw [upd_ne (nal j q hj e1)]; exact q2⟩
  · by_cases hj : j = k
    · subst hj
      rw [List.getElem?_set_self (List.getElem?_eq_some_iff.mp h0).1] at e2
      cases e2
      trivial
    · rw [List.getElem?_set_ne (Ne.symm hj)] at e2
      exact (co.cells j q x e1 e2).mono ⟨same_upd b2, [], by simp⟩ fun _ => rfl
/-- what an owned cell is when it is given up -/
inductive Melt : Cell → D → Prop
  | lst (ds : List D) : Melt (.lst (dats ds)) (.lst ds)
  | dct (kvs : List (NestedKey × D)) : Melt (.dct (kvs.map fun q => (q.1, .dat q.2))) (.dct kvs)
  | obj (C : Addr) (fs : List (Str × D)) : Melt (.obj C (fs.map fun q => (q.1, .dat q.2))) (.obj C fs)
theorem Core.melt (co : Core X c F al S H) {k : Nat} {p : Addr} {d0 : Cell} (hk : al[k]? = some p) (h0 : S[k]? = some d0) (m : Melt d0 d) : ∃ F', Ext F al F' al ∧ Core X c F' al (S.set k .gone) H ∧ Rp X.prog X.w X.K F' (.ref p) d := by
  have hg : d0 ≠ .gone := by cases m <;> intro z <;> cases z
  obtain ⟨b1, b2⟩ := co.own k p d0 hk h0 hg
  have cell := co.cells k p d0 hk h0
  cases m with
  | lst ds =>
    obtain ⟨vs, h1, h2⟩ := cell
    exact ⟨_, ⟨same_upd b2, [], by simp⟩, co.freeze hk h0 hg h1, Rp.lst (.of upd_same) ((rps_of h2).mono (same_upd b2))⟩
  | dct kvs =>
    obtain ⟨es, h1, h2⟩ := cell
    exact ⟨_, ⟨same_upd b2, [], by simp⟩, co.freeze hk h0 hg h1, Rp.dct upd_same (rpe_of (same_upd b2) h2)⟩
  | obj C fs =>
    obtain ⟨dx, es, h1, h2⟩ := cell
    exact ⟨_, ⟨same_upd b2, [], by simp⟩, co.freeze hk h0 hg h1, Rp.obj upd_same (rpf_of (same_upd b2) h2)⟩
theorem fz_ok (co : Core X c F al S H) (rv : RpS X.prog X.w X.K c.B F al v sl) (h : Fz S sl d) : ∃ F', Same F F' ∧ Same F' H ∧ Same c.F0 F' ∧ (∀ a o, F' a = some o → c.F0 a = some o ∨ c.B a = none) ∧ Rp X.prog X.w X.K F' v d := by
  cases sl with
  | dat d' =>
    have e : d' = d := h
    subst e
    exact ⟨F, Same.refl F, co.sub, co.f0, co.fr, rv⟩
  | bor d' => exact False.elim h
  | ptr k =>
    obtain ⟨p, hp, rfl⟩ := rv
    have go : ∀ d0, S[k]? = some d0 → Melt d0 d → ∃ F', Same F F' ∧ Same F' H ∧ Same c.F0 F' ∧ (∀ a o, F' a = some o → c.F0 a = some o ∨ c.B a = none) ∧ Rp X.prog X.w X.K F' (.ref p) d := fun d0 h0 m => by
      obtain ⟨F', e1, co', r'⟩ := co.melt hp h0 m
      exact ⟨F', e1.same, co'.sub, co'.f0, co'.fr, r'⟩
    rcases h with ⟨ds, h1, rfl⟩ | ⟨kvs, h1, rfl⟩ | ⟨C, fs, h1, rfl⟩
    · exact go _ h1 (.lst ds)
    · exact go _ h1 (.dct kvs)
    · exact go _ h1 (.obj C fs)
theorem slots_start {P : Program} {w : World} {K : PySem.W.Frag} {N : List Str} {vs : List V} {ss : List Sl} (h : Paired (RpS X.prog X.w X.K c.B F al) vs ss) : Slots X c F al (startR N ss) (L2.start N vs) := by
  have hl := paired_len h
  refine ⟨by simp [startR, L2.start, hl], fun i s e => ?_⟩
  unfold startR at e
  by_cases hi : i < ss.length
  · rw [List.getElem?_append_left (by simpa using hi), List.getElem?_map] at e
    obtain ⟨x, hx, e'⟩ := Option.map_eq_some_iff.mp e
    cases e'
    obtain ⟨v, hv, rv⟩ := paired_get h hx
    refine ⟨v, ?_, rv⟩
    unfold L2.start
    rw [List.getElem?_append_left (by simpa using (List.getElem?_eq_some_iff.mp hv).1), List.getElem?_map, hv]
    rfl
  · rw [List.getElem?_append_right (by simpa using Nat.le_of_not_lt hi)] at e
    obtain ⟨h1, h2⟩ := List.getElem?_eq_some_iff.mp e
    rw [List.getElem_replicate] at h2
    cases h2
end
section
variable {P : Program} {w : World} {K : PySem.W.Frag} {mg : Str → Option Value} {base : Heap}
/-- THE RULE for a def that changes nothing of its caller's: from its body over data -/
theorem fnD {x qual : Str} {st : Stmt} {f : Addr} {fd : FuncData} {N ps : List Str} {k : Nat} {R : Rel} (Fn : Fun K x qual st f fd) (sc : FnScope N ps (defScope st)) (len : ∀ ds res, R ds res → ds.length = ps.length)
    (body : ∀ (cdv : Value) (A : Around) (outer : List Env) (s : Shared) (H : Hp) (E : XK) (c : Cc) (ds : List Sl) (res : Except Value D), Room k (cxOf (L2.CX P w) P w K mg base N qual (defScope st) f cdv A outer s H E).A →
      Takes (cxOf (L2.CX P w) P w K mg base N qual (defScope st) f cdv A outer s H E) (wxOf (cxOf (L2.CX P w) P w K mg base N qual (defScope st) f cdv A outer s H E) c) →
      PassesOwn (model P w) (cxOf (L2.CX P w) P w K mg base N qual (defScope st) f cdv A outer s H E).A (cxOf (L2.CX P w) P w K mg base N qual (defScope st) f cdv A outer s H E).env (cxOf (L2.CX P w) P w K mg base N qual (defScope st) f cdv A outer s H E).xe →
      c.ex = (fun cls _ _ => res = .error cls) → R ds res →
      WS (cxOf (L2.CX P w) P w K mg base N qual (defScope st) f cdv A outer s H E) c (defBody st) (startR N ds) [] { nx := fun _ _ => res = .ok .non, rt := fun sl S => ∃ d, res = .ok d ∧ Fz S sl d }) :
    FnOk P w K mg base (L2.CX P w) (k + 1) f fd ps (SpD P w K R) := by
  refine Fn.okX sc (fun vs H Q E h => ?_) (fun cdv A outer s H vs Q E hr h => ?_)
  · obtain ⟨F, ds, res, _, h1, h2, _⟩ := h
    rw [h1.length]
    exact len ds res h2
  · obtain ⟨F, ds, res, hF, hd, hR, hq⟩ := h
    refine ⟨_, pss_self, ?_⟩
    have core : Core (cxOf (L2.CX P w) P w K mg base N qual (defScope st) f cdv A outer s H E) ⟨H, F, [], fun cls _ _ => res = .error cls⟩ F [] [] H := ⟨⟨[], rfl⟩, hF, Same.refl H, Same.refl F, fun a o e => .inl e, rfl, List.nodup_nil, fun k p e => by simp at e, fun k p c e => by simp at e, fun k p c e => by simp at e⟩
    have hb := body cdv A outer s H E ⟨H, F, [], fun cls _ _ => res = .error cls⟩ ds res hr (Takes.imp (takes_of rfl rfl rfl rfl) fun cls d σ H' ⟨e1, F', al', r', S', co', sl', e2⟩ => ?_) (passes_of rfl) rfl hR (L2.start N vs) H F [] core (slots_start (X := cxOf (L2.CX P w) P w K mg base N qual (defScope st) f cdv A outer s H E) (P := P) (w := w) (K := K) hd.rps)
    · refine tWSs_mono hb (fun σ' H' ⟨F', al', r', S', ex', co', sl', e⟩ => ?_) (fun v H' ⟨F', al', sl, S', ex', co', rv, d, e, fz⟩ => ?_) (fun σ' H' ⟨F', al', r', S', ex', co', sl', e⟩ => e.elim) (fun σ' H' ⟨F', al', r', S', ex', co', sl', e⟩ => e.elim)
      · rw [show res = Except.ok D.non from e] at hq
        exact hq .non H' F' co'.base ex'.same co'.sub co'.fr .non
      · rw [e] at hq
        obtain ⟨F2, q1, q2, q3, q4, q5⟩ := fz_ok (c := ⟨H, F, [], fun cls _ _ => res = .error cls⟩) co' rv fz
        exact hq v H' F2 co'.base q3 q2 q4 q5
    · rw [show res = Except.error cls from e2] at hq
      subst e1
      exact hq H' co'.base
theorem Def.of {x qual : Str} {st : Stmt} {f : Addr} {fd : FuncData} {ps : List Str} {k : Nat} {sp : Sp} (G : FnOk P w K mg base (L2.CX P w) k f fd ps sp) (Fn : Fun K x qual st f fd) (hm : mg x = some (.ref f)) (hb : Binds K fd ps []) : Def P w K mg base x k [] sp :=
  ⟨f, fd, ps, [], [], hm, Fn.kp, hb, .nil, fun _ => .nil, G⟩
end
end Dz

namespace Dz
open PySem L2

section
variable {X : Cx} {c : Cc} {e a b o tg iter : Expr} {es ts : List Expr} {st : Stmt} {sts rest body : List Stmt} {r : Rho} {S : Sto} {R : Res} {pos p apos cpos pos' : Pos} {x : Sl} {n m : Str} {k : Nat} {xs : List Sl} {ds : List D} {i j : Int} {F H : Hp} {al : List Addr} {v : V}
theorem ints_v {vs : List V} {ns : List Int} (h : Paired (RpS X.prog X.w X.K c.B F al) vs (dats (ns.map D.int))) : vs = ns.map V.int := Rps.ints_of (rps_of h)
/-! built-ins of one argument -/
theorem one_v {vs : List V} (h : Paired (RpS X.prog X.w X.K c.B F al) vs [x]) : ∃ v, vs = [v] ∧ RpS X.prog X.w X.K c.B F al v x := by
  cases h with
  | cons a b => cases b; exact ⟨_, rfl, a⟩
theorem two_v {y : Sl} {vs : List V} (h : Paired (RpS X.prog X.w X.K c.B F al) vs [x, y]) : ∃ v u, vs = [v, u] ∧ RpS X.prog X.w X.K c.B F al v x ∧ RpS X.prog X.w X.K c.B F al u y := by
  cases h with
  | cons a b =>
    cases b with
    | cons a2 b => cases b; exact ⟨_, _, rfl, a, a2⟩
/-- a built-in, told by what it does -/
theorem ee_callB {id : String} {rr : List V → Hp → VK → Prop} {sls : List Sl} {z : Sl} (hc : CallR X (.builtin id) rr) (hm : X.mg n = none) (ha : EA X c (e :: es) r S sls)
    (k : ∀ H F al vs, Core X c F al S H → Paired (RpS X.prog X.w X.K c.B F al) vs sls → ∀ Rk : VK, (∀ vz H' F' al', Ext F al F' al' → Core X c F' al' S H' → RpS X.prog X.w X.K c.B F' al' vz z → Rk vz H') → rr vs H Rk)
    (hg : Gl X n := by rfl) (hv : bootBuiltins n = some (.builtin id) := by first | rfl | decide +kernel) (hn : n ≠ "__name__" := by decide) (hdb : (n == ("__debug__" : Str)) = false := by decide)
    (hst : starEach (e :: es) X.env = (false, eval e X.env) :: starEach es X.env := by rfl) (hpl : (backTo pos (starEach es X.env)).any (·.1) = false := by rfl) : EE X c (.Call (.Name n p) (e :: es) [] pos) r S z := fun Q q =>
  EW.of (pe_callB hc hg hm hv pa_self hn hdb hst hpl) fun σ H F al co sl => ta_then ha co sl fun ws H1 F1 al1 ex1 co1 sl1 rvs => k H1 F1 al1 ws co1 rvs _ fun vz H' F' al' ex co' rz => ⟨F', al', z, S, ex1.trans ex, co', rz, q⟩
theorem ee_callTy {T : String} {rr : List V → Hp → VK → Prop} {sls : List Sl} {z : Sl} (hc : CallR X (.type T) rr) (hm : X.mg n = none) (ha : EA X c (e :: es) r S sls)
    (k : ∀ H F al vs, Core X c F al S H → Paired (RpS X.prog X.w X.K c.B F al) vs sls → ∀ Rk : VK, (∀ vz H' F' al', Ext F al F' al' → Core X c F' al' S H' → RpS X.prog X.w X.K c.B F' al' vz z → Rk vz H') → rr vs H Rk)
    (hg : Gl X n := by rfl) (hv : bootBuiltins n = some (.type T) := by first | rfl | decide +kernel) (hn : n ≠ "__name__" := by decide) (hdb : (n == ("__debug__" : Str)) = false := by decide)
    (hst : starEach (e :: es) X.env = (false, eval e X.env) :: starEach es X.env := by rfl) (hpl : (backTo pos (starEach es X.env)).any (·.1) = false := by rfl) : EE X c (.Call (.Name n p) (e :: es) [] pos) r S z := fun Q q =>
  EW.of (pe_callTy hc hg hm hv pa_self hn hdb hst hpl) fun σ H F al co sl => ta_then ha co sl fun ws H1 F1 al1 ex1 co1 sl1 rvs => k H1 F1 al1 ws co1 rvs _ fun vz H' F' al' ex co' rz => ⟨F', al', z, S, ex1.trans ex, co', rz, q⟩
theorem ee_len (hm : X.mg "len" = none) (h : EE X c e r S x) (hs : SeqS S x xs) (hg : Gl X "len" := by rfl) (hst : starEach (e :: []) X.env = (false, eval e X.env) :: starEach [] X.env := by rfl) (hpl : (backTo pos (starEach [] X.env)).any (·.1) = false := by rfl) : EE X c (.Call (.Name "len" p) [e] [] pos) r S (DI (xs.length : Nat)) :=
  ee_callB call_len_seq hm (ea_cons h ea_nil hst) (fun H F al vs co rv Rk k => by
    obtain ⟨v, rfl, rv1⟩ := one_v rv
    obtain ⟨a, vs, rfl, h1, h2⟩ := seq_v co rv1 hs
    exact ⟨a, vs, rfl, h1, k _ _ _ _ Ext.refl co (by rw [paired_len h2]; exact Rp.int _)⟩) hg (hst := hst) (hpl := hpl)
theorem ee_lenS {z : Str} (hm : X.mg "len" = none) (h : EE X c e r S (DS z)) (hz : z.length ≤ sizeLine) (hg : Gl X "len" := by rfl) (hst : starEach (e :: []) X.env = (false, eval e X.env) :: starEach [] X.env := by rfl) (hpl : (backTo pos (starEach [] X.env)).any (·.1) = false := by rfl) : EE X c (.Call (.Name "len" p) [e] [] pos) r S (DI (z.length : Nat)) :=
  ee_callB call_len hm (ea_cons h ea_nil hst) (fun H F al vs co rv Rk k => by
    obtain ⟨v, rfl, rv1⟩ := one_v rv
    rw [rp_str rv1]
    exact ⟨_, z.length, rfl, ⟨hz, rfl⟩, k _ _ _ _ Ext.refl co (Rp.int _)⟩) hg (hst := hst) (hpl := hpl)
/-! min, max -/
def minZ : List Int → Int
  | [] => 0
  | n :: ns => ns.foldl min n
def maxZ : List Int → Int
  | [] => 0
  | n :: ns => ns.foldl max n
theorem foldl_min (n : Int) (ns : List Int) : (ns.foldl min n = n ∨ ns.foldl min n ∈ ns) ∧ ns.foldl min n ≤ n ∧ ∀ y ∈ ns, ns.foldl min n ≤ y := by
  induction ns generalizing n with
  | nil => exact ⟨.inl rfl, Int.le_refl _, fun _ h => nomatch h⟩
  | cons k t ih =>
    obtain ⟨h1, h2, h3⟩ := ih (min n k)
    have hm : min n k ≤ n := Int.min_le_left _ _
    have hk : min n k ≤ k := Int.min_le_right _ _
    refine ⟨?_, Int.le_trans h2 hm, fun y hy => ?_⟩
    · rw [List.foldl_cons]
      rcases h1 with h | h
      · rw [h]
        rcases Int.le_total n k with q | q
        · exact .inl (Int.min_eq_left q)
        · exact .inr (by rw [Int.min_eq_right q]; exact List.mem_cons_self)
      · exact .inr (List.mem_cons_of_mem _ h)
    · rw [List.foldl_cons]
      rcases List.mem_cons.mp hy with e | e
      · rw [e]; exact Int.le_trans h2 hk
      · exact h3 y e
theorem foldl_max (n : Int) (ns : List Int) : (ns.foldl max n = n ∨ ns.foldl max n ∈ ns) ∧ n ≤ ns.foldl max n ∧ ∀ y ∈ ns, y ≤ ns.foldl max n := by
  induction ns generalizing n with
  | nil => exact ⟨.inl rfl, Int.le_refl _, fun _ h => nomatch h⟩
  | cons k t ih =>
    obtain ⟨h1, h2, h3⟩ := ih (max n k)
    have hm : n ≤ max n k := Int.le_max_left _ _
    have hk : k ≤ max n k := Int.le_max_right _ _
    refine ⟨?_, Int.le_trans hm h2, fun y hy => ?_⟩
    · rw [List.foldl_cons]
      rcases h1 with h | h
      · rw [h]
        rcases Int.le_total n k with q | q
        · exact .inr (by rw [Int.max_eq_right q]; exact List.mem_cons_self)
        · exact .inl (Int.max_eq_left q)
      · exact .inr (List.mem_cons_of_mem _ h)
    · rw [List.foldl_cons]
      rcases List.mem_cons.mp hy with e | e
      · rw [e]; exact Int.le_trans hk h2
      · exact h3 y e
theorem minZ_mem {ns : List Int} (h : ns ≠ []) : minZ ns ∈ ns := by
  cases ns with
  | nil => exact absurd rfl h
  | cons n t =>
    rcases (foldl_min n t).1 with q | q
    · show t.foldl min n ∈ _; rw [q]; exact List.mem_cons_self
    · exact List.mem_cons_of_mem _ q
theorem minZ_le {ns : List Int} {y : Int} (h : y ∈ ns) : minZ ns ≤ y := by
  cases ns with
  | nil => cases h
  | cons n t =>
    rcases List.mem_cons.mp h with e | e
    · rw [e]; exact (foldl_min n t).2.1
    · exact (foldl_min n t).2.2 y e
theorem maxZ_mem {ns : List Int} (h : ns ≠ []) : maxZ ns ∈ ns := by
  cases ns with
  | nil => exact absurd rfl h
  | cons n t =>
    rcases (foldl_max n t).1 with q | q
    · show t.foldl max n ∈ _; rw [q]; exact List.mem_cons_self
    · exact List.mem_cons_of_mem _ q
theorem le_maxZ {ns : List Int} {y : Int} (h : y ∈ ns) : y ≤ maxZ ns := by
  cases ns with
  | nil => cases h
  | cons n t =>
    rcases List.mem_cons.mp h with e | e
    · rw [e]; exact (foldl_max n t).2.1
    · exact (foldl_max n t).2.2 y e
theorem minZ_eq {ns : List Int} {m : Int} (h1 : m ∈ ns) (h2 : ∀ y ∈ ns, m ≤ y) : m = minZ ns := Int.le_antisymm (h2 _ (minZ_mem (by intro z; rw [z] at h1; cases h1))) (minZ_le h1)
theorem maxZ_eq {ns : List Int} {m : Int} (h1 : m ∈ ns) (h2 : ∀ y ∈ ns, y ≤ m) : m = maxZ ns := Int.le_antisymm (le_maxZ h1) (h2 _ (maxZ_mem (by intro z; rw [z] at h1; cases h1)))
theorem len_pos {ns : List Int} (h : ns ≠ []) : 0 < ns.length := by cases ns with | nil => exact absurd rfl h | cons _ _ => exact Nat.succ_pos _
theorem ee_minL {ns : List Int} (hm : X.mg "min" = none) (hcm : X.calm = true) (h : EE X c e r S x) (hs : LstS S x (dats (ns.map D.int))) (hne : ns ≠ []) (hg : Gl X "min" := by rfl) (hst : starEach (e :: []) X.env = (false, eval e X.env) :: starEach [] X.env := by rfl) (hpl : (backTo pos (starEach [] X.env)).any (·.1) = false := by rfl) :
    EE X c (.Call (.Name "min" p) [e] [] pos) r S (DI (minZ ns)) :=
  ee_callB (cr_min hcm) hm (ea_cons h ea_nil hst) (fun H F al vs co rv Rk k => by
    obtain ⟨v, rfl, rv1⟩ := one_v rv
    obtain ⟨a, vs, rfl, h1, h2⟩ := lst_v co rv1 hs
    rw [ints_v h2] at h1
    exact ⟨a, ns, rfl, h1, len_pos hne, fun m q1 q2 => k _ _ _ _ Ext.refl co (by rw [minZ_eq q1 q2]; exact Rp.int _)⟩) hg (hst := hst) (hpl := hpl)
theorem ee_maxL {ns : List Int} (hm : X.mg "max" = none) (hcm : X.calm = true) (h : EE X c e r S x) (hs : LstS S x (dats (ns.map D.int))) (hne : ns ≠ []) (hg : Gl X "max" := by rfl) (hst : starEach (e :: []) X.env = (false, eval e X.env) :: starEach [] X.env := by rfl) (hpl : (backTo pos (starEach [] X.env)).any (·.1) = false := by rfl) :
    EE X c (.Call (.Name "max" p) [e] [] pos) r S (DI (maxZ ns)) :=
  ee_callB (cr_max hcm) hm (ea_cons h ea_nil hst) (fun H F al vs co rv Rk k => by
    obtain ⟨v, rfl, rv1⟩ := one_v rv
    obtain ⟨a, vs, rfl, h1, h2⟩ := lst_v co rv1 hs
    rw [ints_v h2] at h1
    exact ⟨a, ns, rfl, h1, len_pos hne, fun m q1 q2 => k _ _ _ _ Ext.refl co (by rw [maxZ_eq q1 q2]; exact Rp.int _)⟩) hg (hst := hst) (hpl := hpl)
theorem ee_min2 (hm : X.mg "min" = none) (hcm : X.calm = true) (h1 : EE X c a r S (DI i)) (h2 : EE X c b r S (DI j)) (hg : Gl X "min" := by rfl) (hst : starEach (a :: [b]) X.env = (false, eval a X.env) :: starEach [b] X.env := by rfl) (hst2 : starEach (b :: []) X.env = (false, eval b X.env) :: starEach [] X.env := by rfl) (hpl : (backTo pos (starEach [b] X.env)).any (·.1) = false := by rfl) :
    EE X c (.Call (.Name "min" p) [a, b] [] pos) r S (DI (min i j)) :=
  ee_callB (call_min2 hcm) hm (ea_cons h1 (ea_cons h2 ea_nil hst2) hst) (fun H F al vs co rv Rk k => by
    obtain ⟨v, u, rfl, r1, r2⟩ := two_v rv
    rw [rp_int r1, rp_int r2]
    exact ⟨i, j, rfl, k _ _ _ _ Ext.refl co (by rw [show (if j < i then j else i) = min i j by omega]; exact Rp.int _)⟩) hg (hst := hst) (hpl := hpl)
theorem ee_max2 (hm : X.mg "max" = none) (hcm : X.calm = true) (h1 : EE X c a r S (DI i)) (h2 : EE X c b r S (DI j)) (hg : Gl X "max" := by rfl) (hst : starEach (a :: [b]) X.env = (false, eval a X.env) :: starEach [b] X.env := by rfl) (hst2 : starEach (b :: []) X.env = (false, eval b X.env) :: starEach [] X.env := by rfl) (hpl : (backTo pos (starEach [b] X.env)).any (·.1) = false := by rfl) :
    EE X c (.Call (.Name "max" p) [a, b] [] pos) r S (DI (max i j)) :=
  ee_callB (call_max2 hcm) hm (ea_cons h1 (ea_cons h2 ea_nil hst2) hst) (fun H F al vs co rv Rk k => by
    obtain ⟨v, u, rfl, r1, r2⟩ := two_v rv
    rw [rp_int r1, rp_int r2]
    exact ⟨i, j, rfl, k _ _ _ _ Ext.refl co (by rw [show (if j > i then j else i) = max i j by omega]; exact Rp.int _)⟩) hg (hst := hst) (hpl := hpl)
/-- min of a tuple of ints -/
theorem dpAll_ints {K : PySem.W.Frag} {H : Hp} : ∀ ns : List Int, DpAll K H (ns.map V.int) (ns.map PyData.int)
  | [] => .nil
  | n :: ns => .cons (.int n) (dpAll_ints ns)
theorem alike_ints (ns : List Int) : PySem.W.AlikeAll (ns.map PyData.int) := by
  refine ⟨fun x hx y hy => ?_, fun x hx => ?_⟩
  · obtain ⟨i, _, rfl⟩ := List.mem_map.mp hx
    obtain ⟨j, _, rfl⟩ := List.mem_map.mp hy
    rfl
  · obtain ⟨i, _, rfl⟩ := List.mem_map.mp hx
    intro z; cases z
theorem depth_ints : ∀ ns : List Int, PyData.depthAll (ns.map PyData.int) = 0
  | [] => rfl
  | n :: ns => by
    show max (PyData.depth (.int n)) (PyData.depthAll (ns.map PyData.int)) = 0
    rw [depth_ints ns]
    rfl
theorem cr_minT (hc : X.calm = true) (hr : Room k X.A) : CallR X (.builtin "min") (fun vs H Q => ∃ (a : Addr) (ns : List Int), vs = [V.ref a] ∧ SqT X.K H a (ns.map V.int) ∧ ns ≠ [] ∧ Q (.int (minZ ns)) H) := by
  intro pins s σ H vs us Q I rr h
  obtain ⟨a, ns, rfl, hs, hne, q⟩ := h
  obtain ⟨its, rv, hl, _⟩ := I.tuple hs
  obtain ⟨u, rfl, ru⟩ := vals1 rr
  cases ru
  obtain ⟨n, t, rfl⟩ : ∃ n t, ns = n :: t := by
    cases ns with
    | nil => exact absurd rfl hne
    | cons n t => exact ⟨n, t, rfl⟩
  obtain ⟨as, hra⟩ := Dp.readsAll I ((n :: t).map PyData.int) _ its (dpAll_ints (n :: t)) rv
  refine PySem.W.min_tuple_data (x := .int n) (xs := t.map .int) (as := as) (I.ok.hd hc) (show s.heap.IsTuple a its.toArray from hl) (by simpa using hra) (alike_ints (n :: t)) (by
    have e : PyData.depthAll (PyData.int n :: t.map PyData.int) = 0 := depth_ints (n :: t)
    rw [e]
    have := hr.units
    omega) fun i v h' tk bs hv hb hk => ?_
  rw [PySem.W.minD_ints] at hb
  have : ∃ t', v = .int (minZ (n :: t)) t' := by
    cases hb with
    | int _ t' => exact ⟨t', rfl⟩
  exact ⟨.int _, H, I.kept hk, this, q⟩
theorem ee_minT {ns : List Int} (hm : X.mg "min" = none) (hcm : X.calm = true) (hr : Room k X.A) (h : EE X c e r S (.dat (.tup (ns.map D.int)))) (hne : ns ≠ []) (hg : Gl X "min" := by rfl) (hst : starEach (e :: []) X.env = (false, eval e X.env) :: starEach [] X.env := by rfl) (hpl : (backTo pos (starEach [] X.env)).any (·.1) = false := by rfl) :
    EE X c (.Call (.Name "min" p) [e] [] pos) r S (DI (minZ ns)) :=
  ee_callB (cr_minT hcm hr) hm (ea_cons h ea_nil hst) (fun H F al vs co rv Rk k => by
    obtain ⟨v, rfl, rv1⟩ := one_v rv
    obtain ⟨a, vs, rfl, h1, h2⟩ := rp_tup rv1
    rw [Rps.ints_of h2] at h1
    exact ⟨a, ns, rfl, same_t co.sub h1, hne, k _ _ _ _ Ext.refl co (Rp.int _)⟩) hg (hst := hst) (hpl := hpl)
/-! methods of built-in types, the type told by the heap -/
def tBMG (ty : V → Hp → Prop) (r : V → List V → Hp → VK → Prop) (to : TE) (t : TA) : TE := fun σ H Q => to σ H fun x H1 => ty x H1 ∧ t σ H1 fun xs H2 => r x xs H2 Q
def TyOk (X : Cx) (T : String) (ty : V → Hp → Prop) : Prop := ∀ (pins : List (Addr × Obj)) (s : Shared) (σ : L2.St) (H : Hp) (x : V) (v : Value), Inv X pins σ H s → RelV x v → ty x H → s.TypeIs v T ∧ ∀ a, v = .ref a → ∃ ob, s.heap.get? a = some ob ∧ ob.dict = none
theorem pe_bmG0 {T id : String} {rr : V → List V → Hp → VK → Prop} {to : TE} {ty : V → Hp → Prop} (pa : PlainAttrs T) (slot : Slot T n id) (hty : typeOf (.builtin id) = pure (.type "method_descriptor")) (ht : TyOk X T ty) (hm : MtR X id rr) (ho : PE X o to)
    (hbase : attributeBase o n X.env (eval o X.env) = eval o X.env := by rfl) (hline : (apos.endLine == cpos.line) = true := by rfl) : PE X (.Call (.Attribute o n apos) [] [] cpos) (fun σ H Q => to σ H fun x H1 => ty x H1 ∧ rr x [] H1 Q) := by
  refine ⟨fun pins s σ H Q I h => ?_⟩
  refine wpAny_Call_method0_late hbase hline (thn (ho.run pins s σ H _ I h) fun v s1 ⟨x, H1, I1, r1, ty, q1⟩ => ?_)
  obtain ⟨h1, h2⟩ := ht pins s1 σ H1 x v I1 r1 ty
  exact ⟨T, id, pa, slot, hty, h1, h2, Calls.callWith_builtin rfl (PySem.evalArgs_none (hm pins s1 σ H1 x [] v [] Q I1 r1 .nil q1))⟩
theorem pe_bmG {T id : String} {rr : V → List V → Hp → VK → Prop} {to : TE} {t : TA} {ty : V → Hp → Prop} (pa : PlainAttrs T) (slot : Slot T n id) (hty : typeOf (.builtin id) = pure (.type "method_descriptor")) (ht : TyOk X T ty) (hm : MtR X id rr) (ho : PE X o to) (ha : PA X (e :: es) t)
    (hbase : attributeBase o n X.env (eval o X.env) = eval o X.env := by rfl)
    (hfew : ((backTo cpos (starEach (e :: es) X.env)).all (fun x => !x.1) && (backToKw cpos (keywordEach [] X.env)).all (fun x => x.1.isSome)
      && decide ((e :: es).length + ([] : List Keyword).length + (if ([] : List Keyword).isEmpty then 0 else 1) < 30)) = true := by rfl)
    (hline : (apos.endLine == cpos.line) = true := by rfl) (hs : starEach (e :: es) X.env = (false, eval e X.env) :: starEach es X.env := by rfl) (hplain : (backTo cpos (starEach es X.env)).any (·.1) = false := by rfl) :
    PE X (.Call (.Attribute o n apos) (e :: es) [] cpos) (tBMG ty rr to t) := by
  refine ⟨fun pins s σ H Q I h => ?_⟩
  refine wpAny_Call_method_late hbase hfew hline rfl (thn (ho.run pins s σ H _ I h) fun v s1 ⟨x, H1, I1, r1, ty, q1⟩ => ?_)
  obtain ⟨h1, h2⟩ := ht pins s1 σ H1 x v I1 r1 ty
  refine ⟨T, id, pa, slot, hty, h1, h2, ?_⟩
  have hA := ha.run cpos pins s1 σ H1 _ I1 q1
  rw [hs] at hA ⊢
  refine Calls.callWith_builtin (by show (false || (backTo cpos (starEach es X.env)).any (·.1)) = false; rw [hplain] <;> rfl) (Calls.evalArgs_plain ?_)
  exact thn hA fun us s2 ⟨vs, H2, I2, r2, q2⟩ => hm pins s2 σ H2 x vs v us Q I2 r1 r2 q2
/-- t.index(k), t a tuple of ints -/
def tyTup : V → Hp → Prop := fun v H => ∃ a ob vs, v = .ref a ∧ H a = some (.frz ob (.tup vs)) ∧ ob.dict = none
theorem tyTup_ok : TyOk X "tuple" tyTup := by
  intro pins s σ H x v I rx ⟨a, ob, vs, e, h, hd⟩
  subst e
  cases rx
  obtain ⟨h1, h2⟩ := I.hok a _ h
  obtain ⟨_, its, _, ot, e, hc, _⟩ := h2
  rw [h1] at e; cases e
  exact ⟨⟨ob, h1, hc⟩, fun b e2 => by cases e2; exact ⟨ob, h1, hd⟩⟩
theorem mt_tupIx : MtR X "tuple.index" (fun x xs H Q => ∃ (a : Addr) (ns : List Int) (k : Int), x = .ref a ∧ xs = [.int k] ∧ SqT X.K H a (ns.map V.int) ∧ k ∈ ns ∧ Q (.int (ns.idxOf k : Nat)) H) := by
  intro pins s σ H x xs v us Q I rx rxs h
  obtain ⟨a, ns, k, rfl, rfl, hs, hk, q⟩ := h
  cases rx
  obtain ⟨u, rfl, ⟨t, rfl⟩⟩ := vals1 rxs
  obtain ⟨its, rv, hl, _⟩ := I.tuple hs
  exact PySem.SeqAt.tuple_index_ints (show s.heap.IsTuple a its.toArray from hl) rv.ints hk ⟨.int _, H, I.tok _, ⟨_, rfl⟩, q⟩
theorem ee_tupIx {ns : List Int} (ho : EE X c o r S (.dat (.tup (ns.map D.int)))) (h : EE X c e r S (DI i)) (hi : i ∈ ns) (hbase : attributeBase o "index" X.env (eval o X.env) = eval o X.env := by rfl)
    (hfew : ((backTo cpos (starEach (e :: []) X.env)).all (fun x => !x.1) && (backToKw cpos (keywordEach [] X.env)).all (fun x => x.1.isSome)
      && decide ((e :: []).length + ([] : List Keyword).length + (if ([] : List Keyword).isEmpty then 0 else 1) < 30)) = true := by rfl)
    (hline : (apos.endLine == cpos.line) = true := by rfl) (hs : starEach (e :: []) X.env = (false, eval e X.env) :: starEach [] X.env := by rfl) (hplain : (backTo cpos (starEach [] X.env)).any (·.1) = false := by rfl) :
    EE X c (.Call (.Attribute o "index" apos) [e] [] cpos) r S (DI (ns.idxOf i : Nat)) := fun Q q =>
  EW.of (pe_bmG PySem.F.plainAttrs_tuple PySem.F.slot_tuple_index PySem.F.type_tuple_index tyTup_ok mt_tupIx pe_self pa_self hbase hfew hline hs hplain) fun σ H F al co sl => te_then ho co sl fun v H1 F1 al1 ex1 co1 sl1 rv => by
    obtain ⟨a, ob, vs, rfl, h1, hd, h2⟩ := rp_tupF rv
    refine ⟨⟨a, ob, vs, rfl, co1.sub _ _ h1, hd⟩, ta_then (ea_cons h ea_nil hs) co1 sl1 fun ws H2 F2 al2 ex2 co2 sl2 rvs => ?_⟩
    obtain ⟨u, rfl, ru⟩ := one_v rvs
    rw [Rps.ints_of h2] at h1
    exact ⟨a, ns, i, rfl, by rw [rp_int ru], same_t co2.sub (same_t ex2.same (.inl (.inr ⟨ob, h1⟩))), hi, (VQ.here co2 (sl := DI _) (Rp.int _) q).up (ex1.trans ex2)⟩
end
end Dz

namespace Dz
open PySem L2
section
variable {X : Cx} {c : Cc} {e a b o tg iter : Expr} {es ts : List Expr} {st : Stmt} {sts rest body : List Stmt} {r : Rho} {S : Sto} {R : Res} {pos p apos cpos pos' : Pos} {x y : Sl} {n m : Str} {k : Nat} {xs ys : List Sl} {ds : List D} {i j : Int} {F H : Hp} {al : List Addr} {v : V}

theorem ext_at {F' : Hp} {al' : List Addr} (ex : Ext F al F' al') {q : Addr} (h : al[k]? = some q) : al'[k]? = some q := by
  obtain ⟨_, be, rfl⟩ := ex
  rw [List.getElem?_append_left (List.getElem?_eq_some_iff.mp h).1]
  exact h
theorem paired_append {α β : Type} {G : α → β → Prop} : ∀ {l₁ l₃ : List α} {l₂ l₄ : List β}, Paired G l₁ l₂ → Paired G l₃ l₄ → Paired G (l₁ ++ l₃) (l₂ ++ l₄)
  | _, _, _, _, .nil, h => h
  | _, _, _, _, .cons q t, h => .cons q (paired_append t h)
theorem paired_take {α β : Type} {G : α → β → Prop} : ∀ {l₁ : List α} {l₂ : List β} (n : Nat), Paired G l₁ l₂ → Paired G (l₁.take n) (l₂.take n)
  | _, _, 0, _ => .nil
  | _, _, _ + 1, .nil => .nil
  | _, _, n + 1, .cons q t => .cons q (paired_take n t)
theorem paired_drop {α β : Type} {G : α → β → Prop} : ∀ {l₁ : List α} {l₂ : List β} (n : Nat), Paired G l₁ l₂ → Paired G (l₁.drop n) (l₂.drop n)
  | _, _, 0, h => h
  | _, _, _ + 1, .nil => .nil
  | _, _, n + 1, .cons _ t => paired_drop n t
theorem paired_set {α β : Type} {G : α → β → Prop} {u : α} {w : β} (h : G u w) : ∀ {l₁ : List α} {l₂ : List β} (n : Nat), Paired G l₁ l₂ → Paired G (l₁.set n u) (l₂.set n w)
  | _, _, _, .nil => .nil
  | _, _, 0, .cons _ t => .cons h t
  | _, _, n + 1, .cons q t => .cons q (paired_set h n t)
theorem paired_dropLast {α β : Type} {G : α → β → Prop} {l₁ : List α} {l₂ : List β} (h : Paired G l₁ l₂) : Paired G l₁.dropLast l₂.dropLast := by
  rw [List.dropLast_eq_take, List.dropLast_eq_take, paired_len h]
  exact paired_take _ h
theorem paired_reverse {α β : Type} {G : α → β → Prop} : ∀ {l₁ : List α} {l₂ : List β}, Paired G l₁ l₂ → Paired G l₁.reverse l₂.reverse
  | _, _, .nil => .nil
  | _, _, .cons q t => by rw [List.reverse_cons, List.reverse_cons]; exact paired_append (paired_reverse t) (.cons q .nil)
theorem paired_at {vs : List V} {G : V → Sl → Prop} {s : Sl} (h2 : Paired G vs xs) (h : atI xs i = some s) : ∃ y, atI vs i = some y ∧ G y s := by
  unfold atI at h ⊢
  rw [paired_len h2]
  cases e : ixN xs.length i with
  | none => rw [e] at h; cases h
  | some j =>
    rw [e] at h
    exact paired_get h2 h
/-- an item of an owned list, of any list -/
theorem ee_ix {s : Sl} (ha : EE X c a r S x) (hs : LstS S x xs) (hb : EE X c b r S (DI i)) (h : atI xs i = some s) (hp : PlainIx b := by exact fun _ _ => rfl) : EE X c (.Subscript a b pos) r S s := fun Q q =>
  EW.of (pe_ix ix_list pe_self pe_self hp) fun σ H F al co sl => te_then ha co sl fun v H1 F1 al1 ex1 co1 sl1 rv => te_then hb co1 sl1 fun u H2 F2 al2 ex2 co2 sl2 ru => by
    obtain ⟨q1, vs, rfl, h1, h2⟩ := lst_v co2 (rv.mono ex2) hs
    obtain ⟨y, hy, ry⟩ := paired_at h2 h
    exact ⟨q1, vs, i, y, rfl, rp_int ru, h1, hy, (VQ.here co2 ry q).up (ex1.trans ex2)⟩
/-! methods of an owned list -/
theorem ty_list {vs : List V} {q : Addr} (h : H q = some (.lst vs)) {K : PySem.W.Frag} : tyV K "list" (.ref q) H := .inl ⟨rfl, vs, .of h⟩
theorem ew_append {Q : Sl → Sto → Prop} {ys : List Sl} (ho : EE X c o r S (.ptr k)) (hk : S[k]? = some (.lst ys)) (he : EW X c e r S fun x S1 => ∃ xs, S1[k]? = some (.lst xs) ∧ xs.length < 100000 ∧ Q (.dat .non) (S1.set k (.lst (xs ++ [x]))))
    (hbase : attributeBase o "append" X.env (eval o X.env) = eval o X.env := by rfl)
    (hfew : ((backTo cpos (starEach (e :: []) X.env)).all (fun x => !x.1) && (backToKw cpos (keywordEach [] X.env)).all (fun x => x.1.isSome)
      && decide ((e :: []).length + ([] : List Keyword).length + (if ([] : List Keyword).isEmpty then 0 else 1) < 30)) = true := by rfl)
    (hline : (apos.endLine == cpos.line) = true := by rfl) (hs : starEach (e :: []) X.env = (false, eval e X.env) :: starEach [] X.env := by rfl) (hplain : (backTo cpos (starEach [] X.env)).any (·.1) = false := by rfl) :
    EW X c (.Call (.Attribute o "append" apos) [e] [] cpos) r S Q :=
  EW.of (pe_bm PySem.F.plainAttrs_list PySem.F.slot_list_append PySem.F.type_list_append mt_append pe_self (pa_cons pe_self pa_nil hs) hbase hfew hline hs hplain) fun σ H F al co sl => te_then ho co sl fun v H1 F1 al1 ex1 co1 sl1 rv => by
    obtain ⟨q, hq, rfl⟩ := rv
    obtain ⟨vs0, h0, _⟩ := co1.cells k q _ hq hk
    refine ⟨ty_list h0, tW_then he co1 sl1 fun u H2 F2 al2 x S1 ex2 co2 sl2 ru ⟨xs, h1, hl, hQ⟩ => ?_⟩
    have hq2 := ext_at ex2 hq
    obtain ⟨vs, h3, h4⟩ := co2.cells k q _ hq2 h1
    refine ⟨q, vs, u, rfl, rfl, h3, ?_, F2, al2, .dat .non, _, ex1.trans ex2, co2.put hq2 h1 (by intro z; cases z) (d := .lst (xs ++ [x])) ⟨_, upd_same, paired_append h4 (.cons ru .nil)⟩, .non, hQ⟩
    rw [paired_len h4]
    exact Nat.lt_of_lt_of_le hl (by decide)
theorem ew_insert {Q : Sl → Sto → Prop} {ys : List Sl} (ho : EE X c o r S (.ptr k)) (hk : S[k]? = some (.lst xs)) (ha : EE X c a r S (DI i)) (he : EE X c e r S x) (hi : 0 ≤ i ∧ i < 2 ^ 63) (hl : xs.length < 100000) (hQ : Q (.dat .non) (S.set k (.lst (xs.take i.toNat ++ [x] ++ xs.drop i.toNat))))
    (hbase : attributeBase o "insert" X.env (eval o X.env) = eval o X.env := by rfl)
    (hfew : ((backTo cpos (starEach (a :: [e]) X.env)).all (fun x => !x.1) && (backToKw cpos (keywordEach [] X.env)).all (fun x => x.1.isSome)
      && decide ((a :: [e]).length + ([] : List Keyword).length + (if ([] : List Keyword).isEmpty then 0 else 1) < 30)) = true := by rfl)
    (hline : (apos.endLine == cpos.line) = true := by rfl) (hs : starEach (a :: [e]) X.env = (false, eval a X.env) :: starEach [e] X.env := by rfl) (hs2 : starEach (e :: []) X.env = (false, eval e X.env) :: starEach [] X.env := by rfl) (hplain : (backTo cpos (starEach [e] X.env)).any (·.1) = false := by rfl) :
    EW X c (.Call (.Attribute o "insert" apos) [a, e] [] cpos) r S Q :=
  EW.of (pe_bm PySem.F.plainAttrs_list PySem.F.slot_list_insert PySem.F.type_list_insert mt_insert pe_self pa_self hbase hfew hline hs hplain) fun σ H F al co sl => te_then ho co sl fun v H1 F1 al1 ex1 co1 sl1 rv => by
    obtain ⟨q, hq, rfl⟩ := rv
    obtain ⟨vs0, h0, _⟩ := co1.cells k q _ hq hk
    refine ⟨ty_list h0, ta_then (ea_cons ha (ea_cons he ea_nil hs2) hs) co1 sl1 fun us H2 F2 al2 ex2 co2 sl2 rus => ?_⟩
    obtain ⟨u1, u2, rfl, r1, r2⟩ := two_v rus
    have hq2 := ext_at ex2 hq
    obtain ⟨vs, h3, h4⟩ := co2.cells k q _ hq2 hk
    refine ⟨q, vs, i, u2, rfl, by rw [rp_int r1], h3, ?_, hi.1, hi.2, F2, al2, .dat .non, _, ex1.trans ex2, co2.put hq2 hk (by intro z; cases z) (d := .lst (xs.take i.toNat ++ [x] ++ xs.drop i.toNat)) ⟨_, upd_same, paired_append (paired_append (paired_take _ h4) (.cons r2 .nil)) (paired_drop _ h4)⟩, .non, hQ⟩
    rw [paired_len h4]
    exact Nat.lt_of_lt_of_le hl (by decide)
theorem ew_pop {Q : Sl → Sto → Prop} (ho : EE X c o r S (.ptr k)) (hk : S[k]? = some (.lst (xs ++ [x]))) (hQ : Q x (S.set k (.lst xs)))
    (hbase : attributeBase o "pop" X.env (eval o X.env) = eval o X.env := by rfl) (hline : (apos.endLine == cpos.line) = true := by rfl) : EW X c (.Call (.Attribute o "pop" apos) [] [] cpos) r S Q :=
  EW.of (pe_bm0 PySem.F.plainAttrs_list PySem.F.slot_list_pop PySem.F.type_list_pop mt_pop pe_self hbase hline) fun σ H F al co sl => te_then ho co sl fun v H1 F1 al1 ex1 co1 sl1 rv => by
    obtain ⟨q, hq, rfl⟩ := rv
    obtain ⟨vs, h3, h4⟩ := co1.cells k q _ hq hk
    obtain ⟨u, hu, ru⟩ := paired_get h4 (show (xs ++ [x])[xs.length]? = some x by simp)
    have hl : vs.length - 1 = xs.length := by rw [paired_len h4]; simp
    refine ⟨ty_list h3, q, vs, u, rfl, rfl, h3, by rw [hl]; exact hu, F1, al1, x, _, ex1, co1.put hq hk (by intro z; cases z) (d := .lst xs) ⟨vs.dropLast, upd_same, ?_⟩, ru, hQ⟩
    have := paired_dropLast h4
    rw [List.dropLast_concat] at this
    exact this
theorem ew_clear {Q : Sl → Sto → Prop} (ho : EE X c o r S (.ptr k)) (hk : S[k]? = some (.lst xs)) (hQ : Q (.dat .non) (S.set k (.lst [])))
    (hbase : attributeBase o "clear" X.env (eval o X.env) = eval o X.env := by rfl) (hline : (apos.endLine == cpos.line) = true := by rfl) : EW X c (.Call (.Attribute o "clear" apos) [] [] cpos) r S Q :=
  EW.of (pe_bm0 PySem.F.plainAttrs_list PySem.F.slot_list_clear PySem.F.type_list_clear mt_clear pe_self hbase hline) fun σ H F al co sl => te_then ho co sl fun v H1 F1 al1 ex1 co1 sl1 rv => by
    obtain ⟨q, hq, rfl⟩ := rv
    obtain ⟨vs, h3, h4⟩ := co1.cells k q _ hq hk
    exact ⟨ty_list h3, q, vs, rfl, rfl, h3, F1, al1, .dat .non, _, ex1, co1.put hq hk (by intro z; cases z) (d := .lst []) ⟨[], upd_same, .nil⟩, .non, hQ⟩
/-- xs[i] = e, xs owned -/
theorem w1_setL {w : Nat} (he : EE X c e r S x) (ho : EE X c o r S (.ptr k)) (hk : S[k]? = some (.lst xs)) (hi : EE X c b r S (DI i)) (hj : ixN xs.length i = some w) (hR : R.nx r (S.set k (.lst (xs.set w x))))
    (ha : ∀ v, assign (.Subscript o b pos') X.env v = (do
      let ov ← holding [v] (eval o X.env)
      let iv ← holding [v, ov] (eval b X.env)
      standAt pos'
      holding [v, ov, iv] (setItem ov iv v)
      release [v, ov, iv] []) := by intro _; rfl)
    (hs : swapsWithSole [.Subscript o b pos'] e pos.line X.env = pure false := by rfl) (hw : swappedStores [.Subscript o b pos'] e X.env = pure none := by rfl)
    (h1 : (assignEach [.Subscript o b pos'] X.env).map (·.2) = [assign (.Subscript o b pos') X.env] := by rfl) : W1 X c (.Assign [.Subscript o b pos'] e pos) r S R :=
  W1.of (ps_asg pe_self (pg_sub pe_self pe_self set_list ha) hs hw h1) fun σ H F al co sl => te_then he co sl fun v H1 F1 al1 ex1 co1 sl1 rv => te_then ho co1 sl1 fun u H2 F2 al2 ex2 co2 sl2 ru => te_then hi co2 sl2 fun t H3 F3 al3 ex3 co3 sl3 rt => by
    obtain ⟨q, hq, rfl⟩ := ru
    have hq3 := ext_at ex3 hq
    obtain ⟨vs, h3, h4⟩ := co3.cells k q _ hq3 hk
    have rv3 := (rv.mono ex2).mono ex3
    exact ⟨q, vs, i, w, rfl, rp_int rt, h3, by rw [paired_len h4]; exact hj, F3, al3, r, _, (ex1.trans ex2).trans ex3, co3.put hq3 hk (by intro z; cases z) (d := .lst (xs.set w x)) ⟨_, upd_same, paired_set rv3 w h4⟩, sl3, hR⟩
/-- name += e of ints -/
theorem w1_addI (q : Nat) (hx : r[q]? = some (some (DI i)) := by rfl) (he : EE X c e r S (DI j)) (hN : X.N.Nodup) (hR : R.nx (r.set q (some (DI (i + j)))) S) (hi : X.N[q]? = some n := by rfl) (hl : Loc X.env.scope n := by first | exact Or.inl rfl | exact Or.inr rfl)
    (hf : X.fn n = true ∨ X.env.scope.names.lookup n = some .local := by first | exact .inl rfl | exact .inr rfl | assumption) : W1 X c (.AugAssign (.Name n pos') .Add e pos) r S R :=
  W1.of (ps_aug hN hi hl pe_self ip_add hf) fun σ H F al co sl => by
    obtain ⟨u, hu, ru⟩ := sl.get hx
    refine ⟨u, hu, te_then he co sl fun v H1 F1 al1 ex1 co1 sl1 rv => ⟨i, j, rp_int ru, rp_int rv, F1, al1, _, S, ex1, co1, sl1.set (s := DI (i + j)) (Rp.int _), hR⟩⟩
/-! copies, sums, cuts -/
theorem ew_listOf {Q : Sl → Sto → Prop} (hm : X.mg "list" = none) (h : EE X c e r S x) (hs : SeqS S x xs) (k : Q (.ptr S.length) (S ++ [.lst xs])) (hg : Gl X "list" := by rfl) (hst : starEach (e :: []) X.env = (false, eval e X.env) :: starEach [] X.env := by rfl) (hpl : (backTo pos (starEach [] X.env)).any (·.1) = false := by rfl) :
    EW X c (.Call (.Name "list" p) [e] [] pos) r S Q :=
  EW.of (pe_callTy call_list_of hg hm (by first | rfl | decide +kernel) pa_self (by decide) (by decide) hst hpl) fun σ H F al co sl => ta_then (ea_cons h ea_nil hst) co sl fun ws H1 F1 al1 ex1 co1 sl1 rvs => by
    obtain ⟨v, rfl, rv⟩ := one_v rvs
    obtain ⟨q, vs, rfl, h1, h2⟩ := seq_v co1 rv hs
    refine ⟨q, vs, rfl, h1, fun p hp => ?_⟩
    have ex2 : Ext F1 al1 F1 (al1 ++ [p]) := ⟨Same.refl _, [p], rfl⟩
    exact ⟨F1, al1 ++ [p], .ptr S.length, _, ex1.trans ex2, co1.born (d := .lst xs) hp ⟨vs, upd_same, Paired.mono' (fun _ _ q => q.mono ex2) h2⟩, ⟨p, by rw [List.getElem?_append_right (by rw [co1.len]; exact Nat.le_refl _), co1.len, Nat.sub_self]; rfl, rfl⟩, k⟩
theorem ee_listOf (hm : X.mg "list" = none) (h : EE X c e r S x) (hs : SeqS S x (dats ds)) (hg : Gl X "list" := by rfl) (hst : starEach (e :: []) X.env = (false, eval e X.env) :: starEach [] X.env := by rfl) (hpl : (backTo pos (starEach [] X.env)).any (·.1) = false := by rfl) :
    EE X c (.Call (.Name "list" p) [e] [] pos) r S (.dat (.lst ds)) :=
  ee_callTy call_list_of hm (ea_cons h ea_nil hst) (fun H F al vs co rv Rk k => by
    obtain ⟨v, rfl, rv1⟩ := one_v rv
    obtain ⟨q, vs, rfl, h1, h2⟩ := seq_v co rv1 hs
    exact ⟨q, vs, rfl, h1, fun p hp => k _ _ _ _ (Ext.laid (o := .lst vs) co hp) (co.laid hp) (Rp.lst (.of upd_same) ((rps_of h2).mono (same_upd (co.sub.free hp))))⟩) hg (hst := hst) (hpl := hpl)
/-- tuple(xs): its object known -/
theorem call_tupleF : CallR X (.type "tuple") (fun xs H Q => ∃ p ys, xs = [.ref p] ∧ ((SqL X.K H p ys ∧ ∀ l (ob : Obj), H l = none → ob.dict = none → Q (.ref l) (upd H l (.frz ob (.tup ys)))) ∨ (SqT X.K H p ys ∧ Q (.ref p) H))) := by
  intro pins s σ H xs us Q I r h
  obtain ⟨p, ys, rfl, h⟩ := h
  obtain ⟨u, rfl, rx⟩ := vals1 r
  cases rx
  rcases h with ⟨hq, q⟩ | ⟨hq, q⟩
  · obtain ⟨its, r', pl, hz⟩ := I.list hq
    have hlen := r'.length
    refine PySem.call_tuple_list pl.isList (fun h' kp => ?_) (by simp only [List.size_toArray] <;> omega)
    have I1 : Inv X pins σ H { s with heap := h' } := I.kept (t' := s.toks) kp
    have I2 : Inv X pins σ (upd H h'.objs.size (.frz { cls := .type "tuple", data := .seq its.toArray } (.tup ys))) { s with heap := h'.push { cls := .type "tuple", data := .seq its.toArray } } :=
      I1.laid (t' := s.toks) (fun b o e => Heap.get?_push_of_some _ e) (Nat.le_refl _) ⟨Heap.get?_push_size _ rfl, hz, its, r', PyProof.Rows.IsTup.new _ _⟩
    exact ⟨.ref h'.objs.size, _, I2, rfl, q _ _ (I1.hok.fresh (Nat.le_refl _)) rfl⟩
  · obtain ⟨its, r', pl, hz⟩ := I.tuple hq
    exact call_tuple_same pl ⟨.ref p, H, I, rfl, q⟩
theorem ee_tupleOf (hm : X.mg "tuple" = none) (h : EE X c e r S x) (hs : LstS S x (dats ds)) (hg : Gl X "tuple" := by rfl) (hst : starEach (e :: []) X.env = (false, eval e X.env) :: starEach [] X.env := by rfl) (hpl : (backTo pos (starEach [] X.env)).any (·.1) = false := by rfl) :
    EE X c (.Call (.Name "tuple" p) [e] [] pos) r S (.dat (.tup ds)) :=
  ee_callTy call_tupleF hm (ea_cons h ea_nil hst) (fun H F al vs co rv Rk k => by
    obtain ⟨v, rfl, rv1⟩ := one_v rv
    obtain ⟨q, vs, rfl, h1, h2⟩ := lst_v co rv1 hs
    exact ⟨q, vs, rfl, .inl ⟨h1, fun p ob hp ho => k _ _ _ _ (Ext.laid (o := .frz ob (.tup vs)) co hp) (co.laid hp) (Rp.tup upd_same ho ((rps_of h2).mono (same_upd (co.sub.free hp))))⟩⟩) hg (hst := hst) (hpl := hpl)
/-- list + list -/
theorem op_catS : OpR X (binaryOp .Add) (fun x y H Q => ∃ l b xs zs, x = .ref l ∧ y = .ref b ∧ SqL X.K H l xs ∧ SqL X.K H b zs ∧ xs.length + zs.length ≤ sizeLine ∧ ∀ p, H p = none → Q (.ref p) (upd H p (.lst (xs ++ zs)))) := by
  intro pins s σ H x y v u Q I rx ry h
  obtain ⟨l, b, xs, zs, rfl, rfl, hH, hB, hz, q⟩ := h
  cases rx
  cases ry
  obtain ⟨its, r1, ⟨⟨cls, dd, data, sl⟩, n1, ho, hc, _, hd⟩, z1⟩ := I.list hH
  obtain ⟨its2, r2, ⟨⟨cls2, dd2, data2, sl2⟩, n2, ho2, hc2, _, hd2⟩, z2⟩ := I.list hB
  simp only at hc hd hc2 hd2
  subst hc hd hc2 hd2
  have l1 := r1.length
  have l2 := r2.length
  refine PySem.concat_meets ⟨_, ho, rfl⟩ ⟨_, ho2, rfl⟩ PySem.noFill_list_add PySem.seq_list_add PySem.F.slot_list_add PySem.F.entry_list_add (PySem.F.args_list_add_2 _ _) (PyProof.Rows.list_addW l b its.toArray its2.toArray n1 n2 dd dd2 sl sl2 (by rw [List.size_toArray, List.size_toArray]; omega)) ⟨ho, ho2, ?_⟩
  have ea : its.toArray ++ its2.toArray = (its ++ its2).toArray := by simp
  rw [ea]
  exact ⟨.ref _, _, I.lnew (t' := s.toks) (r1.append r2) (by rw [List.length_append]; omega), rfl, q _ I.fresh⟩
theorem ee_cat {es : List D} (ha : EE X c a r S x) (hx : LstS S x (dats ds)) (hb : EE X c b r S y) (hy : LstS S y (dats es)) (hl : ds.length + es.length ≤ 100000) : EE X c (.BinOp a .Add b pos) r S (.dat (.lst (ds ++ es))) := fun Q q =>
  EW.of (pe_op op_catS pe_self pe_self) fun σ H F al co sl => te_then ha co sl fun v H1 F1 al1 ex1 co1 sl1 rv => te_then hb co1 sl1 fun u H2 F2 al2 ex2 co2 sl2 ru => by
    obtain ⟨q1, vs, rfl, h1, h2⟩ := lst_v co2 (rv.mono ex2) hx
    obtain ⟨q2, ws, rfl, h3, h4⟩ := lst_v co2 ru hy
    refine ⟨q1, q2, vs, ws, rfl, rfl, h1, h3, by rw [(rps_of h2).length, (rps_of h4).length]; exact sz_of hl, fun p hp => ?_⟩
    exact ⟨_, _, .dat (.lst (ds ++ es)), S, (ex1.trans ex2).trans (Ext.laid (o := .lst (vs ++ ws)) co2 hp), co2.laid hp, Rp.lst (.of upd_same) (((rps_of h2).append (rps_of h4)).mono (same_upd (co2.sub.free hp))), q⟩
/-- tuple + tuple, its object known -/
theorem op_catF : OpR X (binaryOp .Add) (fun x y H Q => ∃ a b xs ys, x = .ref a ∧ y = .ref b ∧ SqT X.K H a xs ∧ SqT X.K H b ys ∧ xs.length + ys.length ≤ sizeLine ∧
  (xs = [] → Q (.ref b) H) ∧ (xs ≠ [] → ys = [] → Q (.ref a) H) ∧ (xs ≠ [] → ys ≠ [] → ∀ p (ob : Obj), H p = none → ob.dict = none → Q (.ref p) (upd H p (.frz ob (.tup (xs ++ ys)))))) := by
  intro pins s σ H x y v u Q I rx ry h
  obtain ⟨a, b, xs, ys, rfl, rfl, ha, hb, hz, q0, q1, q2⟩ := h
  cases rx
  cases ry
  obtain ⟨its, r1, p1, _⟩ := I.tuple ha
  obtain ⟨its2, r2, p2, _⟩ := I.tuple hb
  by_cases hx : xs = []
  · subst hx
    cases r1
    exact L2.cat_tup0 p1 p2 ⟨.ref b, H, I, rfl, q0 rfl⟩
  · refine HT.cat_tup p1 p2 (fun z => hx (r1.nil_iff.mp z)) (fun z => ⟨.ref a, H, I, rfl, q1 hx (r2.nil_iff.mp z)⟩) (fun z => ?_) (by rw [← r1.length, ← r2.length]; exact hz)
    refine ⟨.ref s.heap.objs.size, _, I.laid (t' := s.toks) (o := .frz { cls := .type "tuple", data := .seq (its ++ its2).toArray } (.tup (xs ++ ys))) (fun b ob q => Heap.get?_push_of_some _ q) (Nat.le_refl _) ?_, rfl, q2 hx (fun w => z (r2.nil_iff.mpr w)) _ _ (I.hok.fresh (Nat.le_refl _)) rfl⟩
    exact ⟨Heap.get?_push_size _ rfl, by rw [List.length_append]; exact hz, _, r1.append r2, PyProof.Rows.IsTup.new _ _⟩
theorem rps_nil {P : Program} {w : World} {K : PySem.W.Frag} {F : Hp} {vs : List V} {ds : List D} (h : Rps P w K F vs ds) : vs = [] ↔ ds = [] := by
  cases h with
  | nil => simp
  | cons _ _ => simp
theorem ee_catT {es : List D} (ha : EE X c a r S (.dat (.tup ds))) (hb : EE X c b r S (.dat (.tup es))) (hl : ds.length + es.length ≤ 100000) : EE X c (.BinOp a .Add b pos) r S (.dat (.tup (ds ++ es))) := fun Q q =>
  EW.of (pe_op op_catF pe_self pe_self) fun σ H F al co sl => te_then ha co sl fun v H1 F1 al1 ex1 co1 sl1 rv => te_then hb co1 sl1 fun u H2 F2 al2 ex2 co2 sl2 ru => by
    have rv2 := rv.mono ex2
    obtain ⟨q1, vs, e1, h1, h2⟩ := rp_tup rv2
    obtain ⟨q2, ws, e2, h3, h4⟩ := rp_tup ru
    subst e1; subst e2
    refine ⟨q1, q2, vs, ws, rfl, rfl, same_t co2.sub h1, same_t co2.sub h3, by rw [h2.length, h4.length]; exact sz_of hl, fun z => ?_, fun _ z => ?_, fun _ _ p ob hp ho => ?_⟩
    · rw [show ds = [] from (rps_nil h2).mp z, List.nil_append] at q
      exact (VQ.here co2 ru q).up (ex1.trans ex2)
    · rw [show es = [] from (rps_nil h4).mp z, List.append_nil] at q
      exact (VQ.here co2 rv2 q).up (ex1.trans ex2)
    · exact ⟨_, _, .dat (.tup (ds ++ es)), S, (ex1.trans ex2).trans (Ext.laid (o := .frz ob (.tup (vs ++ ws))) co2 hp), co2.laid hp, Rp.tup upd_same ho ((h2.append h4).mono (same_upd (co2.sub.free hp))), q⟩
/-! slices -/
def cutD {α : Type} (xs : List α) (lo hi : Option Int) : List α := (xs.drop (HT.sIx xs.length 0 lo)).take (HT.sIx xs.length xs.length hi - HT.sIx xs.length 0 lo)
theorem paired_cut {α : Type} {G : V → α → Prop} {vs : List V} {ds : List α} (h : Paired G vs ds) (lo hi : Option Int) : Paired G (cutV vs lo hi) (cutD ds lo hi) := by
  unfold cutV cutD
  rw [paired_len h]
  exact paired_take _ (paired_drop _ h)
/-- a slice's part -/
def EO (X : Cx) (c : Cc) (e : Option Expr) (r : Rho) (S : Sto) (o : Option Int) : Prop := match e, o with
  | some e, some i => EE X c e r S (DI i)
  | none, none => True
  | _, _ => False
def tOW (X : Cx) (e : Option Expr) : TO := match e with
  | some e => tPart (tW X e)
  | none => tNoPart
theorem po_self {e : Option Expr} : PO X e (tOW X e) := by
  cases e with
  | none => exact po_none
  | some e => exact po_some pe_self
theorem to_then {e : Option Expr} {o : Option Int} {Rk : Option Int → Hp → Prop} {σ : L2.St} (h : EO X c e r S o) (co : Core X c F al S H) (sl : Slots X c F al r σ)
    (k : ∀ H' F' al', Ext F al F' al' → Core X c F' al' S H' → Slots X c F' al' r σ → Rk o H') : tOW X e σ H Rk := by
  cases e with
  | none =>
    cases o with
    | none => exact k H F al Ext.refl co sl
    | some i => exact h.elim
  | some e =>
    cases o with
    | none => exact h.elim
    | some i => exact te_then h co sl fun v H1 F1 al1 ex1 co1 sl1 rv => ⟨i, rp_int rv, k H1 F1 al1 ex1 co1 sl1⟩
theorem ee_cutL {lo hi : Option Expr} {l h : Option Int} {p2 : Pos} (ha : EE X c a r S x) (hs : LstS S x (dats ds)) (hl : EO X c lo r S l) (hh : EO X c hi r S h) : EE X c (.Subscript a (.Slice lo hi none p2) pos) r S (.dat (.lst (cutD ds l h))) := fun Q q =>
  EW.of (pe_slice sl_list pe_self po_self po_self) fun σ H F al co sl => te_then ha co sl fun v H1 F1 al1 ex1 co1 sl1 rv => to_then hl co1 sl1 fun H2 F2 al2 ex2 co2 sl2 => to_then hh co2 sl2 fun H3 F3 al3 ex3 co3 sl3 => by
    obtain ⟨q1, vs, rfl, h1, h2⟩ := lst_v co3 ((rv.mono ex2).mono ex3) hs
    refine ⟨q1, vs, rfl, h1, fun p hp => ?_⟩
    refine ⟨_, _, .dat (.lst (cutD ds l h)), S, ((ex1.trans ex2).trans ex3).trans (Ext.laid (o := .lst (cutV vs l h)) co3 hp), co3.laid hp, Rp.lst (.of upd_same) ?_, q⟩
    have hc := paired_cut h2 l h
    have e : cutD (dats ds) l h = dats (cutD ds l h) := by unfold cutD; simp [List.map_drop, List.map_take]
    rw [e] at hc
    exact (rps_of hc).mono (same_upd (co3.sub.free hp))
theorem sl_tupF : SlR X (fun x lo hi H Q => ∃ a xs, x = .ref a ∧ SqT X.K H a xs ∧
  (HT.sIx xs.length 0 lo = 0 ∧ HT.sIx xs.length xs.length hi = xs.length → Q (.ref a) H) ∧ (¬ (HT.sIx xs.length 0 lo = 0 ∧ HT.sIx xs.length xs.length hi = xs.length) → ∀ p (ob : Obj), H p = none → ob.dict = none → Q (.ref p) (upd H p (.frz ob (.tup (cutV xs lo hi)))))) := by
  intro pins s σ H x v vl vu lo hi sl Q I rx hs pl pu h
  obtain ⟨a, xs, rfl, hx, q1, q2⟩ := h
  cases rx
  obtain ⟨its, r, ht, hz⟩ := I.tuple hx
  have hlen : its.toArray.size = xs.length := by rw [List.size_toArray]; exact r.length.symm
  refine ⟨"tuple", _, PyProof.Rows.slot_tuple_getitem.lookup, ht.typeIs, ?_⟩
  by_cases hw : HT.sIx xs.length 0 lo = 0 ∧ HT.sIx xs.length xs.length hi = xs.length
  · exact L2.getItem_tuple_whole ht hs pl pu (by rw [hlen]; exact hw) ⟨.ref a, H, I, rfl, q1 hw⟩
  · refine HT.getItem_tuple_cut ht hs pl pu (by rw [hlen]; exact hw) ?_ (by rw [hlen]; exact hz)
    rw [hlen]
    refine ⟨.ref s.heap.objs.size, _, I.laid (t' := s.toks) (o := .frz { cls := .type "tuple", data := .seq ((its.drop (HT.sIx xs.length 0 lo)).take (HT.sIx xs.length xs.length hi - HT.sIx xs.length 0 lo)).toArray } (.tup (cutV xs lo hi))) (fun b ob q => Heap.get?_push_of_some _ q) (Nat.le_refl _) ?_, rfl, q2 hw _ _ (I.hok.fresh (Nat.le_refl _)) rfl⟩
    exact ⟨Heap.get?_push_size _ rfl, Nat.le_trans (cutV_length xs lo hi) hz, _, (r.drop (HT.sIx xs.length 0 lo)).take (HT.sIx xs.length xs.length hi - HT.sIx xs.length 0 lo), PyProof.Rows.IsTup.new _ _⟩
theorem cut_whole {α : Type} {xs : List α} {lo hi : Option Int} (h : HT.sIx xs.length 0 lo = 0 ∧ HT.sIx xs.length xs.length hi = xs.length) : cutD xs lo hi = xs := by
  unfold cutD
  rw [h.1, h.2]
  simp
theorem ee_cutT {lo hi : Option Expr} {l h : Option Int} {p2 : Pos} (ha : EE X c a r S (.dat (.tup ds))) (hl : EO X c lo r S l) (hh : EO X c hi r S h) : EE X c (.Subscript a (.Slice lo hi none p2) pos) r S (.dat (.tup (cutD ds l h))) := fun Q q =>
  EW.of (pe_slice sl_tupF pe_self po_self po_self) fun σ H F al co sl => te_then ha co sl fun v H1 F1 al1 ex1 co1 sl1 rv => to_then hl co1 sl1 fun H2 F2 al2 ex2 co2 sl2 => to_then hh co2 sl2 fun H3 F3 al3 ex3 co3 sl3 => by
    have rv3 := (rv.mono ex2).mono ex3
    obtain ⟨q1, vs, e1, h1, h2⟩ := rp_tup rv3
    subst e1
    refine ⟨q1, vs, rfl, same_t co3.sub h1, fun z => ?_, fun _ p ob hp ho => ?_⟩
    · rw [h2.length] at z
      rw [cut_whole z] at q
      exact (VQ.here co3 rv3 q).up ((ex1.trans ex2).trans ex3)
    · refine ⟨_, _, .dat (.tup (cutD ds l h)), S, ((ex1.trans ex2).trans ex3).trans (Ext.laid (o := .frz ob (.tup (cutV vs l h))) co3 hp), co3.laid hp, Rp.tup upd_same ho ?_, q⟩
      have hc := paired_cut (G := RpS X.prog X.w X.K c.B F3 al3) (ds := dats ds) (of_rps h2) l h
      have e : cutD (dats ds) l h = dats (cutD ds l h) := by unfold cutD; simp [List.map_drop, List.map_take]
      rw [e] at hc
      exact (rps_of hc).mono (same_upd (co3.sub.free hp))
end
end Dz

namespace Dz
open PySem L2
/-! ### comprehensions -/
/-- in whichever block of a comprehension with that scope -/
def Blk (X : Cx) (sc : Scope) (Pr : Cx → Prop) : Prop := ∀ (s0 : Shared) (H0 : Hp) (C : Addr) (cl : List (Str × Addr)) (fp : List Addr), Pr (X.blk s0 H0 sc (compEnvC sc cl C X.env) fp)
/-- nothing is raised -/
abbrev Cc.no (c : Cc) : Cc := { c with ex := fun _ _ _ => False }
theorem takes_no {X : Cx} {c : Cc} : Takes X (wxOf X c.no) := fun u s' x => by
  obtain ⟨_, _, _, _, _, _, _, _, _, _, _, _, _, _, _, _, _, _, _, _, _, _, _, z⟩ := x
  exact z.elim
def tEB (X : Cx) (sc : Scope) (e : Expr) : TE := fun σ H Q => ∀ (s0 : Shared) (H0 : Hp) (C : Addr) (cl : List (Str × Addr)) (fp : List Addr), tW (X.blk s0 H0 sc (compEnvC sc cl C X.env) fp) e σ H Q
def tTs (X : Cx) (ifs : List Expr) : TT := fun σ H Q => ∀ (pins : List (Addr × Obj)) (s : Shared), Inv X pins σ H s → wpAny (model X.prog X.w) X.A (forIn ifs true fun c r => if r = true then do let ok ← isTrue c X.env (eval c X.env); pure (ForInStep.yield ok) else pure (ForInStep.yield r)) (TP X pins σ Q) X.xe s
def tTB (X : Cx) (sc : Scope) (ifs : List Expr) : TT := fun σ H Q => ∀ (s0 : Shared) (H0 : Hp) (C : Addr) (cl : List (Str × Addr)) (fp : List Addr), tTs (X.blk s0 H0 sc (compEnvC sc cl C X.env) fp) ifs σ H Q
def ETs (X : Cx) (c : Cc) (ifs : List Expr) (r : Rho) (S : Sto) (b : Bool) : Prop := ∀ (σ : L2.St) (H F : Hp) (al : List Addr), Core X c F al S H → Slots X c F al r σ → tTs X ifs σ H (BQ X c F al fun k S' => k = b ∧ S' = S)
section
variable {X : Cx} {c : Cc} {e a b o tg iter elt : Expr} {es ts ifs : List Expr} {r : Rho} {S : Sto} {R : Res} {pos p apos cpos pos' : Pos} {x y : Sl} {n m : Str} {k : Nat} {xs ys : List Sl} {ds : List D} {i j : Int} {F H : Hp} {al : List Addr} {v : V} {sc : Scope}
theorem ets_nil : ETs X c [] r S true := fun σ H F al co sl pins s I => pts_nil.run pins s σ H _ I ⟨F, al, S, Ext.refl, co, rfl, rfl⟩
theorem ets_one {q : Bool} (h : ET X c e r S q) : ETs X c [e] r S q := fun σ H F al co sl pins s I => (pts_one pt_self).run pins s σ H _ I ((h (fun k S' => k = q ∧ S' = S) ⟨rfl, rfl⟩).tw co sl)
/-- the reading of a comprehension over one name -/
theorem lc_read {its : List Item} {keep : Sto → Prop} {j : Nat} {g : TG} {vs : List Nat} {wi : TI} (f : Item → D) (q : Item → Bool) {Qv : VK} {σ : L2.St}
    (hw : ∀ RR : It → Hp → Prop, (∀ J H' F' al', Ext F al F' al' → Core X c F' al' S H' → Slots X c F' al' r σ → JOk X c J F' al' its keep → RR J H') → wi σ H RR)
    (hkeep : ∀ acc, keep (S ++ [.lst acc])) (hlen : its.length ≤ 100000)
    (hg : ∀ it ∈ its, ∀ acc F2 al2 H2 v, Core X c F2 al2 (S ++ [.lst acc]) H2 → Slots X c F2 al2 r σ → VOk X c F2 al2 H2 v it → ∀ Rk : L2.St → Hp → Prop,
      (∀ σ2 F3 al3 H3, Ext F2 al2 F3 al3 → Core X c F3 al3 (S ++ [.lst acc]) H3 → wipe σ2 vs = wipe σ vs → tTB X sc ifs σ2 H3 (BQ X c F3 al3 fun k S' => k = q it ∧ S' = S ++ [.lst acc]) → (q it = true → ∀ F4 al4 H4, Ext F3 al3 F4 al4 → Core X c F4 al4 (S ++ [.lst acc]) H4 → tEB X sc elt σ2 H4 (VQ X c F4 al4 fun x S' => x = .dat (f it) ∧ S' = S ++ [.lst acc])) → Rk σ2 H3) → g v (wipe σ vs) H2 Rk)
    (hQ : ∀ F' al' D H', Ext F al F' al' → Core X c F' al' (S ++ [.lst (dats ((its.filter q).map f))]) H' → al'[S.length]? = some D → Qv (.ref D) H') : tLc wi g (tTB X sc ifs) (tEB X sc elt) vs σ H Qv := by
  refine hw _ fun J H1 F1 al1 ex1 co1 sl1 jo D hD => ?_
  have exD : Ext F1 al1 F1 (al1 ++ [D]) := ⟨Same.refl _, [D], rfl⟩
  have coD : Core X c F1 (al1 ++ [D]) (S ++ [.lst []]) (upd H1 D (.lst [])) := co1.born (d := .lst []) hD ⟨[], upd_same, .nil⟩
  have hDk : (al1 ++ [D])[S.length]? = some D := by rw [List.getElem?_append_right (by rw [co1.len]; exact Nat.le_refl _), co1.len, Nat.sub_self]; rfl
  have hlastk : ∀ c0 : Cell, (S ++ [c0])[S.length]? = some c0 := fun c0 => by rw [List.getElem?_append_right (Nat.le_refl _), Nat.sub_self]; rfl
  have hset : ∀ c0 c1 : Cell, (S ++ [c0]).set S.length c1 = S ++ [c1] := fun c0 c1 => by
    rw [List.set_append_right _ _ (Nat.le_refl _), Nat.sub_self]; rfl
  refine ⟨fun i m H' => m = its.length - i ∧ i ≤ its.length ∧ ∃ F2 al2, Ext F1 (al1 ++ [D]) F2 al2 ∧ Core X c F2 al2 (S ++ [.lst (dats (((its.take i).filter q).map f))]) H', ⟨its.length, by simp, Nat.zero_le _, F1, al1 ++ [D], Ext.refl, coD⟩, ?_⟩
  rintro i m H2 ⟨rfl, hi, F2, al2, ex2, co2⟩
  have hD2 : al2[S.length]? = some D := by
    obtain ⟨_, be, rfl⟩ := ex2
    rw [List.getElem?_append_left (List.getElem?_eq_some_iff.mp hDk).1]; exact hDk
  obtain ⟨j1, j2⟩ := jo i H2 F2 al2 _ (exD.trans ex2) co2 (hkeep _)
  by_cases hlt : i < its.length
  · obtain ⟨go, y⟩ := j2 its[i] (List.getElem?_eq_getElem hlt)
    refine .inr ⟨go, fun H' => ∃ F2 al2, Ext F1 (al1 ++ [D]) F2 al2 ∧ Core X c F2 al2 (S ++ [.lst (dats (((its.take (i + 1)).filter q).map f))]) H', fun H' q => ⟨its.length - (i + 1), by omega, rfl, hlt, q⟩, fun v H3 hy => ?_⟩
    obtain ⟨sm, ok⟩ := y v H3 hy
    have co3 := co2.kept sm
    have htake : its.take (i + 1) = its.take i ++ [its[i]] := by rw [List.take_succ_eq_append_getElem hlt]
    have ex12 := ex1.trans (exD.trans ex2)
    refine hg its[i] (List.getElem_mem hlt) _ F2 al2 H3 v co3 (sl1.mono (exD.trans ex2)) ok _ fun σ2 F4 al4 H4 ex4 co4 hwp ht he => ⟨hwp, ?_⟩
    refine fun s0 H0 C cl fp => (fun pins s I => ?_)
    refine thn (ht s0 H0 C cl fp pins s I) fun bb s1 ⟨H5, I5, F5, al5, S5, ex5, co5, e1, e2⟩ => ?_
    subst e2
    refine ⟨H5, I5, ?_⟩
    rw [e1]
    cases hq : q its[i] with
    | true =>
      rw [if_pos rfl]
      intro s0 H0 C cl fp
      refine tW_mono (he hq F5 al5 H5 ex5 co5 s0 H0 C cl fp) fun yv H6 ⟨F6, al6, sl6, S6, ex6, co6, rv6, e3, e4⟩ => ?_
      subst e3; subst e4
      have exA := ((ex2.trans ex4).trans ex5).trans ex6
      have hD6 := (ext_at ex6 (ext_at ex5 (ext_at ex4 hD2)))
      obtain ⟨vs6, h1, h2⟩ := co6.cells S.length D _ hD6 (hlastk _)
      refine ⟨vs6, h1, ?_, F6, al6, exA, ?_⟩
      · rw [paired_len h2]
        simp only [List.length_map]
        refine Nat.lt_of_le_of_lt (List.length_filter_le _ _) (Nat.lt_of_le_of_lt (List.length_take_le' _ _) ?_)
        rw [sizeLine_eq]; omega
      · have hp := co6.put (o := .lst (vs6 ++ [yv])) hD6 (hlastk _) (by intro z; cases z) (d := .lst (dats (((its.take i).filter q).map f) ++ [.dat (f its[i])])) ⟨_, upd_same, paired_append h2 (.cons rv6 .nil)⟩
        rw [hset] at hp
        have e5 : dats (((its.take (i + 1)).filter q).map f) = dats (((its.take i).filter q).map f) ++ [.dat (f its[i])] := by
          rw [htake, List.filter_append, List.filter_cons, if_pos hq]
          simp
        rw [e5]
        exact hp
    | false =>
      rw [if_neg Bool.false_ne_true]
      refine ⟨F5, al5, (ex2.trans ex4).trans ex5, ?_⟩
      have e5 : ((its.take (i + 1)).filter q).map f = ((its.take i).filter q).map f := by
        rw [htake, List.filter_append, List.filter_cons, if_neg (by rw [hq]; exact Bool.false_ne_true)]
        simp
      rw [e5]
      exact co5
  · have e : i = its.length := by omega
    subst e
    rw [List.take_length] at co2
    exact .inl ⟨j1 rfl, hQ F2 al2 D H2 (ex1.trans (exD.trans ex2)) co2 hD2⟩
theorem wipe1 {σ : L2.St} {j : Nat} {v : V} : (wipe σ [j]).set j (some v) = σ.set j (some v) := by
  show (σ.set j none).set j (some v) = _
  rw [List.set_set]
theorem wipe1' {σ : L2.St} {j : Nat} {v : V} : wipe (σ.set j (some v)) [j] = wipe σ [j] := by
  show (σ.set j (some v)).set j none = σ.set j none
  rw [List.set_set]
/-- what a comprehension over one name asks of each item -/
structure LcOk (X : Cx) (c : Cc) (sc : Scope) (ifs : List Expr) (elt : Expr) (r : Rho) (S : Sto) (q : Bool) (d : D) : Prop where
  test : ∀ acc, Blk X sc fun X' => ETs X' c.no ifs r (S ++ [.lst acc]) q
  elt : q = true → ∀ acc, Blk X sc fun X' => EE X' c.no elt r (S ++ [.lst acc]) (.dat d)
theorem lc_of (f : Item → D) (q : Item → Bool) {its : List Item} {keep : Sto → Prop} {j : Nat} {wi : TI} {Qv : VK} {σ : L2.St}
    (hw : ∀ RR : It → Hp → Prop, (∀ J H' F' al', Ext F al F' al' → Core X c F' al' S H' → Slots X c F' al' r σ → JOk X c J F' al' its keep → RR J H') → wi σ H RR)
    (hkeep : ∀ acc, keep (S ++ [.lst acc])) (hlen : its.length ≤ 100000)
    (hs : ∀ it ∈ its, ∃ s, it = .one s ∧ LcOk X c sc ifs elt (r.set j (some s)) S (q it) (f it))
    (hQ : ∀ F' al' D H', Ext F al F' al' → Core X c F' al' (S ++ [.lst (dats ((its.filter q).map f))]) H' → al'[S.length]? = some D → Qv (.ref D) H') : tLc wi (gName j) (tTB X sc ifs) (tEB X sc elt) [j] σ H Qv := by
  refine lc_read (j := j) f q hw hkeep hlen (fun it hit acc F2 al2 H2 v co2 sl2 ok Rk k => ?_) hQ
  obtain ⟨s, rfl, h⟩ := hs it hit
  show Rk ((wipe σ [j]).set j (some v)) H2
  rw [wipe1]
  have sl3 := sl2.set (i := j) ok
  refine k _ F2 al2 H2 Ext.refl co2 wipe1' (fun s0 H0 C cl fp => (h.test acc s0 H0 C cl fp) _ H2 F2 al2 co2 sl3) fun hq F4 al4 H4 ex4 co4 s0 H0 C cl fp => ?_
  exact ((h.elt hq acc s0 H0 C cl fp) (fun x S' => x = .dat (f (.one s)) ∧ S' = S ++ [.lst acc]) ⟨rfl, rfl⟩).tw co4 (sl3.mono ex4)
theorem eb_self {sc : Scope} : ∀ (s : Shared) (H : Hp) (C : Addr) (cl : List (Str × Addr)) (fp : List Addr), PE (X.blk s H sc (compEnvC sc cl C X.env) fp) elt (tEB X sc elt) := fun s0 H0 C cl fp => ⟨fun pins s σ H Q I h => h s0 H0 C cl fp pins s I⟩
theorem tb_self {sc : Scope} : ∀ (s : Shared) (H : Hp) (C : Addr) (cl : List (Str × Addr)) (fp : List Addr), PTs (X.blk s H sc (compEnvC sc cl C X.env) fp) ifs (tTB X sc ifs) := fun s0 H0 C cl fp => ⟨fun pins s σ H Q I h => h s0 H0 C cl fp pins s I⟩
/-- [elt for n in iter if ..], an owned list -/
theorem ew_lc (f : Item → D) (q : Item → Bool) {its : List Item} {keep : Sto → Prop} (j : Nat) {Q : Sl → Sto → Prop} (hi : IW X c (.Name n p) iter r S its keep) (hN : X.N.Nodup) (hc : X.calm = true) (hkeep : ∀ acc, keep (S ++ [.lst acc])) (hlen : its.length ≤ 100000)
    (hs : ∀ it ∈ its, ∃ s, it = .one s ∧ LcOk X c sc ifs elt (r.set j (some s)) S (q it) (f it))
    (hQ : Q (.ptr S.length) (S ++ [.lst (dats ((its.filter q).map f))])) (ok : BlkOk X.N X.env.scope sc [(n, j)])
    (hg : ∀ (s : Shared) (H : Hp) (C : Addr) (cl : List (Str × Addr)) (fp : List Addr), PG (X.blk s H sc (compEnvC sc cl C X.env) fp) (.Name n p) (gName j)) (hst : ∀ x, foldedSetIterable iter X.env x = pure x := by intro _; rfl) :
    EW X c (.ListComp elt [⟨.Name n p, iter, ifs, 0⟩] sc pos) r S Q := by
  obtain ⟨wi, p1, hw⟩ := hi.ex
  exact EW.of (pe_lc (own := [(n, j)]) hc hN p1 ok hg tb_self eb_self hst) fun σ H F al co sl => lc_of f q (hw σ H F al co sl) hkeep hlen hs fun F' al' D H' ex co' hD => ⟨F', al', .ptr S.length, _, ex, co', ⟨D, hD, rfl⟩, hQ⟩
/-- y = [elt for n in iter if ..] on one row -/
theorem w1_setLc (i : Nat) (f : Item → D) (q : Item → Bool) {its : List Item} {keep : Sto → Prop} (j : Nat) {m : Str} (hi : IW X c (.Name n p) iter r S its keep) (hN : X.N.Nodup) (hc : X.calm = true) (hkeep : ∀ acc, keep (S ++ [.lst acc])) (hlen : its.length ≤ 100000)
    (hs : ∀ it ∈ its, ∃ s, it = .one s ∧ LcOk X c sc ifs elt (r.set j (some s)) S (q it) (f it))
    (hQ : R.nx (r.set i (some (.ptr S.length))) (S ++ [.lst (dats ((its.filter q).map f))])) (ok : BlkOk X.N X.env.scope sc [(n, j)])
    (hg : ∀ (s : Shared) (H : Hp) (C : Addr) (cl : List (Str × Addr)) (fp : List Addr), PG (X.blk s H sc (compEnvC sc cl C X.env) fp) (.Name n p) (gName j))
    (hsw : swapsWith (.ListComp elt [⟨.Name n p, iter, ifs, 0⟩] sc pos) (some (.Name m pos')) apos.line X.env = pure true)
    (hy : X.N[i]? = some m := by rfl) (hyl : X.env.scope.names.lookup m = some .local := by rfl) (hst : ∀ x, foldedSetIterable iter X.env x = pure x := by intro _; rfl) :
    W1 X c (.Assign [.Name m pos'] (.ListComp elt [⟨.Name n p, iter, ifs, 0⟩] sc pos) apos) r S R := by
  obtain ⟨wi, p1, hw⟩ := hi.ex
  refine W1.of (ps_setLc (own := [(n, j)]) hc hN hy hyl hsw p1 ok hg tb_self eb_self hst) fun σ H F al co sl => ?_
  exact lc_of (Qv := fun x H1 => (endsOf X c F al R).nx (σ.set i (some x)) H1) f q (hw σ H F al co sl) hkeep hlen hs fun F' al' D H' ex co' hD => ⟨F', al', _, _, ex, co', (sl.mono ex).set (s := .ptr S.length) ⟨D, hD, rfl⟩, hQ⟩
end
end Dz

namespace Dz
open PySem L2
section
variable {X : Cx} {c : Cc} {e a b o tg iter elt : Expr} {es ts ifs : List Expr} {st : Stmt} {sts rest body : List Stmt} {r : Rho} {S : Sto} {R : Res} {pos p apos cpos pos' : Pos} {x y : Sl} {n m : Str} {k : Nat} {xs ys : List Sl} {ds : List Sl} {i j : Int} {F H : Hp} {al : List Addr} {v : V}
/-! great numbers -/
theorem op_mulB : OpR X (binaryOp .Mult) (rI IntMulOk fun i j => .int (i * j)) := opI fun _ _ _ _ _ _ _ hc q => PyProof.Rows.mul_int q hc
theorem mul_ok {m n : Nat} (h1 : Builtin.Int.intBits i ≤ m) (h2 : Builtin.Int.intBits j ≤ n) (h : m + n ≤ 100000000) : IntMulOk i j := by
  unfold IntMulOk
  intro z
  rw [Bool.and_eq_true] at z
  have z2 := z.2
  unfold Builtin.Int.intTooBig at z2
  have z3 := of_decide_eq_true z2
  have e : bitsLine = 134217728 := by decide
  rw [e] at z3
  omega
theorem bits_lt {n : Nat} (h : i.natAbs < 2 ^ n) (hn : 0 < n) : Builtin.Int.intBits i ≤ n := by
  have b : Builtin.Int.intBits i ≤ i.natAbs.log2 + 1 := by
    unfold Builtin.Int.intBits
    split <;> omega
  have := PySem.Flt.log2_lt_of hn h
  omega
theorem lt_bits {n : Nat} (h : Builtin.Int.intBits i ≤ n) : i.natAbs < 2 ^ n := by
  unfold Builtin.Int.intBits at h
  split at h
  · rename_i hz
    have : i.natAbs = 0 := by simpa using hz
    rw [this]
    exact Nat.pow_pos (by decide)
  · exact Nat.lt_of_lt_of_le Nat.lt_log2_self (Nat.pow_le_pow_right (by decide) h)
theorem ee_mulB (ha : EE X c a r S (DI i)) (hb : EE X c b r S (DI j)) (h : IntMulOk i j) : EE X c (.BinOp a .Mult b pos) r S (DI (i * j)) := ee_i1 (gd := fun i j => .int (i * j)) (pe_op op_mulB pe_self pe_self) (fun _ _ _ => .int _) ha hb h
theorem ee_fdivW (ha : EE X c a r S (DI i)) (hb : EE X c b r S (DI j)) (h : CDivW i j) : EE X c (.BinOp a .FloorDiv b pos) r S (DI (i / j)) := ee_i1 (gd := fun i j => .int (i / j)) (pe_op op_fdivW pe_self pe_self) (fun _ _ _ => .int _) ha hb h
theorem ee_pow (ha : EE X c a r S (DI i)) (hb : EE X c b r S (DI j)) (h : CPow i j := by exact ⟨by decide, by decide, by decide⟩) : EE X c (.BinOp a .Pow b pos) r S (DI (i ^ j.toNat)) := ee_i1 (gd := fun i j => .int (i ^ j.toNat)) (pe_op op_pow pe_self pe_self) (fun _ _ _ => .int _) ha hb h
theorem ee_shl (ha : EE X c a r S (DI i)) (hb : EE X c b r S (DI j)) (h : CPow i j) : EE X c (.BinOp a .LShift b pos) r S (DI (i * 2 ^ j.toNat)) := ee_i1 (gd := fun i j => .int (i * 2 ^ j.toNat)) (pe_op op_shl pe_self pe_self) (fun _ _ _ => .int _) ha hb h
theorem ee_shr (ha : EE X c a r S (DI i)) (hb : EE X c b r S (DI j)) (h : 0 ≤ j) : EE X c (.BinOp a .RShift b pos) r S (DI (i / 2 ^ j.toNat)) := ee_i1 (gd := fun i j => .int (i / 2 ^ j.toNat)) (pe_op op_shr pe_self pe_self) (fun _ _ _ => .int _) ha hb h
theorem ee_neg (ha : EE X c a r S (DI i)) : EE X c (.UnaryOp .USub a pos) r S (DI (-i)) := fun Q q => EW.of (pe_un un_neg pe_self) fun σ H F al co sl => te_then ha co sl fun v H1 F1 al1 ex1 co1 sl1 rv => ⟨i, rp_int rv, (VQ.here co1 (sl := DI (-i)) (Rp.int _) q).up ex1⟩
/-! attributes stored -/
def putS (f : Str) (s : Sl) : List (Str × Sl) → List (Str × Sl)
  | [] => [(f, s)]
  | (g, t) :: r => if g = f then (g, s) :: r else (g, t) :: putS f s r
theorem prf_put {P : Program} {w : World} {K : PySem.W.Frag} {f : Str} {s : Sl} (rv : RpS P w K B F al v s) : ∀ {vs : List (Str × V)} {ds : List (Str × Sl)}, Paired (fun (e : Str × V) (q : Str × Sl) => e.1 = q.1 ∧ RpS P w K B F al e.2 q.2) vs ds → Paired (fun (e : Str × V) (q : Str × Sl) => e.1 = q.1 ∧ RpS P w K B F al e.2 q.2) (putF f v vs) (putS f s ds)
  | [], [], .nil => .cons ⟨rfl, rv⟩ .nil
  | (g, u) :: vs, (g', t) :: ds, .cons ⟨e1, h⟩ tl => by
    have e1 : g = g' := e1
    subst e1
    unfold putF putS
    by_cases hg : g = f
    · rw [if_pos hg, if_pos hg]; exact .cons ⟨rfl, rv⟩ tl
    · rw [if_neg hg, if_neg hg]; exact .cons ⟨rfl, h⟩ (prf_put rv tl)
theorem w1_fld {C : Addr} {fs0 : List (Str × Sl)} (he : EW X c e r S fun y S1 => EE X c o r S1 (.ptr k) ∧ ∃ fs, S1[k]? = some (.obj C fs) ∧ fs.length < 1000 ∧ R.nx r (S1.set k (.obj C (putS n y fs)))) (cl : Cls X.K C) (na : NoAttr X.K C n)
    (hs : swapsWith e (some (.Attribute o n pos')) pos.line X.env = pure false := by rfl) : W1 X c (.Assign [.Attribute o n pos'] e pos) r S R :=
  W1.of (ps_fld pe_self pe_self hs) fun σ H F al co sl => tW_then he co sl fun v H1 F1 al1 y S1 ex1 co1 sl1 rv ⟨ho, fs, h1, h2, hR⟩ => te_then ho co1 sl1 fun u H2 F2 al2 ex2 co2 sl2 ru => by
    obtain ⟨q, hq, rfl⟩ := ru
    obtain ⟨dx, vfs, h3, h4⟩ := co2.cells k q _ hq h1
    refine ⟨q, C, dx, vfs, rfl, h3, cl, na, by rw [paired_len h4]; exact h2, F2, al2, r, _, ex1.trans ex2, co2.put hq h1 (by intro z; cases z) (d := .obj C (putS n y fs)) ⟨dx, _, upd_same, prf_put (rv.mono ex2) h4⟩, sl2, hR⟩
theorem w1_fldadd {C : Addr} {fs : List (Str × Sl)} (ho : EE X c o r S (.ptr k)) (hk : S[k]? = some (.obj C fs)) (hf : fs.lookup n = some (DI i)) (he : EE X c e r S (DI j)) (cl : Cls X.K C) (na : NoAttr X.K C n) (hl : fs.length < 1000)
    (hR : R.nx r (S.set k (.obj C (putS n (DI (i + j)) fs)))) : W1 X c (.AugAssign (.Attribute o n pos') .Add e pos) r S R :=
  W1.of (ps_fldaug pe_self pe_self in_add) fun σ H F al co sl => te_then ho co sl fun u H1 F1 al1 ex1 co1 sl1 ru => by
    obtain ⟨q, hq, rfl⟩ := ru
    obtain ⟨dx, vfs, h3, h4⟩ := co1.cells k q _ hq hk
    obtain ⟨u, hu, ru⟩ := prf_lookup h4 hf
    refine ⟨q, C, dx, vfs, u, rfl, h3, cl, na, hu, te_then he co1 sl1 fun v H2 F2 al2 ex2 co2 sl2 rv => ⟨i, j, rp_int ru, rp_int rv, ?_⟩⟩
    have hq2 := ext_at ex2 hq
    obtain ⟨dx2, vfs2, h5, h6⟩ := co2.cells k q _ hq2 hk
    exact ⟨dx2, vfs2, h5, by rw [paired_len h6]; exact hl, F2, al2, r, _, ex1.trans ex2, co2.put hq2 hk (by intro z; cases z) (d := .obj C (putS n (DI (i + j)) fs)) ⟨dx2, _, upd_same, prf_put (s := DI (i + j)) (Rp.int _) h6⟩, sl2, hR⟩
/-! ### a cell given up, in the slots and in the store -/
def meltSl (k : Nat) (d : D) : Sl → Sl
  | .ptr j => if j = k then .dat d else .ptr j
  | s => s
def meltC (k : Nat) (d : D) : Cell → Cell
  | .gone => .gone
  | .lst xs => .lst (xs.map (meltSl k d))
  | .dct kvs => .dct (kvs.map fun q => (q.1, meltSl k d q.2))
  | .dK kvs => .dK (kvs.map fun q => (q.1, meltSl k d q.2))
  | .obj C fs => .obj C (fs.map fun q => (q.1, meltSl k d q.2))
def meltR (k : Nat) (d : D) (r : Rho) : Rho := r.map (Option.map (meltSl k d))
def meltS (k : Nat) (d : D) (S : Sto) : Sto := (S.set k .gone).map (meltC k d)
theorem melt_sl {P : Program} {w : World} {K : PySem.W.Frag} {q : Addr} {d : D} (hq : al[k]? = some q) (hd : Rp P w K F (.ref q) d) {s : Sl} (h : RpS P w K B F al v s) : RpS P w K B F al v (meltSl k d s) := by
  cases s with
  | dat d' => exact h
  | bor d' => exact h
  | ptr j =>
    show RpS P w K B F al v (if j = k then .dat d else .ptr j)
    by_cases hj : j = k
    · rw [if_pos hj]
      obtain ⟨q', h1, rfl⟩ := h
      rw [hj, hq] at h1
      cases h1
      exact hd
    · rw [if_neg hj]; exact h
theorem paired_map_r {α β γ : Type} {G : α → β → Prop} {G' : α → γ → Prop} {f : β → γ} (hf : ∀ a b, G a b → G' a (f b)) : ∀ {l₁ : List α} {l₂ : List β}, Paired G l₁ l₂ → Paired G' l₁ (l₂.map f)
  | _, _, .nil => .nil
  | _, _, .cons q t => .cons (hf _ _ q) (paired_map_r hf t)
theorem melt_cell {P : Program} {w : World} {K : PySem.W.Frag} {q q2 : Addr} {d : D} {c0 : Cell} (hq : al[k]? = some q) (hd : Rp P w K F (.ref q) d) (h : CellOk P w K B F al H q2 c0) : CellOk P w K B F al H q2 (meltC k d c0) := by
  cases c0 with
  | gone => trivial
  | lst xs => obtain ⟨vs, h1, h2⟩ := h; exact ⟨vs, h1, paired_map_r (fun _ _ z => melt_sl hq hd z) h2⟩
  | dct kvs => obtain ⟨vs, h1, h2⟩ := h; exact ⟨vs, h1, paired_map_r (fun _ _ z => ⟨z.1, z.2.1, melt_sl hq hd z.2.2⟩) h2⟩
  | dK kvs => obtain ⟨vs, h1, h2⟩ := h; exact ⟨vs, h1, paired_map_r (fun _ _ z => ⟨z.1, melt_sl hq hd z.2⟩) h2⟩
  | obj C fs => obtain ⟨dx, vs, h1, h2⟩ := h; exact ⟨dx, vs, h1, paired_map_r (fun _ _ z => ⟨z.1, melt_sl hq hd z.2⟩) h2⟩
theorem meltC_gone {d : D} {c0 : Cell} (h : meltC k d c0 ≠ .gone) : c0 ≠ .gone := by
  intro z; subst z; exact h rfl
/-- from here on the k-th cell is the frozen d -/
theorem ws_melt (k : Nat) {d0 : Cell} {d : D} (h0 : S[k]? = some d0) (m : Melt d0 d) (h : WS X c sts (meltR k d r) (meltS k d S) R) : WS X c sts r S R := fun σ H F al co sl => by
  have hk : k < al.length := by rw [co.len]; exact (List.getElem?_eq_some_iff.mp h0).1
  obtain ⟨F', ex, co', rd⟩ := co.melt (List.getElem?_eq_getElem hk) h0 m
  have hq : al[k]? = some al[k] := List.getElem?_eq_getElem hk
  have co2 : Core X c F' al (meltS k d S) H := by
    refine ⟨co'.pre, co'.sub, co'.base, co'.f0, co'.fr, by rw [co'.len]; simp [meltS], co'.nd, co'.trk, fun j q c1 e1 e2 e3 => ?_, fun j q c1 e1 e2 => ?_⟩
    · unfold meltS at e2
      rw [List.getElem?_map] at e2
      obtain ⟨c2, h2, rfl⟩ := Option.map_eq_some_iff.mp e2
      exact co'.own j q c2 e1 h2 (meltC_gone e3)
    · unfold meltS at e2
      rw [List.getElem?_map] at e2
      obtain ⟨c2, h2, rfl⟩ := Option.map_eq_some_iff.mp e2
      exact melt_cell hq rd (co'.cells j q c2 e1 h2)
  have sl2 : Slots X c F' al (meltR k d r) σ := ⟨by simp [meltR, sl.1], fun i s e => by
    unfold meltR at e
    rw [List.getElem?_map] at e
    obtain ⟨s1, h1, h2⟩ := Option.map_eq_some_iff.mp e
    obtain ⟨s2, rfl, rfl⟩ := Option.map_eq_some_iff.mp h2
    obtain ⟨v, hv, rv⟩ := (sl.mono ex).2 i s2 h1
    exact ⟨v, hv, melt_sl hq rd rv⟩⟩
  exact tWSs_up ex (h σ H F' al co2 sl2)
/-! ### objects made, methods called -/
theorem rpf_dat {P : Program} {w : World} {K : PySem.W.Frag} : ∀ {vs : List (Str × V)} {fs : List (Str × D)}, Rpf P w K F vs fs → Paired (fun (e : Str × V) (q : Str × Sl) => e.1 = q.1 ∧ RpS P w K B F al e.2 q.2) vs (fs.map fun q => (q.1, .dat q.2))
  | _, [], .nil => .nil
  | _, _ :: _, .cons h t => .cons ⟨rfl, h⟩ (rpf_dat t)
abbrev datF (fs : List (Str × D)) : List (Str × Sl) := fs.map fun q => (q.1, .dat q.2)
theorem run_makeS {Cc' : Addr} {f : Addr} {fd : FuncData} {ps : List Str} {sp : Sp} {kk : Nat} {pins : List (Addr × Obj)} {σ : L2.St} {s : Shared} {Q : VK} {us : List Value} {vs : List V} {E : L2.St → XK} (M : Mk X.K Cc' f) (Fn : FnOk X.prog X.w X.K X.mg X.base (L2.CX X.prog X.w) kk f fd ps sp) (hr : Room (kk + 1) X.A) (hb : Binds X.K fd ps [])
    (hx : PassesAt (L2.CX X.prog X.w) X σ (E σ)) (I : Inv X pins σ H s) (rr : Vals vs us)
    (h : ∀ x dx, H x = none → H dx = none → dx ≠ x → sp (.ref x :: vs) (upd (upd H dx (.own x)) x (.ins Cc' dx [])) (fun v H2 => v = .non ∧ Q (.ref x) H2) (E σ)) :
    wpAny (model X.prog X.w) X.A (call (.ref Cc') us) (EP X pins σ Q) X.xe s := by
  have hq := h (s.heap.objs.size + 1) s.heap.objs.size (I.hok.fresh (Nat.le_succ _)) (I.hok.fresh (Nat.le_refl _)) (Nat.ne_of_lt (Nat.lt_succ_self _))
  have I2 := Inv.made (C := Cc') I
  have r2 : Vals (V.ref (s.heap.objs.size + 1) :: vs) (Value.ref (s.heap.objs.size + 1) :: us) := .cons rfl rr
  have hl : (Value.ref (s.heap.objs.size + 1) :: us).length = ps.length := by
    have e := r2.length
    rw [Fn.len _ _ _ _ hq] at e
    exact e.symm
  have bb := hb _ (Value.ref (s.heap.objs.size + 1) :: us) I2.kIn (by simpa using hl)
  rw [List.append_nil] at bb
  refine wpAny_call (make_map (f := f) I.kIn M.makes M.init (beq_iff_eq.mp M.fn) (codeAny_mono (Fn.run _ X.stack _ _ ⟨Value.ref (s.heap.objs.size + 1) :: us, []⟩ (Value.ref (s.heap.objs.size + 1) :: us) _ _ (E σ) (hr.make Cc' us [])
    (I2.env0.make Cc' us []) bb r2 hq) fun r s' hq' => ?_))
  cases r with
  | error e => exact hx pins _ _ e s' I2 hq'
  | ok fl =>
    cases fl with
    | ret u =>
      obtain ⟨v, H', I3, rv, ev, q3⟩ := I2.after hq'
      subst ev
      exact ⟨rv, ⟨V.ref (s.heap.objs.size + 1), H', I3, rfl, q3⟩⟩
    | next => exact False.elim hq'
    | brk => exact False.elim hq'
    | cont => exact False.elim hq'
theorem pe_makeS {Cc' : Addr} {f : Addr} {fd : FuncData} {ps : List Str} {sp : Sp} {kk : Nat} {E : L2.St → XK} {t : TA} (M : Mk X.K Cc' f) (Fn : FnOk X.prog X.w X.K X.mg X.base (L2.CX X.prog X.w) kk f fd ps sp) (hr : Room (kk + 1) X.A) (hg : Gl X n) (hm : X.mg n = some (.ref Cc')) (hb : Binds X.K fd ps [])
    (hx : ∀ σ, PassesAt (L2.CX X.prog X.w) X σ (E σ)) (ha : PA X (e :: es) t) (hdb : (n == ("__debug__" : Str)) = false := by decide) (he : starEach (e :: es) X.env = (false, eval e X.env) :: starEach es X.env := by rfl) (hpl : (backTo pos (starEach es X.env)).any (·.1) = false := by rfl) :
    PE X (.Call (.Name n p) (e :: es) [] pos) (fun σ H Q => t σ H fun vs H1 => ∀ x dx, H1 x = none → H1 dx = none → dx ≠ x → sp (.ref x :: vs) (upd (upd H1 dx (.own x)) x (.ins Cc' dx [])) (fun v H2 => v = .non ∧ Q (.ref x) H2) (E σ)) := by
  refine ⟨fun pins s σ H Q I h => ?_⟩
  refine wpAny_Call_Name_kw (ld_glob I hg hm ?_ hdb)
  refine PySem.W.callWith_K (h₀ := X.base) I.ok.mod.kin M.kp (thn (ha.run pos pins s σ H _ I h) fun us s1 ⟨vs, H1, I1, r, q⟩ => ⟨I1.kIn, ?_⟩) he hpl
  exact run_makeS M Fn hr hb (hx σ) I1 r q
theorem pe_makeS0 {Cc' : Addr} {f : Addr} {fd : FuncData} {ps : List Str} {sp : Sp} {kk : Nat} {E : L2.St → XK} (M : Mk X.K Cc' f) (Fn : FnOk X.prog X.w X.K X.mg X.base (L2.CX X.prog X.w) kk f fd ps sp) (hr : Room (kk + 1) X.A) (hg : Gl X n) (hm : X.mg n = some (.ref Cc')) (hb : Binds X.K fd ps [])
    (hx : ∀ σ, PassesAt (L2.CX X.prog X.w) X σ (E σ)) (hdb : (n == ("__debug__" : Str)) = false := by decide) :
    PE X (.Call (.Name n p) [] [] pos) (fun σ H1 Q => ∀ x dx, H1 x = none → H1 dx = none → dx ≠ x → sp [.ref x] (upd (upd H1 dx (.own x)) x (.ins Cc' dx [])) (fun v H2 => v = .non ∧ Q (.ref x) H2) (E σ)) := by
  refine ⟨fun pins s σ H Q I h => ?_⟩
  refine wpAny_Call_Name_kw (ld_glob I hg hm ?_ hdb)
  exact PySem.W.callWith_K0 I.kIn M.kp (run_makeS (us := []) M Fn hr hb (hx σ) I .nil h)
/-- what making gives, over data: a new owned object -/
theorem make_of {Fb : Hp} {alb : List Addr} (exb : Ext Fb alb F al) {C : Addr} {R : RelM} {res : Except Value (D × List (Str × D))} {Q : Sl → Sto → Prop} {σ : L2.St} {vs : List V} (co : Core X c F al S H) (sl : Slots X c F al r σ) (rv : ArgS X.prog X.w X.K H F vs ds) (hR : R [] ds res)
    (ho : ∀ d fs, res = .ok (d, fs) → d = .non ∧ Q (.ptr S.length) (S ++ [.obj C (datF fs)])) (he : ∀ cls, res = .error cls → c.ex cls r S) : ∀ x dx, H x = none → H dx = none → dx ≠ x →
    SpM X.prog X.w X.K C R (.ref x :: vs) (upd (upd H dx (.own x)) x (.ins C dx [])) (fun v H2 => v = .non ∧ VQ X c Fb alb Q (.ref x) H2) (WE (wxOf X c) σ) := fun x dx hx hd hne => by
  have s1 : Same H (upd (upd H dx (.own x)) x (.ins C dx [])) := fun b u e => by
    rw [upd_ne (ne_of_none e hx), upd_ne (ne_of_none e hd)]; exact e
  have hFx : F x = none := co.sub.free hx
  have rv2 : ArgS X.prog X.w X.K (del (upd (upd H dx (.own x)) x (.ins C dx [])) x) F vs ds := Paired.mono' (fun v s h => by
    rcases h with ⟨d, e, h⟩ | ⟨d, e, h⟩
    · exact .inl ⟨d, e, h⟩
    · exact .inr ⟨d, e, h.mono (same_del s1 hx) (Same.refl _)⟩) rv
  refine ⟨F, x, dx, [], [], vs, ds, res, rfl, co.sub.trans s1, hFx, upd_same, .nil, rv2, hR, ?_⟩
  cases res with
  | error cls => exact fun H' F' vfs' dx' h1 h2 h3 h4 h5 h6 => ⟨rfl, F, al, r, S, co.kept (fun b u e => h1 b u (ne_of_none e hx) (s1 b u e)), sl, he cls rfl⟩
  | ok q =>
    obtain ⟨d, fs⟩ := q
    intro v H' F' vfs' dx' h1 h2 h3 h4 h5 h6 h7
    obtain ⟨e, hQ⟩ := ho d fs rfl
    subst e
    refine ⟨by cases h7; rfl, ?_⟩
    have sH : Same H H' := fun b u e => h1 b u (ne_of_none e hx) (s1 b u e)
    have hF'x : F' x = none := by
      cases q : F' x with
      | none => rfl
      | some o =>
        rcases h4 x o q with z | z
        · rw [hFx] at z; cases z
        · rw [upd_same] at z; cases z
    have co1 : Core X c F' al S H' := co.grow sH h2 h3 fun b o e => by
      rcases h4 b o e with z | z
      · exact .inl z
      · right
        cases q : H b with
        | none => rfl
        | some u => rw [s1 b u q] at z; cases z
    have ex : Ext F al F' (al ++ [x]) := ⟨h2, [x], rfl⟩
    have ex2 : Ext F' al F' (al ++ [x]) := ⟨Same.refl _, [x], rfl⟩
    -- the new cell
    have co2 : Core X c F' (al ++ [x]) (S ++ [.obj C (datF fs)]) H' := by
      have nal : ∀ k q, al[k]? = some q → q ≠ x := fun k q e z => by
        obtain ⟨o', y⟩ := co.trk k q e
        rw [z, hx] at y; cases y
      have at_ : ∀ k q, (al ++ [x])[k]? = some q → (al[k]? = some q ∧ k < al.length) ∨ (k = al.length ∧ q = x) := fun k q e => by
        by_cases hk : k < al.length
        · rw [List.getElem?_append_left hk] at e; exact .inl ⟨e, hk⟩
        · rw [List.getElem?_append_right (Nat.le_of_not_lt hk)] at e
          have : k - al.length = 0 := by
            have := (List.getElem?_eq_some_iff.mp e).1
            simp at this; omega
          rw [this] at e
          simp at e
          exact .inr ⟨by omega, e.symm⟩
      have sAt : ∀ k c0, k < al.length → (S ++ [Cell.obj C (datF fs)])[k]? = some c0 → S[k]? = some c0 := fun k x hk e => by
        rw [List.getElem?_append_left (by rw [← co.len]; exact hk)] at e; exact e
      refine ⟨(by obtain ⟨be, hb⟩ := co.pre; exact ⟨be ++ [x], by rw [hb, List.append_assoc]⟩), co1.sub, co1.base, co1.f0, co1.fr, by simp [co.len], ?_, fun k q e => ?_, fun k q c0 e1 e2 e3 => ?_, fun k q c0 e1 e2 => ?_⟩
      · refine List.nodup_append.mpr ⟨co.nd, by simp, fun a ha b hb => ?_⟩
        have hb' : b = x := by simpa using hb
        rw [hb']
        obtain ⟨k, hk, e⟩ := List.mem_iff_getElem.mp ha
        exact nal k a (by rw [List.getElem?_eq_getElem hk, e])
      · rcases at_ k q e with ⟨z, _⟩ | ⟨_, rfl⟩
        · exact co1.trk k q z
        · exact ⟨_, h5⟩
      · rcases at_ k q e1 with ⟨z, hk⟩ | ⟨hk, rfl⟩
        · exact co1.own k q c0 z (sAt k c0 hk e2) e3
        · exact ⟨co.base.free hx, hF'x⟩
      · rcases at_ k q e1 with ⟨z, hk⟩ | ⟨hk, rfl⟩
        · exact (co1.cells k q c0 z (sAt k c0 hk e2)).mono ex2 fun _ => rfl
        · rw [hk, co.len, List.getElem?_append_right (Nat.le_refl _)] at e2
          simp at e2
          rw [← e2]
          exact ⟨dx', vfs', h5, rpf_dat h6⟩
    exact ⟨F', al ++ [x], .ptr S.length, _, exb.trans ex, co2, ⟨x, by rw [List.getElem?_append_right (by rw [co.len]; exact Nat.le_refl _), co.len, Nat.sub_self]; rfl, rfl⟩, hQ⟩
theorem ew_make {C : Addr} {R : RelM} {res : Except Value (D × List (Str × D))} {Q : Sl → Sto → Prop} (d : DefC X.prog X.w X.K X.mg X.base n C k (SpM X.prog X.w X.K C R)) (tk : Takes X (wxOf X c)) (hr : Room (k + 1) X.A) {sls : List Sl} (ha : EA X c (e :: es) r S sls) (hl : Paired (Lend S) sls ds) (hR : R [] ds res)
    (ho : ∀ d fs, res = .ok (d, fs) → d = .non ∧ Q (.ptr S.length) (S ++ [.obj C (datF fs)])) (he : ∀ cls, res = .error cls → c.ex cls r S) (hg : Gl X n := by rfl) (hdb : (n == ("__debug__" : Str)) = false := by decide)
    (hst : starEach (e :: es) X.env = (false, eval e X.env) :: starEach es X.env := by rfl) (hpl : (backTo pos (starEach es X.env)).any (·.1) = false := by rfl) : EW X c (.Call (.Name n p) (e :: es) [] pos) r S Q := by
  obtain ⟨f, fd, ps, hm, M, hb, Fn⟩ := d.ex
  exact EW.of (pe_makeS M Fn hr hg hm hb (fun σ => passAt tk σ) pa_self hdb hst hpl) fun σ H F al co sl => ta_then ha co sl fun ws H1 F1 al1 ex1 co1 sl1 rvs x dx hx hd hne => make_of ex1 co1 sl1 (args_of co1 rvs hl) hR ho he x dx hx hd hne
theorem ew_make0 {C : Addr} {R : RelM} {res : Except Value (D × List (Str × D))} {Q : Sl → Sto → Prop} (d : DefC X.prog X.w X.K X.mg X.base n C k (SpM X.prog X.w X.K C R)) (tk : Takes X (wxOf X c)) (hr : Room (k + 1) X.A) (hR : R [] [] res)
    (ho : ∀ d fs, res = .ok (d, fs) → d = .non ∧ Q (.ptr S.length) (S ++ [.obj C (datF fs)])) (he : ∀ cls, res = .error cls → c.ex cls r S) (hg : Gl X n := by rfl) (hdb : (n == ("__debug__" : Str)) = false := by decide) : EW X c (.Call (.Name n p) [] [] pos) r S Q := by
  obtain ⟨f, fd, ps, hm, M, hb, Fn⟩ := d.ex
  exact EW.of (pe_makeS0 M Fn hr hg hm hb (fun σ => passAt tk σ) hdb) fun σ H F al co sl x dx hx hd hne => make_of Ext.refl co sl .nil hR ho he x dx hx hd hne
/-! methods -/
theorem pe_methS {C f : Addr} {fd : FuncData} {ps : List Str} {sp : Sp} {kk : Nat} {E : L2.St → XK} {ta : TE} {t : TA} {pl : Sem Bool} (he : PE X o ta) (cl : Cls X.K C) (hm : Meth X.K C m f) (Fn : FnOk X.prog X.w X.K X.mg X.base (L2.CX X.prog X.w) kk f fd ps sp) (hr : Room kk X.A) (hb : Binds X.K fd ps [])
    (hx : ∀ σ, PassesAt (L2.CX X.prog X.w) X σ (E σ)) (ha : PA X (e :: es) t)
    (hst : starEach (e :: es) X.env = (false, eval e X.env) :: starEach es X.env := by rfl) (hpl : (backTo pos (starEach es X.env)).any (·.1) = false := by rfl)
    (ht : eval (.Call (.Attribute o m apos) (e :: es) [] pos) X.env = (do
      let ov ← eval o X.env
      standAt apos.atName
      let (f, first) ← holding [ov] (getMethod ov m pl)
      callWith pos f first (backTo pos (starEach (e :: es) X.env)) (backToKw pos (keywordEach [] X.env))) := by rfl) :
    PE X (.Call (.Attribute o m apos) (e :: es) [] pos) (fun σ H Q => ta σ H fun x H1 => ∃ a dx fs, x = .ref a ∧ H1 a = some (.ins C dx fs) ∧ fs.lookup m = none ∧ t σ H1 fun vs H2 => sp (x :: vs) H2 Q (E σ)) := by
  refine ⟨fun pins s σ H Q I h => ?_⟩
  refine PySem.W.methodCall_KW (pl := pl) (thn (he.run pins s σ H _ I h) fun u s1 ⟨x, H1, I1, rx, a, dx, fs, ex, ea, l, q⟩ => ?_) ht
  subst ex
  obtain rfl : u = Value.ref a := rx
  refine getmeth_ok I1 ea cl hm l ?_
  refine PySem.W.callWith_K (first := [.ref a]) (h₀ := X.base) I.ok.mod.kin hm.kp (thn (ha.run pos pins s1 σ H1 _ I1 q) fun us s2 ⟨vs, H2, I2, r, q2⟩ => ⟨I2.kIn, ?_⟩) hst hpl
  exact run_fnS (us := .ref a :: us) (vs := .ref a :: vs) Fn hr hb (hx σ) I2 (.cons rfl r) q2
theorem pe_methS0 {C f : Addr} {fd : FuncData} {ps : List Str} {sp : Sp} {kk : Nat} {E : L2.St → XK} {ta : TE} {pl : Sem Bool} (he : PE X o ta) (cl : Cls X.K C) (hm : Meth X.K C m f) (Fn : FnOk X.prog X.w X.K X.mg X.base (L2.CX X.prog X.w) kk f fd ps sp) (hr : Room kk X.A) (hb : Binds X.K fd ps [])
    (hx : ∀ σ, PassesAt (L2.CX X.prog X.w) X σ (E σ))
    (ht : eval (.Call (.Attribute o m apos) [] [] pos) X.env = (do
      let ov ← eval o X.env
      standAt apos.atName
      let (f, first) ← holding [ov] (getMethod ov m pl)
      callWith pos f first (backTo pos (starEach [] X.env)) (backToKw pos (keywordEach [] X.env))) := by rfl) :
    PE X (.Call (.Attribute o m apos) [] [] pos) (fun σ H Q => ta σ H fun x H1 => ∃ a dx fs, x = .ref a ∧ H1 a = some (.ins C dx fs) ∧ fs.lookup m = none ∧ sp [x] H1 Q (E σ)) := by
  refine ⟨fun pins s σ H Q I h => ?_⟩
  refine PySem.W.methodCall_KW (pl := pl) (thn (he.run pins s σ H _ I h) fun u s1 ⟨x, H1, I1, rx, a, dx, fs, ex, ea, l, q⟩ => ?_) ht
  subst ex
  obtain rfl : u = Value.ref a := rx
  refine getmeth_ok I1 ea cl hm l ?_
  exact PySem.W.callWith_K0 (first := [.ref a]) I1.kIn hm.kp (run_fnS (us := [.ref a]) (vs := [.ref a]) Fn hr hb (hx σ) I1 (.cons rfl .nil) q)
theorem prf_none {P : Program} {w : World} {K : PySem.W.Frag} {f : Str} : ∀ {vs : List (Str × V)} {ds : List (Str × Sl)}, Paired (fun (e : Str × V) (q : Str × Sl) => e.1 = q.1 ∧ RpS P w K B F al e.2 q.2) vs ds → ds.lookup f = none → vs.lookup f = none
  | [], [], .nil, h => rfl
  | (g, v) :: vs, (g', s) :: ds, .cons ⟨e1, rv⟩ t, h => by
    have e1 : g = g' := e1
    subst e1
    rw [List.lookup_cons] at h ⊢
    cases e : f == g with
    | true => rw [e] at h; cases h
    | false => rw [e] at h; exact prf_none t h
theorem rpf_none {P : Program} {w : World} {K : PySem.W.Frag} {f : Str} : ∀ {vs : List (Str × V)} {ds : List (Str × D)}, Rpf P w K F vs ds → ds.lookup f = none → vs.lookup f = none
  | _, _, .nil, h => rfl
  | _, _, .cons (f := g) rv t, h => by
    rw [List.lookup_cons] at h ⊢
    cases e : f == g with
    | true => rw [e] at h; cases h
    | false => rw [e] at h; exact rpf_none t h
theorem rpf_back {P : Program} {w : World} {K : PySem.W.Frag} : ∀ {vs : List (Str × V)} {fs : List (Str × D)}, Paired (fun (e : Str × V) (q : Str × Sl) => e.1 = q.1 ∧ RpS P w K B F al e.2 q.2) vs (datF fs) → Rpf P w K F vs fs
  | [], [], .nil => .nil
  | (g, v) :: vs, (g', d) :: fs, .cons ⟨e1, rv⟩ t => by
    have e1 : g = g' := e1
    subst e1
    exact .cons rv (rpf_back t)
/-- what a method that keeps its promise gives, over data -/
theorem meth_of {Fb : Hp} {alb : List Addr} (exb : Ext Fb alb F al) {C : Addr} {R : RelM} {fs : List (Str × D)} {res : Except Value (D × List (Str × D))} {Q : Sl → Sto → Prop} {σ : L2.St} {vs : List V} {q : Addr} (co : Core X c F al S H) (sl : Slots X c F al r σ) (hq : al[k]? = some q) (hk : S[k]? = some (.obj C (datF fs)))
    (rv : ArgS X.prog X.w X.K (del H q) F vs ds) (hR : R fs ds res) (ho : ∀ d fs', res = .ok (d, fs') → Q (.dat d) (S.set k (.obj C (datF fs')))) (he : ∀ cls, res = .error cls → c.ex cls r S) :
    SpM X.prog X.w X.K C R (.ref q :: vs) H (VQ X c Fb alb Q) (WE (wxOf X c) σ) := by
  obtain ⟨dx, vfs, h1, h2⟩ := co.cells k q _ hq hk
  obtain ⟨b1, b2⟩ := co.own k q _ hq hk (by intro z; cases z)
  refine ⟨F, q, dx, vfs, fs, vs, ds, res, rfl, co.sub, b2, h1, rpf_back h2, rv, hR, ?_⟩
  have key : ∀ {H' F' : Hp} {vfs' : List (Str × V)} {dx' : Addr} {fs' : List (Str × D)}, (∀ a o, a ≠ q → H a = some o → H' a = some o) → Same F F' → Same F' H' → (∀ a o, F' a = some o → F a = some o ∨ H a = none) → H' q = some (.ins C dx' vfs') → Rpf X.prog X.w X.K F' vfs' fs' →
      Ext F al F' al ∧ Core X c F' al (S.set k (.obj C (datF fs'))) H' := by
    intro H' F' vfs' dx' fs' h3 h4 h5 h6 h7 h8
    have s1 : Same H (upd H' q (.ins C dx vfs)) := fun b u e => by
      by_cases hb : b = q
      · subst hb; rw [upd_same, ← e, h1]
      · rw [upd_ne hb]; exact h3 b u hb e
    have hF'q : F' q = none := by
      cases z : F' q with
      | none => rfl
      | some o =>
        rcases h6 q o z with y | y
        · rw [b2] at y; cases y
        · rw [h1] at y; cases y
    have s3 : Same F' (upd H' q (.ins C dx vfs)) := fun b u e => by
      rw [upd_ne (ne_of_none e hF'q)]; exact h5 b u e
    have co1 := co.grow s1 h4 s3 h6
    have co2 := co1.put hq hk (by intro z; cases z) (o := .ins C dx' vfs') (d := .obj C (datF fs')) ⟨dx', vfs', upd_same, rpf_dat h8⟩
    have e : upd (upd H' q (.ins C dx vfs)) q (.ins C dx' vfs') = H' := by
      rw [upd_upd]
      funext b
      by_cases hb : b = q
      · subst hb; rw [upd_same, h7]
      · rw [upd_ne hb]
    rw [e] at co2
    exact ⟨⟨h4, [], by simp⟩, co2⟩
  cases res with
  | error cls =>
    intro H' F' vfs' dx' h3 h4 h5 h6 h7 h8
    obtain ⟨ex1, co2⟩ := key h3 h4 h5 h6 h7 h8
    have e : S.set k (.obj C (datF fs)) = S := by
      obtain ⟨hl, e⟩ := List.getElem?_eq_some_iff.mp hk
      rw [← e]
      exact List.set_getElem_self hl
    rw [e] at co2
    exact ⟨rfl, F', al, r, S, co2, sl.mono ex1, he cls rfl⟩
  | ok z =>
    obtain ⟨d, fs'⟩ := z
    intro v H' F' vfs' dx' h3 h4 h5 h6 h7 h8 h9
    obtain ⟨ex1, co2⟩ := key h3 h4 h5 h6 h7 h8
    exact ⟨F', al, .dat d, _, exb.trans ex1, co2, h9, ho d fs' rfl⟩
theorem ew_meth {C : Addr} {R : RelM} {fs : List (Str × D)} {res : Except Value (D × List (Str × D))} {Q : Sl → Sto → Prop} {kk : Nat} {pl : Sem Bool} (d : DefM X.prog X.w X.K X.mg X.base C m kk (SpM X.prog X.w X.K C R)) (cl : Cls X.K C) (tk : Takes X (wxOf X c)) (hr : Room kk X.A) (ho : EE X c o r S (.ptr k)) (hk : S[k]? = some (.obj C (datF fs)))
    (hno : (datF fs).lookup m = none) {sls : List Sl} (ha : EA X c (e :: es) r S sls) (hl : Paired (Lend S) sls ds) (hR : R fs ds res) (hQ : ∀ d fs', res = .ok (d, fs') → Q (.dat d) (S.set k (.obj C (datF fs')))) (he : ∀ cls, res = .error cls → c.ex cls r S)
    (hst : starEach (e :: es) X.env = (false, eval e X.env) :: starEach es X.env := by rfl) (hpl : (backTo pos (starEach es X.env)).any (·.1) = false := by rfl)
    (ht : eval (.Call (.Attribute o m apos) (e :: es) [] pos) X.env = (do
      let ov ← eval o X.env
      standAt apos.atName
      let (f, first) ← holding [ov] (getMethod ov m pl)
      callWith pos f first (backTo pos (starEach (e :: es) X.env)) (backToKw pos (keywordEach [] X.env))) := by rfl) : EW X c (.Call (.Attribute o m apos) (e :: es) [] pos) r S Q := by
  obtain ⟨f, fd, ps, hm, hb, Fn⟩ := d.ex
  refine EW.of (pe_methS pe_self cl hm Fn hr hb (fun σ => passAt tk σ) pa_self hst hpl ht) fun σ H F al co sl => te_then ho co sl fun v H1 F1 al1 ex1 co1 sl1 rv => ?_
  obtain ⟨q, hq, rfl⟩ := rv
  obtain ⟨dx, vfs, h1, h2⟩ := co1.cells k q _ hq hk
  exact ⟨q, dx, vfs, rfl, h1, prf_none h2 hno, ta_then ha co1 sl1 fun vs H2 F2 al2 ex2 co2 sl2 rvs => meth_of (ex1.trans ex2) co2 sl2 (ext_at ex2 hq) hk (args_del co2 (ext_at ex2 hq) hk rvs hl) hR hQ he⟩
theorem ew_meth0 {C : Addr} {R : RelM} {fs : List (Str × D)} {res : Except Value (D × List (Str × D))} {Q : Sl → Sto → Prop} {kk : Nat} {pl : Sem Bool} (d : DefM X.prog X.w X.K X.mg X.base C m kk (SpM X.prog X.w X.K C R)) (cl : Cls X.K C) (tk : Takes X (wxOf X c)) (hr : Room kk X.A) (ho : EE X c o r S (.ptr k)) (hk : S[k]? = some (.obj C (datF fs)))
    (hno : (datF fs).lookup m = none) (hR : R fs [] res) (hQ : ∀ d fs', res = .ok (d, fs') → Q (.dat d) (S.set k (.obj C (datF fs')))) (he : ∀ cls, res = .error cls → c.ex cls r S)
    (ht : eval (.Call (.Attribute o m apos) [] [] pos) X.env = (do
      let ov ← eval o X.env
      standAt apos.atName
      let (f, first) ← holding [ov] (getMethod ov m pl)
      callWith pos f first (backTo pos (starEach [] X.env)) (backToKw pos (keywordEach [] X.env))) := by rfl) : EW X c (.Call (.Attribute o m apos) [] [] pos) r S Q := by
  obtain ⟨f, fd, ps, hm, hb, Fn⟩ := d.ex
  refine EW.of (pe_methS0 pe_self cl hm Fn hr hb (fun σ => passAt tk σ) ht) fun σ H F al co sl => te_then ho co sl fun v H1 F1 al1 ex1 co1 sl1 rv => ?_
  obtain ⟨q, hq, rfl⟩ := rv
  obtain ⟨dx, vfs, h1, h2⟩ := co1.cells k q _ hq hk
  exact ⟨q, dx, vfs, rfl, h1, prf_none h2 hno, meth_of (ds := []) ex1 co1 sl1 hq hk .nil hR hQ he⟩
end
/-! ### the rule for a method that changes its own object -/
section
variable {P : Program} {w : World} {K : PySem.W.Frag} {mg : Str → Option Value} {base : Heap}
def FzF (S : Sto) : List (Str × Sl) → List (Str × D) → Prop := Paired fun (a : Str × Sl) (b : Str × D) => a.1 = b.1 ∧ a.2 = .dat b.2
theorem fnM {x qual : Str} {st : Stmt} {f : Addr} {fd : FuncData} {N ps : List Str} {k : Nat} {C : Addr} {R : RelM} (Fn : Fun K x qual st f fd) (sc : FnScope N ps (defScope st)) (len : ∀ fs ds res, R fs ds res → ds.length + 1 = ps.length)
    (body : ∀ (cdv : Value) (A : Around) (outer : List Env) (s : Shared) (H : Hp) (E : XK) (c : Cc) (fs : List (Str × D)) (ds : List Sl) (res : Except Value (D × List (Str × D))), Room k (cxOf (L2.CX P w) P w K mg base N qual (defScope st) f cdv A outer s H E).A →
      Takes (cxOf (L2.CX P w) P w K mg base N qual (defScope st) f cdv A outer s H E) (wxOf (cxOf (L2.CX P w) P w K mg base N qual (defScope st) f cdv A outer s H E) c) →
      PassesOwn (model P w) (cxOf (L2.CX P w) P w K mg base N qual (defScope st) f cdv A outer s H E).A (cxOf (L2.CX P w) P w K mg base N qual (defScope st) f cdv A outer s H E).env (cxOf (L2.CX P w) P w K mg base N qual (defScope st) f cdv A outer s H E).xe →
      c.ex = (fun cls _ S => res = .error cls ∧ S[0]? = some (.obj C (datF fs))) → R fs ds res →
      WS (cxOf (L2.CX P w) P w K mg base N qual (defScope st) f cdv A outer s H E) c (defBody st) (startR N (.ptr 0 :: ds)) [.obj C (datF fs)]
        { nx := fun _ S => ∃ fs', res = .ok (.non, fs') ∧ S[0]? = some (.obj C (datF fs')), rt := fun sl S => ∃ d fs', res = .ok (d, fs') ∧ S[0]? = some (.obj C (datF fs')) ∧ sl = .dat d }) :
    FnOk P w K mg base (L2.CX P w) (k + 1) f fd ps (SpM P w K C R) := by
  refine Fun.okX Fn sc (fun vs H Q E h => ?_) (fun cdv A outer s H vs Q E hr h => ?_)
  · obtain ⟨F, p, dx, vfs, fs, us, ds, res, rfl, _, _, _, _, h1, h2, _⟩ := h
    rw [List.length_cons, h1.length]
    exact len fs ds res h2
  · obtain ⟨F, p, dx, vfs, fs, us, ds, res, rfl, hF, hFp, hHp, hfs, hd, hR, hq⟩ := h
    refine ⟨_, pss_self, ?_⟩
    have hFd : Same F H := hF
    have core : Core (cxOf (L2.CX P w) P w K mg base N qual (defScope st) f cdv A outer s H E) ⟨del H p, F, [p], fun cls _ S => res = .error cls ∧ S[0]? = some (.obj C (datF fs))⟩ F [p] [.obj C (datF fs)] H := by
      refine ⟨⟨[], rfl⟩, hF, del_same, Same.refl F, fun a o e => .inl e, rfl, by simp, fun k q e => ?_, fun k q c0 e1 e2 e3 => ?_, fun k q c0 e1 e2 => ?_⟩
      · cases k with
        | zero => simp at e; subst e; exact ⟨_, hHp⟩
        | succ k => simp at e
      · cases k with
        | zero => simp at e1; subst e1; exact ⟨if_pos rfl, hFp⟩
        | succ k => simp at e1
      · cases k with
        | zero =>
          simp at e1 e2
          subst e1; subst e2
          exact ⟨dx, vfs, hHp, rpf_dat hfs⟩
        | succ k => simp at e1
    have base_of : ∀ {H' : Hp}, Same (del H p) H' → ∀ a o, a ≠ p → H a = some o → H' a = some o := fun sb a o ha e => sb a o (by unfold del; rw [if_neg ha]; exact e)
    have fr_of : ∀ {F' : Hp}, F' p = none → (∀ a o, F' a = some o → F a = some o ∨ del H p a = none) → ∀ a o, F' a = some o → F a = some o ∨ H a = none := fun hp hf a o e => by
      rcases hf a o e with z | z
      · exact .inl z
      · right
        have ha : a ≠ p := fun q => by rw [q, hp] at e; cases e
        unfold del at z
        rw [if_neg ha] at z
        exact z
    have hb := body cdv A outer s H E ⟨del H p, F, [p], fun cls _ S => res = .error cls ∧ S[0]? = some (.obj C (datF fs))⟩ fs ds res hr (Takes.imp (takes_of rfl rfl rfl rfl) fun cls d σ H' ⟨e1, F', al', r', S', co', sl', e2, e3⟩ => ?_) (passes_of rfl) rfl hR (L2.start N (.ref p :: us)) H F [p] core
      (slots_start (X := cxOf (L2.CX P w) P w K mg base N qual (defScope st) f cdv A outer s H E) (P := P) (w := w) (K := K) (.cons ⟨p, rfl, rfl⟩ hd.rps))
    · refine tWSs_mono hb (fun σ' H' ⟨F', al', r', S', ex', co', sl', fs', e, hS⟩ => ?_) (fun v H' ⟨F', al', sl, S', ex', co', rv, d, fs', e, hS, e4⟩ => ?_) (fun σ' H' ⟨F', al', r', S', ex', co', sl', e⟩ => e.elim) (fun σ' H' ⟨F', al', r', S', ex', co', sl', e⟩ => e.elim)
      all_goals
        rw [e] at hq
        have hp : al'[0]? = some p := ext_at ex' rfl
        obtain ⟨dx', vfs', h1, h2⟩ := co'.cells 0 p _ hp hS
        obtain ⟨b1, b2⟩ := co'.own 0 p _ hp hS (by intro z; cases z)
      · exact hq .non H' F' vfs' dx' (base_of co'.base) ex'.same co'.sub (fr_of b2 co'.fr) h1 (rpf_back h2) .non
      · subst e4
        exact hq v H' F' vfs' dx' (base_of co'.base) ex'.same co'.sub (fr_of b2 co'.fr) h1 (rpf_back h2) rv
    · rw [show res = Except.error cls from e2] at hq
      subst e1
      have hp : al'[0]? = some p := by
        obtain ⟨be, hb⟩ := co'.pre
        have hb : al' = [p] ++ be := hb
        rw [hb]
        rfl
      obtain ⟨dx', vfs', h1, h2⟩ := co'.cells 0 p _ hp e3
      obtain ⟨b1, b2⟩ := co'.own 0 p _ hp e3 (by intro z; cases z)
      exact hq H' F' vfs' dx' (base_of co'.base) co'.f0 co'.sub (fr_of b2 co'.fr) h1 (rpf_back h2)
end
end Dz

namespace Dz
open PySem L2 PySem.Calls PyProof.Rows
section
variable {prog : Program} {w : World} {A : Around} {E : Value → Shared → Prop} {s : Shared}
/-- a list made of what an iterator over a list, from its end, gives -/
theorem call_list_revI {it l : Addr} {items : Array Value} {Q : Value → Shared → Prop} (hh : A.handled = none) (hit : s.heap.IsRevIter it l ((items.size : Int) - 1)) (hl : s.heap.IsList l items) (hne : l ≠ it) (hn : items.size ≤ sizeLine)
    (hQ : ∀ (h' : Heap) (tk : Nat) (acc : Array Value) (c' : Nat), (∀ b o, b ≠ it → s.heap.get? b = some o → h'.get? b = some o) → h'.get? s.heap.objs.size = some { cls := .type "list", dict := none, data := .seq acc c', slots := #[] } →
      ItemsOf (fun i v => items[items.size - 1 - i]? = some v) acc items.size → Q (.ref s.heap.objs.size) { s with heap := h', toks := tk }) :
    wpAny (model prog w) A (call (.type "list") [.ref it]) Q E s := by
  have hh2 : A.in1.in1.handled = none := hh
  have W := (Walks.listRev (prog := prog) (w := w) (A := A.in1.in1) hh2 it l hne items).toS
  obtain ⟨oi, hoi, _⟩ := id hit
  obtain ⟨ol, hol, _⟩ := id hl
  have hSi : s.heap.objs.size ≠ it := Nat.ne_of_gt (Heap.lt_size hoi)
  have hSl : s.heap.objs.size ≠ l := Nat.ne_of_gt (Heap.lt_size hol)
  have hSf : s.heap.objs.size ∉ [it, l] := by simp only [List.mem_cons, List.not_mem_nil, or_false, not_or]; exact ⟨hSi, hSl⟩
  refine callType_codes (Q₁ := fun obj s₁ => obj = .ref s.heap.objs.size ∧ s₁ = { s with heap := s.heap.push { cls := .type "list", data := .seq #[] } }) F.called_list (F.typeCall_list_1 _) F.entry_list_init
    (code_list_new _ ⟨rfl, rfl⟩) fun obj s₁ h₁ => ?_
  obtain ⟨rfl, rfl⟩ := h₁
  have hS : (s.heap.push { cls := .type "list", data := .seq #[] }).get? s.heap.objs.size = some { cls := .type "list", data := .seq #[] } := Heap.get?_push_size _ rfl
  refine ⟨⟨_, hS, rfl⟩, F.args_list_init_2 _ _, ?_⟩
  show wpAny _ A.in1.in1 (do let old ← Builtin.List.listItems (.ref s.heap.objs.size); Builtin.List.listUpdate (.ref s.heap.objs.size) (fun _ => #[]); letGo old.toList.reverse; Builtin.List.listExtendWith (.ref s.heap.objs.size) (.ref it) .none) _ _ _
  refine wpAny_bind ?_
  unfold Builtin.List.listItems
  refine wpAny_bind (wpAny_seqItems hS rfl (wpAny_pure ?_))
  show wpAny _ A.in1.in1 (updateSeq s.heap.objs.size (fun _ => #[]) >>= fun _ => letGo (#[] : Array Value).toList.reverse >>= fun _ => Builtin.List.listExtendWith (.ref s.heap.objs.size) (.ref it) .none) _ _ _
  refine wpAny_bind (wpAny_updateSeq hS rfl ?_)
  have hS2 := Heap.get?_update_self (Obj.mapSeq (fun _ => (#[] : Array Value))) hS rfl
  refine wpAny_bind (wpAny_letGo ?_)
  have keep : ∀ b o, s.heap.get? b = some o → ((s.heap.push { cls := .type "list", data := .seq #[] }).update s.heap.objs.size (Obj.mapSeq (fun _ => (#[] : Array Value)))).get? b = some o := fun b o e =>
    (Heap.get?_update_other _ _ (Ne.symm (Nat.ne_of_lt (Heap.lt_size e)))).trans (Heap.get?_push_of_some _ e)
  generalize hG : ((s.heap.push { cls := .type "list", data := .seq #[] }).update s.heap.objs.size (Obj.mapSeq (fun _ => (#[] : Array Value)))) = g at hS2 keep ⊢
  have hit1 : g.IsRevIter it l ((items.size : Int) - 1) := hit.at fun o e => keep _ _ e
  have hl1 : g.IsList l items := by
    obtain ⟨o1, q1, q2⟩ := hl
    exact ⟨o1, keep _ _ q1, q2⟩
  have hT : ({ s with heap := g } : Shared).TypeIs (.ref it) "list_reverseiterator" := Heap.IsRevIter.typeIs (s := { s with heap := g }) hit1
  have h1 : Builtin.List.listSameRef (.ref s.heap.objs.size) (.ref it) = false := by simp [Builtin.List.listSameRef, hSi]
  unfold Builtin.List.listExtendWith
  refine wpAny_bind (wpAny_typeOf hT ?_)
  rw [if_neg (by rw [h1]; decide)]
  refine wpAny_bind (wpAny_pyIter_revIter (s := { s with heap := g }) hit1 ?_)
  refine wpAny_bind (wpAny_holding ?_)
  unfold Builtin.List.listLengthHint
  refine wpAny_bind (wpAny_specialOf hT RT.nolen_lri ?_)
  show wpAny _ A.in1.in1 (specialOf (Value.ref it) (Str.ofString "__length_hint__") >>= _) _ _ _
  refine wpAny_bind (wpAny_specialOf hT RT.hint_lri ?_)
  generalize hid : ("list_reverseiterator.__length_hint__" : String) = id0
  wp_delta
  rw [show splitId id0 = some ("list_reverseiterator", "__length_hint__") from by subst hid; decide +kernel]
  subst hid
  refine wpAny_bind (wpAny_isInstance (b := true) hT (by rw [isSubtype_type]; kernel_rfl) ?_)
  refine wpAny_pure ?_
  rw [if_neg (by decide)]
  have e0 : ((items.size : Nat) : Int) - 1 - ((0 : Nat) : Int) = (items.size : Int) - 1 := by omega
  refine wpAny_pure ⟨plainId_quiet F.plain_extend_loop _, codeAny_extend_loopS W hn _ hSf _ items.size 0 _ _ _ rfl (Nat.zero_le _) ⟨Nat.zero_le _, by rw [e0]; exact hit1, hl1⟩ hS2 (ItemsOf.nil _) fun s' acc' c' hm hS' hacc => ?_⟩
  refine ⟨rfl, ?_⟩
  rw [Moved.eq_with hm]
  refine hQ s'.heap s'.toks acc' c' (fun b o hb e => hm.heap b o (fun hmem => ?_) (keep _ _ e)) hS' hacc
  rcases List.mem_cons.mp hmem with e' | hmem
  · exact absurd (Heap.lt_size e) (by rw [e']; exact Nat.lt_irrefl _)
  · exact hb (List.mem_singleton.mp hmem)
end
section
variable {X : Cx} {c : Cc} {e a b o : Expr} {es : List Expr} {r : Rho} {S : Sto} {pos p p2 pos2 : Pos} {x y : Sl} {xs : List Sl} {ds : List D} {n : Str} {i j : Int} {q q1 q2 : Bool} {F H : Hp} {al : List Addr} {v : V}
/-- list(reversed(x)), x a list: a new list -/
def tListRev (K : PySem.W.Frag) (te : TE) : TE := fun σ H Q => te σ H fun v H1 => ∃ (a : Addr) (xs : List V), v = .ref a ∧ SqL K H1 a xs ∧ ∀ q, H1 q = none → Q (.ref q) (upd H1 q (.lst xs.reverse))
theorem pe_listRev {te : TE} (hc : X.calm = true) (hg : Gl X "list") (hm : X.mg "list" = none) (hg2 : Gl X "reversed") (hm2 : X.mg "reversed" = none) (he : PE X e te)
    (hs : starEach [e] X.env = (false, eval e X.env) :: starEach [] X.env := by rfl)
    (hs2 : starEach [.Call (.Name "reversed" p2) [e] [] pos2] X.env = (false, eval (.Call (.Name "reversed" p2) [e] [] pos2) X.env) :: starEach [] X.env := by rfl) :
    PE X (.Call (.Name "list" p) [.Call (.Name "reversed" p2) [e] [] pos2] [] pos) (tListRev X.K te) := by
  refine ⟨fun pins s σ H Q I h => ?_⟩
  refine Call_ (ld_blt I hg hm boot_list (PyProof.Rows.callWith_type1 (args_cons (Call_ (ld_blt I hg2 hm2 PyProof.Rows.boot_reversed (PyProof.Rows.callWith_type1 (args_cons (thn (he.run pins s σ H _ I h) fun u s1 ⟨v, H1, I1, r1, q1⟩ => args_nil ?_) hs) hs rfl))) hs2) hs2 rfl))
  obtain ⟨a, xs, ev, hq, q⟩ := q1
  subst ev
  obtain rfl : u = Value.ref a := r1
  obtain ⟨its, rv, p', hz⟩ := I1.list hq
  refine call_reversed_list p'.isList (args_nil ?_)
  have k0 : ∀ b o, s1.heap.get? b = some o → (s1.heap.push (revObj a ((its.toArray.size : Int) - 1))).get? b = some o := fun b o e => Heap.get?_push_of_some _ e
  have I2 : Inv X pins σ H1 { s1 with heap := s1.heap.push (revObj a ((its.toArray.size : Int) - 1)) } := I1.kept (t' := s1.toks) k0
  have fp := I1.fpOk (H' := H1) (b := s1.heap.objs.size) (Nat.le_refl _) (I1.hok.fresh (Nat.le_refl _))
  have hl := p'.isList
  obtain ⟨ol, hol, _⟩ := id hl
  have hne : a ≠ s1.heap.objs.size := Nat.ne_of_lt (Heap.lt_size hol)
  have hn : its.toArray.size ≤ sizeLine := by rw [List.size_toArray, ← rv.length]; exact hz
  refine call_list_revI (s := { s1 with heap := s1.heap.push (revObj a ((its.toArray.size : Int) - 1)) }) (I1.ok.hd hc) ⟨_, Heap.get?_push_size _ rfl, rfl, rfl⟩ (hl.push _) hne hn fun h' tk acc c' hk hS hi => ?_
  have I3 := I2.turnedNew (t' := tk) (ch := [s1.heap.objs.size]) (T := (s1.heap.push (revObj a ((its.toArray.size : Int) - 1))).objs.size) (ob := .lst xs.reverse) (h' := h') (fun b o hb e => hk b o (fun z => hb (by simp [z])) e) (fun b hb => by
    have e : b = s1.heap.objs.size := by simpa using hb
    subst e
    exact fp) (Nat.le_refl _) (show ObjOk X.prog X.w _ _ _ (.lst xs.reverse) from ⟨by rw [List.length_reverse]; exact hz, acc.toList, c', RT.vals_rev rv hi, by rw [Array.toArray_toList]; exact hS⟩)
  exact ⟨.ref _, upd H1 _ (.lst xs.reverse), I3, rfl, q _ (I2.hok.fresh (Nat.le_refl _))⟩
theorem ee_listRev (hc : X.calm = true) (hm : X.mg "list" = none) (hm2 : X.mg "reversed" = none) (h : EE X c e r S x) (hx : LstS S x (dats ds)) (hg : Gl X "list" := by rfl) (hg2 : Gl X "reversed" := by rfl) (hs : starEach [e] X.env = (false, eval e X.env) :: starEach [] X.env := by rfl)
    (hs2 : starEach [.Call (.Name "reversed" p2) [e] [] pos2] X.env = (false, eval (.Call (.Name "reversed" p2) [e] [] pos2) X.env) :: starEach [] X.env := by rfl) :
    EE X c (.Call (.Name "list" p) [.Call (.Name "reversed" p2) [e] [] pos2] [] pos) r S (.dat (.lst ds.reverse)) := fun Q q =>
  EW.of (pe_listRev hc hg hm hg2 hm2 pe_self hs hs2) fun σ H F al co sl => te_then h co sl fun v H1 F1 al1 ex1 co1 sl1 rv => by
    obtain ⟨a, vs, rfl, h1, h2⟩ := lst_v co1 rv hx
    exact ⟨a, vs, rfl, h1, fun p hp => ⟨_, _, .dat (.lst ds.reverse), S, ex1.trans (Ext.laid (o := .lst vs.reverse) co1 hp), co1.laid hp, Rp.lst (.of upd_same) ((rps_of (by
      have := paired_reverse h2
      rwa [← List.map_reverse] at this)).mono (same_upd (co1.sub.free hp))), q⟩⟩
/-! what a slot is, seen through the store -/
mutual
inductive Seen (S : Sto) : Sl → D → Prop
  | dat (d : D) : Seen S (.dat d) d
  | bor (d : D) : Seen S (.bor d) d
  | lst {k : Nat} {xs : List Sl} {ds : List D} : S[k]? = some (.lst xs) → SeenL S xs ds → Seen S (.ptr k) (.lst ds)
inductive SeenL (S : Sto) : List Sl → List D → Prop
  | nil : SeenL S [] []
  | cons {x : Sl} {d : D} {xs : List Sl} {ds : List D} : Seen S x d → SeenL S xs ds → SeenL S (x :: xs) (d :: ds)
end
theorem seenL_dats {S : Sto} : ∀ {ds : List D}, SeenL S (dats ds) ds
  | [] => .nil
  | _ :: _ => .cons (.dat _) seenL_dats
mutual
theorem Seen.rp (co : Core X c F al S H) : ∀ {x : Sl} {d : D} {v : V}, Seen S x d → RpS X.prog X.w X.K c.B F al v x → Rp X.prog X.w X.K H v d
  | _, _, _, .dat d, h => Rp.mono co.sub h
  | _, _, _, .bor d, h => Bor.rp co.base co.sub h
  | _, _, _, .lst hk hl, h => by
    obtain ⟨p, hp, rfl⟩ := h
    obtain ⟨vs, h1, h2⟩ := co.cells _ p _ hp hk
    exact .lst (.of h1) (SeenL.rps co hl h2)
theorem SeenL.rps (co : Core X c F al S H) : ∀ {x : List Sl} {d : List D} {v : List V}, SeenL S x d → Paired (RpS X.prog X.w X.K c.B F al) v x → Rps X.prog X.w X.K H v d
  | _, _, _, .nil, .nil => .nil
  | _, _, _, .cons h t, .cons q u => .cons (Seen.rp co h q) (SeenL.rps co t u)
end
/-! == of data -/
mutual
def pD : D → PyData
  | .non => .none
  | .bl b => .bool b
  | .int i => .int i
  | .str x => .str x
  | .tup xs => .tuple (pDs xs)
  | .lst xs => .list (pDs xs)
  | .dct _ => .dict []
  | .obj _ _ => .dict []
def pDs : List D → List PyData
  | [] => []
  | x :: xs => pD x :: pDs xs
end
mutual
theorem Rp.dp {P : Program} {w : World} {K : PySem.W.Frag} : ∀ {v : V} {d : D}, Rp P w K H v d → (pD d).canLay0 = true → Dp K H v (pD d)
  | _, _, .non, _ => .non
  | _, _, .bl b, _ => .bl b
  | _, _, .int i, _ => .int i
  | _, _, .str x, _ => .str x
  | _, _, .tup h o t, z => .tup (.inl (.inr ⟨_, h⟩)) (Rps.dp t (by simpa [pD, PyData.canLay0] using z))
  | _, _, .lst h t, z => .lst h (Rps.dp t (by simpa [pD, PyData.canLay0] using z))
  | _, _, .dct h t, z => by simp [pD, PyData.canLay0] at z
  | _, _, .obj h t, z => by simp [pD, PyData.canLay0] at z
theorem Rps.dp {P : Program} {w : World} {K : PySem.W.Frag} : ∀ {v : List V} {d : List D}, Rps P w K H v d → PyData.canLayAll0 (pDs d) = true → DpAll K H v (pDs d)
  | _, _, .nil, _ => .nil
  | _, _, .cons h t, z => by
    have z' := by simpa only [pDs, PyData.canLayAll0, Bool.and_eq_true] using z
    exact .cons (Rp.dp h z'.1) (Rps.dp t z'.2)
end
/-- whether a == b, for data -/
def eqD (d e : D) : Bool := PyData.eqv (pD d) (pD e)
/-- data that == can tell -/
def Plain (d : D) : Prop := SeqAt.shaped (pD d) = true
theorem cd_eqD {d d' : D} (hu : X.A.units + 64 < cLine) (hx : Seen S x d) (hy : Seen S y d') (h1 : Plain d) (h2 : Plain d') : CmpD X c S .Eq x y (eqD d d') := ⟨_, op_eqD hu, fun H F al v u co rv ru R k =>
  ⟨pD d, pD d', Rp.dp (hx.rp co rv) (SeqAt.canLay_of_shaped h1), Rp.dp (hy.rp co ru) (SeqAt.canLay_of_shaped h2), h1, h2, k⟩⟩
theorem cd_neD {d d' : D} (hu : X.A.units + 64 < cLine) (hx : Seen S x d) (hy : Seen S y d') (h1 : Plain d) (h2 : Plain d') : CmpD X c S .NotEq x y (!eqD d d') := ⟨_, op_neD hu, fun H F al v u co rv ru R k =>
  ⟨pD d, pD d', Rp.dp (hx.rp co rv) (SeqAt.canLay_of_shaped h1), Rp.dp (hy.rp co ru) (SeqAt.canLay_of_shaped h2), h1, h2, k⟩⟩
theorem eqD_refl {d : D} (h : Plain d) : eqD d d = true := SeqAt.eqv_refl _ (SeqAt.canLay_of_shaped h)
/-! built from whole numbers, truths, None, tuples and lists, to a depth -/
mutual
def flatD : Nat → D → Bool
  | _, .non => true
  | _, .bl _ => true
  | _, .int _ => true
  | _, .str x => PySem.PyData.canLay0 (.str x)
  | k, .tup xs => match k with
    | 0 => false
    | k + 1 => flatDs k xs
  | k, .lst xs => match k with
    | 0 => false
    | k + 1 => flatDs k xs
  | _, .dct _ => false
  | _, .obj _ _ => false
def flatDs : Nat → List D → Bool
  | _, [] => true
  | k, x :: xs => flatD k x && flatDs k xs
end
mutual
theorem flatD_ok : ∀ (k : Nat) (d : D), flatD k d = true → (pD d).canLay0 = true ∧ (pD d).depth ≤ k
  | k, .non, _ => ⟨rfl, by simp [pD, PyData.depth]⟩
  | k, .bl _, _ => ⟨rfl, by simp [pD, PyData.depth]⟩
  | k, .int _, _ => ⟨rfl, by simp [pD, PyData.depth]⟩
  | k, .str x, h => ⟨by simpa [flatD, pD] using h, by simp [pD, PyData.depth]⟩
  | 0, .tup xs, h => by simp [flatD] at h
  | k + 1, .tup xs, h => by
    obtain ⟨h1, h2⟩ := flatDs_ok k xs (by simpa [flatD] using h)
    exact ⟨by simpa [pD, PyData.canLay0] using h1, by simp only [pD, PyData.depth]; omega⟩
  | 0, .lst xs, h => by simp [flatD] at h
  | k + 1, .lst xs, h => by
    obtain ⟨h1, h2⟩ := flatDs_ok k xs (by simpa [flatD] using h)
    exact ⟨by simpa [pD, PyData.canLay0] using h1, by simp only [pD, PyData.depth]; omega⟩
  | _, .dct _, h => by simp [flatD] at h
  | _, .obj _ _, h => by simp [flatD] at h
theorem flatDs_ok : ∀ (k : Nat) (ds : List D), flatDs k ds = true → PyData.canLayAll0 (pDs ds) = true ∧ PyData.depthAll (pDs ds) ≤ k
  | k, [], _ => ⟨rfl, by simp [pDs, PyData.depthAll]⟩
  | k, x :: xs, h => by
    have h' : flatD k x = true ∧ flatDs k xs = true := by simpa [flatDs] using h
    obtain ⟨a1, a2⟩ := flatD_ok k x h'.1
    obtain ⟨b1, b2⟩ := flatDs_ok k xs h'.2
    exact ⟨by simp [pDs, PyData.canLayAll0, a1, b1], by simp only [pDs, PyData.depthAll]; omega⟩
end
theorem plain_of {d : D} {k : Nat} (h : flatD k d = true) (hk : k ≤ 64 := by decide) : Plain d := by
  obtain ⟨h1, h2⟩ := flatD_ok k d h
  show SeqAt.shaped (pD d) = true
  unfold SeqAt.shaped
  rw [h1, decide_eq_true (Nat.le_trans h2 hk)]
  rfl
theorem flatDs_of {k : Nat} : ∀ {ds : List D}, (∀ d ∈ ds, flatD k d = true) → flatDs k ds = true
  | [], _ => by simp [flatDs]
  | d :: ds, h => by
    simp only [flatDs, Bool.and_eq_true]
    exact ⟨h d (by simp), flatDs_of fun e he => h e (by simp [he])⟩
theorem flatDs_int {k : Nat} {ns : List Int} : flatDs k (ns.map D.int) = true := flatDs_of fun d hd => by
  obtain ⟨i, _, rfl⟩ := List.mem_map.mp hd
  cases k <;> rfl
theorem flatDs_bl {k : Nat} {ns : List Bool} : flatDs k (ns.map D.bl) = true := flatDs_of fun d hd => by
  obtain ⟨i, _, rfl⟩ := List.mem_map.mp hd
  cases k <;> rfl
/-! isinstance -/
/-- what isinstance asks of an own class -/
structure InsO (K : PySem.W.Frag) (C : Addr) : Prop where
  cl : Cls K C
  ha : PySem.W.findIn K (.ref C) "__class__" = some (some (.builtin "object.__class__"))
  hn : PySem.W.specialIn K (.builtin "object.__class__") "__get__" = some (some (.builtin "getset_descriptor.__get__"))
  htk : PySem.W.takesIn K (.builtin "object.__class__") = some true
  hm : PySem.W.mroIn K C (.type "object") = some true
/-- what type a value has -/
inductive TyS (X : Cx) (S : Sto) : Sl → Value → Prop
  | non : TyS X S (.dat .non) (.type "NoneType")
  | bl (b : Bool) : TyS X S (.dat (.bl b)) (.type "bool")
  | int (i : Int) : TyS X S (.dat (.int i)) (.type "int")
  | str (x : Str) : TyS X S (.dat (.str x)) (.type "str")
  | tup (ds : List D) : TyS X S (.dat (.tup ds)) (.type "tuple")
  | lst (ds : List D) : TyS X S (.dat (.lst ds)) (.type "list")
  | lstB (ds : List D) : TyS X S (.bor (.lst ds)) (.type "list")
  | lstP {k : Nat} {xs : List Sl} : S[k]? = some (.lst xs) → TyS X S (.ptr k) (.type "list")
  | objD {C : Addr} {fs : List (Str × D)} : InsO X.K C → TyS X S (.dat (.obj C fs)) (.ref C)
  | objP {k : Nat} {C : Addr} {fs : List (Str × Sl)} : S[k]? = some (.obj C fs) → InsO X.K C → TyS X S (.ptr k) (.ref C)
theorem tyL {a : Addr} {xs : List V} (h : SqL X.K H a xs) : TyX X.K H (.ref a) (.type "list") := by
  rcases h with (h | ⟨o, h⟩) | ⟨o, its, n, h1, h2, _⟩
  · exact .base (.lst h)
  · exact .base (.frz h)
  · exact .kList h1 h2
theorem TyS.tyx (co : Core X c F al S H) {t : Value} (h : TyS X S x t) (rv : RpS X.prog X.w X.K c.B F al v x) : TyX X.K H v t := by
  cases h with
  | non => rw [rp_non rv]; exact .base .non
  | bl b => rw [rp_bl rv]; exact .base (.bl b)
  | int b => rw [rp_int rv]; exact .base (.int b)
  | str b => rw [rp_str rv]; exact .base (.str b)
  | tup ds =>
    obtain ⟨a, o, vs, rfl, h1, _, _⟩ := rp_tupF rv
    exact .fTuple (co.sub _ _ h1)
  | lst ds =>
    obtain ⟨a, vs, rfl, h1, _⟩ := rp_lst rv
    exact tyL (co.sub.seq h1)
  | lstB ds =>
    obtain ⟨a, vs, rfl, h1, _⟩ := (show Bor X.prog X.w X.K c.B F v (.lst ds) from rv)
    exact tyL (co.base.seq h1)
  | lstP hk =>
    obtain ⟨p, hp, rfl⟩ := rv
    obtain ⟨vs, h1, _⟩ := co.cells _ p _ hp hk
    exact .base (.lst h1)
  | objD ic =>
    obtain ⟨a, dx, es, rfl, h1, _⟩ := rp_obj rv
    exact .base (.ins (co.sub _ _ h1) ic.cl ic.ha ic.hn ic.htk ic.hm)
  | objP hk ic =>
    obtain ⟨p, hp, rfl⟩ := rv
    obtain ⟨dx, vs, h1, _⟩ := co.cells _ p _ hp hk
    exact .base (.ins h1 ic.cl ic.ha ic.hn ic.htk ic.hm)
theorem ee_isi {id : Str} {cv : V} {u t : Value} (hm : X.mg "isinstance" = none) (h : EE X c e r S x) (ht : TyS X S x t) (hb : PE X (.Name id p2) (tC cv)) (hc : ClsV cv u) (hk : PySem.W.kitOne X.K t u = some q) (hg : Gl X "isinstance" := by rfl)
    (hst : starEach [e, .Name id p2] X.env = (false, eval e X.env) :: starEach [.Name id p2] X.env := by rfl) (hst2 : starEach [.Name id p2] X.env = (false, eval (.Name id p2) X.env) :: starEach [] X.env := by rfl) (hpl : (backTo pos (starEach [.Name id p2] X.env)).any (·.1) = false := by rfl) :
    EE X c (.Call (.Name "isinstance" p) [e, .Name id p2] [] pos) r S (DB q) := fun Q k =>
  EW.of (pe_callB call_isi hg hm boot_isinstance (pa_cons pe_self (pa_cons hb pa_nil hst2) hst) (by decide) (by decide) hst hpl) fun σ H F al co sl => te_then h co sl fun v H1 F1 al1 ex1 co1 sl1 rv =>
    ⟨v, cv, t, u, q, rfl, hc, ht.tyx co1 rv, hk, (VQ.here co1 (sl := DB q) (Rp.bl _) k).up ex1⟩
/-- .. for a type of the language -/
theorem ee_isiT {id : Str} {T : String} {t : Value} (hm : X.mg "isinstance" = none) (h : EE X c e r S x) (ht : TyS X S x t) (hmn : X.mg id = none) (hk : PySem.W.kitOne X.K t (.type T) = some q) (hg : Gl X "isinstance" := by rfl) (hg2 : Gl X id := by rfl)
    (hv : bootBuiltins id = some (.type T) := by first | rfl | decide +kernel) (hn : id ≠ "__name__" := by decide) (hd : (id == ("__debug__" : Str)) = false := by decide)
    (hst : starEach [e, .Name id p2] X.env = (false, eval e X.env) :: starEach [.Name id p2] X.env := by rfl) (hst2 : starEach [.Name id p2] X.env = (false, eval (.Name id p2) X.env) :: starEach [] X.env := by rfl) (hpl : (backTo pos (starEach [.Name id p2] X.env)).any (·.1) = false := by rfl) :
    EE X c (.Call (.Name "isinstance" p) [e, .Name id p2] [] pos) r S (DB q) :=
  ee_isi hm h ht (pe_bltn (v := .ty T) hg2 hmn hv rfl hn hd) (.ty T) hk hg hst hst2 hpl
/-- .. for a class of the text -/
theorem ee_isiC {id : Str} {C : Addr} {t : Value} (hm : X.mg "isinstance" = none) (h : EE X c e r S x) (ht : TyS X S x t) (hmn : X.mg id = some (.ref C)) (hk : PySem.W.kitOne X.K t (.ref C) = some q) (hg : Gl X "isinstance" := by rfl) (hg2 : Gl X id := by rfl) (hd : (id == ("__debug__" : Str)) = false := by decide)
    (hst : starEach [e, .Name id p2] X.env = (false, eval e X.env) :: starEach [.Name id p2] X.env := by rfl) (hst2 : starEach [.Name id p2] X.env = (false, eval (.Name id p2) X.env) :: starEach [] X.env := by rfl) (hpl : (backTo pos (starEach [.Name id p2] X.env)).any (·.1) = false := by rfl) :
    EE X c (.Call (.Name "isinstance" p) [e, .Name id p2] [] pos) r S (DB q) :=
  ee_isi hm h ht (pe_glob (v := .ref C) hg2 hmn rfl hd) (.own C) hk hg hst hst2 hpl
end
end Dz

namespace Dz
open PySem L2
/-! ### the end of a law -/
def lawR : Rel := fun ds res => ∃ ns : List Int, ds = [.dat (.lst (ns.map D.int))] ∧ ns.length ≤ 63 ∧ (∀ z ∈ ns, Builtin.Int.intBits z ≤ 1048576) ∧ res = .ok (.bl true)
theorem law_ask {P : Program} {w : World} {K : PySem.W.Frag} {H : Hp} {a : Addr} {ns : List Int} (hl : ns.length ≤ 63) (hb : ∀ z ∈ ns, Builtin.Int.intBits z ≤ 1048576) (hS : SqL K H a (ns.map V.int)) :
    SpD P w K lawR [.ref a] H (fun v _ => v = .bl true) fun _ _ _ => False :=
  ⟨H, [.dat (.lst (ns.map D.int))], .ok (.bl true), Same.refl H, .cons (.inl ⟨_, rfl, .lst hS (Rps.ints ns)⟩) .nil, ⟨ns, rfl, hl, hb, rfl⟩, fun v H' F' _ _ _ _ rv => by cases rv; rfl⟩
theorem walk_ofEB {l : PySem.W.OpenLaw} {n k : Nat} {q : Program} {loose : List Str} {XP : (Str → Option Value) → Heap → Prop} {YP : World → Heap → Prop} {d : DefRec} {CX : World → CXT} {x : Str}
    (hn : l.most = some n) (hn2 : n ≤ sizeLine) (hdf : d.params.defaults = []) (hr : Room k callerA)
    (G0 : ∀ (w : World) (mg : Str → Option Value) (fa : Addr) (h : Heap), YP w h → h.Ns mainGlobals mg → mg d.name = some (.ref fa) →
      ∃ (K : PySem.W.Frag) (fd : FuncData) (sp : Sp), K.In h ∧ (∀ (s : Shared) (u : Value), BindsTo s fd ⟨[u], []⟩ [(x, u)]) ∧
        (∀ (H : Hp) (a : Addr) (ns : List Int), ns.length ≤ n → (∀ z ∈ ns, Builtin.Int.intBits z ≤ 1048576) → SqL K H a (ns.map V.int) → sp [.ref a] H (fun v _ => v = .bl true) fun _ _ _ => False) ∧
        ∀ base : Heap, K.In base → base.Ns mainGlobals mg → FnOk l.prog w K mg base (CX w) k fa fd [x] sp)
    (hCX : ∀ (w : World) (H : Hp) (s : Shared) (e : Value) (s' : Shared), CX w [] H s (fun _ _ _ => False) e s' → False) :
    PySem.W.WalkO q loose XP YP l.row.toRowW d [] (fun f vs => PySem.call f vs) := by
  refine Att.attach_callB hn hdf fun w s₀ s₁ mg mb fa o pm cd doc a vs ns G Y ho hd hcd hmg hobj hints hlen hbits hg => ?_
  obtain ⟨K, fd, sp, KX, hb, hsp, hF⟩ := G0 w mg fa _ Y G.T.g hmg
  exact law_call KX G.T.g G.T.b G.T.builtins G.T.nolimit hg hobj hints (Nat.le_trans hlen hn2) hr hF hb (fun H hO hS => hsp H a ns hlen hbits hS) fun H e s' => hCX w H s₁ e s'
/-! ### the text's facts by names -/
structure Nm where
  fr : List Str := []
  gl : List Str := []
  cl : List Str := []
  na : List (Str × Str) := []
  me : List (Str × Str) := []
  mr : List Str := []
  ex : List Str := []
  em : List (Str × Str × Bool) := []
  fn : List He.DefD := []
  io : List Str := []
  ki : List (Str × Str × Bool) := []
  kt : List (Str × String × Bool) := []
def Nm.fa (N : Nm) : List He.Fa := N.fr.map .free ++ (N.gl.map .glo ++ (N.cl.map .cls ++ (N.na.map (fun p => .noat p.1 p.2) ++ (N.me.map (fun p => .meth p.1 p.2) ++ (N.mr.map .mkr ++ (N.ex.map .exc ++ N.em.map fun p => .exm p.1 p.2.1 p.2.2))))))
def Nm.more (N : Nm) (K : PySem.W.Frag) : Bool :=
  (N.io.all fun x => decide (PySem.W.findIn K (.ref (He.ga K x)) "__class__" = some (some (.builtin "object.__class__"))) && (decide (PySem.W.specialIn K (.builtin "object.__class__") "__get__" = some (some (.builtin "getset_descriptor.__get__"))) &&
    (decide (PySem.W.takesIn K (.builtin "object.__class__") = some true) && decide (PySem.W.mroIn K (He.ga K x) (.type "object") = some true)))) &&
  ((N.ki.all fun p => decide (PySem.W.kitOne K (.ref (He.ga K p.1)) (.ref (He.ga K p.2.1)) = some p.2.2)) && N.kt.all fun p => decide (PySem.W.kitOne K (.ref (He.ga K p.1)) (.type p.2.1) = some p.2.2))
structure Txt (N : Nm) (K : PySem.W.Frag) (mg : Str → Option Value) : Prop where
  f : ∀ x ∈ N.fa, x.ok K = true
  d : ∀ x ∈ N.fn, ∃ fd, FunD K x.name x.qual x.params x.body x.scope (x.dvs K) (x.kws K) (He.fAd K x.at_) fd
  e : N.more K = true
  i : ∃ h : Heap, K.In h ∧ h.Ns mainGlobals mg
section
variable {N : Nm} {K : PySem.W.Frag} {mg : Str → Option Value}
theorem Txt.of {h : Heap} {w : World} (c : He.SaysX N.fa N.fn [] [] N.more w h K) (X : K.In h) (G : h.Ns mainGlobals mg) : Txt N K mg :=
  ⟨fun x hx => He.SaysD.facts (c.t.d) hx, fun x hx => He.SaysD.defs (c.t.d) hx, c.more, h, X, G⟩
theorem mem_of {α : Type} {x : α} {l : List α} [Decidable (x ∈ l)] (h : decide (x ∈ l) = true) : x ∈ l := of_decide_eq_true h
theorem Txt.free (T : Txt N K mg) (x : Str) (h : decide (x ∈ N.fr) = true := by decide +kernel) : mg x = none := by
  obtain ⟨hp, X, G⟩ := T.i
  exact He.free_ok X G (T.f _ (by simp only [Nm.fa, List.mem_append, List.mem_map]; exact .inl ⟨x, mem_of h, rfl⟩))
theorem Txt.glo (T : Txt N K mg) (x : Str) (h : decide (x ∈ N.gl) = true := by decide +kernel) : mg x = some (.ref (He.ga K x)) := by
  obtain ⟨hp, X, G⟩ := T.i
  exact He.glo_ok X G (T.f _ (by simp only [Nm.fa, List.mem_append, List.mem_map]; exact .inr (.inl ⟨x, mem_of h, rfl⟩)))
theorem Txt.cls (T : Txt N K mg) (x : Str) (h : decide (x ∈ N.cl) = true := by decide +kernel) : Cls K (He.ga K x) :=
  He.cls_ok (T.f _ (by simp only [Nm.fa, List.mem_append, List.mem_map]; exact .inr (.inr (.inl ⟨x, mem_of h, rfl⟩))))
theorem Txt.noat (T : Txt N K mg) (x f : Str) (h : decide ((x, f) ∈ N.na) = true := by decide +kernel) : NoAttr K (He.ga K x) f :=
  He.noat_ok (T.f _ (by simp only [Nm.fa, List.mem_append, List.mem_map]; exact .inr (.inr (.inr (.inl ⟨(x, f), mem_of h, rfl⟩)))))
theorem Txt.meth (T : Txt N K mg) (x m : Str) (h : decide ((x, m) ∈ N.me) = true := by decide +kernel) : Meth K (He.ga K x) m (He.ma K (He.ga K x) m) :=
  He.meth_ok (T.f _ (by simp only [Nm.fa, List.mem_append, List.mem_map]; exact .inr (.inr (.inr (.inr (.inl ⟨(x, m), mem_of h, rfl⟩))))))
theorem Txt.mkr (T : Txt N K mg) (x : Str) (h : decide (x ∈ N.mr) = true := by decide +kernel) : Mk K (He.ga K x) (He.ma K (He.ga K x) "__init__") :=
  He.mkr_ok (T.f _ (by simp only [Nm.fa, List.mem_append, List.mem_map]; exact .inr (.inr (.inr (.inr (.inr (.inl ⟨x, mem_of h, rfl⟩)))))))
theorem Txt.io (T : Txt N K mg) (x : Str) (h : decide (x ∈ N.io) = true := by decide +kernel) (hc : decide (x ∈ N.cl) = true := by decide +kernel) : InsO K (He.ga K x) := by
  obtain ⟨h1, _⟩ := He.ba T.e
  obtain ⟨a, b⟩ := He.ba (List.all_eq_true.mp h1 x (mem_of h))
  obtain ⟨b, c⟩ := He.ba b
  obtain ⟨c, d⟩ := He.ba c
  exact ⟨T.cls x hc, of_decide_eq_true a, of_decide_eq_true b, of_decide_eq_true c, of_decide_eq_true d⟩
theorem Txt.ki (T : Txt N K mg) (x y : Str) {b : Bool} (h : decide ((x, y, b) ∈ N.ki) = true := by decide +kernel) : PySem.W.kitOne K (.ref (He.ga K x)) (.ref (He.ga K y)) = some b := by
  obtain ⟨_, h1⟩ := He.ba T.e
  obtain ⟨h1, _⟩ := He.ba h1
  exact of_decide_eq_true (List.all_eq_true.mp h1 (x, y, b) (mem_of h))
theorem Txt.kt (T : Txt N K mg) (x : Str) (y : String) {b : Bool} (h : decide ((x, y, b) ∈ N.kt) = true := by decide +kernel) : PySem.W.kitOne K (.ref (He.ga K x)) (.type y) = some b := by
  obtain ⟨_, h1⟩ := He.ba T.e
  obtain ⟨_, h1⟩ := He.ba h1
  exact of_decide_eq_true (List.all_eq_true.mp h1 (x, y, b) (mem_of h))
/-! defs by names -/
def mkD (x : Str) (st : Stmt) : He.DefD := ⟨(x, none), x, x, defArgs st, defBody st, defScope st, [], []⟩
def mkM (C m q : Str) (st : Stmt) : He.DefD := ⟨(C, some m), m, q, defArgs st, defBody st, defScope st, [], []⟩
theorem fun_ofD {x qual : Str} {st : Stmt} {f : Addr} {fd : FuncData} {kws : List (Str × V)} (F : FunD K x qual (defArgs st) (defBody st) (defScope st) [] kws f fd) : Fun K x qual st f fd := by
  obtain ⟨oc, od, dV, kV, doc, pm, an, cdv, ct, osl, e, l, c, hd, _⟩ := F.ex
  rcases hd with ⟨_, e2⟩ | ⟨e2, _⟩
  · subst e2
    exact ⟨⟨oc, od, kV, doc, pm, an, cdv, ct, osl, e, l, c⟩, F.kp⟩
  · exact absurd rfl e2
def BindN (x qual : Str) (st : Stmt) (ps : List Str) : Prop := ∀ (kV doc pm : Value) (an : Option Addr) (cdv ct : Value) (us : List Value), us.length = ps.length → bindArgs (PySem.W.fnOf x qual (defArgs st) (defBody st) (defScope st) .none kV doc pm an cdv ct) ⟨us, []⟩ = pure (ps.zip us)
variable {P : Program} {w : World} {base : Heap}
/-- a def of the module -/
theorem Txt.def_ (T : Txt N K mg) {x : Str} {st : Stmt} {ps : List Str} {k : Nat} {sp : Sp} (i : Nat) (hi : N.fn[i]? = some (mkD x st)) (hb : BindN x x st ps)
    (hf : ∀ f fd, Fun K x x st f fd → FnOk P w K mg base (L2.CX P w) k f fd ps sp) (hg : decide (x ∈ N.gl) = true := by decide +kernel) : Def P w K mg base x k [] sp := by
  obtain ⟨fd, F⟩ := T.d _ (List.mem_of_getElem? hi)
  have F' : FunD K x x (defArgs st) (defBody st) (defScope st) [] [] (He.ga K x) fd := F
  exact Def.of (hf _ _ (fun_ofD F')) (fun_ofD F') (T.glo x hg) (F'.bindsN hb)
theorem Txt.meth_ (T : Txt N K mg) {C m q : Str} {st : Stmt} {ps : List Str} {k : Nat} {sp : Sp} (i : Nat) (hi : N.fn[i]? = some (mkM C m q st)) (hb : BindN m q st ps)
    (hf : ∀ f fd, Fun K m q st f fd → FnOk P w K mg base (L2.CX P w) k f fd ps sp) (hg : decide ((C, m) ∈ N.me) = true := by decide +kernel) : DefM P w K mg base (He.ga K C) m k sp := by
  obtain ⟨fd, F⟩ := T.d _ (List.mem_of_getElem? hi)
  have F' : FunD K m q (defArgs st) (defBody st) (defScope st) [] [] (He.ma K (He.ga K C) m) fd := F
  exact ⟨_, fd, ps, T.meth C m hg, F'.bindsN hb, hf _ _ (fun_ofD F')⟩
theorem Txt.make_ (T : Txt N K mg) {C q : Str} {st : Stmt} {ps : List Str} {k : Nat} {sp : Sp} (i : Nat) (hi : N.fn[i]? = some (mkM C "__init__" q st)) (hb : BindN "__init__" q st ps)
    (hf : ∀ f fd, Fun K "__init__" q st f fd → FnOk P w K mg base (L2.CX P w) k f fd ps sp) (hg : decide (C ∈ N.gl) = true := by decide +kernel) (hm : decide (C ∈ N.mr) = true := by decide +kernel) : DefC P w K mg base C (He.ga K C) k sp := by
  obtain ⟨fd, F⟩ := T.d _ (List.mem_of_getElem? hi)
  have F' : FunD K "__init__" q (defArgs st) (defBody st) (defScope st) [] [] (He.ma K (He.ga K C) "__init__") fd := F
  exact ⟨_, fd, ps, T.glo C hg, T.mkr C hm, F'.bindsN hb, hf _ _ (fun_ofD F')⟩
end
/-! the law's own def, and the end -/
theorem law_end {l : PySem.W.OpenLaw} {k : Nat} {q : Program} {loose : List Str} {XP : (Str → Option Value) → Heap → Prop} {d : DefRec} {N : Nm} {st : Stmt} (i m : Nat)
    (hi : N.fn[i]? = some (mkD "law" st)) (hb : BindN "law" "law" st ["script"]) (hd : d.name = "law")
    (hn : l.most = some 63) (hdf : d.params.defaults = []) (hr : Room k callerA)
    (G0 : ∀ (w : World) (K : PySem.W.Frag) (mg : Str → Option Value) (base : Heap) (f : Addr) (fd : FuncData), Txt N K mg → Fun K "law" "law" st f fd → FnOk l.prog w K mg base (L2.CX l.prog w) k f fd ["script"] (SpD l.prog w K lawR)) (hg : decide (("law" : Str) ∈ N.gl) = true := by decide +kernel) :
    PySem.W.WalkO q loose XP (He.hookX m N.fa N.fn [] [] N.more).says l.row.toRowW d [] (fun f vs => PySem.call f vs) := by
  refine walk_ofEB (n := 63) (k := k) (x := "script") (CX := fun w => L2.CX l.prog w) hn (by decide) hdf hr (fun w mg fa h Y G hmg0 => ?_) fun w H s e s' ⟨_, _, _, _, _, _, _, _, _, _, _, _, z⟩ => z
  obtain ⟨K, KX, c⟩ := Y
  have T : Txt N K mg := Txt.of c KX G
  rw [hd, T.glo "law" hg] at hmg0
  cases hmg0
  obtain ⟨fd, F⟩ := T.d _ (List.mem_of_getElem? hi)
  have F' : FunD K "law" "law" (defArgs st) (defBody st) (defScope st) [] [] (He.ga K "law") fd := F
  refine ⟨K, fd, SpD l.prog w K lawR, KX, fun s u => F'.bindsA (ps := ["script"]) hb s [u] rfl, fun H a ns hl hbits hS => law_ask hl hbits hS, fun base _ _ => G0 w K mg base _ fd T (fun_ofD F')⟩
end Dz

namespace Dz
open PySem L2
section
variable {X : Cx} {c : Cc} {e a b o tg iter elt : Expr} {es ts ifs : List Expr} {st : Stmt} {sts rest body : List Stmt} {r r' : Rho} {S S' : Sto} {R : Res} {pos p apos cpos pos' : Pos} {x y : Sl} {n m : Str} {k : Nat} {xs ys : List Sl} {ds : List D} {i j : Int} {F F' H : Hp} {al : List Addr} {v : V} {sc : Scope} {σ : L2.St}
/-! ### what is thrown away -/
def InB (n : Nat) : Sl → Prop
  | .ptr k => k < n
  | _ => True
def CellIn (n : Nat) : Cell → Prop
  | .gone => True
  | .lst xs => ∀ x ∈ xs, InB n x
  | .dct kvs => ∀ q ∈ kvs, InB n q.2
  | .dK kvs => ∀ q ∈ kvs, InB n q.2
  | .obj _ fs => ∀ q ∈ fs, InB n q.2
theorem take_at {α : Type} {l : List α} {n k : Nat} {a : α} (h : (l.take n)[k]? = some a) : l[k]? = some a ∧ k < n := by
  by_cases hk : k < n
  · rw [List.getElem?_take_of_lt hk] at h; exact ⟨h, hk⟩
  · rw [List.getElem?_eq_none (by simp; omega)] at h; cases h
theorem rps_trunc {P : Program} {w : World} {K : PySem.W.Frag} {B : Hp} {n : Nat} {s : Sl} (hi : InB n s) (h : RpS P w K B F al v s) : RpS P w K B F (al.take n) v s := by
  cases s with
  | dat d => exact h
  | bor d => exact h
  | ptr k =>
    obtain ⟨p, h1, h2⟩ := h
    exact ⟨p, by rw [List.getElem?_take_of_lt hi]; exact h1, h2⟩
theorem paired_memP {α β : Type} {G G' : α → β → Prop} : ∀ {l₁ : List α} {l₂ : List β}, (∀ a, ∀ b ∈ l₂, G a b → G' a b) → Paired G l₁ l₂ → Paired G' l₁ l₂
  | _, _, _, .nil => .nil
  | _, _, f, .cons q t => .cons (f _ _ (by simp) q) (paired_memP (fun a b hb => f a b (by simp [hb])) t)
theorem cell_trunc {P : Program} {w : World} {K : PySem.W.Frag} {B : Hp} {n : Nat} {q : Addr} {d : Cell} (hi : CellIn n d) (h : CellOk P w K B F al H q d) : CellOk P w K B F (al.take n) H q d := by
  cases d with
  | gone => trivial
  | lst xs =>
    obtain ⟨vs, h1, h2⟩ := h
    exact ⟨vs, h1, paired_memP (fun a b hb z => rps_trunc (hi b hb) z) h2⟩
  | dct kvs =>
    obtain ⟨vs, h1, h2⟩ := h
    exact ⟨vs, h1, paired_memP (fun a b hb z => ⟨z.1, z.2.1, rps_trunc (hi b hb) z.2.2⟩) h2⟩
  | dK kvs =>
    obtain ⟨vs, h1, h2⟩ := h
    exact ⟨vs, h1, paired_memP (fun a b hb z => ⟨z.1, rps_trunc (hi b hb) z.2⟩) h2⟩
  | obj C fs =>
    obtain ⟨dx, vs, h1, h2⟩ := h
    exact ⟨dx, vs, h1, paired_memP (fun a b hb z => ⟨z.1, rps_trunc (hi b hb) z.2⟩) h2⟩
theorem Core.trunc {n : Nat} (co : Core X c F al S H) (hp : ∃ be, al.take n = c.a0 ++ be) (hS : ∀ d ∈ S.take n, CellIn n d) : Core X c F (al.take n) (S.take n) H := by
  refine ⟨hp, co.sub, co.base, co.f0, co.fr, by simp [co.len], co.nd.sublist (List.take_sublist n al), fun k p e => co.trk k p (take_at e).1, fun k p d e1 e2 e3 => co.own k p d (take_at e1).1 (take_at e2).1 e3, fun k p d e1 e2 => ?_⟩
  exact cell_trunc (hS d (List.mem_of_getElem? e2)) (co.cells k p d (take_at e1).1 (take_at e2).1)
theorem slots_trunc {n : Nat} (sl : Slots X c F al r σ) (hr : ∀ s, some s ∈ r → InB n s) : Slots X c F (al.take n) r σ := ⟨sl.1, fun i s e => by
  obtain ⟨v, h1, h2⟩ := sl.2 i s e
  exact ⟨v, h1, rps_trunc (hr s (List.mem_of_getElem? e)) h2⟩⟩
theorem ext_take {al' : List Addr} (ex : Ext F al F' al') : al'.take al.length = al := by
  obtain ⟨_, be, rfl⟩ := ex
  simp
/-- the store S' holds nothing of n and behind it in what is kept -/
structure Cut (n : Nat) (r : Rho) (S : Sto) : Prop where
  r : ∀ s, some s ∈ r → InB n s
  S : ∀ d ∈ S.take n, CellIn n d
theorem rq_clean {Q Q' : Rho → Sto → Prop} (co0 : Core X c F al S H) {σ' : L2.St} {H' : Hp} (h : RQ X c F al Q σ' H') (hc : ∀ r' S', Q r' S' → Cut S.length r' S' ∧ Q' r' (S'.take S.length)) : RQ X c F al Q' σ' H' := by
  obtain ⟨F', al', r', S', ex, co, sl, q⟩ := h
  obtain ⟨c1, q'⟩ := hc r' S' q
  have et := ext_take ex
  refine ⟨F', al, r', S'.take S.length, ⟨ex.same, [], by simp⟩, ?_, ?_, q'⟩
  · have := co.trunc (n := al.length) (by rw [et]; exact co0.pre) (by rw [co0.len]; exact c1.S)
    rw [et, co0.len] at this
    exact this
  · have := slots_trunc (n := al.length) sl (by rw [co0.len]; exact c1.r)
    rw [et] at this
    exact this
/-- behind a suite all cells that it made are let go -/
theorem ws_clean (h : WS X c sts r S { nx := fun r' S' => Cut S.length r' S' ∧ R.nx r' (S'.take S.length), rt := R.rt, bk := fun r' S' => Cut S.length r' S' ∧ R.bk r' (S'.take S.length), ct := fun r' S' => Cut S.length r' S' ∧ R.ct r' (S'.take S.length) }) : WS X c sts r S R := fun σ H F al co sl =>
  tWSs_mono (h σ H F al co sl) (fun σ' H' q => rq_clean co q fun _ _ z => z) (fun σ' H' q => q) (fun σ' H' q => rq_clean co q fun _ _ z => z) (fun σ' H' q => rq_clean co q fun _ _ z => z)
theorem w1_clean (h : W1 X c st r S { nx := fun r' S' => Cut S.length r' S' ∧ R.nx r' (S'.take S.length), rt := R.rt, bk := fun r' S' => Cut S.length r' S' ∧ R.bk r' (S'.take S.length), ct := fun r' S' => Cut S.length r' S' ∧ R.ct r' (S'.take S.length) }) : W1 X c st r S R := fun σ H F al co sl =>
  tWS_mono (h σ H F al co sl) (fun σ' H' q => rq_clean co q fun _ _ z => z) (fun σ' H' q => q) (fun σ' H' q => rq_clean co q fun _ _ z => z) (fun σ' H' q => rq_clean co q fun _ _ z => z)
/-! ### made, and given up at once -/
theorem pre_of {al' : List Addr} (co0 : Core X c F al S H) (ex : Ext F al F' al') : ∃ be, al'.take al.length = c.a0 ++ be := by rw [ext_take ex]; exact co0.pre
theorem take_snoc {d : Cell} : (S ++ [d]).take S.length = S := by simp
/-- every pointer in the store points into it -/
theorem inb_of {al' : List Addr} (rv : RpS X.prog X.w X.K c.B F al v x) : InB al.length x := by
  cases x with
  | dat d => trivial
  | bor d => trivial
  | ptr k =>
    obtain ⟨p, h1, _⟩ := rv
    exact (List.getElem?_eq_some_iff.mp h1).1
theorem paired_mem_r {α β : Type} {G : α → β → Prop} : ∀ {l₁ : List α} {l₂ : List β} {b : β}, Paired G l₁ l₂ → b ∈ l₂ → ∃ a, G a b
  | _, _, _, .nil, h => by cases h
  | _, _, _, .cons q t, h => by
    rcases List.mem_cons.mp h with rfl | h
    · exact ⟨_, q⟩
    · exact paired_mem_r t h
theorem Core.inb (co : Core X c F al S H) : ∀ d ∈ S, CellIn S.length d := fun d hd => by
  obtain ⟨k, hk, e⟩ := List.mem_iff_getElem.mp hd
  have hk' : k < al.length := by rw [co.len]; exact hk
  have cell := co.cells k al[k] d (List.getElem?_eq_getElem hk') (by rw [List.getElem?_eq_getElem hk, e])
  rw [← co.len]
  cases d with
  | gone => trivial
  | lst xs =>
    obtain ⟨vs, _, h2⟩ := cell
    intro x hx
    obtain ⟨v, q⟩ := paired_mem_r h2 hx
    exact inb_of (al' := al) q
  | dct kvs =>
    obtain ⟨vs, _, h2⟩ := cell
    intro x hx
    obtain ⟨v, q⟩ := paired_mem_r h2 hx
    exact inb_of (al' := al) q.2.2
  | dK kvs =>
    obtain ⟨vs, _, h2⟩ := cell
    intro x hx
    obtain ⟨v, q⟩ := paired_mem_r h2 hx
    exact inb_of (al' := al) q.2
  | obj C fs =>
    obtain ⟨dx, vs, _, h2⟩ := cell
    intro x hx
    obtain ⟨v, q⟩ := paired_mem_r h2 hx
    exact inb_of (al' := al) q.2
theorem own_end {d0 : Cell} {d : D} {al' : List Addr} {H' : Hp} {F0 : Hp} (co0 : Core X c F0 al S H) (ex : Ext F0 al F al') (co : Core X c F al' (S ++ [d0]) H') (rv : RpS X.prog X.w X.K c.B F al' v (.ptr S.length)) (m : Melt d0 d) :
    ∃ F', Ext F0 al F' al ∧ Core X c F' al S H' ∧ Rp X.prog X.w X.K F' v d ∧ Same F F' := by
  obtain ⟨p, hp, rfl⟩ := rv
  obtain ⟨F', e1, co', r'⟩ := co.melt hp (by simp) m
  have et := ext_take ex
  have e : ((S ++ [d0]).set S.length .gone).take al.length = S := by rw [co0.len]; simp
  have co2 := co'.trunc (n := al.length) (by rw [et]; exact co0.pre) (by
    rw [e, co0.len]
    exact co0.inb)
  rw [et, e] at co2
  exact ⟨F', ⟨ex.same.trans e1.same, [], by simp⟩, co2, r', e1.same⟩
theorem ee_own {d0 : Cell} {d : D} (m : Melt d0 d) (h : EW X c e r S fun x S1 => x = .ptr S.length ∧ S1 = S ++ [d0]) : EE X c e r S (.dat d) := fun Q q pins s σ H F al I co sl =>
  (tW_then (R := VQ X c F al Q) h co sl fun v H1 F1 al1 x S1 ex1 co1 sl1 rv ⟨e1, e2⟩ => by
    subst e1; subst e2
    obtain ⟨F', ex', co', r', _⟩ := own_end co ex1 co1 rv m
    exact ⟨F', al, .dat d, S, ex', co', r', q⟩) pins s I
/-- [elt for n in iter if ..], frozen at once -/
theorem ee_lc (f : Item → D) (q : Item → Bool) {its : List Item} {keep : Sto → Prop} (j : Nat) (hi : IW X c (.Name n p) iter r S its keep) (hN : X.N.Nodup) (hc : X.calm = true) (hkeep : ∀ acc, keep (S ++ [.lst acc])) (hlen : its.length ≤ 100000)
    (hs : ∀ it ∈ its, ∃ s, it = .one s ∧ LcOk X c sc ifs elt (r.set j (some s)) S (q it) (f it)) (ok : BlkOk X.N X.env.scope sc [(n, j)])
    (hg : ∀ (s : Shared) (H : Hp) (C : Addr) (cl : List (Str × Addr)) (fp : List Addr), PG (X.blk s H sc (compEnvC sc cl C X.env) fp) (.Name n p) (gName j)) (hst : ∀ x, foldedSetIterable iter X.env x = pure x := by intro _; rfl) :
    EE X c (.ListComp elt [⟨.Name n p, iter, ifs, 0⟩] sc pos) r S (.dat (.lst ((its.filter q).map f))) :=
  ee_own (.lst _) (ew_lc f q j hi hN hc hkeep hlen hs ⟨rfl, rfl⟩ ok hg hst)
/-- y = [..] on one row, frozen at once -/
theorem w1_setLcD (i : Nat) (f : Item → D) (q : Item → Bool) {its : List Item} {keep : Sto → Prop} (j : Nat) {m : Str} (hi : IW X c (.Name n p) iter r S its keep) (hN : X.N.Nodup) (hc : X.calm = true) (hkeep : ∀ acc, keep (S ++ [.lst acc])) (hlen : its.length ≤ 100000)
    (hs : ∀ it ∈ its, ∃ s, it = .one s ∧ LcOk X c sc ifs elt (r.set j (some s)) S (q it) (f it))
    (hQ : R.nx (r.set i (some (.dat (.lst ((its.filter q).map f))))) S) (ok : BlkOk X.N X.env.scope sc [(n, j)])
    (hg : ∀ (s : Shared) (H : Hp) (C : Addr) (cl : List (Str × Addr)) (fp : List Addr), PG (X.blk s H sc (compEnvC sc cl C X.env) fp) (.Name n p) (gName j))
    (hsw : swapsWith (.ListComp elt [⟨.Name n p, iter, ifs, 0⟩] sc pos) (some (.Name m pos')) apos.line X.env = pure true := by rfl)
    (hy : X.N[i]? = some m := by rfl) (hyl : X.env.scope.names.lookup m = some .local := by rfl) (hst : ∀ x, foldedSetIterable iter X.env x = pure x := by intro _; rfl) :
    W1 X c (.Assign [.Name m pos'] (.ListComp elt [⟨.Name n p, iter, ifs, 0⟩] sc pos) apos) r S R := by
  intro σ H F al co sl
  have h := w1_setLc (R := { R with nx := fun r' S' => r' = r.set i (some (.ptr S.length)) ∧ S' = S ++ [.lst (dats ((its.filter q).map f))] }) (apos := apos) (pos := pos) (pos' := pos') i f q j hi hN hc hkeep hlen hs ⟨rfl, rfl⟩ ok hg hsw hy hyl hst σ H F al co sl
  refine tWS_mono h (fun σ' H' ⟨F', al', r', S', ex, co', sl', e1, e2⟩ => ?_) (fun _ _ z => z) (fun _ _ z => z) (fun _ _ z => z)
  subst e1; subst e2
  by_cases hir : i < r.length
  · obtain ⟨v, hv, rv⟩ := sl'.2 i (.ptr S.length) (by rw [List.getElem?_set_self hir])
    obtain ⟨F2, ex2, co2, r2, sm⟩ := own_end co ex co' rv (.lst ((its.filter q).map f))
    refine ⟨F2, al, _, S, ex2, co2, ⟨by simpa using sl'.1, fun k s e => ?_⟩, hQ⟩
    by_cases hk : i = k
    · subst hk
      rw [List.getElem?_set_self hir] at e
      cases e
      exact ⟨v, hv, r2⟩
    · rw [List.getElem?_set_ne hk] at e
      obtain ⟨v0, h0, q0⟩ := sl.2 k s e
      have hb := inb_of (al' := al) q0
      obtain ⟨v1, h1, q1⟩ := sl'.2 k s (by rw [List.getElem?_set_ne hk]; exact e)
      refine ⟨v1, h1, ?_⟩
      have q2 : RpS X.prog X.w X.K c.B F2 al' v1 s := q1.mono ⟨sm, [], by simp⟩
      have q3 := rps_trunc hb q2
      rw [ext_take ex] at q3
      exact q3
  · have hl : S.length < al'.length := by rw [co'.len]; simp
    obtain ⟨F2, ex2, co2, _, sm⟩ := own_end (v := .ref al'[S.length]) co ex co' ⟨al'[S.length], List.getElem?_eq_getElem hl, rfl⟩ (.lst ((its.filter q).map f))
    refine ⟨F2, al, _, S, ex2, co2, ⟨by simpa using sl'.1, fun k s e => ?_⟩, hQ⟩
    rw [List.set_eq_of_length_le (by omega)] at e
    obtain ⟨v0, h0, q0⟩ := sl.2 k s e
    have hb := inb_of (al' := al) q0
    obtain ⟨v1, h1, q1⟩ := sl'.2 k s (by rw [List.set_eq_of_length_le (by omega)]; exact e)
    refine ⟨v1, h1, ?_⟩
    have q2 : RpS X.prog X.w X.K c.B F2 al' v1 s := q1.mono ⟨sm, [], by simp⟩
    have q3 := rps_trunc hb q2
    rw [ext_take ex] at q3
    exact q3
theorem cut_nat {α : Type} (xs : List α) (a b : Nat) : cutD xs (some (a : Int)) (some (b : Int)) = (xs.take b).drop a := by
  unfold cutD
  rw [HT.sIx_nat, HT.sIx_nat]
  apply List.ext_getElem?
  intro k
  simp only [List.getElem?_take, List.getElem?_drop]
  by_cases h1 : k < min b xs.length - min a xs.length
  · rw [if_pos h1, if_pos (by omega)]
    congr 1
    omega
  · rw [if_neg h1]
    by_cases h2 : a + k < b
    · rw [if_pos h2, List.getElem?_eq_none (by omega)]
    · rw [if_neg h2]
end
end Dz

namespace Dz
open PySem L2
section
variable {X : Cx} {c : Cc} {e a b o tg iter elt : Expr} {es ts ifs : List Expr} {st : Stmt} {sts rest body : List Stmt} {r r' : Rho} {S S' : Sto} {R : Res} {pos p apos cpos pos' : Pos} {x y : Sl} {n m : Str} {k : Nat} {xs ys sls : List Sl} {ds : List D} {i j : Int} {F F' H : Hp} {al : List Addr} {v : V} {sc : Scope} {σ : L2.St}
/-! arguments that make cells -/
theorem aw_nil {Q : List Sl → Sto → Prop} (k : Q [] S) : AW X c [] r S Q := AW.of pa_nil fun σ H F al co sl => ⟨F, al, [], S, Ext.refl, co, .nil, k⟩
theorem aw_cons {Q : List Sl → Sto → Prop} (h : EW X c a r S fun x S1 => AW X c es r S1 fun sls S2 => Q (x :: sls) S2) (hs : starEach (a :: es) X.env = (false, eval a X.env) :: starEach es X.env := by rfl) : AW X c (a :: es) r S Q :=
  AW.of (pa_cons pe_self pa_self hs) fun σ H F al co sl => tW_then h co sl fun v H1 F1 al1 x S1 ex1 co1 sl1 rv h2 => tAW_then h2 co1 sl1 fun vs H2 F2 al2 sls S2 ex2 co2 sl2 rvs q => ⟨F2, al2, x :: sls, S2, ex1.trans ex2, co2, .cons (rv.mono ex2) rvs, q⟩
/-- a value, then the rest, where the first makes nothing -/
theorem aw_ee {Q : List Sl → Sto → Prop} (h : EE X c a r S x) (h2 : AW X c es r S fun sls S2 => Q (x :: sls) S2) (hs : starEach (a :: es) X.env = (false, eval a X.env) :: starEach es X.env := by rfl) : AW X c (a :: es) r S Q := aw_cons (ew_ee h h2) hs
/-- [a, b, ..] whose items are made -/
theorem ew_lstW {Q : Sl → Sto → Prop} (h : AW X c es r S fun sls S1 => sls.length ≤ 100000 ∧ Q (.ptr S1.length) (S1 ++ [.lst sls])) : EW X c (.List es pos) r S Q := EW.of (pe_lst pa_self) fun σ H F al co sl =>
  tAW_then h co sl fun vs H1 F1 al1 sls S1 ex1 co1 sl1 rvs ⟨hl, k⟩ => ⟨by rw [paired_len rvs]; exact sz_of hl, fun p hp =>
    have ex2 : Ext F1 al1 F1 (al1 ++ [p]) := ⟨Same.refl _, [p], rfl⟩
    ⟨F1, al1 ++ [p], .ptr S1.length, _, ex1.trans ex2, co1.born (d := .lst sls) hp ⟨vs, upd_same, Paired.mono' (fun _ _ q => q.mono ex2) rvs⟩, ⟨p, by rw [List.getElem?_append_right (by rw [co1.len]; exact Nat.le_refl _), co1.len, Nat.sub_self]; rfl, rfl⟩, k⟩⟩
/-- (a, b, ..) whose items are made and frozen -/
theorem ew_tupW {Q : Sl → Sto → Prop} {x1} (h : AW X c es r S fun sls S1 => ∃ ds, sls = dats ds ∧ ds.length ≤ 100000 ∧ Q (.dat (.tup ds)) S1) : EW X c (.Tuple es x1 pos) r S Q := EW.of (pe_tupF pa_self) fun σ H F al co sl =>
  tAW_then h co sl fun vs H1 F1 al1 sls S1 ex1 co1 sl1 rvs ⟨ds, e, hl, k⟩ => by
    subst e
    exact ⟨by rw [(rps_of rvs).length]; exact sz_of hl, fun p o hp ho =>
      ⟨_, _, .dat (.tup ds), S1, ex1.trans (Ext.laid (o := .frz o (.tup vs)) co1 hp), co1.laid hp, Rp.tup upd_same ho ((rps_of rvs).mono (same_upd (co1.sub.free hp))), k⟩⟩
/-- a statement with one end -/
theorem ws_mid (r1 : Rho) (S1 : Sto) (h1 : W1 X c st r S { R with nx := fun r' S' => r' = r1 ∧ S' = S1 }) (h2 : WS X c rest r1 S1 R) : WS X c (st :: rest) r S R := ws_cons fun σ H F al co sl =>
  tWS_mono (h1 σ H F al co sl) (fun σ' H' ⟨F', al', r', S', ex, co', sl', e1, e2⟩ => ⟨F', al', r', S', ex, co', sl', by subst e1; subst e2; exact h2⟩) (fun _ _ z => z) (fun _ _ z => z) (fun _ _ z => z)
theorem rng_at {n i : Nat} {f : Nat → Item} {it : Item} (h : ((List.range n).map f)[i]? = some it) : i < n ∧ it = f i := by
  rw [List.getElem?_map] at h
  obtain ⟨d, hd, e⟩ := Option.map_eq_some_iff.mp h
  have hi : i < n := by have := (List.getElem?_eq_some_iff.mp hd).1; simpa using this
  rw [List.getElem?_range hi] at hd
  cases hd
  exact ⟨hi, e.symm⟩
theorem dats_at {i : Nat} {it : Item} {ds : List D} (h : (ds.map fun d => Item.one (.dat d))[i]? = some it) : ∃ d, ds[i]? = some d ∧ it = .one (.dat d) := by
  rw [List.getElem?_map] at h
  obtain ⟨d, hd, e⟩ := Option.map_eq_some_iff.mp h
  exact ⟨d, hd, e.symm⟩
theorem at_nat {α : Type} {xs : List α} {k : Nat} {a : α} (h : xs[k]? = some a) : atI xs (k : Int) = some a := by
  have hk := (List.getElem?_eq_some_iff.mp h).1
  unfold atI ixN
  rw [if_pos (by omega), if_pos (by omega)]
  simpa using h
theorem at_int {α : Type} {xs : List α} {k : Int} {a : α} (hk : 0 ≤ k) (h : xs[k.toNat]? = some a) : atI xs k = some a := by
  have := at_nat h
  rwa [Int.toNat_of_nonneg hk] at this
theorem at0 {α : Type} {x : α} {xs : List α} : atI (x :: xs) 0 = some x := at_nat (k := 0) rfl
/-! numbers' sizes -/
theorem natAbs_add_lt {n : Nat} (h1 : i.natAbs < 2 ^ n) (h2 : j.natAbs < 2 ^ n) : (i + j).natAbs < 2 ^ (n + 1) := by
  have := Int.natAbs_add_le i j
  rw [Nat.pow_succ]
  omega
theorem pow_le {m n : Nat} (h : m ≤ n) : 2 ^ m ≤ 2 ^ n := Nat.pow_le_pow_right (by decide) h
theorem natAbs_mod_lt (hj : 0 < j) : (i % j).natAbs < j.natAbs := by
  have h1 := Int.emod_nonneg i (Int.ne_of_gt hj)
  have h2 := Int.emod_lt_of_pos i hj
  omega
theorem natAbs_div_le (hj : 0 < j) : (i / j).natAbs ≤ i.natAbs := Int.natAbs_ediv_le_natAbs i j
theorem mulB_of {m n : Nat} (h1 : i.natAbs < 2 ^ m) (h2 : j.natAbs < 2 ^ n) (hm : 0 < m) (hn : 0 < n) (h : m + n ≤ 100000000) : PySem.IntMulOk i j := mul_ok (bits_lt h1 hm) (bits_lt h2 hn) h
/-! objects made, methods called, where nothing is raised -/
theorem ew_makeO {C : Addr} {R : RelM} {Q : Sl → Sto → Prop} {fs : List (Str × D)} {as : List Sl} (d : DefC X.prog X.w X.K X.mg X.base n C k (SpM X.prog X.w X.K C R)) (tk : Takes X (wxOf X c)) (hr : Room (k + 1) X.A) {sls : List Sl} (ha : EA X c (e :: es) r S sls) (hl : Paired (Lend S) sls as) (hR : R [] as (.ok (.non, fs)))
    (hQ : Q (.ptr S.length) (S ++ [.obj C (datF fs)])) (hg : Gl X n := by rfl) (hdb : (n == ("__debug__" : Str)) = false := by decide)
    (hst : starEach (e :: es) X.env = (false, eval e X.env) :: starEach es X.env := by rfl) (hpl : (backTo pos (starEach es X.env)).any (·.1) = false := by rfl) : EW X c (.Call (.Name n p) (e :: es) [] pos) r S Q :=
  ew_make d tk hr ha hl hR (fun d fs e => by cases e; exact ⟨rfl, hQ⟩) (fun cls e => by cases e) hg hdb hst hpl
theorem ew_methO {C : Addr} {R : RelM} {fs fs' : List (Str × D)} {d : D} {Q : Sl → Sto → Prop} {kk : Nat} {pl : Sem Bool} {as : List Sl} (df : DefM X.prog X.w X.K X.mg X.base C m kk (SpM X.prog X.w X.K C R)) (cl : Cls X.K C) (tk : Takes X (wxOf X c)) (hr : Room kk X.A) (ho : EE X c o r S (.ptr k)) (hk : S[k]? = some (.obj C (datF fs)))
    (hno : (datF fs).lookup m = none) {sls : List Sl} (ha : EA X c (e :: es) r S sls) (hl : Paired (Lend S) sls as) (hR : R fs as (.ok (d, fs'))) (hQ : Q (.dat d) (S.set k (.obj C (datF fs'))))
    (hst : starEach (e :: es) X.env = (false, eval e X.env) :: starEach es X.env := by rfl) (hpl : (backTo pos (starEach es X.env)).any (·.1) = false := by rfl)
    (ht : eval (.Call (.Attribute o m apos) (e :: es) [] pos) X.env = (do
      let ov ← eval o X.env
      standAt apos.atName
      let (f, first) ← holding [ov] (getMethod ov m pl)
      callWith pos f first (backTo pos (starEach (e :: es) X.env)) (backToKw pos (keywordEach [] X.env))) := by rfl) : EW X c (.Call (.Attribute o m apos) (e :: es) [] pos) r S Q :=
  ew_meth df cl tk hr ho hk hno ha hl hR (fun d fs e => by cases e; exact hQ) (fun cls e => by cases e) hst hpl ht
end
end Dz

namespace Dz
open PySem L2
/-! ### dicts keyed by tuples -/
def dget (kvs : List (NestedKey × Sl)) (k : NestedKey) : Option Sl := (kvs.find? fun q => decide (q.1 = k)).map (·.2)
def dput (kvs : List (NestedKey × Sl)) (k : NestedKey) (v : Sl) : List (NestedKey × Sl) := if (kvs.find? fun q => decide (q.1 = k)).isSome then kvs.map fun q => if q.1 = k then (q.1, v) else q else kvs ++ [(k, v)]
section
variable {α β : Type} {G : α → β → Prop} {f : α → NestedKey} {g : β → NestedKey}
theorem paired_find (hk : ∀ a b, G a b → f a = g b) : ∀ {l₁ : List α} {l₂ : List β}, Paired G l₁ l₂ → ∀ k, (l₁.find? (fun a => decide (f a = k)) = none ∧ l₂.find? (fun a => decide (g a = k)) = none) ∨ ∃ a b, l₁.find? (fun a => decide (f a = k)) = some a ∧ l₂.find? (fun a => decide (g a = k)) = some b ∧ G a b
  | _, _, .nil, k => .inl ⟨rfl, rfl⟩
  | a :: _, b :: _, .cons q t, k => by
    have e := hk a b q
    by_cases h : f a = k
    · exact .inr ⟨a, b, by rw [List.find?_cons_of_pos (by simpa using h)], by rw [List.find?_cons_of_pos (by rw [← e]; simpa using h)], q⟩
    · rw [List.find?_cons_of_neg (by simpa using h), List.find?_cons_of_neg (by rw [← e]; simpa using h)]
      exact paired_find hk t k
theorem paired_store {G' : α → β → Prop} {u : α → α} {v : β → β} (hk : ∀ a b, G a b → G' (u a) (v b)) : ∀ {l₁ : List α} {l₂ : List β}, Paired G l₁ l₂ → Paired G' (l₁.map u) (l₂.map v)
  | _, _, .nil => .nil
  | _, _, .cons q t => .cons (hk _ _ q) (paired_store hk t)
theorem paired_keys (hk : ∀ a b, G a b → f a = g b) : ∀ {l₁ : List α} {l₂ : List β}, Paired G l₁ l₂ → l₁.map f = l₂.map g
  | _, _, .nil => rfl
  | _, _, .cons q t => by rw [List.map_cons, List.map_cons, hk _ _ q, paired_keys hk t]
end
section
variable {X : Cx} {pins : List (Addr × Obj)} {σ : L2.St} {s : Shared} {H : Hp}
mutual
theorem key_is (I : Inv X pins σ H s) : ∀ (k : NestedKey) (v : V) (u : Value), Rp X.prog X.w X.K H v (kD k) → RelV v u → NestedIs s.heap k u
  | .none, v, u, h, r => by
    rw [kD] at h
    cases h
    cases r
    exact .none
  | .num i, v, u, h, r => by
    rw [kD] at h
    cases h
    obtain ⟨t, rfl⟩ := r
    exact .int i t
  | .text x, v, u, h, r => by
    rw [kD] at h
    cases h
    obtain ⟨t, rfl⟩ := r
    exact .text x t
  | .tup ks, v, u, h, r => by
    rw [kD] at h
    cases h with
    | tup h1 h2 h3 =>
      cases r
      obtain ⟨q1, _, its, rv, o, q2, q3, n, q4⟩ := (show ObjOk X.prog X.w H s.heap _ (.frz _ (.tup _)) from I.hok _ _ h1)
      refine .tup q2 q3 q4 ?_
      exact keys_is I ks _ _ h3 rv
theorem keys_is (I : Inv X pins σ H s) : ∀ (ks : List NestedKey) (vs : List V) (us : List Value), Rps X.prog X.w X.K H vs (kDs ks) → Vals vs us → NestedAll s.heap ks us
  | [], _, _, h, r => by
    rw [kDs] at h
    cases h
    cases r
    exact .nil
  | k :: ks, _, _, h, r => by
    rw [kDs] at h
    cases h with
    | cons h1 h2 =>
      cases r with
      | cons r1 r2 => exact .cons (key_is I k _ _ h1 r1) (keys_is I ks _ _ h2 r2)
end
abbrev RelE (e : NestedKey × Addr × V) (x : NestedKey × Addr × Value) : Prop := e.1 = x.1 ∧ e.2.1 = x.2.1 ∧ RelV e.2.2 x.2.2
/-- the dict that stands at p, its keys' places tracked -/
def DctR (X : Cx) (H : Hp) (p : Addr) (es : List (NestedKey × Addr × V)) : Prop := H p = some (.ext (dPhi X.prog X.w p es)) ∧ ∀ e ∈ es, Rp X.prog X.w X.K H (.ref e.2.1) (kD e.1)
theorem dn_of {p : Addr} {es : List (NestedKey × Addr × V)} (I : Inv X pins σ H s) (h : DctR X H p es) :
    es.length ≤ sizeLine ∧ (p == sysModules) = false ∧ (∀ e ∈ es, e.1.depth ≤ 8) ∧ ∃ xs, Paired RelE es xs ∧ s.heap.DictOfH (nestedKind X.prog X.w) p xs := by
  obtain ⟨hp, hk⟩ := h
  obtain ⟨⟨h1, h2, h3, h4, xs, o, ar, ep, hr, e1, e2, e3, e4⟩, _, _⟩ := (show ObjOk X.prog X.w H s.heap p (.ext (dPhi X.prog X.w p es)) from I.hok p _ hp)
  refine ⟨h1, h2, h4, xs, hr, o, ar, ep, e1, e2, e3, e4, fun x hx => ?_, ?_⟩
  · obtain ⟨i, hi, rfl⟩ := List.mem_iff_getElem.mp hx
    have hl := paired_len hr
    obtain ⟨e, he, r1, r2, r3⟩ := paired_get hr (List.getElem?_eq_getElem hi)
    have hm := List.mem_of_getElem? he
    refine ⟨?_, by rw [← r1]; exact h4 e hm⟩
    rw [← r1, ← r2]
    exact key_is I _ _ _ (hk e hm) rfl
  · rw [← paired_keys (f := (·.1)) (g := (·.1)) (fun a b q => q.1) hr]
    exact h3
theorem dphi_stays {P : Program} {w : World} {p : Addr} {es : List (NestedKey × Addr × V)} {h1 h2 : Heap} (h : dPhi P w p es h1) (k : ∀ o, h1.get? p = some o → h2.get? p = some o) : dPhi P w p es h2 := by
  obtain ⟨a, b, c, d, xs, o, ar, ep, hr, e1, e2⟩ := h
  exact ⟨a, b, c, d, xs, o, ar, ep, hr, k _ e1, e2⟩
theorem dphi_ok {P : Program} {w : World} {p : Addr} {es : List (NestedKey × Addr × V)} {h : Heap} (x : dPhi P w p es h) : ObjOk P w H h p (.ext (dPhi P w p es)) := by
  refine ⟨x, ?_, fun _ _ a b => dphi_stays a b⟩
  obtain ⟨_, _, _, _, xs, o, ar, ep, hr, e1, _⟩ := x
  exact ⟨o, e1⟩
theorem dphi_of {P : Program} {w : World} {p : Addr} {es : List (NestedKey × Addr × V)} {xs : List (NestedKey × Addr × Value)} {h : Heap} (hl : es.length ≤ sizeLine) (hs : (p == sysModules) = false) (hd : ∀ e ∈ es, e.1.depth ≤ 8) (hr : Paired RelE es xs) (x : h.DictOfH (nestedKind P w) p xs) : dPhi P w p es h := by
  obtain ⟨o, ar, ep, e1, e2, e3, e4, _, e5⟩ := x
  exact ⟨hl, hs, by rw [paired_keys (f := (·.1)) (g := (·.1)) (fun a b q => q.1) hr]; exact e5, hd, xs, o, ar, ep, hr, e1, e2, e3, e4⟩
def eget (es : List (NestedKey × Addr × V)) (k : NestedKey) : Option V := (es.find? fun e => decide (e.1 = k)).map (·.2.2)
def eput (es : List (NestedKey × Addr × V)) (k : NestedKey) (a : Addr) (v : V) : List (NestedKey × Addr × V) :=
  if (es.find? fun e => decide (e.1 = k)).isSome then es.map fun e => if e.1 = k then (e.1, e.2.1, v) else e else es ++ [(k, a, v)]
theorem eget_rel {es : List (NestedKey × Addr × V)} {xs : List (NestedKey × Addr × Value)} (h : Paired RelE es xs) (k : NestedKey) : (eget es k = none ∧ atKey xs k = none) ∨ ∃ v q, eget es k = some v ∧ atKey xs k = some q ∧ RelV v q.2 := by
  rcases paired_find (f := (·.1)) (g := (·.1)) (fun a b q => q.1) h k with ⟨h1, h2⟩ | ⟨a, b, h1, h2, h3⟩
  · exact .inl ⟨by unfold eget; rw [h1]; rfl, by unfold atKey; rw [h2]; rfl⟩
  · exact .inr ⟨a.2.2, b.2, by unfold eget; rw [h1]; rfl, by unfold atKey; rw [h2]; rfl, h3.2.2⟩
theorem eput_rel {es : List (NestedKey × Addr × V)} {xs : List (NestedKey × Addr × Value)} (h : Paired RelE es xs) (k : NestedKey) (a : Addr) {v : V} {u : Value} (r : RelV v u) : Paired RelE (eput es k a v) (storedH xs k a u) := by
  unfold eput storedH atKey
  rcases paired_find (f := (·.1)) (g := (·.1)) (fun a b q => q.1) h k with ⟨h1, h2⟩ | ⟨a', b, h1, h2, h3⟩
  · rw [h1, h2]
    exact paired_app h (.cons ⟨rfl, rfl, r⟩ .nil)
  · rw [h1, h2]
    show Paired RelE (es.map _) (xs.map _)
    refine paired_store (fun x y q => ?_) h
    obtain ⟨q1, q2, q3⟩ := q
    unfold putAt
    by_cases hx : x.1 = k
    · rw [if_pos hx, if_pos (by rw [← q1]; exact hx)]
      exact ⟨q1, q2, r⟩
    · rw [if_neg hx, if_neg (by rw [← q1]; exact hx)]
      exact ⟨q1, q2, q3⟩
theorem eput_len {es : List (NestedKey × Addr × V)} {k : NestedKey} {a : Addr} {v : V} : (eput es k a v).length ≤ es.length + 1 := by
  unfold eput
  split <;> simp
theorem eput_mem {es : List (NestedKey × Addr × V)} {k : NestedKey} {a : Addr} {v : V} {Pr : NestedKey → Addr → Prop} (h : ∀ e ∈ es, Pr e.1 e.2.1) (hk : Pr k a) : ∀ e ∈ eput es k a v, Pr e.1 e.2.1 := by
  unfold eput
  split
  · intro e he
    obtain ⟨e0, h0, rfl⟩ := List.mem_map.mp he
    split
    · exact h e0 h0
    · exact h e0 h0
  · intro e he
    rcases List.mem_append.mp he with h1 | h1
    · exact h e h1
    · have : e = (k, a, v) := by simpa using h1
      subst this
      exact hk
end
/-! the rules, by values -/
section
variable {X : Cx}
def KeyR (X : Cx) (H : Hp) (a : Addr) (k : NestedKey) : Prop := Rp X.prog X.w X.K H (.ref a) (kD k) ∧ k.depth ≤ 8
theorem key_at {pins : List (Addr × Obj)} {σ : L2.St} {s : Shared} {H : Hp} {a : Addr} {k : NestedKey} (I : Inv X pins σ H s) (h : KeyR X H a k) : (nestedKind X.prog X.w).is s.heap k a := ⟨key_is I _ _ _ h.1 rfl, h.2⟩
theorem op_inN (hu : X.A.units + 64 < cLine) : OpR X (compareOp .In) (fun x y H Q => ∃ a p k es, x = .ref a ∧ y = .ref p ∧ KeyR X H a k ∧ DctR X H p es ∧ Q (.bl (eget es k).isSome) H) := by
  intro pins s σ H x y v u Q I rx ry h
  obtain ⟨a, p, k, es, rfl, rfl, hk, hd, q⟩ := h
  cases rx; cases ry
  obtain ⟨h1, h2, h3, xs, hr, hx⟩ := dn_of I hd
  refine PySem.wpAny_in_heap (show X.A.units + 1 + 8 < cLine by omega) (key_at I hk) h2 hx ?_
  have e : (eget es k).isSome = (atKey xs k).isSome := by
    rcases eget_rel hr k with ⟨a, b⟩ | ⟨v, q, a, b, _⟩ <;> rw [a, b] <;> rfl
  rw [e] at q
  exact ⟨.bl _, H, I.tok _, rfl, q⟩
theorem op_notInN (hu : X.A.units + 64 < cLine) : OpR X (compareOp .NotIn) (fun x y H Q => ∃ a p k es, x = .ref a ∧ y = .ref p ∧ KeyR X H a k ∧ DctR X H p es ∧ Q (.bl (!(eget es k).isSome)) H) := by
  intro pins s σ H x y v u Q I rx ry h
  obtain ⟨a, p, k, es, rfl, rfl, hk, hd, q⟩ := h
  cases rx; cases ry
  obtain ⟨h1, h2, h3, xs, hr, hx⟩ := dn_of I hd
  have e : (eget es k).isSome = (atKey xs k).isSome := by
    rcases eget_rel hr k with ⟨a, b⟩ | ⟨v, q, a, b, _⟩ <;> rw [a, b] <;> rfl
  rw [e] at q
  show wpAny _ _ (do return Value.bool (!(← contains (.ref p) (.ref a)))) _ _ _
  exact wpAny_bind (wpAny_contains_heap (show X.A.units + 1 + 8 < cLine by omega) (key_at I hk) h2 hx (wpAny_pure ⟨.bl _, H, I.tok _, rfl, q⟩))
/-- d[k] -/
def tNGet (X : Cx) (td ty : TE) : TE := fun σ H Q => td σ H fun x H1 => ty σ H1 fun y H2 => ∃ p a k es v, x = .ref p ∧ y = .ref a ∧ KeyR X H2 a k ∧ DctR X H2 p es ∧ eget es k = some v ∧ Q v H2
theorem pe_nget {o i : Expr} {pos : Pos} {td ty : TE} (hu : X.A.units + 64 < cLine) (ho : PE X o td) (hi : PE X i ty) (hs : NoSl i) : PE X (.Subscript o i pos) (tNGet X td ty) := by
  refine ⟨fun pins s σ H Q I h => ?_⟩
  refine subD_of PySem.F.slot_dict_getitem.lookup hs (thn (ho.run pins s σ H _ I h) fun u s1 ⟨x, H1, I1, rx, q1⟩ => thn (hi.run pins s1 σ H1 _ I1 q1) fun iv s2 ⟨y, H2, I2, ry, p, a, k, es, v, ex, ey, hk, hd, hv, q2⟩ => ?_)
  subst ex; subst ey
  obtain rfl : u = Value.ref p := rx
  obtain rfl : iv = Value.ref a := ry
  obtain ⟨h1, h2, h3, xs, hr, hx⟩ := dn_of I2 hd
  obtain ⟨v', q, hv', hq, rq⟩ : ∃ v' q, eget es k = some v' ∧ atKey xs k = some q ∧ RelV v' q.2 := by
    rcases eget_rel hr k with ⟨a, b⟩ | h
    · rw [a] at hv; cases hv
    · exact h
  rw [hv] at hv'; cases hv'
  exact ⟨hx.typeIs, wpAny_getItem_heap (show X.A.units + 1 + 8 < cLine by omega) (key_at I2 hk) hx hq ⟨v, H2, I2.tok _, rq, q2⟩⟩
/-- d[k] = v -/
def rNPut (X : Cx) : TSet := fun o i v H Q => ∃ p a k es, o = .ref p ∧ i = .ref a ∧ KeyR X H a k ∧ DctR X H p es ∧ es.length + 1 ≤ sizeLine ∧ Q (upd H p (.ext (dPhi X.prog X.w p (eput es k a v))))
theorem set_nput (hu : X.A.units + 64 < cLine) : PSet X (rNPut X) := by
  intro pins s σ H o i v ov iv u Q I ro ri rv h
  obtain ⟨p, a, k, es, rfl, rfl, hk, hd, hl, q⟩ := h
  cases ro; cases ri
  obtain ⟨h1, h2, h3, xs, hr, hx⟩ := dn_of I hd
  have hlen := paired_len hr
  refine wpAny_setItem_heap (hsz := by rw [← hlen]; exact h1) (show X.A.units + 1 + 8 < cLine by omega) (key_at I hk) hx fun h' hx' hs => ?_
  have hphi := dphi_of (es := eput es k a v) (Nat.le_trans eput_len hl) h2 (eput_mem (Pr := fun k _ => k.depth ≤ 8) h3 hk.2) (eput_rel hr k a rv) hx'
  exact ⟨_, d_write I (by rw [hd.1]; exact True.intro) hs (by obtain ⟨_, _, _, _, _, o, _, _, _, e, _⟩ := hphi; exact ⟨o, e⟩) (dphi_ok hphi), q⟩
/-- {} -/
def tNNew (X : Cx) : TE := fun _ H Q => ∀ p, H p = none → Q (.ref p) (upd H p (.ext (dPhi X.prog X.w p [])))
theorem dphi_new {P : Program} {w : World} (h : Heap) (hb : sysModules < h.objs.size) : dPhi P w h.objs.size [] (h.push { cls := .type "dict", data := .dict #[] }) :=
  ⟨Nat.zero_le _, beq_eq_false_iff_ne.mpr (Ne.symm (Nat.ne_of_lt hb)), List.nodup_nil, (by intro e he; cases he), [], _, #[], 0, Paired.nil, Heap.get?_push_size _ rfl, ⟨rfl, rfl, rfl⟩, rfl, rfl⟩
theorem pe_nnew {pos : Pos} : PE X (.Dict [] [] pos) (tNNew X) := ⟨fun pins s σ H Q I h =>
  wpAny_Dict_empty ⟨.ref s.heap.objs.size, _, I.laid (a := s.heap.objs.size) (o := .ext (dPhi X.prog X.w s.heap.objs.size [])) (t' := s.toks) (fun _ _ q => Heap.get?_push_of_some _ q) (Nat.le_refl _) (dphi_ok (dphi_new s.heap I.big)), rfl, h _ (I.hok.fresh (Nat.le_refl _))⟩⟩
end
end Dz

namespace Dz
open PySem L2
section
variable {X : Cx} {c : Cc} {e a b o tg iter elt : Expr} {es ts ifs : List Expr} {st : Stmt} {sts rest body : List Stmt} {r r' : Rho} {S S' : Sto} {R : Res} {pos p apos cpos pos' : Pos} {x y : Sl} {n m : Str} {k j : Nat} {xs ys sls : List Sl} {ds : List D} {i : Int} {F F' H : Hp} {al : List Addr} {v : V} {sc : Scope} {σ : L2.St} {kvs : List (NestedKey × Sl)} {ks : List NestedKey} {s : Sl}
/-! ### dicts keyed by tuples, over slots -/
abbrev datK (kvs : List (NestedKey × D)) : List (NestedKey × Sl) := kvs.map fun q => (q.1, .dat q.2)
def DctS (S : Sto) (sl : Sl) (kvs : List (NestedKey × Sl)) : Prop := (∃ m, sl = .dat (.dct m) ∧ kvs = datK m) ∨ (∃ m, sl = .bor (.dct m) ∧ kvs = datK m) ∨ ∃ k, sl = .ptr k ∧ S[k]? = some (.dct kvs)
theorem dc_d {m : List (NestedKey × D)} : DctS S (.dat (.dct m)) (datK m) := .inl ⟨m, rfl, rfl⟩
theorem dc_b {m : List (NestedKey × D)} : DctS S (.bor (.dct m)) (datK m) := .inr (.inl ⟨m, rfl, rfl⟩)
theorem dc_p (h : S[k]? = some (.dct kvs)) : DctS S (.ptr k) kvs := .inr (.inr ⟨k, rfl, h⟩)
def EntS (P : Program) (w : World) (K : PySem.W.Frag) (B F : Hp) (al : List Addr) (e : NestedKey × Addr × V) (q : NestedKey × Sl) : Prop := e.1 = q.1 ∧ Rp P w K F (.ref e.2.1) (kD e.1) ∧ RpS P w K B F al e.2.2 q.2
theorem ent_of {P : Program} {w : World} {K : PySem.W.Frag} {B F : Hp} {al : List Addr} : ∀ {es : List (NestedKey × Addr × V)} {m : List (NestedKey × D)}, Rpe P w K F es m → Paired (EntS P w K B F al) es (datK m)
  | _, _, .nil => .nil
  | _, _, .cons h1 h2 t => .cons ⟨rfl, h1, h2⟩ (ent_of t)
theorem ent_key {P : Program} {w : World} {K : PySem.W.Frag} {B F H : Hp} {al : List Addr} (sm : Same F H) : ∀ {es : List (NestedKey × Addr × V)} {kvs : List (NestedKey × Sl)}, Paired (EntS P w K B F al) es kvs → ∀ e ∈ es, Rp P w K H (.ref e.2.1) (kD e.1)
  | _, _, .nil => fun e h => by cases h
  | _, _, .cons q t => fun e h => by
    rcases List.mem_cons.mp h with rfl | h
    · exact q.2.1.mono sm
    · exact ent_key sm t e h
theorem dct_v (co : Core X c F al S H) (rv : RpS X.prog X.w X.K c.B F al v x) (h : DctS S x kvs) : ∃ p es, v = .ref p ∧ DctR X H p es ∧ Paired (EntS X.prog X.w X.K c.B F al) es kvs := by
  rcases h with ⟨m, rfl, rfl⟩ | ⟨m, rfl, rfl⟩ | ⟨k, rfl, h⟩
  · obtain ⟨p, es, e, h1, h2⟩ := rp_dct rv
    have := ent_of (B := c.B) (al := al) h2
    exact ⟨p, es, e, ⟨co.sub _ _ h1, ent_key co.sub this⟩, this⟩
  · obtain ⟨p, es, e, h1, h2⟩ := (show Bor X.prog X.w X.K c.B F v (.dct m) from rv)
    have := ent_of (B := c.B) (al := al) h2
    exact ⟨p, es, e, ⟨co.base _ _ h1, ent_key co.sub this⟩, this⟩
  · obtain ⟨p, hp, e⟩ := rv
    obtain ⟨es, h1, h2⟩ := co.cells k p _ hp h
    exact ⟨p, es, e, ⟨h1, ent_key co.sub h2⟩, h2⟩
theorem eget_s {P : Program} {w : World} {K : PySem.W.Frag} {B F : Hp} {al : List Addr} {es : List (NestedKey × Addr × V)} (h : Paired (EntS P w K B F al) es kvs) (k : NestedKey) :
    (eget es k = none ∧ dget kvs k = none) ∨ ∃ v s, eget es k = some v ∧ dget kvs k = some s ∧ RpS P w K B F al v s := by
  rcases paired_find (f := (·.1)) (g := (·.1)) (fun a b q => q.1) h k with ⟨h1, h2⟩ | ⟨a, b, h1, h2, h3⟩
  · exact .inl ⟨by unfold eget; rw [h1]; rfl, by unfold dget; rw [h2]; rfl⟩
  · exact .inr ⟨a.2.2, b.2, by unfold eget; rw [h1]; rfl, by unfold dget; rw [h2]; rfl, h3.2.2⟩
theorem eput_s {P : Program} {w : World} {K : PySem.W.Frag} {B F : Hp} {al : List Addr} {es : List (NestedKey × Addr × V)} (h : Paired (EntS P w K B F al) es kvs) {k : NestedKey} {a : Addr} (ha : Rp P w K F (.ref a) (kD k)) {v : V} (r : RpS P w K B F al v s) : Paired (EntS P w K B F al) (eput es k a v) (dput kvs k s) := by
  unfold eput dput
  rcases paired_find (f := (·.1)) (g := (·.1)) (fun a b q => q.1) h k with ⟨h1, h2⟩ | ⟨a', b, h1, h2, h3⟩
  · rw [h1, h2]
    exact paired_app h (.cons ⟨rfl, ha, r⟩ .nil)
  · rw [h1, h2]
    refine paired_store (fun x y q => ?_) h
    obtain ⟨q1, q2, q3⟩ := q
    by_cases hx : x.1 = k
    · rw [if_pos hx, if_pos (by rw [← q1]; exact hx)]
      exact ⟨q1, q2, r⟩
    · rw [if_neg hx, if_neg (by rw [← q1]; exact hx)]
      exact ⟨q1, q2, q3⟩
theorem kd_ref (h : RpS X.prog X.w X.K c.B F al v (.dat (kD (.tup ks)))) : ∃ a, v = .ref a ∧ Rp X.prog X.w X.K F (.ref a) (kD (.tup ks)) := by
  have h' : Rp X.prog X.w X.K F v (kD (.tup ks)) := h
  rw [kD] at h'
  cases h' with
  | tup h1 h2 h3 => exact ⟨_, rfl, by rw [kD]; exact .tup h1 h2 h3⟩
theorem cd_inK (hu : X.A.units + 64 < cLine) (hd : (NestedKey.tup ks).depth ≤ 8) (h : DctS S y kvs) : CmpD X c S .In (.dat (kD (.tup ks))) y (dget kvs (.tup ks)).isSome := ⟨_, op_inN hu, fun H F al v u co rv ru R k => by
  obtain ⟨a, rfl, ha⟩ := kd_ref rv
  obtain ⟨p, es, rfl, h1, h2⟩ := dct_v co ru h
  refine ⟨a, p, _, es, rfl, rfl, ⟨ha.mono co.sub, hd⟩, h1, ?_⟩
  rcases eget_s h2 (.tup ks) with ⟨e1, e2⟩ | ⟨v, s, e1, e2, _⟩
  · rw [e1]; rw [e2] at k; exact k
  · rw [e1]; rw [e2] at k; exact k⟩
theorem cd_ninK (hu : X.A.units + 64 < cLine) (hd : (NestedKey.tup ks).depth ≤ 8) (h : DctS S y kvs) : CmpD X c S .NotIn (.dat (kD (.tup ks))) y (!(dget kvs (.tup ks)).isSome) := ⟨_, op_notInN hu, fun H F al v u co rv ru R k => by
  obtain ⟨a, rfl, ha⟩ := kd_ref rv
  obtain ⟨p, es, rfl, h1, h2⟩ := dct_v co ru h
  refine ⟨a, p, _, es, rfl, rfl, ⟨ha.mono co.sub, hd⟩, h1, ?_⟩
  rcases eget_s h2 (.tup ks) with ⟨e1, e2⟩ | ⟨v, s, e1, e2, _⟩
  · rw [e1]; rw [e2] at k; exact k
  · rw [e1]; rw [e2] at k; exact k⟩
/-- d[k] -/
theorem ee_ixK (hu : X.A.units + 64 < cLine) (hd : (NestedKey.tup ks).depth ≤ 8) (ho : EE X c o r S y) (h : DctS S y kvs) (hi : EE X c e r S (.dat (kD (.tup ks)))) (hg : dget kvs (.tup ks) = some s) (hs : NoSl e := by exact fun _ _ => rfl) : EE X c (.Subscript o e pos) r S s := fun Q q =>
  EW.of (pe_nget hu pe_self pe_self hs) fun σ H F al co sl => te_then ho co sl fun v H1 F1 al1 ex1 co1 sl1 rv => te_then hi co1 sl1 fun u H2 F2 al2 ex2 co2 sl2 ru => by
    obtain ⟨a, rfl, ha⟩ := kd_ref ru
    obtain ⟨p, es, rfl, h1, h2⟩ := dct_v co2 (rv.mono ex2) h
    rcases eget_s h2 (.tup ks) with ⟨e1, e2⟩ | ⟨v, s', e1, e2, rs⟩
    · rw [hg] at e2; cases e2
    · rw [hg] at e2; cases e2
      exact ⟨p, a, _, es, v, rfl, rfl, ⟨ha.mono co2.sub, hd⟩, h1, e1, (VQ.here co2 rs q).up (ex1.trans ex2)⟩
/-- d[k] = v, d one's own -/
theorem w1_setK (hu : X.A.units + 64 < cLine) (hd : (NestedKey.tup ks).depth ≤ 8) (he : EE X c e r S x) (ho : EE X c o r S (.ptr k)) (hk : S[k]? = some (.dct kvs)) (hi : EE X c b r S (.dat (kD (.tup ks)))) (hl : kvs.length < 100000) (hR : R.nx r (S.set k (.dct (dput kvs (.tup ks) x))))
    (ha : ∀ v, assign (.Subscript o b pos') X.env v = (do
      let ov ← holding [v] (eval o X.env)
      let iv ← holding [v, ov] (eval b X.env)
      standAt pos'
      holding [v, ov, iv] (setItem ov iv v)
      release [v, ov, iv] []) := by intro _; rfl)
    (hs : swapsWithSole [.Subscript o b pos'] e pos.line X.env = pure false := by rfl) (hw : swappedStores [.Subscript o b pos'] e X.env = pure none := by rfl)
    (h1 : (assignEach [.Subscript o b pos'] X.env).map (·.2) = [assign (.Subscript o b pos') X.env] := by rfl) : W1 X c (.Assign [.Subscript o b pos'] e pos) r S R :=
  W1.of (ps_asg pe_self (pg_sub pe_self pe_self (set_nput hu) ha) hs hw h1) fun σ H F al co sl => te_then he co sl fun v H1 F1 al1 ex1 co1 sl1 rv => te_then ho co1 sl1 fun u H2 F2 al2 ex2 co2 sl2 ru => te_then hi co2 sl2 fun t H3 F3 al3 ex3 co3 sl3 rt => by
    obtain ⟨q, hq, rfl⟩ := ru
    have hq3 := ext_at ex3 hq
    obtain ⟨a, rfl, ha⟩ := kd_ref rt
    obtain ⟨es, h3, h4⟩ := co3.cells k q _ hq3 hk
    have hlen := paired_len h4
    refine ⟨q, a, _, es, rfl, rfl, ⟨ha.mono co3.sub, hd⟩, ⟨h3, ent_key co3.sub h4⟩, by rw [hlen]; exact sz_of (by omega), ?_⟩
    exact ⟨F3, al3, r, _, (ex1.trans ex2).trans ex3, co3.put hq3 hk (by intro z; cases z) (d := .dct (dput kvs (.tup ks) x)) ⟨_, upd_same, eput_s h4 ha ((rv.mono ex2).mono ex3)⟩, sl3, hR⟩
/-- {} -/
theorem ew_dnew {Q : Sl → Sto → Prop} (k : Q (.ptr S.length) (S ++ [.dct []])) : EW X c (.Dict [] [] pos) r S Q := EW.of pe_nnew fun σ H F al co sl p hp =>
  have ex2 : Ext F al F (al ++ [p]) := ⟨Same.refl _, [p], rfl⟩
  ⟨F, al ++ [p], .ptr S.length, _, ex2, co.born (d := .dct []) hp ⟨[], upd_same, .nil⟩, ⟨p, by rw [List.getElem?_append_right (by rw [co.len]; exact Nat.le_refl _), co.len, Nat.sub_self]; rfl, rfl⟩, k⟩
/-! ### x in a list of data -/
theorem cd_inL {d : D} {ds : List D} (hu : X.A.units + 65 < cLine) (hx : Seen S x d) (hy : Seen S y (.lst ds)) (h1 : Plain d) (h2 : Plain (.lst ds)) : CmpD X c S .In x y (ds.any fun z => eqD z d) := ⟨_, op_inD hu, fun H F al v u co rv ru R k => by
  refine ⟨pD d, pDs ds, Rp.dp (hx.rp co rv) (SeqAt.canLay_of_shaped h1), by have := Rp.dp (hy.rp co ru) (SeqAt.canLay_of_shaped h2); rw [pD] at this; exact this, h1, by have := h2; unfold Plain at this; rw [pD] at this; exact this, ?_⟩
  have e : ∀ l : List D, ((pDs l).any fun z => PyData.eqv z (pD d)) = l.any fun z => eqD z d := fun l => by
    induction l with
    | nil => rfl
    | cons a l ih => rw [pDs, List.any_cons, List.any_cons, ih]; rfl
  rw [e]
  exact k⟩
theorem cd_ninL {d : D} {ds : List D} (hu : X.A.units + 65 < cLine) (hx : Seen S x d) (hy : Seen S y (.lst ds)) (h1 : Plain d) (h2 : Plain (.lst ds)) : CmpD X c S .NotIn x y (!ds.any fun z => eqD z d) := ⟨_, op_notInD hu, fun H F al v u co rv ru R k => by
  refine ⟨pD d, pDs ds, Rp.dp (hx.rp co rv) (SeqAt.canLay_of_shaped h1), by have := Rp.dp (hy.rp co ru) (SeqAt.canLay_of_shaped h2); rw [pD] at this; exact this, h1, by have := h2; unfold Plain at this; rw [pD] at this; exact this, ?_⟩
  have e : ∀ l : List D, ((pDs l).any fun z => PyData.eqv z (pD d)) = l.any fun z => eqD z d := fun l => by
    induction l with
    | nil => rfl
    | cons a l ih => rw [pDs, List.any_cons, List.any_cons, ih]; rfl
  rw [e]
  exact k⟩
/-! ### [a, ..] * n -/
theorem rps_rep {P : Program} {w : World} {K : PySem.W.Frag} {F : Hp} {vs : List V} {ds : List D} (h : Rps P w K F vs ds) : ∀ k : Nat, Rps P w K F (List.replicate k vs).flatten (List.replicate k ds).flatten
  | 0 => .nil
  | k + 1 => by rw [List.replicate_succ, List.replicate_succ, List.flatten_cons, List.flatten_cons]; exact h.append (rps_rep h k)
theorem ee_rep {q2 : Pos} (h : EA X c es r S (dats ds)) (hl : ds.length ≤ 1000 := by first | decide | simp) (hb : EE X c b r S (DI i)) (hi : -1000000 ≤ i ∧ i ≤ 100000) (hz : ds.length * i.toNat ≤ 100000) : EE X c (.BinOp (.List es q2) .Mult b pos) r S (.dat (.lst (List.replicate i.toNat ds).flatten)) := fun Q q =>
  EW.of (pe_op op_rep (pe_lst pa_self) pe_self) fun σ H F al co sl => ta_then h co sl fun vs H1 F1 al1 ex1 co1 sl1 rvs => ⟨by rw [(rps_of rvs).length]; exact sz_of (by omega), fun p hp => by
    have ex2 := Ext.laid (o := .lst vs) co1 hp
    have co2 := co1.laid (o := .lst vs) hp
    have rvs2 : Rps X.prog X.w X.K (upd F1 p (.lst vs)) vs ds := (rps_of rvs).mono ex2.same
    refine te_then hb co2 (sl1.mono ex2) fun u H3 F3 al3 ex3 co3 sl3 ru => ?_
    have hlen := rvs2.length
    refine ⟨p, i, vs, rfl, rp_int ru, co3.sub _ _ (ex3.same _ _ upd_same), by omega, by omega, by rw [hlen]; exact sz_of hz, fun p2 hp2 => ?_⟩
    exact ⟨_, _, .dat (.lst (List.replicate i.toNat ds).flatten), S, ((ex1.trans ex2).trans ex3).trans (Ext.laid (o := .lst _) co3 hp2), co3.laid hp2, Rp.lst (.of upd_same) (rps_rep ((rvs2.mono ex3.same).mono (same_upd (co3.sub.free hp2))) _), q⟩⟩
/-! ### objects that stand frozen -/
/-- C(e, ..), frozen at once -/
theorem ee_make {C : Addr} {R : RelM} {fs : List (Str × D)} {as : List Sl} (d : DefC X.prog X.w X.K X.mg X.base n C k (SpM X.prog X.w X.K C R)) (tk : Takes X (wxOf X c)) (hr : Room (k + 1) X.A) {sls : List Sl} (ha : EA X c (e :: es) r S sls) (hl : Paired (Lend S) sls as) (hR : R [] as (.ok (.non, fs)))
    (hg : Gl X n := by rfl) (hdb : (n == ("__debug__" : Str)) = false := by decide)
    (hst : starEach (e :: es) X.env = (false, eval e X.env) :: starEach es X.env := by rfl) (hpl : (backTo pos (starEach es X.env)).any (·.1) = false := by rfl) : EE X c (.Call (.Name n p) (e :: es) [] pos) r S (.dat (.obj C fs)) :=
  ee_own (.obj C fs) (ew_makeO d tk hr ha hl hR ⟨rfl, rfl⟩ hg hdb hst hpl)
/-- o.m(e, ..), o frozen; the method told as a def of one more -/
theorem ee_methD {C : Addr} {R : Rel} {fs : List (Str × D)} {z : D} {kk : Nat} {pl : Sem Bool} {as : List Sl} (df : DefM X.prog X.w X.K X.mg X.base C m kk (SpD X.prog X.w X.K R)) (cl : Cls X.K C) (tk : Takes X (wxOf X c)) (hr : Room kk X.A) (ho : EE X c o r S (.dat (.obj C fs)))
    (hno : fs.lookup m = none) {sls : List Sl} (ha : EA X c (e :: es) r S sls) (hl : Paired (Lend S) sls as) (hR : R (.dat (.obj C fs) :: as) (.ok z))
    (hst : starEach (e :: es) X.env = (false, eval e X.env) :: starEach es X.env := by rfl) (hpl : (backTo pos (starEach es X.env)).any (·.1) = false := by rfl)
    (ht : eval (.Call (.Attribute o m apos) (e :: es) [] pos) X.env = (do
      let ov ← eval o X.env
      standAt apos.atName
      let (f, first) ← holding [ov] (getMethod ov m pl)
      callWith pos f first (backTo pos (starEach (e :: es) X.env)) (backToKw pos (keywordEach [] X.env))) := by rfl) : EE X c (.Call (.Attribute o m apos) (e :: es) [] pos) r S (.dat z) := fun Q q => by
  obtain ⟨f, fd, ps, hm, hb, Fn⟩ := df.ex
  refine EW.of (pe_methS pe_self cl hm Fn hr hb (fun σ => passAt tk σ) pa_self hst hpl ht) fun σ H F al co sl => te_then ho co sl fun v H1 F1 al1 ex1 co1 sl1 rv => ?_
  obtain ⟨a, dx, vfs, rfl, h1, h2⟩ := rp_obj rv
  refine ⟨a, dx, vfs, rfl, co1.sub _ _ h1, rpf_none h2 hno, ta_then ha co1 sl1 fun vs H2 F2 al2 ex2 co2 sl2 rvs => ?_⟩
  exact spd_of (Q := Q) (ex1.trans ex2) co2 sl2 (.cons (.inl ⟨_, rfl, (Rp.obj h1 h2 : Rp X.prog X.w X.K F1 (.ref a) (.obj C fs)).mono ex2.same⟩) (args_of co2 rvs hl)) hR (fun d e => by cases e; exact q) (fun cls e => by cases e)
end
end Dz

namespace Dz
open PySem L2
/-! ### dicts at the plain level -/
def dgetD (m : List (NestedKey × D)) (k : NestedKey) : Option D := (m.find? fun q => decide (q.1 = k)).map (·.2)
def dputD (m : List (NestedKey × D)) (k : NestedKey) (d : D) : List (NestedKey × D) := if (m.find? fun q => decide (q.1 = k)).isSome then m.map fun q => if q.1 = k then (q.1, d) else q else m ++ [(k, d)]
theorem find_datK (m : List (NestedKey × D)) (k : NestedKey) : (datK m).find? (fun q => decide (q.1 = k)) = (m.find? fun q => decide (q.1 = k)).map fun q => (q.1, .dat q.2) := by
  induction m with
  | nil => rfl
  | cons a m ih =>
    show ((a.1, Sl.dat a.2) :: datK m).find? _ = _
    by_cases h : a.1 = k
    · rw [List.find?_cons_of_pos (by simpa using h), List.find?_cons_of_pos (by simpa using h)]; rfl
    · rw [List.find?_cons_of_neg (by simpa using h), List.find?_cons_of_neg (by simpa using h), ih]
theorem dget_datK (m : List (NestedKey × D)) (k : NestedKey) : dget (datK m) k = (dgetD m k).map Sl.dat := by
  unfold dget dgetD
  rw [find_datK]
  cases m.find? fun q => decide (q.1 = k) <;> rfl
theorem dput_datK (m : List (NestedKey × D)) (k : NestedKey) (d : D) : dput (datK m) k (.dat d) = datK (dputD m k d) := by
  unfold dput dputD
  rw [find_datK]
  cases h : m.find? fun q => decide (q.1 = k) with
  | none => simp [datK]
  | some q0 =>
    simp only [Option.map_some, Option.isSome_some, if_true]
    simp only [datK, List.map_map]
    apply List.map_congr_left
    intro q _
    show (if q.1 = k then (q.1, Sl.dat d) else (q.1, Sl.dat q.2)) = _
    by_cases hq : q.1 = k
    · simp [hq]
    · simp [hq]
theorem dputD_len (m : List (NestedKey × D)) (k : NestedKey) (d : D) : (dputD m k d).length ≤ m.length + 1 := by
  unfold dputD
  split <;> simp
theorem dgetD_put (m : List (NestedKey × D)) (k k' : NestedKey) (d : D) : dgetD (dputD m k d) k' = if k = k' then some d else dgetD m k' := by
  unfold dgetD dputD
  induction m with
  | nil =>
    by_cases h : k = k'
    · simp [h]
    · simp [h]
  | cons a m ih =>
    by_cases ha : a.1 = k
    · have : (List.find? (fun q => decide (q.1 = k)) (a :: m)).isSome = true := by rw [List.find?_cons_of_pos (by simpa using ha)]; rfl
      rw [if_pos this, List.map_cons, if_pos ha]
      by_cases h : k = k'
      · rw [if_pos h, List.find?_cons_of_pos (by simpa [ha] using h)]; rfl
      · rw [if_neg h, List.find?_cons_of_neg (by simpa [ha] using h), List.find?_cons_of_neg (by simpa [ha] using h)]
        have e : ∀ l : List (NestedKey × D), (l.map fun q => if q.1 = k then (q.1, d) else q).find? (fun q => decide (q.1 = k')) = l.find? fun q => decide (q.1 = k') := fun l => by
          induction l with
          | nil => rfl
          | cons b l ih2 =>
            rw [List.map_cons]
            by_cases hb : b.1 = k
            · rw [if_pos hb, List.find?_cons_of_neg (by simpa [hb] using h), List.find?_cons_of_neg (by simpa [hb] using h), ih2]
            · rw [if_neg hb]
              by_cases hb' : b.1 = k'
              · rw [List.find?_cons_of_pos (by simpa using hb'), List.find?_cons_of_pos (by simpa using hb')]
              · rw [List.find?_cons_of_neg (by simpa using hb'), List.find?_cons_of_neg (by simpa using hb'), ih2]
        rw [e]
    · have e1 : List.find? (fun q => decide (q.1 = k)) (a :: m) = List.find? (fun q => decide (q.1 = k)) m := List.find?_cons_of_neg (by simpa using ha)
      rw [e1]
      by_cases hs : (List.find? (fun q => decide (q.1 = k)) m).isSome = true
      · rw [if_pos hs] at ih ⊢
        rw [List.map_cons, if_neg ha]
        by_cases hb' : a.1 = k'
        · rw [List.find?_cons_of_pos (by simpa using hb'), List.find?_cons_of_pos (by simpa using hb'), if_neg (fun z => ha (hb'.trans z.symm))]
        · rw [List.find?_cons_of_neg (by simpa using hb'), List.find?_cons_of_neg (by simpa using hb')]
          exact ih
      · rw [if_neg hs] at ih ⊢
        rw [List.cons_append]
        by_cases hb' : a.1 = k'
        · rw [List.find?_cons_of_pos (by simpa using hb'), List.find?_cons_of_pos (by simpa using hb'), if_neg (fun z => ha (hb'.trans z.symm))]
        · rw [List.find?_cons_of_neg (by simpa using hb'), List.find?_cons_of_neg (by simpa using hb')]
          exact ih
/-! whole numbers as keys, == of them -/
theorem kDs_num : ∀ ns : List Int, kDs (ns.map .num) = ns.map D.int
  | [] => by simp [kDs]
  | n :: ns => by rw [List.map_cons, kDs, kDs_num ns, kD]; rfl
theorem pDs_int : ∀ ns : List Int, pDs (ns.map D.int) = ns.map PyData.int
  | [] => by simp [pDs]
  | n :: ns => by rw [List.map_cons, pDs, pDs_int ns, pD]; rfl
theorem pDs_bl : ∀ ns : List Bool, pDs (ns.map D.bl) = ns.map PyData.bool
  | [] => by simp [pDs]
  | n :: ns => by rw [List.map_cons, pDs, pDs_bl ns, pD]; rfl
theorem eqvAll_ints : ∀ a b : List Int, PyData.eqvAll (a.map PyData.int) (b.map PyData.int) = decide (a = b)
  | [], [] => by simp [PyData.eqvAll]
  | [], b :: bs => by simp [PyData.eqvAll]
  | a :: as, [] => by simp [PyData.eqvAll]
  | a :: as, b :: bs => by
    rw [List.map_cons, List.map_cons, PyData.eqvAll, eqvAll_ints as bs, PyData.eqv]
    by_cases h : a = b <;> by_cases h2 : as = bs <;> simp [h, h2]
/-! what a melting leaves as it is -/
theorem meltC_dats {k : Nat} {d : D} {ds : List D} : meltC k d (.lst (dats ds)) = .lst (dats ds) := by
  show Cell.lst ((dats ds).map (meltSl k d)) = _
  rw [List.map_map]
  rfl
theorem meltC_datK {k : Nat} {d : D} {m : List (NestedKey × D)} : meltC k d (.dct (datK m)) = .dct (datK m) := by
  show Cell.dct ((datK m).map fun q => (q.1, meltSl k d q.2)) = _
  unfold datK
  rw [List.map_map]
  rfl
theorem meltC_gone' {k : Nat} {d : D} : meltC k d .gone = .gone := rfl
end Dz
namespace K73
open PySem L2 Dz
def top (i : Nat) : Stmt := PySem.Challenge.pw_roundcall_k73_players_by_papers.main.body.getD i (.Pass ⟨0, 0, 0, 0⟩)
abbrev s_may_lose : Stmt := top 1
abbrev s_most_urgent : Stmt := top 3
abbrev s_law_cell_at : Stmt := top 9
abbrev s_law_standing : Stmt := top 10
abbrev s_law_papers : Stmt := top 11
abbrev s_law_due_call : Stmt := top 12
abbrev s_law_due_loss : Stmt := top 13
abbrev s_law_asked : Stmt := top 14
abbrev s_law : Stmt := top 15
abbrev s_Caller_call : Stmt := inClass (top 4) 0
abbrev s_PaperCaller_init : Stmt := inClass (top 5) 0
abbrev s_PaperCaller_call : Stmt := inClass (top 5) 1
abbrev s_Road_loses : Stmt := inClass (top 6) 0
abbrev s_PaperRoad_init : Stmt := inClass (top 7) 0
abbrev s_PaperRoad_loses : Stmt := inClass (top 7) 1
theorem sc_may_lose : FnScope ["hall", "standing"] ["hall", "standing"] (defScope s_may_lose) := ⟨rfl, rfl, rfl, by decide +kernel, rfl, by decide +kernel, by decide +kernel⟩
theorem bn_may_lose : BindN "may_lose" "may_lose" s_may_lose ["hall", "standing"] := fun _ _ _ _ _ _ us hl => match us, hl with | [_, _], _ => rfl
theorem sc_most_urgent : FnScope ["standing", "left"] ["standing"] (defScope s_most_urgent) := ⟨rfl, rfl, rfl, by decide +kernel, rfl, by decide +kernel, by decide +kernel⟩
theorem bn_most_urgent : BindN "most_urgent" "most_urgent" s_most_urgent ["standing"] := fun _ _ _ _ _ _ us hl => match us, hl with | [_], _ => rfl
theorem sc_law_cell_at : FnScope ["script", "k"] ["script", "k"] (defScope s_law_cell_at) := ⟨rfl, rfl, rfl, by decide +kernel, rfl, by decide +kernel, by decide +kernel⟩
theorem bn_law_cell_at : BindN "_law_cell_at" "_law_cell_at" s_law_cell_at ["script", "k"] := fun _ _ _ _ _ _ us hl => match us, hl with | [_, _], _ => rfl
theorem sc_law_standing : FnScope ["hall", "cell", "number", "lefts", "wait"] ["hall", "cell"] (defScope s_law_standing) := ⟨rfl, rfl, rfl, by decide +kernel, rfl, by decide +kernel, by decide +kernel⟩
theorem bn_law_standing : BindN "_law_standing" "_law_standing" s_law_standing ["hall", "cell"] := fun _ _ _ _ _ _ us hl => match us, hl with | [_, _], _ => rfl
theorem sc_law_papers : FnScope ["hall", "cells", "kept", "broken", "known", "cell", "standing", "number", "answers", "k"] ["hall", "cells"] (defScope s_law_papers) := ⟨rfl, rfl, rfl, by decide +kernel, rfl, by decide +kernel, by decide +kernel⟩
theorem bn_law_papers : BindN "_law_papers" "_law_papers" s_law_papers ["hall", "cells"] := fun _ _ _ _ _ _ us hl => match us, hl with | [_, _], _ => rfl
theorem sc_law_due_call : FnScope ["kept", "standing", "one", "who"] ["kept", "standing"] (defScope s_law_due_call) := ⟨rfl, rfl, rfl, by decide +kernel, rfl, by decide +kernel, by decide +kernel⟩
theorem bn_law_due_call : BindN "_law_due_call" "_law_due_call" s_law_due_call ["kept", "standing"] := fun _ _ _ _ _ _ us hl => match us, hl with | [_, _], _ => rfl
theorem sc_law_due_loss : FnScope ["broken", "hall", "standing", "who", "one", "rank", "answers"] ["broken", "hall", "standing", "who"] (defScope s_law_due_loss) := ⟨rfl, rfl, rfl, by decide +kernel, rfl, by decide +kernel, by decide +kernel⟩
theorem bn_law_due_loss : BindN "_law_due_loss" "_law_due_loss" s_law_due_loss ["broken", "hall", "standing", "who"] := fun _ _ _ _ _ _ us hl => match us, hl with | [_, _, _, _], _ => rfl
theorem sc_law_asked : FnScope ["caller", "road", "hall", "standing", "who", "papers", "found", "lost"] ["caller", "road", "hall", "standing", "who", "papers"] (defScope s_law_asked) := ⟨rfl, rfl, rfl, by decide +kernel, rfl, by decide +kernel, by decide +kernel⟩
theorem bn_law_asked : BindN "_law_asked" "_law_asked" s_law_asked ["caller", "road", "hall", "standing", "who", "papers"] := fun _ _ _ _ _ _ us hl => match us, hl with | [_, _, _, _, _, _], _ => rfl
theorem sc_law : FnScope ["script", "many", "most", "waits", "k", "calm", "hall", "kept", "broken", "handed", "given", "callers", "roads", "papers", "stands", "cell", "who", "one"] ["script"] (defScope s_law) := ⟨rfl, rfl, rfl, by decide +kernel, rfl, by decide +kernel, by decide +kernel⟩
theorem bn_law : BindN "law" "law" s_law ["script"] := fun _ _ _ _ _ _ us hl => match us, hl with | [_], _ => rfl
theorem sc_Caller_call : FnScope ["self", "hall", "standing"] ["self", "hall", "standing"] (defScope s_Caller_call) := ⟨rfl, rfl, rfl, by decide +kernel, rfl, by decide +kernel, by decide +kernel⟩
theorem bn_Caller_call : BindN "call" "Caller.call" s_Caller_call ["self", "hall", "standing"] := fun _ _ _ _ _ _ us hl => match us, hl with | [_, _, _], _ => rfl
theorem sc_PaperCaller_init : FnScope ["self", "paper", "standing", "who"] ["self", "paper"] (defScope s_PaperCaller_init) := ⟨rfl, rfl, rfl, by decide +kernel, rfl, by decide +kernel, by decide +kernel⟩
theorem bn_PaperCaller_init : BindN "__init__" "PaperCaller.__init__" s_PaperCaller_init ["self", "paper"] := fun _ _ _ _ _ _ us hl => match us, hl with | [_, _], _ => rfl
theorem sc_PaperCaller_call : FnScope ["self", "hall", "standing"] ["self", "hall", "standing"] (defScope s_PaperCaller_call) := ⟨rfl, rfl, rfl, by decide +kernel, rfl, by decide +kernel, by decide +kernel⟩
theorem bn_PaperCaller_call : BindN "call" "PaperCaller.call" s_PaperCaller_call ["self", "hall", "standing"] := fun _ _ _ _ _ _ us hl => match us, hl with | [_, _, _], _ => rfl
theorem sc_Road_loses : FnScope ["self", "hall", "standing", "who"] ["self", "hall", "standing", "who"] (defScope s_Road_loses) := ⟨rfl, rfl, rfl, by decide +kernel, rfl, by decide +kernel, by decide +kernel⟩
theorem bn_Road_loses : BindN "loses" "Road.loses" s_Road_loses ["self", "hall", "standing", "who"] := fun _ _ _ _ _ _ us hl => match us, hl with | [_, _, _, _], _ => rfl
theorem sc_PaperRoad_init : FnScope ["self", "paper", "standing", "rank", "answers"] ["self", "paper"] (defScope s_PaperRoad_init) := ⟨rfl, rfl, rfl, by decide +kernel, rfl, by decide +kernel, by decide +kernel⟩
theorem bn_PaperRoad_init : BindN "__init__" "PaperRoad.__init__" s_PaperRoad_init ["self", "paper"] := fun _ _ _ _ _ _ us hl => match us, hl with | [_, _], _ => rfl
theorem sc_PaperRoad_loses : FnScope ["self", "hall", "standing", "who"] ["self", "hall", "standing", "who"] (defScope s_PaperRoad_loses) := ⟨rfl, rfl, rfl, by decide +kernel, rfl, by decide +kernel, by decide +kernel⟩
theorem bn_PaperRoad_loses : BindN "loses" "PaperRoad.loses" s_PaperRoad_loses ["self", "hall", "standing", "who"] := fun _ _ _ _ _ _ us hl => match us, hl with | [_, _, _, _], _ => rfl
def nm : Nm where
  fr := ["bool", "int", "isinstance", "len", "list", "min", "range", "tuple"]
  gl := ["may_lose", "most_urgent", "Caller", "PaperCaller", "Road", "PaperRoad", "_law_cell_at", "_law_standing", "_law_papers", "_law_due_call", "_law_due_loss", "_law_asked", "law"]
  cl := ["Caller", "PaperCaller", "Road", "PaperRoad"]
  na := [("PaperCaller", "calls"), ("PaperRoad", "answers")]
  me := [("Caller", "call"), ("PaperCaller", "call"), ("Road", "loses"), ("PaperRoad", "loses")]
  mr := ["PaperCaller", "PaperRoad"]
  fn := [mkD "may_lose" s_may_lose, mkD "most_urgent" s_most_urgent, mkD "_law_cell_at" s_law_cell_at, mkD "_law_standing" s_law_standing, mkD "_law_papers" s_law_papers, mkD "_law_due_call" s_law_due_call, mkD "_law_due_loss" s_law_due_loss, mkD "_law_asked" s_law_asked, mkD "law" s_law, mkM "Caller" "call" "Caller.call" s_Caller_call, mkM "PaperCaller" "__init__" "PaperCaller.__init__" s_PaperCaller_init, mkM "PaperCaller" "call" "PaperCaller.call" s_PaperCaller_call, mkM "Road" "loses" "Road.loses" s_Road_loses, mkM "PaperRoad" "__init__" "PaperRoad.__init__" s_PaperRoad_init, mkM "PaperRoad" "loses" "PaperRoad.loses" s_PaperRoad_loses]
  io := ["Caller", "PaperCaller", "PaperRoad", "Road"]
  ki := [("Caller", "Caller", true), ("Caller", "Road", false), ("PaperCaller", "Caller", true), ("PaperCaller", "Road", false), ("PaperRoad", "Caller", false), ("PaperRoad", "Road", true), ("Road", "Caller", false), ("Road", "Road", true)]
/-! ### data -/
def calmD : Option Int → D
  | none => .non
  | some c => .int c
def hallD (ws : List Int) (calm : Option Int) : D := .tup [.tup (ws.map .int), calmD calm]
def stD (ls : List Int) (q : Int) : D := .tup [.tup (ls.map .int), .int q]
theorem calm_non (calm : Option Int) : isNonS (.dat (calmD calm)) = calm.isNone := by cases calm <;> rfl
section
variable {P : Program} {w : World} {K : PySem.W.Frag} {mg : Str → Option Value} {base : Heap}
def mayLose (calm : Option Int) (q : Int) : Bool := !calm.isNone && decide (q = 0)
def r_may : Rel := fun ds res => ∃ ws calm ls q, ds = [.dat (hallD ws calm), .dat (stD ls q)] ∧ res = .ok (.bl (mayLose calm q))
theorem d_may (T : Txt nm K mg) : Def P w K mg base "may_lose" 1 [] (SpD P w K r_may) :=
  T.def_ 0 rfl bn_may_lose fun f fd Fn =>
  fnD Fn sc_may_lose (fun ds res ⟨ws, calm, ls, q, h, _⟩ => by rw [h]; rfl) fun cdv A outer s H E c ds res hr tk hp hx h => by
    obtain ⟨ws, calm, ls, q, rfl, rfl⟩ := h
    refine ws_cons (w1_ret (ew_ee (x := .dat _) (ee_is (ee_and (ee_cmp (ee_ixT (ee_v 0) ee_int (d := calmD calm) rfl) ee_non cd_notN) fun _ => ee_one (ee_cmp (ee_ixT (ee_v 1) ee_int (d := .int q) rfl) ee_int cd_eqI)) ?_) ⟨_, rfl, rfl⟩))
    rw [calm_non]; rfl
def urgent (ls : List Int) : Int := (ls.idxOf (minZ ls) : Nat)
def r_urg : Rel := fun ds res => ∃ ls q, ds = [.dat (stD ls q)] ∧ ls ≠ [] ∧ res = .ok (.int (urgent ls))
theorem d_urg (T : Txt nm K mg) : Def P w K mg base "most_urgent" 1 [] (SpD P w K r_urg) :=
  T.def_ 1 rfl bn_most_urgent fun f fd Fn =>
  fnD Fn sc_most_urgent (fun ds res ⟨ls, q, h, _⟩ => by rw [h]; rfl) fun cdv A outer s H E c ds res hr tk hp hx h => by
    obtain ⟨ls, q, rfl, hne, rfl⟩ := h
    refine ws_cons (w1_set 1 (ew_ee (ee_ixT (ee_v 0) ee_int (d := .tup (ls.map .int)) rfl) ?_) sc_most_urgent.nd)
    exact ws_cons (w1_ret (ew_ee (x := .dat _) (ee_tupIx (ee_v 1) (ee_minT (T.free "min") rfl hr (ee_v 1) hne) (minZ_mem hne)) ⟨_, rfl, rfl⟩))
/-! cells of a script -/
def cell (ns : List Int) (k : Nat) : Int := ns.getD k 0
def intsD (ns : List Int) : D := .lst (ns.map .int)
def r_cell : Rel := fun ds res => ∃ (ns : List Int) (k : Nat), ds = [.dat (intsD ns), DI k] ∧ res = .ok (.int (cell ns k))
theorem d_cell (T : Txt nm K mg) : Def P w K mg base "_law_cell_at" 1 [] (SpD P w K r_cell) :=
  T.def_ 2 rfl bn_law_cell_at fun f fd Fn =>
  fnD Fn sc_law_cell_at (fun ds res ⟨ns, k, h, _⟩ => by rw [h]; rfl) fun cdv A outer s H E c ds res hr tk hp hx h => by
    obtain ⟨ns, k, rfl, rfl⟩ := h
    refine ws_cons (w1_if (et_cmp (ee_v 1) (ee_len (T.free "len") (ee_v 0) ss_d) cd_lt) (fun hlt => ?_) fun hlt => ?_)
    · have hk : k < ns.length := by simpa using hlt
      refine ws_cons (w1_ret (ew_ee (x := .dat _) (ee_ixL (d := .int ns[k]) (ee_v 0) (ee_v 1) (at_nat (by simp [hk]))) ⟨_, rfl, ?_⟩))
      show _ = _
      simp [cell, hk]
    · have hk : ¬ k < ns.length := by simpa using hlt
      refine ws_nil ?_
      refine ws_cons (w1_ret (ew_ee (x := .dat _) ee_int ⟨_, rfl, ?_⟩))
      show _ = _
      simp [cell, hk]
/-- a call of _law_cell_at -/
theorem ee_cellAt {X : Cx} {c : Cc} {e1 e2 : Expr} {r : Rho} {S : Sto} {ns : List Int} {j : Int} {p pos : Pos} (T : Txt nm X.K X.mg) (tk : Takes X (wxOf X c)) (hr : Room 1 X.A) (h1 : EE X c e1 r S (.dat (intsD ns))) (h2 : EE X c e2 r S (DI j)) (k : Nat) (hj : j = (k : Int))
    (hg : Gl X "_law_cell_at" := by rfl) (hst : starEach [e1, e2] X.env = (false, eval e1 X.env) :: starEach [e2] X.env := by rfl) (hst2 : starEach (e2 :: []) X.env = (false, eval e2 X.env) :: starEach [] X.env := by rfl) (hpl : (backTo pos (starEach [e2] X.env)).any (·.1) = false := by rfl) :
    EE X c (.Call (.Name "_law_cell_at" p) [e1, e2] [] pos) r S (DI (cell ns k)) := by
  subst hj
  exact ee_call (d_cell T) tk hr (ea_cons h1 (ea_cons h2 ea_nil hst2) hst) (.cons (.dat _) (.cons (.dat _) .nil)) ⟨ns, k, rfl, rfl⟩ hg (by decide) hst hpl
def Bits (ns : List Int) : Prop := ∀ z ∈ ns, Builtin.Int.intBits z ≤ 1048576
theorem cell_lt {ns : List Int} (h : Bits ns) (k : Nat) : (cell ns k).natAbs < 2 ^ 1048576 := by
  unfold cell
  by_cases hk : k < ns.length
  · rw [List.getD_eq_getElem?_getD, List.getElem?_eq_getElem hk]
    exact lt_bits (h _ (List.getElem_mem hk))
  · rw [List.getD_eq_getElem?_getD, List.getElem?_eq_none (by omega)]
    exact Nat.pow_pos (by decide)
/-! standings as keys -/
abbrev St := List Int × Int
abbrev stS (z : St) : D := stD z.1 z.2
def keyOf (z : St) : NestedKey := .tup [.tup (z.1.map .num), .num z.2]
theorem kD_key (z : St) : kD (keyOf z) = stS z := by
  unfold keyOf stS stD
  simp only [kD, kDs, kDs_num]
theorem depth_nums : ∀ ns : List Int, NestedKey.depthAll (ns.map .num) = 0
  | [] => by simp [NestedKey.depthAll]
  | n :: ns => by rw [List.map_cons, NestedKey.depthAll, depth_nums ns]; simp [NestedKey.depth]
theorem key_depth (z : St) : (keyOf z).depth ≤ 8 := by
  unfold keyOf
  simp [NestedKey.depth, NestedKey.depthAll, depth_nums]
theorem nums_inj : ∀ {a b : List Int}, a.map NestedKey.num = b.map NestedKey.num → a = b
  | [], [], _ => rfl
  | [], _ :: _, h => by simp at h
  | _ :: _, [], h => by simp at h
  | a :: as, b :: bs, h => by
    simp only [List.map_cons, List.cons.injEq, NestedKey.num.injEq] at h
    rw [h.1, nums_inj h.2]
theorem key_inj {a b : St} (h : keyOf a = keyOf b) : a = b := by
  unfold keyOf at h
  simp only [NestedKey.tup.injEq, List.cons.injEq, NestedKey.num.injEq, and_true] at h
  exact Prod.ext (nums_inj h.1) h.2
theorem eqD_st (a b : St) : eqD (stS a) (stS b) = decide (a = b) := by
  unfold eqD stS stD
  simp only [pD, pDs, pDs_int, PyData.eqv, PyData.eqvAll, eqvAll_ints]
  obtain ⟨a1, a2⟩ := a
  obtain ⟨b1, b2⟩ := b
  by_cases h : a1 = b1 <;> by_cases h2 : a2 = b2 <;> simp [h, h2]
theorem plain_st (z : St) : Plain (stS z) := plain_of (k := 2) (by unfold stS stD; simp only [flatD, flatDs, flatDs_int, Bool.and_self])
/-! the players -/
abbrev Kept := List (St × Int)
abbrev Brk := List (St × Int × List Bool)
def keptD (l : Kept) : List D := l.map fun e => .tup [stS e.1, .int e.2]
def brkD (l : Brk) : List D := l.map fun e => .tup [stS e.1, .int e.2.1, .tup (e.2.2.map .bl)]
def callsOf (l : Kept) : List (NestedKey × D) := l.foldl (fun m e => dputD m (keyOf e.1) (.int e.2)) []
def answersOf (l : Brk) : List (NestedKey × D) := l.foldl (fun m e => dputD m (keyOf e.1) (.tup (e.2.2.map .bl))) []
theorem fold_len {α : Type} {f : List (NestedKey × D) → α → List (NestedKey × D)} (hf : ∀ m a, (f m a).length ≤ m.length + 1) : ∀ (l : List α) (m : List (NestedKey × D)), (l.foldl f m).length ≤ m.length + l.length
  | [], m => by simp
  | a :: l, m => by
    have h1 := fold_len hf l (f m a)
    have h2 := hf m a
    rw [List.foldl_cons, List.length_cons]
    omega
def pcF (l : Kept) : List (Str × D) := [("calls", .dct (callsOf l))]
def prF (l : Brk) : List (Str × D) := [("answers", .dct (answersOf l))]
def r_pcInit : RelM := fun fs ds res => fs = [] ∧ ∃ l : Kept, l.length ≤ 100 ∧ (ds = [.dat (.lst (keptD l))] ∨ ds = [.bor (.lst (keptD l))]) ∧ res = .ok (.non, pcF l)
theorem d_PaperCaller_init (T : Txt nm K mg) : DefC P w K mg base "PaperCaller" (He.ga K "PaperCaller") 1 (SpM P w K (He.ga K "PaperCaller") r_pcInit) :=
  T.make_ 10 rfl bn_PaperCaller_init fun f fd Fn => fnM Fn sc_PaperCaller_init (fun fs ds res ⟨_, _, _, h, _⟩ => by rcases h with h | h <;> rw [h] <;> rfl) fun cdv A outer s H E c fs ds res hr tk hp hx h => by
    obtain ⟨rfl, l, hl, h, rfl⟩ := h
    obtain ⟨x, rfl, hs⟩ : ∃ x, ds = [x] ∧ ∀ S : Sto, LstS S x (dats (keptD l)) := by
      rcases h with rfl | rfl
      · exact ⟨_, rfl, fun _ => ls_d⟩
      · exact ⟨_, rfl, fun _ => ls_b⟩
    have hu := hr.un
    refine ws_cons (w1_fld (C := He.ga K "PaperCaller") (fs0 := []) (k := 0) (ew_dnew ⟨ee_v 0, _, rfl, by show 0 < 1000; decide, ?_⟩) (T.cls "PaperCaller") (T.noat "PaperCaller" "calls"))
    show WS _ _ _ _ [.obj (He.ga K "PaperCaller") [("calls", .ptr 1)], .dct []] _
    refine ws_cons (w1_for (iw_seqL (ee_v 1) (hs _))
      (fun i r S => (∃ a b, r = [some (.ptr 0), some x, a, b]) ∧ S = [.obj (He.ga K "PaperCaller") [("calls", .ptr 1)], .dct (datK (callsOf (l.take i)))]) ⟨⟨_, _, rfl⟩, rfl⟩ (fun _ _ _ _ => hs _) ?_ ?_ hp rfl)
    · rintro i it r S hit ⟨⟨a, b, rfl⟩, rfl⟩
      rw [List.map_map] at hit
      obtain ⟨d, hd, rfl⟩ := dats_at hit
      obtain ⟨e, he, rfl⟩ := List.getElem?_map .. ▸ hd |> Option.map_eq_some_iff.mp
      refine gw_tupD (ds := [stS e.1, .int e.2]) rfl (gws_cons (gw_n 2 sc_PaperCaller_init.nd (gws_cons (gw_n 3 sc_PaperCaller_init.nd (gws_nil ?_))))) rfl
      have hi := (List.getElem?_eq_some_iff.mp he).1
      have hcl : (callsOf (l.take i)).length ≤ 100 := by
        have := fold_len (f := fun m (e : St × Int) => dputD m (keyOf e.1) (.int e.2)) (fun m a => dputD_len _ _ _) (l.take i) []
        simp only [List.length_nil, List.length_take] at this
        unfold callsOf
        omega
      refine ws_cons (w1_setK (by omega) (key_depth e.1) (ee_v 3) (ee_fldP (ee_v 0) rfl (T.cls "PaperCaller") (T.noat "PaperCaller" "calls") (by rfl)) rfl (ee_is (ee_v 2) (by rw [show NestedKey.tup [.tup (e.1.1.map .num), .num e.1.2] = keyOf e.1 from rfl, kD_key])) (by simp [datK]; omega) (ws_nil ⟨⟨_, _, rfl⟩, ?_⟩))
      show [_, Cell.dct (dput (datK (callsOf (l.take i))) (keyOf e.1) (.dat (.int e.2)))] = _
      rw [dput_datK, List.take_succ, he]
      simp [callsOf, List.foldl_append]
    · rintro r S ⟨⟨a, b, rfl⟩, rfl⟩
      have e : l.take (List.map Item.one (dats (keptD l))).length = l := by
        apply List.take_of_length_le
        simp [keptD]
      rw [e]
      refine ws_melt 1 rfl (.dct _) (ws_nil ⟨pcF l, rfl, rfl⟩)
def callD (m : List (NestedKey × D)) (z : St) : D := (dgetD m (keyOf z)).getD (.int (urgent z.1))
def r_pcCall (C : Addr) : Rel := fun ds res => ∃ (m : List (NestedKey × D)) (hd : D) (z : St), ds = [.dat (.obj C [("calls", .dct m)]), .dat hd, .dat (stS z)] ∧ z.1 ≠ [] ∧ res = .ok (callD m z)
theorem d_PaperCaller_call (T : Txt nm K mg) : DefM P w K mg base (He.ga K "PaperCaller") "call" 2 (SpD P w K (r_pcCall (He.ga K "PaperCaller"))) :=
  T.meth_ 11 rfl bn_PaperCaller_call fun f fd Fn => fnD Fn sc_PaperCaller_call (fun ds res ⟨_, _, _, h, _⟩ => by rw [h]; rfl) fun cdv A outer s H E c ds res hr tk hp hx h => by
    obtain ⟨m, hd, z, rfl, hne, rfl⟩ := h
    have hu := hr.un
    have hk : ∀ {e : Expr} {r : Rho} {S : Sto}, EE (cxOf (L2.CX P w) P w K mg base ["self", "hall", "standing"] "PaperCaller.call" (defScope s_PaperCaller_call) f cdv A outer s H E) c e r S (.dat (stS z)) → EE (cxOf (L2.CX P w) P w K mg base ["self", "hall", "standing"] "PaperCaller.call" (defScope s_PaperCaller_call) f cdv A outer s H E) c e r S (.dat (kD (keyOf z))) := fun h => ee_is h (by rw [kD_key])
    refine ws_cons (w1_if (et_cmp (hk (ee_v 2)) (ee_fldD (ee_v 0) (T.cls "PaperCaller") (T.noat "PaperCaller" "calls") (by rfl)) (cd_inK (by omega) (key_depth z) dc_d)) (fun h => ?_) fun h => ws_nil ?_)
    · rw [show NestedKey.tup [.tup (z.1.map .num), .num z.2] = keyOf z from rfl, dget_datK] at h
      cases e : dgetD m (keyOf z) with
      | none => rw [e] at h; cases h
      | some d =>
        refine ws_cons (w1_ret (ew_ee (x := .dat d) (ee_ixK (by omega) (key_depth z) (ee_fldD (ee_v 0) (T.cls "PaperCaller") (T.noat "PaperCaller" "calls") (by rfl)) dc_d (hk (ee_v 2)) ?_) ⟨_, ?_, rfl⟩))
        · rw [show NestedKey.tup [.tup (z.1.map .num), .num z.2] = keyOf z from rfl, dget_datK, e]; rfl
        · unfold callD; rw [e]; rfl
    · rw [show NestedKey.tup [.tup (z.1.map .num), .num z.2] = keyOf z from rfl, dget_datK] at h
      refine ws_cons (w1_ret (ew_ee (x := .dat _) (ee_call (d_urg T) tk hr (ea_cons (ee_v 2) ea_nil) (.cons (.dat _) .nil) ⟨z.1, z.2, rfl, hne, rfl⟩) ⟨_, ?_, rfl⟩))
      unfold callD
      cases e : dgetD m (keyOf z) with
      | none => rfl
      | some d => rw [e] at h; cases h
theorem fold_get {α : Type} {key : α → St} {g : α → D} (z : St) : ∀ (l : List α) (m : List (NestedKey × D)), (l.map key).Nodup →
    dgetD (l.foldl (fun m e => dputD m (keyOf (key e)) (g e)) m) (keyOf z) = match l.find? (fun e => decide (key e = z)) with
      | some e => some (g e)
      | none => dgetD m (keyOf z)
  | [], m, _ => rfl
  | a :: l, m, hn => by
    rw [List.map_cons, List.nodup_cons] at hn
    rw [List.foldl_cons, fold_get z l _ hn.2, dgetD_put]
    by_cases ha : key a = z
    · have hno : l.find? (fun e => decide (key e = z)) = none := by
        rw [List.find?_eq_none]
        intro x hx hz
        have hz' : key x = z := by simpa using hz
        exact hn.1 (List.mem_map.mpr ⟨x, hx, hz'.trans ha.symm⟩)
      rw [hno, List.find?_cons_of_pos (by simpa using ha), if_pos (by rw [ha])]
    · rw [List.find?_cons_of_neg (by simpa using ha), if_neg (fun h => ha (key_inj h))]
def dueCall (l : Kept) (z : St) : Int := match l.find? (fun e => decide (e.1 = z)) with
  | some e => e.2
  | none => urgent z.1
theorem call_due {l : Kept} (z : St) (h : (l.map (·.1)).Nodup) : callD (callsOf l) z = .int (dueCall l z) := by
  unfold callD callsOf dueCall
  rw [fold_get (key := fun e : St × Int => e.1) (g := fun e => .int e.2) z l [] h]
  cases l.find? (fun e => decide (e.1 = z)) <;> rfl
/-! the road -/
def r_prInit : RelM := fun fs ds res => fs = [] ∧ ∃ l : Brk, l.length ≤ 100 ∧ (ds = [.dat (.lst (brkD l))] ∨ ds = [.bor (.lst (brkD l))]) ∧ res = .ok (.non, prF l)
theorem d_PaperRoad_init (T : Txt nm K mg) : DefC P w K mg base "PaperRoad" (He.ga K "PaperRoad") 1 (SpM P w K (He.ga K "PaperRoad") r_prInit) :=
  T.make_ 13 rfl bn_PaperRoad_init fun f fd Fn => fnM Fn sc_PaperRoad_init (fun fs ds res ⟨_, _, _, h, _⟩ => by rcases h with h | h <;> rw [h] <;> rfl) fun cdv A outer s H E c fs ds res hr tk hp hx h => by
    obtain ⟨rfl, l, hl, h, rfl⟩ := h
    obtain ⟨x, rfl, hs⟩ : ∃ x, ds = [x] ∧ ∀ S : Sto, LstS S x (dats (brkD l)) := by
      rcases h with rfl | rfl
      · exact ⟨_, rfl, fun _ => ls_d⟩
      · exact ⟨_, rfl, fun _ => ls_b⟩
    have hu := hr.un
    refine ws_cons (w1_fld (C := He.ga K "PaperRoad") (fs0 := []) (k := 0) (ew_dnew ⟨ee_v 0, _, rfl, by show 0 < 1000; decide, ?_⟩) (T.cls "PaperRoad") (T.noat "PaperRoad" "answers"))
    show WS _ _ _ _ [.obj (He.ga K "PaperRoad") [("answers", .ptr 1)], .dct []] _
    refine ws_cons (w1_for (iw_seqL (ee_v 1) (hs _))
      (fun i r S => (∃ a b d, r = [some (.ptr 0), some x, a, b, d]) ∧ S = [.obj (He.ga K "PaperRoad") [("answers", .ptr 1)], .dct (datK (answersOf (l.take i)))]) ⟨⟨_, _, _, rfl⟩, rfl⟩ (fun _ _ _ _ => hs _) ?_ ?_ hp rfl)
    · rintro i it r S hit ⟨⟨a, b, d0, rfl⟩, rfl⟩
      rw [List.map_map] at hit
      obtain ⟨d, hd, rfl⟩ := dats_at hit
      obtain ⟨e, he, rfl⟩ := List.getElem?_map .. ▸ hd |> Option.map_eq_some_iff.mp
      refine gw_tupD (ds := [stS e.1, .int e.2.1, .tup (e.2.2.map .bl)]) rfl (gws_cons (gw_n 2 sc_PaperRoad_init.nd (gws_cons (gw_n 3 sc_PaperRoad_init.nd (gws_cons (gw_n 4 sc_PaperRoad_init.nd (gws_nil ?_))))))) rfl
      have hi := (List.getElem?_eq_some_iff.mp he).1
      have hcl : (answersOf (l.take i)).length ≤ 100 := by
        have := fold_len (f := fun m (e : St × Int × List Bool) => dputD m (keyOf e.1) (.tup (e.2.2.map .bl))) (fun m a => dputD_len _ _ _) (l.take i) []
        simp only [List.length_nil, List.length_take] at this
        unfold answersOf
        omega
      refine ws_cons (w1_setK (by omega) (key_depth e.1) (ee_v 4) (ee_fldP (ee_v 0) rfl (T.cls "PaperRoad") (T.noat "PaperRoad" "answers") (by rfl)) rfl (ee_is (ee_v 2) (by rw [show NestedKey.tup [.tup (e.1.1.map .num), .num e.1.2] = keyOf e.1 from rfl, kD_key])) (by simp [datK]; omega) (ws_nil ⟨⟨_, _, _, rfl⟩, ?_⟩))
      show [_, Cell.dct (dput (datK (answersOf (l.take i))) (keyOf e.1) (.dat (.tup (e.2.2.map .bl))))] = _
      rw [dput_datK, List.take_succ, he]
      simp [answersOf, List.foldl_append]
    · rintro r S ⟨⟨a, b, d, rfl⟩, rfl⟩
      have e : l.take (List.map Item.one (dats (brkD l))).length = l := by
        apply List.take_of_length_le
        simp [brkD]
      rw [e]
      refine ws_melt 1 rfl (.dct _) (ws_nil ⟨prF l, rfl, rfl⟩)
def dueLoss (l : Brk) (calm : Option Int) (z : St) (who : Nat) : Bool := match l.find? (fun e => decide (e.1 = z)) with
  | some e => e.2.2.getD who false && mayLose calm z.2
  | none => false
def r_prLoses (C : Addr) : Rel := fun ds res => ∃ (l : Brk) (ws : List Int) (calm : Option Int) (z : St) (who : Nat), (l.map (·.1)).Nodup ∧ (∀ e ∈ l, who < e.2.2.length) ∧
  ds = [.dat (.obj C (prF l)), .dat (hallD ws calm), .dat (stS z), DI who] ∧ res = .ok (.bl (dueLoss l calm z who))
theorem d_PaperRoad_loses (T : Txt nm K mg) : DefM P w K mg base (He.ga K "PaperRoad") "loses" 2 (SpD P w K (r_prLoses (He.ga K "PaperRoad"))) :=
  T.meth_ 14 rfl bn_PaperRoad_loses fun f fd Fn => fnD Fn sc_PaperRoad_loses (fun ds res ⟨_, _, _, _, _, _, _, h, _⟩ => by rw [h]; rfl) fun cdv A outer s H E c ds res hr tk hp hx h => by
    obtain ⟨l, ws, calm, z, who, hnd, hw, rfl, rfl⟩ := h
    have hu := hr.un
    have hk : ∀ {e : Expr} {r : Rho} {S : Sto}, EE (cxOf (L2.CX P w) P w K mg base ["self", "hall", "standing", "who"] "PaperRoad.loses" (defScope s_PaperRoad_loses) f cdv A outer s H E) c e r S (.dat (stS z)) → EE (cxOf (L2.CX P w) P w K mg base ["self", "hall", "standing", "who"] "PaperRoad.loses" (defScope s_PaperRoad_loses) f cdv A outer s H E) c e r S (.dat (kD (keyOf z))) := fun h => ee_is h (by rw [kD_key])
    have hget : dgetD (answersOf l) (keyOf z) = (l.find? (fun e => decide (e.1 = z))).map fun e => .tup (e.2.2.map .bl) := by
      unfold answersOf
      rw [fold_get (key := fun e : St × Int × List Bool => e.1) (g := fun e => .tup (e.2.2.map .bl)) z l [] hnd]
      cases l.find? (fun e => decide (e.1 = z)) <;> rfl
    refine ws_cons (w1_if (et_w (etw_or (et_cmp (hk (ee_v 2)) (ee_fldD (ee_v 0) (T.cls "PaperRoad") (T.noat "PaperRoad" "answers") (by rfl)) (cd_ninK (by omega) (key_depth z) dc_d))
      fun _ => etw_or1 (et_not (et_val (ee_call (d_may T) tk hr (ea_cons (ee_v 1) (ea_cons (ee_v 2) ea_nil)) (.cons (.dat _) (.cons (.dat _) .nil)) ⟨ws, calm, z.1, z.2, rfl, rfl⟩))))) (fun h => ?_) fun h => ws_nil ?_)
    · rw [show NestedKey.tup [.tup (z.1.map .num), .num z.2] = keyOf z from rfl, dget_datK, hget] at h
      refine ws_cons (w1_ret (ew_ee (x := .dat _) ee_bl ⟨_, ?_, rfl⟩))
      unfold dueLoss
      cases e : l.find? (fun e => decide (e.1 = z)) with
      | none => rfl
      | some e0 =>
        rw [e] at h
        have : mayLose calm z.2 = false := by simpa using h
        simp [this]
    · rw [show NestedKey.tup [.tup (z.1.map .num), .num z.2] = keyOf z from rfl, dget_datK, hget] at h
      cases e : l.find? (fun e => decide (e.1 = z)) with
      | none => rw [e] at h; simp at h
      | some e0 =>
        rw [e] at h
        have hm : mayLose calm z.2 = true := by simpa using h
        have hwho := hw e0 (List.mem_of_find?_eq_some e)
        refine ws_cons (w1_ret (ew_ee (x := .dat _) (ee_ixT (ds := e0.2.2.map .bl) (d := .bl e0.2.2[who]) (ee_ixK (by omega) (key_depth z) (ee_fldD (ee_v 0) (T.cls "PaperRoad") (T.noat "PaperRoad" "answers") (by rfl)) dc_d (hk (ee_v 2)) ?_) (ee_v 3) (at_nat (by simp [hwho]))) ⟨_, ?_, rfl⟩))
        · rw [show NestedKey.tup [.tup (z.1.map .num), .num z.2] = keyOf z from rfl, dget_datK, hget, e]; rfl
        · unfold dueLoss
          rw [e]
          simp [hm, hwho]
/-! the law's own reckoning -/
def numSeq (n0 : Int) : Nat → Int
  | 0 => n0
  | i + 1 => numSeq n0 i / 4 + 40503 * (numSeq n0 i % 4)
def leftsOf (ws : List Int) (n0 : Int) : List Int := (List.range ws.length).map fun j => 1 + numSeq n0 j % ws.getD j 1
def standOf (ws : List Int) (calm : Option Int) (z : Int) : St := (leftsOf ws (z % 10 ^ (40 : Int).toNat * 48271 % 2147483647), match calm with
  | none => 0
  | some c => if z % 2 = 0 then 0 else z / 3 % (c + 1))
def HallOk (ws : List Int) (calm : Option Int) : Prop := ws ≠ [] ∧ ws.length ≤ 8 ∧ (∀ x ∈ ws, 0 < x) ∧ ∀ c, calm = some c → 0 < c
theorem stand_ne {ws : List Int} {calm : Option Int} {z : Int} (h : HallOk ws calm) : (standOf ws calm z).1 ≠ [] := by
  intro e
  have : (standOf ws calm z).1.length = 0 := by rw [e]; rfl
  simp [standOf, leftsOf] at this
  exact h.1 this
def r_stand : Rel := fun ds res => ∃ (ws : List Int) (calm : Option Int) (z : Int), HallOk ws calm ∧ ds = [.dat (hallD ws calm), DI z] ∧ res = .ok (stS (standOf ws calm z))
theorem d_stand (T : Txt nm K mg) : Def P w K mg base "_law_standing" 1 [] (SpD P w K r_stand) :=
  T.def_ 3 rfl bn_law_standing fun f fd Fn => fnD Fn sc_law_standing (fun ds res ⟨_, _, _, _, h, _⟩ => by rw [h]; rfl) fun cdv A outer s H E c ds res hr tk hp hx h => by
    obtain ⟨ws, calm, z, ⟨hne, hl, hpos, hcp⟩, rfl, rfl⟩ := h
    refine ws_cons (w1_set 2 (ew_ee (ee_mod (ee_mul (ee_mod (ee_v 1) (ee_pow ee_int ee_int)) ee_int (.inr (by decide))) ee_int) ?_) sc_law_standing.nd)
    refine ws_cons (w1_set 3 (ew_lst ea_nil ?_) sc_law_standing.nd)
    generalize hn0 : z % 10 ^ (40 : Int).toNat * 48271 % 2147483647 = n0
    show WS _ _ _ [some (.dat (hallD ws calm)), some (DI z), some (DI n0), some (.ptr 0), none] [.lst []] _
    refine ws_cons (w1_for (iw_tup (ee_ixT (ee_v 0) ee_int (d := .tup (ws.map .int)) rfl))
      (fun i r S => (∃ a, r = [some (.dat (hallD ws calm)), some (DI z), some (DI (numSeq n0 i)), some (.ptr 0), a]) ∧ S = [.lst (dats (((List.range i).map fun j => 1 + numSeq n0 j % ws.getD j 1).map D.int))]) ⟨⟨_, rfl⟩, rfl⟩ (fun _ _ _ _ => trivial) ?_ ?_ hp rfl)
    · rintro i it r S hit ⟨⟨a, rfl⟩, rfl⟩
      obtain ⟨d, hd, rfl⟩ := dats_at hit
      obtain ⟨x, hx', rfl⟩ := List.getElem?_map .. ▸ hd |> Option.map_eq_some_iff.mp
      have hi := (List.getElem?_eq_some_iff.mp hx').1
      have hxe : ws.getD i 1 = x := by rw [List.getD_eq_getElem?_getD, hx']; rfl
      have hx0 : 0 < x := hpos x (List.mem_of_getElem? hx')
      refine gw_n 4 sc_law_standing.nd ?_
      refine ws_cons (w1_expr (ew_append (k := 0) (ee_v 3) rfl (ew_ee (ee_add ee_int (ee_mod (ee_v 2) (ee_v 4) hx0)) ⟨_, rfl, by simp; omega, ?_⟩)))
      refine ws_cons (w1_set 2 (ew_ee (ee_add (ee_fdiv (ee_v 2) ee_int) (ee_mul ee_int (ee_mod (ee_v 2) ee_int) (.inl (by decide)))) ?_) sc_law_standing.nd)
      refine ws_nil ⟨⟨_, rfl⟩, ?_⟩
      show [_] = [_]
      rw [List.range_succ]
      simp [hxe, hx']
    · rintro r S ⟨⟨a, rfl⟩, rfl⟩
      simp only [List.length_map]
      have hst : standOf ws calm z = ((List.range ws.length).map (fun j => 1 + numSeq n0 j % ws.getD j 1), (standOf ws calm z).2) := by
        unfold standOf leftsOf; rw [hn0]
      rw [hst]
      generalize (List.range ws.length).map (fun j => 1 + numSeq n0 j % ws.getD j 1) = L
      refine ws_cons (w1_if (et_cmp (ee_ixT (ee_v 0) ee_int (d := calmD calm) rfl) ee_non cd_isN) (fun h => ?_) fun h => ws_nil ?_)
      · cases calm with
        | some cc => simp [calmD, isNonS] at h
        | none => exact ws_cons (w1_ret (ew_ee (x := .dat _) (ee_tup (ds := [.tup (L.map .int), .int 0]) (ea_cons (ee_tupleOf (T.free "tuple") (ee_v 3) (ls_p rfl)) (ea_cons ee_int ea_nil))) ⟨_, rfl, rfl⟩))
      · cases calm with
        | none => simp [calmD, isNonS] at h
        | some cc =>
          have hc0 := hcp cc rfl
          refine ws_cons (w1_ret (ew_ee (x := .dat _) (ee_tup (ds := [.tup (L.map .int), .int (if z % 2 = 0 then 0 else z / 3 % (cc + 1))]) (ea_cons (ee_tupleOf (T.free "tuple") (ee_v 3) (ls_p rfl)) (ea_cons (ee_ixL (d := .int (if z % 2 = 0 then 0 else z / 3 % (cc + 1))) (ee_lst (ds := [.int 0, .int (z / 3 % (cc + 1))]) (ea_cons ee_int (ea_cons (ee_mod (ee_fdiv (ee_v 1) ee_int) (ee_add (ee_ixT (ee_v 0) ee_int (d := .int cc) rfl) ee_int) (by omega)) ea_nil))) (ee_mod (ee_v 1) ee_int) ?_) ea_nil))) ⟨_, rfl, rfl⟩))
          have h1 := Int.emod_nonneg z (show (2 : Int) ≠ 0 by decide)
          have h2 := Int.emod_lt_of_pos z (show (0 : Int) < 2 by decide)
          have h3 : z % 2 = 0 ∨ z % 2 = 1 := by omega
          rcases h3 with h3 | h3 <;> rw [h3] <;> rfl
/-! papers -/
def n2 (z : Int) : Int := z % 10 ^ (40 : Int).toNat * 69621 % 2147483629
theorem n2_bd (z : Int) : 0 ≤ n2 z ∧ n2 z < 2147483629 := ⟨Int.emod_nonneg _ (by decide), Int.emod_lt_of_pos _ (by decide)⟩
def ansOf (z : Int) (m : Nat) : List Bool := (List.range m).map fun (k : Nat) => decide (0 < (n2 z / ((k : Int) + 2) + (k : Int)) % 3)
def rankOf (z : Int) : Int := 1 + n2 z * 7 ^ (40 : Int).toNat % (if n2 z % 2 = 0 then 7 else 10 ^ (30 : Int).toNat)
structure Pap where
  k : Kept
  b : Brk
def papStep (ws : List Int) (calm : Option Int) (p : Pap) (z : Int) : Pap := if (p.k.any fun e => decide (e.1 = standOf ws calm z)) = true then p else
  ⟨p.k ++ [(standOf ws calm z, n2 z % ws.length)], p.b ++ [(standOf ws calm z, rankOf z, ansOf z ws.length)]⟩
def papOf (ws : List Int) (calm : Option Int) (zs : List Int) : Pap := zs.foldl (papStep ws calm) ⟨[], []⟩
structure PapOk (m n : Nat) (p : Pap) : Prop where
  kn : (p.k.map (·.1)).Nodup
  bn : (p.b.map (·.1)).Nodup
  eq : p.b.map (·.1) = p.k.map (·.1)
  kl : p.k.length ≤ n
  bl : ∀ e ∈ p.b, e.2.2.length = m
theorem PapOk.blen {m n : Nat} {p : Pap} (h : PapOk m n p) : p.b.length ≤ n := by
  have := congrArg List.length h.eq
  simp at this
  rw [this]
  exact h.kl
theorem papStep_ok {ws : List Int} {calm : Option Int} {p : Pap} {z : Int} {n : Nat} (h : PapOk ws.length n p) : PapOk ws.length (n + 1) (papStep ws calm p z) := by
  unfold papStep
  by_cases hm : (p.k.any fun e => decide (e.1 = standOf ws calm z)) = true
  · rw [if_pos hm]
    exact ⟨h.kn, h.bn, h.eq, by have := h.kl; omega, h.bl⟩
  · rw [if_neg hm]
    have hno : standOf ws calm z ∉ p.k.map (·.1) := fun q => by
      obtain ⟨e, he, e2⟩ := List.mem_map.mp q
      exact hm (List.any_eq_true.mpr ⟨e, he, by simpa using e2⟩)
    refine ⟨?_, ?_, ?_, by simp; exact h.kl, ?_⟩
    · rw [List.map_append]
      exact List.nodup_append.mpr ⟨h.kn, by simp, fun a ha b hb => by
        have : b = standOf ws calm z := by simpa using hb
        rw [this]; intro q; rw [q] at ha; exact hno ha⟩
    · rw [List.map_append]
      exact List.nodup_append.mpr ⟨h.bn, by simp, fun a ha b hb => by
        have : b = standOf ws calm z := by simpa using hb
        rw [this]; intro q; rw [q, h.eq] at ha; exact hno ha⟩
    · rw [List.map_append, List.map_append, h.eq]; rfl
    · intro e he
      rcases List.mem_append.mp he with h1 | h1
      · exact h.bl e h1
      · have : e = (standOf ws calm z, rankOf z, ansOf z ws.length) := by simpa using h1
        rw [this]; simp [ansOf]
theorem papOf_ok (ws : List Int) (calm : Option Int) (zs : List Int) : PapOk ws.length zs.length (papOf ws calm zs) := by
  have go : ∀ (zs : List Int) (p : Pap) (n : Nat), PapOk ws.length n p → PapOk ws.length (n + zs.length) (zs.foldl (papStep ws calm) p) := fun zs => by
    induction zs with
    | nil => intro p n h; exact h
    | cons z zs ih =>
      intro p n h
      rw [List.foldl_cons, List.length_cons, show n + (zs.length + 1) = (n + 1) + zs.length by omega]
      exact ih _ _ (papStep_ok h)
  have := go zs ⟨[], []⟩ 0 ⟨List.nodup_nil, List.nodup_nil, rfl, Nat.le_refl _, by intro e he; cases he⟩
  simpa [papOf] using this
theorem plain_sts (l : List St) : Plain (.lst (l.map stS)) := plain_of (k := 3) (by
  simp only [flatD]
  refine flatDs_of fun d hd => ?_
  obtain ⟨z, _, rfl⟩ := List.mem_map.mp hd
  unfold stS stD
  simp only [flatD, flatDs, flatDs_int, Bool.and_self])
def papD (p : Pap) : D := .tup [.lst (keptD p.k), .lst (brkD p.b)]
def r_pap : Rel := fun ds res => ∃ (ws : List Int) (calm : Option Int) (zs : List Int), HallOk ws calm ∧ zs.length ≤ 60 ∧ ds = [.dat (hallD ws calm), .dat (intsD zs)] ∧ res = .ok (papD (papOf ws calm zs))
theorem d_pap (T : Txt nm K mg) : Def P w K mg base "_law_papers" 2 [] (SpD P w K r_pap) :=
  T.def_ 4 rfl bn_law_papers fun f fd Fn => fnD Fn sc_law_papers (fun ds res ⟨_, _, _, _, _, h, _⟩ => by rw [h]; rfl) fun cdv A outer s H E c ds res hr tk hp hx h => by
    obtain ⟨ws, calm, zs, hok, hz60, rfl, rfl⟩ := h
    obtain ⟨hne, hl8, hpos, hcp⟩ := id hok
    have hwl : 0 < ws.length := by cases ws with | nil => exact absurd rfl hne | cons _ _ => simp
    have hu := hr.un
    refine ws_cons (w1_set 2 (ew_lst ea_nil ?_) sc_law_papers.nd)
    refine ws_cons (w1_set 3 (ew_lst ea_nil ?_) sc_law_papers.nd)
    refine ws_cons (w1_set 4 (ew_lst ea_nil ?_) sc_law_papers.nd)
    show WS _ _ _ [some (.dat (hallD ws calm)), some (.dat (intsD zs)), some (.ptr 0), some (.ptr 1), some (.ptr 2), none, none, none, none, none] [.lst [], .lst [], .lst []] _
    refine ws_cons (w1_for (iw_lst (ee_v 1))
      (fun i r S => (∃ a b d e g, r = [some (.dat (hallD ws calm)), some (.dat (intsD zs)), some (.ptr 0), some (.ptr 1), some (.ptr 2), a, b, d, e, g]) ∧
        S = [.lst (dats (keptD (papOf ws calm (zs.take i)).k)), .lst (dats (brkD (papOf ws calm (zs.take i)).b)), .lst (dats ((papOf ws calm (zs.take i)).k.map fun e => stS e.1))]) ⟨⟨_, _, _, _, _, rfl⟩, rfl⟩ (fun _ _ _ _ => trivial) ?_ ?_ hp rfl)
    · rintro i it r S hit ⟨⟨a, b, d0, e0, g0, rfl⟩, rfl⟩
      obtain ⟨d, hd, rfl⟩ := dats_at hit
      obtain ⟨z, hz, rfl⟩ := List.getElem?_map .. ▸ hd |> Option.map_eq_some_iff.mp
      have hi := (List.getElem?_eq_some_iff.mp hz).1
      have hstep : papOf ws calm (zs.take (i + 1)) = papStep ws calm (papOf ws calm (zs.take i)) z := by
        rw [List.take_succ, hz]
        simp [papOf, List.foldl_append]
      have pok := papOf_ok ws calm (zs.take i)
      rw [hstep]
      generalize papOf ws calm (zs.take i) = p at pok
      have hkl : p.k.length ≤ 60 := by have := pok.kl; simp at this; omega
      have hbl : p.b.length ≤ 60 := by have := pok.blen; simp at this; omega
      refine gw_n 5 sc_law_papers.nd ?_
      refine ws_cons (w1_set 6 (ew_ee (ee_call (d_stand T) tk (hr.mono (by decide)) (ea_cons (ee_v 0) (ea_cons (ee_v 5) ea_nil)) (.cons (.dat _) (.cons (.dat _) .nil)) ⟨ws, calm, z, hok, rfl, rfl⟩) ?_) sc_law_papers.nd)
      have hcond : (!((p.k.map fun e => stS e.1).any fun y => eqD y (stS (standOf ws calm z)))) = !(p.k.any fun e => decide (e.1 = standOf ws calm z)) := by
        rw [List.any_map]
        rw [show (fun y => eqD y (stS (standOf ws calm z))) ∘ (fun e : St × Int => stS e.1) = fun e => decide (e.1 = standOf ws calm z) from funext fun e => eqD_st _ _]
      have hpl : Plain (.lst (p.k.map fun e => stS e.1)) := by
        have := plain_sts (p.k.map (·.1))
        rwa [List.map_map] at this
      refine ws_cons (w1_if (p := !(p.k.any fun e => decide (e.1 = standOf ws calm z))) (et_is (et_cmp (ee_v 6) (ee_v 4) (cd_ninL (by omega) (.dat _) (.lst rfl seenL_dats) (plain_st _) hpl)) hcond) (fun h => ?_) fun h => ws_nil ?_)
      · have hno : ¬ (p.k.any fun e => decide (e.1 = standOf ws calm z)) = true := fun q => by
          rw [q] at h
          exact absurd h (by decide)
        unfold papStep
        rw [if_neg hno]
        obtain ⟨nb1, nb2⟩ := n2_bd z
        refine ws_cons (w1_expr (ew_append (k := 2) (ee_v 4) rfl (ew_ee (ee_v 6) ⟨_, rfl, by simp; omega, ?_⟩)))
        refine ws_cons (w1_set 7 (ew_ee (x := DI (n2 z)) (ee_mod (ee_mul (ee_mod (ee_v 5) (ee_pow ee_int ee_int)) ee_int (.inr (by decide))) ee_int) ?_) sc_law_papers.nd)
        refine ws_cons (w1_expr (ew_append (k := 0) (ee_v 2) rfl (ew_ee (x := .dat (.tup [stS (standOf ws calm z), .int (n2 z % ws.length)])) (ee_tup (ds := [stS (standOf ws calm z), .int (n2 z % ws.length)]) (ea_cons (ee_v 6) (ea_cons (ee_is (ee_mod (ee_v 7) (ee_len (T.free "len") (ee_ixT (ee_v 0) ee_int (d := .tup (ws.map .int)) rfl) ss_t) (by first | (simp; done) | (simp; omega))) (by simp)) ea_nil))) ⟨_, rfl, by simp [keptD]; omega, ?_⟩)))
        refine ws_cons (w1_set 8 (ew_ee (x := .dat (.tup ((ansOf z ws.length).map .bl))) (ee_tupleOf (T.free "tuple") (ee_is (ee_lc (fun it => match it with | .one (.dat (.int k)) => .bl (decide (0 < (n2 z / (k + 2) + k) % 3)) | _ => .non) (fun _ => true) 9
          (iw_range (ee_len (T.free "len") (ee_ixT (ee_v 0) ee_int (d := .tup (ws.map .int)) rfl) ss_t) (T.free "range") ⟨by first | (simp; done) | (simp; omega), by first | (simp; done) | (simp; omega)⟩) sc_law_papers.nd rfl (fun _ => trivial) (by simp; omega) (fun it hit => ?_) (blkOk_by (by rfl)) (fun _ _ _ _ _ => pg_name (i := 9) sc_law_papers.nd rfl (Or.inl rfl))) ?_) ls_d) ?_) sc_law_papers.nd)
        · obtain ⟨k, hk, rfl⟩ := List.mem_map.mp hit
          have hk8 : k < 8 := by simp at hk; omega
          exact ⟨_, rfl, ⟨fun acc s0 H0 C cl fp => ets_nil, fun _ acc s0 H0 C cl fp => ee_cmp (ee_mod (ee_add (ee_fdiv (ee_v 7) (ee_add (ee_v 9) ee_int) ⟨by omega, by omega⟩) (ee_v 9)) ee_int) ee_int cd_gt⟩⟩
        · rw [List.filter_eq_self.mpr (fun _ _ => rfl)]
          simp only [List.map_map, List.length_map, Int.toNat_natCast, ansOf]
          rfl
        have hmod : 0 < (if n2 z % 2 = 0 then 7 else 10 ^ (30 : Int).toNat : Int) := by split <;> decide
        refine ws_cons (w1_expr (ew_append (k := 1) (ee_v 3) rfl (ew_ee (x := .dat (.tup [stS (standOf ws calm z), .int (rankOf z), .tup ((ansOf z ws.length).map .bl)])) (ee_tup (ds := [stS (standOf ws calm z), .int (rankOf z), .tup ((ansOf z ws.length).map .bl)]) (ea_cons (ee_v 6) (ea_cons (ee_add ee_int (ee_mod (ee_mul (ee_v 7) (ee_pow ee_int ee_int) (.inl ⟨by omega, by omega⟩)) (ee_ixL (d := .int (if n2 z % 2 = 0 then 7 else 10 ^ (30 : Int).toNat)) (ee_lst (ds := [.int 7, .int (10 ^ (30 : Int).toNat)]) (ea_cons ee_int (ea_cons (ee_pow ee_int ee_int) ea_nil))) (ee_mod (ee_v 7) ee_int) ?_) hmod)) (ea_cons (ee_v 8) ea_nil)))) ⟨_, rfl, by simp [brkD]; omega, ?_⟩)))
        · have h3 : n2 z % 2 = 0 ∨ n2 z % 2 = 1 := by omega
          rcases h3 with h3 | h3 <;> rw [h3] <;> rfl
        refine ws_nil (ws_nil ⟨⟨_, _, _, _, _, rfl⟩, ?_⟩)
        show [_, _, _] = [_, _, _]
        simp [keptD, brkD]
      · have hy : (p.k.any fun e => decide (e.1 = standOf ws calm z)) = true := by
          cases q : (p.k.any fun e => decide (e.1 = standOf ws calm z)) with
          | true => rfl
          | false => rw [q] at h; exact absurd h (by decide)
        unfold papStep
        rw [if_pos hy]
        exact ws_nil ⟨⟨_, _, _, _, _, rfl⟩, rfl⟩
    · rintro r S ⟨⟨a, b, d0, e0, g0, rfl⟩, rfl⟩
      have e : zs.take (List.map (fun d => Item.one (Sl.dat d)) (zs.map D.int)).length = zs := by
        apply List.take_of_length_le
        simp
      rw [e]
      refine ws_melt 0 rfl (.lst _) ?_
      simp only [meltS, List.set_cons_zero, List.map_cons, List.map_nil, meltC_dats, meltC_gone']
      refine ws_melt 1 rfl (.lst _) ?_
      exact ws_cons (w1_ret (ew_ee (x := .dat _) (ee_tup (ds := [.lst (keptD (papOf ws calm zs).k), .lst (brkD (papOf ws calm zs).b)]) (ea_cons (ee_v 2) (ea_cons (ee_v 3) ea_nil))) ⟨_, rfl, rfl⟩))
/-! the dues -/
theorem find_take {α : Type} {q : α → Bool} {l : List α} {i : Nat} {a : α} (hi : l[i]? = some a) (hq : q a = true) (hb : ∀ j b, j < i → l[j]? = some b → q b = false) : l.find? q = some a := by
  induction l generalizing i with
  | nil => simp at hi
  | cons x l ih =>
    cases i with
    | zero =>
      have : x = a := by simpa using hi
      subst this
      exact List.find?_cons_of_pos hq
    | succ i =>
      have h0 := hb 0 x (by omega) rfl
      rw [List.find?_cons_of_neg (by rw [h0]; decide)]
      exact ih (by simpa using hi) fun j b hj hb' => hb (j + 1) b (by omega) (by simpa using hb')
theorem find_none' {α : Type} {q : α → Bool} {l : List α} (hb : ∀ j b, j < l.length → l[j]? = some b → q b = false) : l.find? q = none := by
  rw [List.find?_eq_none]
  intro x hx
  obtain ⟨j, hj, e⟩ := List.mem_iff_getElem.mp hx
  rw [hb j x hj (by rw [List.getElem?_eq_getElem hj, e])]
  decide
def r_dueCall : Rel := fun ds res => ∃ (l : Kept) (z : St), ds = [.dat (.lst (keptD l)), .dat (stS z)] ∧ z.1 ≠ [] ∧ res = .ok (.int (dueCall l z))
theorem d_dueCall (T : Txt nm K mg) : Def P w K mg base "_law_due_call" 1 [] (SpD P w K r_dueCall) :=
  T.def_ 5 rfl bn_law_due_call fun f fd Fn => fnD Fn sc_law_due_call (fun ds res ⟨_, _, h, _⟩ => by rw [h]; rfl) fun cdv A outer s H E c ds res hr tk hp hx h => by
    obtain ⟨l, z, rfl, hne, rfl⟩ := h
    have hu := hr.un
    refine ws_cons (w1_for (iw_lst (ee_v 0))
      (fun i r S => (∃ a b, r = [some (.dat (.lst (keptD l))), some (.dat (stS z)), a, b]) ∧ S = [] ∧ ∀ j e, j < i → l[j]? = some e → decide (e.1 = z) = false) ⟨⟨_, _, rfl⟩, rfl, fun _ _ h _ => by omega⟩ (fun _ _ _ _ => trivial) ?_ ?_ hp rfl)
    · rintro i it r S hit ⟨⟨a, b, rfl⟩, rfl, hno⟩
      obtain ⟨d, hd, rfl⟩ := dats_at hit
      obtain ⟨e, he, rfl⟩ := List.getElem?_map .. ▸ hd |> Option.map_eq_some_iff.mp
      refine gw_tupD (ds := [stS e.1, .int e.2]) rfl (gws_cons (gw_n 2 sc_law_due_call.nd (gws_cons (gw_n 3 sc_law_due_call.nd (gws_nil ?_))))) rfl
      refine ws_cons (w1_if (p := decide (e.1 = z)) (et_is (et_cmp (ee_v 2) (ee_v 1) (cd_eqD (by omega) (.dat _) (.dat _) (plain_st _) (plain_st _))) (eqD_st _ _)) (fun h => ?_) fun h => ws_nil ?_)
      · refine ws_cons (w1_ret (ew_ee (x := DI e.2) (ee_v 3) ⟨_, ?_, rfl⟩))
        unfold dueCall
        rw [find_take he h hno]
      · refine ws_nil ⟨⟨_, _, rfl⟩, rfl, fun j e' hj hj' => ?_⟩
        by_cases hji : j = i
        · subst hji
          rw [he] at hj'; cases hj'; exact h
        · exact hno j e' (by omega) hj'
    · rintro r S ⟨⟨a, b, rfl⟩, rfl, hno⟩
      have hnone : l.find? (fun e => decide (e.1 = z)) = none := find_none' fun j b hj hb => hno j b (by simpa [keptD] using hj) hb
      refine ws_cons (w1_ret (ew_ee (x := .dat _) (ee_tupIx (ee_ixT (ee_v 1) ee_int (d := .tup (z.1.map .int)) rfl) (ee_minT (T.free "min") rfl hr (ee_ixT (ee_v 1) ee_int (d := .tup (z.1.map .int)) rfl) hne) (minZ_mem hne)) ⟨_, ?_, rfl⟩))
      unfold dueCall
      rw [hnone]
      rfl
def r_dueLoss : Rel := fun ds res => ∃ (l : Brk) (ws : List Int) (calm : Option Int) (z : St) (who : Nat), (∀ e ∈ l, who < e.2.2.length) ∧ ds = [.dat (.lst (brkD l)), .dat (hallD ws calm), .dat (stS z), DI who] ∧ res = .ok (.bl (dueLoss l calm z who))
theorem d_dueLoss (T : Txt nm K mg) : Def P w K mg base "_law_due_loss" 1 [] (SpD P w K r_dueLoss) :=
  T.def_ 6 rfl bn_law_due_loss fun f fd Fn => fnD Fn sc_law_due_loss (fun ds res ⟨_, _, _, _, _, _, h, _⟩ => by rw [h]; rfl) fun cdv A outer s H E c ds res hr tk hp hx h => by
    obtain ⟨l, ws, calm, z, who, hw, rfl, rfl⟩ := h
    have hu := hr.un
    refine ws_cons (w1_for (iw_lst (ee_v 0))
      (fun i r S => (∃ a b d, r = [some (.dat (.lst (brkD l))), some (.dat (hallD ws calm)), some (.dat (stS z)), some (DI who), a, b, d]) ∧ S = [] ∧ ∀ j e, j < i → l[j]? = some e → decide (e.1 = z) = false) ⟨⟨_, _, _, rfl⟩, rfl, fun _ _ h _ => by omega⟩ (fun _ _ _ _ => trivial) ?_ ?_ hp rfl)
    · rintro i it r S hit ⟨⟨a, b, d0, rfl⟩, rfl, hno⟩
      obtain ⟨d, hd, rfl⟩ := dats_at hit
      obtain ⟨e, he, rfl⟩ := List.getElem?_map .. ▸ hd |> Option.map_eq_some_iff.mp
      have hwho := hw e (List.mem_of_getElem? he)
      refine gw_tupD (ds := [stS e.1, .int e.2.1, .tup (e.2.2.map .bl)]) rfl (gws_cons (gw_n 4 sc_law_due_loss.nd (gws_cons (gw_n 5 sc_law_due_loss.nd (gws_cons (gw_n 6 sc_law_due_loss.nd (gws_nil ?_))))))) rfl
      refine ws_cons (w1_if (p := decide (e.1 = z)) (et_is (et_cmp (ee_v 4) (ee_v 2) (cd_eqD (by omega) (.dat _) (.dat _) (plain_st _) (plain_st _))) (eqD_st _ _)) (fun h => ?_) fun h => ws_nil ?_)
      · refine ws_cons (w1_ret (ew_ee (x := .dat _) (ee_and (p := e.2.2[who]) (ee_ixT (ds := e.2.2.map .bl) (ee_v 6) (ee_v 3) (at_nat (by simp [hwho]))) fun _ => ee_and (ee_cmp (ee_ixT (ee_v 1) ee_int (d := calmD calm) rfl) ee_non cd_notN) fun _ => ee_one (ee_cmp (ee_ixT (ee_v 2) ee_int (d := .int z.2) rfl) ee_int cd_eqI)) ⟨_, ?_, rfl⟩))
        unfold dueLoss
        rw [find_take he h hno, calm_non]
        simp [hwho, mayLose]
      · refine ws_nil ⟨⟨_, _, _, rfl⟩, rfl, fun j e' hj hj' => ?_⟩
        by_cases hji : j = i
        · subst hji
          rw [he] at hj'; cases hj'; exact h
        · exact hno j e' (by omega) hj'
    · rintro r S ⟨⟨a, b, d0, rfl⟩, rfl, hno⟩
      have hnone : l.find? (fun e => decide (e.1 = z)) = none := find_none' fun j b hj hb => hno j b (by simpa [brkD] using hj) hb
      refine ws_cons (w1_ret (ew_ee (x := .dat _) ee_bl ⟨_, ?_, rfl⟩))
      unfold dueLoss
      rw [hnone]
def r_asked (C1 C2 : Addr) : Rel := fun ds res => ∃ (p : Pap) (ws : List Int) (calm : Option Int) (z : St) (who : Nat), (p.k.map (·.1)).Nodup ∧ (p.b.map (·.1)).Nodup ∧ (∀ e ∈ p.b, who < e.2.2.length) ∧ z.1 ≠ [] ∧
  ds = [.dat (.obj C1 (pcF p.k)), .dat (.obj C2 (prF p.b)), .dat (hallD ws calm), .dat (stS z), DI who, .dat (papD p)] ∧ res = .ok (.bl true)
theorem d_asked (T : Txt nm K mg) : Def P w K mg base "_law_asked" 3 [] (SpD P w K (r_asked (He.ga K "PaperCaller") (He.ga K "PaperRoad"))) :=
  T.def_ 7 rfl bn_law_asked fun f fd Fn => fnD Fn sc_law_asked (fun ds res ⟨_, _, _, _, _, _, _, _, _, h, _⟩ => by rw [h]; rfl) fun cdv A outer s H E c ds res hr tk hp hx h => by
    obtain ⟨p, ws, calm, z, who, hk, hb, hw, hne, rfl, rfl⟩ := h
    refine ws_cons (w1_set 6 (ew_ee (x := DI (dueCall p.k z)) (ee_methD (d_PaperCaller_call T) (T.cls "PaperCaller") tk (hr.mono (by decide)) (ee_v 0) (by rfl) (ea_cons (ee_v 2) (ea_cons (ee_v 3) ea_nil)) (.cons (.dat _) (.cons (.dat _) .nil)) ⟨callsOf p.k, _, z, rfl, hne, by rw [call_due z hk]⟩) ?_) sc_law_asked.nd)
    refine ws_cons (w1_if (p := (!true) || (false || !decide (dueCall p.k z = dueCall p.k z))) (et_w (etw_or (et_not (et_val (ee_isiT (T.free "isinstance") (ee_v 6) (.int _) (T.free "int") (kit_ty (a := "int") (b := "int") (by decide +kernel)))))
      fun _ => etw_or (et_val (ee_isiT (T.free "isinstance") (ee_v 6) (.int _) (T.free "bool") (kit_ty (a := "int") (b := "bool") (by decide +kernel))))
      fun _ => etw_or1 (et_cmp (ee_v 6) (ee_call (d_dueCall T) tk (hr.mono (by decide)) (ea_cons (ee_ixT (ee_v 5) ee_int (d := .lst (keptD p.k)) rfl) (ea_cons (ee_v 3) ea_nil)) (.cons (.dat _) (.cons (.dat _) .nil)) ⟨p.k, z, rfl, hne, rfl⟩) cd_neI))) (fun h => absurd h (by simp)) fun h => ws_nil ?_)
    refine ws_cons (w1_set 7 (ew_ee (ee_methD (d_PaperRoad_loses T) (T.cls "PaperRoad") tk (hr.mono (by decide)) (ee_v 1) (by rfl) (ea_cons (ee_v 2) (ea_cons (ee_v 3) (ea_cons (ee_v 4) ea_nil))) (.cons (.dat _) (.cons (.dat _) (.cons (.dat _) .nil))) ⟨p.b, ws, calm, z, who, hb, hw, rfl, rfl⟩) ?_) sc_law_asked.nd)
    refine ws_cons (w1_ret (ew_ee (x := .dat _) (ee_and (p := true) (ee_isiT (T.free "isinstance") (ee_v 7) (.bl _) (T.free "bool") (kit_ty (a := "bool") (b := "bool") (by decide +kernel))) fun _ => ee_one (ee_cmp (ee_v 7) (ee_call (d_dueLoss T) tk (hr.mono (by decide)) (ea_cons (ee_ixT (ee_v 5) ee_int (d := .lst (brkD p.b)) rfl) (ea_cons (ee_v 2) (ea_cons (ee_v 3) (ea_cons (ee_v 4) ea_nil)))) (.cons (.dat _) (.cons (.dat _) (.cons (.dat _) (.cons (.dat _) .nil)))) ⟨p.b, ws, calm, z, who, hw, rfl, rfl⟩) cd_eqB)) ⟨_, ?_, rfl⟩))
    simp
/-! the law -/
def many (ns : List Int) : Int := 1 + cell ns 0 % 8
theorem many_ge (ns : List Int) : 1 ≤ many ns := by
  have := Int.emod_nonneg (cell ns 0) (show (8 : Int) ≠ 0 by decide)
  unfold many; omega
theorem many_le (ns : List Int) : many ns ≤ 8 := by
  have := Int.emod_lt_of_pos (cell ns 0) (show (0 : Int) < 8 by decide)
  unfold many; omega
def mostOf (ns : List Int) : Int := if cell ns 1 % 2 = 0 then 4 else 40
theorem most_pos (ns : List Int) : 0 < mostOf ns := by unfold mostOf; split <;> decide
def waitAt (ns : List Int) (k : Int) : Int := 1 + (cell ns 1 / 2 + cell ns (4 + k.toNat) * (k + 1)) % mostOf ns
def waitsOf (ns : List Int) : List Int := (List.range (many ns).toNat).map fun (k : Nat) => waitAt ns (k : Int)
def calmOf (ns : List Int) : Option Int := if decide (0 < cell ns 2 % 4) then some (1 + cell ns 2 / 4 % 30) else none
theorem waits_len (ns : List Int) : ((waitsOf ns).length : Int) = many ns := by
  have m1 := many_ge ns
  unfold waitsOf; simp; omega
theorem hall_ok (ns : List Int) : HallOk (waitsOf ns) (calmOf ns) := by
  have m1 := many_ge ns
  have m8 := many_le ns
  refine ⟨fun z => ?_, ?_, fun x hx => ?_, fun x hx => ?_⟩
  · have : (waitsOf ns).length = 0 := by rw [z]; rfl
    unfold waitsOf at this
    simp at this; omega
  · unfold waitsOf; simp; omega
  · obtain ⟨k, _, rfl⟩ := List.mem_map.mp hx
    have := Int.emod_nonneg (cell ns 1 / 2 + cell ns (4 + (k : Int).toNat) * ((k : Int) + 1)) (Int.ne_of_gt (most_pos ns))
    unfold waitAt; omega
  · unfold calmOf at hx
    split at hx
    · cases hx
      have := Int.emod_nonneg (cell ns 2 / 4) (show (30 : Int) ≠ 0 by decide)
      omega
    · cases hx
def Pap.tail (p : Pap) : Pap := ⟨p.k.tail, p.b.tail⟩
theorem tail_nodup {α β : Type} {f : α → β} {l : List α} (h : (l.map f).Nodup) : (l.tail.map f).Nodup := by
  rw [List.map_tail]
  exact List.Nodup.sublist (List.tail_sublist _) h
theorem cut_1 {α : Type} (xs : List α) : cutD xs (some 1) none = xs.tail := by
  unfold cutD
  rw [show (some (1 : Int)) = some ((1 : Nat) : Int) from rfl, HT.sIx_nat, HT.sIx_none]
  cases xs with
  | nil => rfl
  | cons a l =>
    rw [show min 1 (a :: l).length = 1 by simp]
    simp
abbrev oN : Option Sl := none
theorem kept_tail (l : Kept) : (keptD l).tail = keptD l.tail := by unfold keptD; rw [List.map_tail]
theorem brk_tail (l : Brk) : (brkD l).tail = brkD l.tail := by unfold brkD; rw [List.map_tail]
theorem plain_kept (l : Kept) : Plain (.lst (keptD l)) := plain_of (k := 4) (by
  simp only [flatD]
  refine flatDs_of fun d hd => ?_
  obtain ⟨z, _, rfl⟩ := List.mem_map.mp hd
  simp only [stS, stD, flatD, flatDs, flatDs_int, Bool.and_self])
theorem plain_brk (l : Brk) : Plain (.lst (brkD l)) := plain_of (k := 4) (by
  simp only [flatD]
  refine flatDs_of fun d hd => ?_
  obtain ⟨z, _, rfl⟩ := List.mem_map.mp hd
  simp only [stS, stD, flatD, flatDs, flatDs_int, flatDs_bl, Bool.and_self])
theorem ok_law {f : Addr} {fd : FuncData} (T : Txt nm K mg) (Fn : Fun K "law" "law" s_law f fd) : FnOk P w K mg base (L2.CX P w) 5 f fd ["script"] (SpD P w K lawR) :=
  fnD Fn sc_law (fun ds res ⟨_, h, _⟩ => by rw [h]; rfl) fun cdv A outer s H E c ds res hr tk hp hx h => by
    obtain ⟨ns, rfl, hl63, hb, rfl⟩ := h
    have m1 := many_ge ns
    have m8 := many_le ns
    have hu := hr.un
    have hcut : ∀ a b : Nat, cutD (ns.map D.int) (some (a : Int)) (some (b : Int)) = ((ns.take b).drop a).map D.int := fun a b => by
      rw [cut_nat, List.map_drop, List.map_take]
    refine ws_cons (w1_set 1 (ew_ee (x := DI (many ns)) (ee_add ee_int (ee_mod (ee_cellAt T tk (hr.mono (by decide)) (ee_v 0) ee_int 0 rfl) ee_int)) ?_) sc_law.nd)
    refine ws_cons (w1_set 2 (ew_ee (x := DI (mostOf ns)) (ee_ixL (d := .int (mostOf ns)) (ee_lst (ds := [.int 4, .int 40]) (ea_cons ee_int (ea_cons ee_int ea_nil))) (ee_mod (ee_cellAt T tk (hr.mono (by decide)) (ee_v 0) ee_int 1 rfl) ee_int) ?_) ?_) sc_law.nd)
    · have h1 := Int.emod_nonneg (cell ns 1) (show (2 : Int) ≠ 0 by decide)
      have h2 := Int.emod_lt_of_pos (cell ns 1) (show (0 : Int) < 2 by decide)
      have h3 : cell ns 1 % 2 = 0 ∨ cell ns 1 % 2 = 1 := by omega
      unfold mostOf
      rcases h3 with h3 | h3 <;> rw [h3] <;> rfl
    refine ws_cons (w1_setLcD 3 (fun it => match it with | .one (.dat (.int k)) => .int (waitAt ns k) | _ => .non) (fun _ => true) 4 (iw_range (ee_v 1) (T.free "range") ⟨by omega, by omega⟩) sc_law.nd rfl (fun _ => trivial) (by simp; omega)
      (fun it hit => ?_) ?_ (blkOk_by (by rfl)) (fun _ _ _ _ _ => pg_name (i := 4) sc_law.nd rfl (Or.inl rfl)))
    · obtain ⟨k, hk, rfl⟩ := List.mem_map.mp hit
      have hk8 : k < 8 := by simp at hk; omega
      exact ⟨_, rfl, ⟨fun acc s0 H0 C cl fp => ets_nil, fun _ acc s0 H0 C cl fp => ee_add ee_int (ee_mod (ee_add (ee_fdiv (ee_cellAt (by exact T) (by exact takes_no) (by exact hr.mono (by decide)) (ee_v 0) ee_int 1 rfl) ee_int)
        (ee_mul (ee_cellAt (by exact T) (by exact takes_no) (by exact hr.mono (by decide)) (ee_v 0) (ee_add ee_int (ee_v 4)) (4 + (k : Int).toNat) (by omega)) (ee_add (ee_v 4) ee_int) (.inr ⟨by omega, by omega⟩))) (ee_v 2) (most_pos ns))⟩⟩
    rw [List.filter_eq_self.mpr (fun _ _ => rfl), List.map_map, show ((fun it => match it with | Item.one (.dat (.int k)) => D.int (waitAt ns k) | _ => .non) ∘ fun (i : Nat) => Item.one (DI (i : Int))) = D.int ∘ fun (k : Nat) => waitAt ns (k : Int) from rfl, ← List.map_map,
      show (List.range (many ns).toNat).map (fun (k : Nat) => waitAt ns (k : Int)) = waitsOf ns from rfl]
    have hok := hall_ok ns
    have hwm := waits_len ns
    generalize waitsOf ns = ws at hok hwm
    refine ws_cons (w1_set 5 (ew_ee ee_non ?_) sc_law.nd)
    refine ws_mid [some (.dat (intsD ns)), some (DI (many ns)), some (DI (mostOf ns)), some (.dat (intsD ws)), oN, some (.dat (calmD (calmOf ns))), oN, oN, oN, oN, oN, oN, oN, oN, oN, oN, oN, oN] [] (w1_if (et_cmp (ee_mod (ee_cellAt T tk (hr.mono (by decide)) (ee_v 0) ee_int 2 rfl) ee_int) ee_int cd_gt) (fun h => ?_) fun h => ?_) ?_
    · have e : calmOf ns = some (1 + cell ns 2 / 4 % 30) := if_pos h
      rw [e]
      exact ws_cons (w1_set 5 (ew_ee (ee_add ee_int (ee_mod (ee_fdiv (ee_cellAt T tk (hr.mono (by decide)) (ee_v 0) ee_int 2 rfl) ee_int) ee_int)) (ws_nil ⟨rfl, rfl⟩)) sc_law.nd)
    · have e : calmOf ns = none := if_neg (by rw [h]; decide)
      rw [e]
      exact ws_nil ⟨rfl, rfl⟩
    generalize calmOf ns = calm at hok
    obtain ⟨hne, hl8, hpos, hcp⟩ := id hok
    refine ws_cons (w1_set 6 (ew_ee (ee_tup (ds := [.tup (ws.map .int), calmD calm]) (ea_cons (ee_tupleOf (T.free "tuple") (ee_v 3) ls_d) (ea_cons (ee_v 5) ea_nil))) ?_) sc_law.nd)
    -- papers
    have pok := papOf_ok ws calm ((ns.take 34).drop 4)
    have hc34 : ((ns.take 34).drop 4).length ≤ 30 := by simp; omega
    generalize hp0 : papOf ws calm ((ns.take 34).drop 4) = p at pok
    refine ws_cons (w1_asg (ew_ee (ee_call (z := papD p) (d_pap T) tk (hr.mono (by decide)) (ea_cons (ee_v 6) (ea_cons (ee_is (ee_cutL (l := some 4) (h := some 34) (ee_v 0) ls_d ee_int ee_int) (by rw [show (some (4 : Int)) = some ((4 : Nat) : Int) from rfl, show (some (34 : Int)) = some ((34 : Nat) : Int) from rfl, hcut]; rfl)) ea_nil)) (.cons (.dat _) (.cons (.dat _) .nil)) ⟨ws, calm, (ns.take 34).drop 4, hok, by omega, rfl, by rw [hp0]⟩)
      (gw_tupD (ds := [.lst (keptD p.k), .lst (brkD p.b)]) rfl (gws_cons (gw_n 7 sc_law.nd (gws_cons (gw_n 8 sc_law.nd (gws_nil ?_))))) rfl)))
    have hkl : p.k.length ≤ 30 := by have := pok.kl; omega
    have hbl : p.b.length ≤ 30 := by have := pok.blen; omega
    refine ws_cons (w1_set 9 (ew_listOf (T.free "list") (ee_v 7) ss_d ?_) sc_law.nd)
    refine ws_cons (w1_set 10 (ew_listOf (T.free "list") (ee_v 8) ss_d ?_) sc_law.nd)
    show WS _ _ _ [some (.dat (intsD ns)), some (DI (many ns)), some (DI (mostOf ns)), some (.dat (intsD ws)), oN, some (.dat (calmD calm)), some (.dat (hallD ws calm)), some (.dat (.lst (keptD p.k))), some (.dat (.lst (brkD p.b))), some (.ptr 0), some (.ptr 1), oN, oN, oN, oN, oN, oN, oN] [.lst (dats (keptD p.k)), .lst (dats (brkD p.b))] _
    refine ws_cons (w1_set 11 (ew_ee (ee_lst (ds := [.obj (He.ga K "PaperCaller") (pcF p.k), .obj (He.ga K "PaperCaller") (pcF p.tail.k)])
      (ea_cons (ee_make (d_PaperCaller_init T) tk (hr.mono (by decide)) (ea_cons (ee_v 9) ea_nil) (.cons (.lst rfl) .nil) ⟨rfl, p.k, by omega, .inr rfl, rfl⟩)
      (ea_cons (ee_make (d_PaperCaller_init T) tk (hr.mono (by decide)) (ea_cons (ee_is (ee_cutL (l := some 1) (h := none) (ee_v 9) (ls_p rfl) ee_int trivial) (by rw [cut_1, kept_tail]; rfl)) ea_nil) (.cons (.dat _) .nil) ⟨rfl, p.tail.k, by simp [Pap.tail]; omega, .inl rfl, rfl⟩) ea_nil))) ?_) sc_law.nd)
    refine ws_cons (w1_set 12 (ew_ee (ee_lst (ds := [.obj (He.ga K "PaperRoad") (prF p.b), .obj (He.ga K "PaperRoad") (prF p.tail.b)])
      (ea_cons (ee_make (d_PaperRoad_init T) tk (hr.mono (by decide)) (ea_cons (ee_v 10) ea_nil) (.cons (.lst rfl) .nil) ⟨rfl, p.b, by omega, .inr rfl, rfl⟩)
      (ea_cons (ee_make (d_PaperRoad_init T) tk (hr.mono (by decide)) (ea_cons (ee_is (ee_cutL (l := some 1) (h := none) (ee_v 10) (ls_p rfl) ee_int trivial) (by rw [cut_1, brk_tail]; rfl)) ea_nil) (.cons (.dat _) .nil) ⟨rfl, p.tail.b, by simp [Pap.tail]; omega, .inl rfl, rfl⟩) ea_nil))) ?_) sc_law.nd)
    refine ws_cons (w1_if (et_w (etw_or (et_cmp (ee_v 9) (ee_v 7) (cd_neD (by omega) (.lst rfl seenL_dats) (.dat _) (plain_kept _) (plain_kept _))) fun _ => etw_or1 (et_cmp (ee_v 10) (ee_v 8) (cd_neD (by omega) (.lst rfl seenL_dats) (.dat _) (plain_brk _) (plain_brk _))))) (fun h => ?_) fun h => ws_nil ?_)
    · rw [eqD_refl (plain_kept _), eqD_refl (plain_brk _)] at h
      exact absurd h (by decide)
    refine ws_cons (w1_if (p := !true || !true) (et_w (etw_or (et_not (et_val (ee_isiC (T.free "isinstance") (ee_ixL (d := .obj (He.ga K "PaperCaller") (pcF p.k)) (ee_v 11) ee_int rfl) (.objD (T.io "PaperCaller")) (T.glo "Caller") (T.ki "PaperCaller" "Caller" (b := true)))))
      fun _ => etw_or1 (et_not (et_val (ee_isiC (T.free "isinstance") (ee_ixL (d := .obj (He.ga K "PaperRoad") (prF p.b)) (ee_v 12) ee_int rfl) (.objD (T.io "PaperRoad")) (T.glo "Road") (T.ki "PaperRoad" "Road" (b := true))))))) (fun h => absurd h (by decide)) fun h => ws_nil ?_)
    refine ws_cons (w1_expr (ew_clear (ee_v 9) rfl ?_))
    refine ws_cons (w1_expr (ew_append (ee_v 10) rfl (ew_ee (ee_tup (ds := [.tup [.tup (ws.map .int), .int 0], .int 1, .tup (List.replicate (many ns).toNat [D.bl true]).flatten]) (ea_cons (ee_tup (ds := [.tup (ws.map .int), .int 0]) (ea_cons (ee_tupleOf (T.free "tuple") (ee_v 3) ls_d) (ea_cons ee_int ea_nil)))
      (ea_cons ee_int (ea_cons (ee_tupleOf (T.free "tuple") (ee_rep (ds := [.bl true]) (ea_cons ee_bl ea_nil) (by decide) (ee_v 1) ⟨by omega, by omega⟩ (by simp; omega)) ls_d) ea_nil)))) ⟨_, rfl, by simp [brkD]; omega, ?_⟩)))
    refine ws_cons (w1_set 13 (ew_ee (ee_lst (ds := [papD p, papD p.tail]) (ea_cons (ee_tup (ds := [.lst (keptD p.k), .lst (brkD p.b)]) (ea_cons (ee_v 7) (ea_cons (ee_v 8) ea_nil))) (ea_cons (ee_tup (ds := [.lst (keptD p.tail.k), .lst (brkD p.tail.b)]) (ea_cons (ee_is (ee_cutL (l := some 1) (h := none) (ee_v 7) ls_d ee_int trivial) (by rw [cut_1, kept_tail]; rfl)) (ea_cons (ee_is (ee_cutL (l := some 1) (h := none) (ee_v 8) ls_d ee_int trivial) (by rw [cut_1, brk_tail]; rfl)) ea_nil))) ea_nil))) ?_) sc_law.nd)
    -- standings
    have hc63 : ((ns.take 63).drop 3).length ≤ 60 := by simp; omega
    refine ws_cons (w1_set 14 (ew_ee (x := .dat (.lst ((((ns.take 63).drop 3).map (standOf ws calm) ++ [(ws, 0)]).map stS))) (ee_is (ee_cat (es := [stS (ws, 0)]) (ee_is (ee_lc (fun it => match it with | .one (.dat (.int z)) => stS (standOf ws calm z) | _ => .non) (fun _ => true) 15 (iw_lst (ee_is (ee_cutL (l := some 3) (h := some 63) (ee_v 0) ls_d ee_int ee_int) (by rw [show (some (3 : Int)) = some ((3 : Nat) : Int) from rfl, show (some (63 : Int)) = some ((63 : Nat) : Int) from rfl, hcut])))
      sc_law.nd rfl (fun _ => trivial) (by simp; omega) (fun it hit => ?_) (blkOk_by (by rfl)) (fun _ _ _ _ _ => pg_name (i := 15) sc_law.nd rfl (Or.inl rfl))) (y := .dat (.lst (((ns.take 63).drop 3).map fun z => stS (standOf ws calm z)))) ?_) ls_d (ee_lst (ds := [stS (ws, 0)]) (ea_cons (ee_tup (ds := [.tup (ws.map .int), .int 0]) (ea_cons (ee_tupleOf (T.free "tuple") (ee_v 3) ls_d) (ea_cons ee_int ea_nil))) ea_nil)) ls_d (by simp; omega)) ?_) ?_) sc_law.nd)
    · obtain ⟨d, hd, rfl⟩ := List.mem_map.mp hit
      obtain ⟨z, _, rfl⟩ := List.mem_map.mp hd
      exact ⟨_, rfl, ⟨fun acc s0 H0 C cl fp => ets_nil, fun _ acc s0 H0 C cl fp => ee_call (by exact d_stand T) (by exact takes_no) (by exact hr.mono (by decide)) (ea_cons (ee_v 6) (ea_cons (ee_v 15) ea_nil)) (.cons (.dat _) (.cons (.dat _) .nil)) (by exact ⟨ws, calm, z, hok, rfl, rfl⟩)⟩⟩
    · rw [List.filter_eq_self.mpr (fun _ _ => rfl), List.map_map, List.map_map]
      rfl
    · rw [List.map_append, List.map_map]; rfl
    have hst : ∀ z ∈ ((ns.take 63).drop 3).map (standOf ws calm) ++ [(ws, 0)], z.1 ≠ [] := fun z hz => by
      rcases List.mem_append.mp hz with h | h
      · obtain ⟨y, _, rfl⟩ := List.mem_map.mp h
        exact stand_ne hok
      · have : z = (ws, 0) := by simpa using h
        rw [this]; exact hne
    have hsl : (((ns.take 63).drop 3).map (standOf ws calm) ++ [(ws, 0)]).length ≤ 61 := by simp; omega
    generalize ((ns.take 63).drop 3).map (standOf ws calm) ++ [(ws, 0)] = zs at hst hsl
    have hlen : (dats (zs.map stS)).length = zs.length := by simp
    have S3 := [Cell.lst ([] : List Sl)]
    refine ws_cons (w1_for (iw_range (ee_len (T.free "len") (ee_v 14) ss_d) (T.free "range") ⟨by rw [hlen]; omega, by rw [hlen]; omega⟩)
      (fun i r S => ∃ a b d l1 l2, r = [some (.dat (intsD ns)), some (DI (many ns)), some (DI (mostOf ns)), some (.dat (intsD ws)), a, some (.dat (calmD calm)), some (.dat (hallD ws calm)), some (.dat (.lst (keptD p.k))), some (.dat (.lst (brkD p.b))), some (.ptr 0), some (.ptr 1), some (.dat (.lst [.obj (He.ga K "PaperCaller") (pcF p.k), .obj (He.ga K "PaperCaller") (pcF p.tail.k)])), some (.dat (.lst [.obj (He.ga K "PaperRoad") (prF p.b), .obj (He.ga K "PaperRoad") (prF p.tail.b)])), some (.dat (.lst [papD p, papD p.tail])), some (.dat (.lst (zs.map stS))), oN, b, d] ∧ S = [.lst l1, .lst l2])
      ⟨_, _, _, _, _, rfl, rfl⟩ (fun _ _ _ _ => trivial) ?_ ?_ hp rfl)
    · rintro i it r S hit ⟨a, b, d, l1, l2, rfl, rfl⟩
      obtain ⟨hi, rfl⟩ := rng_at hit
      have hi : i < zs.length := by rw [hlen] at hi; omega
      have hz := hst _ (List.getElem_mem hi)
      have hat : atI (zs.map stS) (i : Int) = some (stS zs[i]) := at_nat (by simp [hi])
      generalize zs[i] = z at hz hat
      refine gw_n 4 sc_law.nd ?_
      have hw0 : 0 ≤ cell ns (i + 1) / 2 % many ns := Int.emod_nonneg _ (by omega)
      have hw1 : cell ns (i + 1) / 2 % many ns < many ns := Int.emod_lt_of_pos _ (by omega)
      obtain ⟨who, hwho⟩ : ∃ who : Nat, cell ns (i + 1) / 2 % many ns = (who : Int) := ⟨(cell ns (i + 1) / 2 % many ns).toNat, by omega⟩
      have hwl : who < ws.length := by omega
      have hbk : ∀ e ∈ p.b, who < e.2.2.length := fun e he => by rw [pok.bl e he]; exact hwl
      have hbt : ∀ e ∈ p.tail.b, who < e.2.2.length := fun e he => hbk e (List.mem_of_mem_tail he)
      refine ws_cons (w1_set 16 (ew_ee (x := DI (who : Nat)) (ee_is (ee_mod (ee_fdiv (ee_cellAt T tk (hr.mono (by decide)) (ee_v 0) (ee_add (ee_v 4) ee_int) (i + 1) (by omega)) ee_int) (ee_v 1) (by omega)) (by rw [hwho])) ?_) sc_law.nd)
      have ho : ((i : Int) + cell ns i) % 2 = 0 ∨ ((i : Int) + cell ns i) % 2 = 1 := by
        have h1 := Int.emod_nonneg ((i : Int) + cell ns i) (show (2 : Int) ≠ 0 by decide)
        have h2 := Int.emod_lt_of_pos ((i : Int) + cell ns i) (show (0 : Int) < 2 by decide)
        omega
      rcases ho with ho | ho
      · refine ws_cons (w1_set 17 (ew_ee (x := DI 0) (ee_is (ee_mod (ee_add (ee_v 4) (ee_cellAt T tk (hr.mono (by decide)) (ee_v 0) (ee_v 4) i rfl)) ee_int) (by rw [ho])) ?_) sc_law.nd)
        refine ws_cons (w1_if (p := !true) (et_not (et_val (ee_call (d_asked T) tk (hr.mono (by decide)) (ea_cons (ee_ixL (d := .obj (He.ga K "PaperCaller") (pcF p.k)) (ee_v 11) (ee_v 17) rfl) (ea_cons (ee_ixL (d := .obj (He.ga K "PaperRoad") (prF p.b)) (ee_v 12) (ee_v 17) rfl) (ea_cons (ee_v 6) (ea_cons (ee_ixL (ee_v 14) (ee_v 4) hat) (ea_cons (ee_v 16) (ea_cons (ee_ixL (d := papD p) (ee_v 13) (ee_v 17) rfl) ea_nil))))))
          (.cons (.dat _) (.cons (.dat _) (.cons (.dat _) (.cons (.dat _) (.cons (.dat _) (.cons (.dat _) .nil)))))) ⟨p, ws, calm, z, who, pok.kn, pok.bn, hbk, hz, rfl, rfl⟩))) (fun h => absurd h (by decide)) fun h => ws_nil ?_)
        refine ws_cons (w1_if (p := !true) (et_not (et_val (ee_call (d_asked T) tk (hr.mono (by decide)) (ea_cons (ee_ixL (d := .obj (He.ga K "PaperCaller") (pcF p.tail.k)) (ee_v 11) (ee_sub ee_int (ee_v 17)) rfl) (ea_cons (ee_ixL (d := .obj (He.ga K "PaperRoad") (prF p.tail.b)) (ee_v 12) (ee_sub ee_int (ee_v 17)) rfl) (ea_cons (ee_v 6) (ea_cons (ee_ixL (ee_v 14) (ee_v 4) hat) (ea_cons (ee_v 16) (ea_cons (ee_ixL (d := papD p.tail) (ee_v 13) (ee_sub ee_int (ee_v 17)) rfl) ea_nil))))))
          (.cons (.dat _) (.cons (.dat _) (.cons (.dat _) (.cons (.dat _) (.cons (.dat _) (.cons (.dat _) .nil)))))) ⟨p.tail, ws, calm, z, who, tail_nodup pok.kn, tail_nodup pok.bn, hbt, hz, rfl, rfl⟩))) (fun h => absurd h (by decide)) fun h => ws_nil ?_)
        exact ws_nil ⟨_, _, _, _, _, rfl, rfl⟩
      · refine ws_cons (w1_set 17 (ew_ee (x := DI 1) (ee_is (ee_mod (ee_add (ee_v 4) (ee_cellAt T tk (hr.mono (by decide)) (ee_v 0) (ee_v 4) i rfl)) ee_int) (by rw [ho])) ?_) sc_law.nd)
        refine ws_cons (w1_if (p := !true) (et_not (et_val (ee_call (d_asked T) tk (hr.mono (by decide)) (ea_cons (ee_ixL (d := .obj (He.ga K "PaperCaller") (pcF p.tail.k)) (ee_v 11) (ee_v 17) rfl) (ea_cons (ee_ixL (d := .obj (He.ga K "PaperRoad") (prF p.tail.b)) (ee_v 12) (ee_v 17) rfl) (ea_cons (ee_v 6) (ea_cons (ee_ixL (ee_v 14) (ee_v 4) hat) (ea_cons (ee_v 16) (ea_cons (ee_ixL (d := papD p.tail) (ee_v 13) (ee_v 17) rfl) ea_nil))))))
          (.cons (.dat _) (.cons (.dat _) (.cons (.dat _) (.cons (.dat _) (.cons (.dat _) (.cons (.dat _) .nil)))))) ⟨p.tail, ws, calm, z, who, tail_nodup pok.kn, tail_nodup pok.bn, hbt, hz, rfl, rfl⟩))) (fun h => absurd h (by decide)) fun h => ws_nil ?_)
        refine ws_cons (w1_if (p := !true) (et_not (et_val (ee_call (d_asked T) tk (hr.mono (by decide)) (ea_cons (ee_ixL (d := .obj (He.ga K "PaperCaller") (pcF p.k)) (ee_v 11) (ee_sub ee_int (ee_v 17)) rfl) (ea_cons (ee_ixL (d := .obj (He.ga K "PaperRoad") (prF p.b)) (ee_v 12) (ee_sub ee_int (ee_v 17)) rfl) (ea_cons (ee_v 6) (ea_cons (ee_ixL (ee_v 14) (ee_v 4) hat) (ea_cons (ee_v 16) (ea_cons (ee_ixL (d := papD p) (ee_v 13) (ee_sub ee_int (ee_v 17)) rfl) ea_nil))))))
          (.cons (.dat _) (.cons (.dat _) (.cons (.dat _) (.cons (.dat _) (.cons (.dat _) (.cons (.dat _) .nil)))))) ⟨p, ws, calm, z, who, pok.kn, pok.bn, hbk, hz, rfl, rfl⟩))) (fun h => absurd h (by decide)) fun h => ws_nil ?_)
        exact ws_nil ⟨_, _, _, _, _, rfl, rfl⟩
    · rintro r S ⟨a, b, d, l1, l2, rfl, rfl⟩
      exact ws_cons (w1_ret (ew_ee (x := .dat _) ee_bl ⟨_, rfl, rfl⟩))
end
set_option maxHeartbeats 0
abbrev R : PySem.W.OpenRow := PySem.W.OpenLaw.row PySem.Challenge.rw_roundcall_k73_players_by_papers
def loose : List Str := (["may_lose", "most_urgent", "Caller", "PaperCaller", "Road", "PaperRoad", "_law_cell_at", "_law_standing", "_law_papers", "_law_due_call", "_law_due_loss", "_law_asked"] : List Str)
abbrev hk : PySem.W.Hook := He.hookX 6 nm.fa nm.fn [] [] nm.more
def ob (s : PySem.W.SharedT) : He.AlX := He.obsX 6 nm.fa nm.fn [] [] nm.more (HandSHeadRun.getT s)
theorem ob_eq (s : PySem.W.SharedT) : ob s = hk.obs s.abs := He.obsX_eq (HandSHeadRun.getT_eq s)
theorem run (w : World) : HandSHeadRun.RunEq R (PySem.W.view R.prog [15]) hk ob 3000 loose w := by
  intro os
  kernel_rfl
end K73
set_option maxHeartbeats 0
open PySem PySem.W PySem.Calls PyProof.Rows L2 in
theorem PySem.Challenge.cw_roundcall_k73_players_by_papers_holds : PySem.Challenge.rw_roundcall_k73_players_by_papers.Holds := by
  w_on; o_law
  refine HandSHeadRun.head_any (r := OpenLaw.row PySem.Challenge.rw_roundcall_k73_players_by_papers) (q := view (OpenLaw.row PySem.Challenge.rw_roundcall_k73_players_by_papers).prog [15]) (H := K73.hk) (ob := K73.ob) (M := 3000) (loose := K73.loose) (d := HandSHeadRun.topDef (OpenLaw.row PySem.Challenge.rw_roundcall_k73_players_by_papers).prog 15) (kwd := []) K73.ob_eq
    (by kernel_rfl) (fun s => by kernel_rfl) K73.run (by kernel_rfl) (by kernel_rfl) (by kernel_rfl) (by rfl) (by first | assumption | decide +kernel) (by decide +kernel) ⟨rfl, rfl, rfl, rfl, rfl, by decide +kernel⟩ ?hw ?hc
  case hw => w_witness2
  case hc =>
    exact Dz.law_end (l := PySem.Challenge.rw_roundcall_k73_players_by_papers) 8 6 rfl (fun _ _ _ _ _ _ us hl => match us, hl with | [_], _ => rfl) (by kernel_rfl) rfl (by kernel_rfl) ⟨rfl, by decide, by decide⟩ (fun w K mg base f fd T F => K73.ok_law T F)
