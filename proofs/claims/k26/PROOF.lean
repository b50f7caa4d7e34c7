import PyProof.Rows.All
import Wide.All
import OpenK.AllK
import Wide.FinOn
import HandS.ForMost
import HandS.Walk
import HandS.Lambda
import HandS.TupAny
import HandS.Wide
import KE.SortKeyHeap
import KE.SortData
import PyProof.Rows.EqDataRows
import HandS.TupMul
import HandS.TupLe
import KE.GoesNew
import KE.GoesEnum
import KE.GoesZip
import KE.GoesMore
import HandS.Iter
import HandS.Zip
import HandS.Flt
import HandS.IsInst
import PyProof.WalksMore
import PyProof.SumWalkG
import HandS.Defaults
import HandS.EndTab
import HandS.RaiseMore
import PyProof.Rows.TupSub
import PyProof.Rows.SeqItemCall
import KE.KLam
import KE.KSortKey
import HandS.SortKw
import HandS.Star
import HandS.Conv
import KE.KNest
import HandS.Head0
import HandS.Head1
import HandS.Head2
import HandS.HeadEnd
import HandS.HeadHook1
import HandS.HeadHook2
import KE.KStateDown
import HandS.EndBits
import HandS.Style
import KE.DataMinMax
import PySem.Challenge.RW_justthosetrades_k26_whole_honest_calls
set_option Elab.async false
set_option linter.all false
section
set_option maxRecDepth 100000
set_option maxHeartbeats 4000000
namespace EV
open PySem PySem.Spec L2
open LamX (TabS Tabs ExtN)

/-! ### data, slots, the store -/
abbrev D := PyData
/-- what a slot holds, what an expression gives: data; a list of one's own (fresh); a list of one's own that is looked at; a list of the store; a list that never changes -/
inductive SV where
  | non | dat (d : PyData) | own (ds : List PyData) | pk (ds : List PyData) | ref (n : Nat) | fz (ds : List PyData)
abbrev Sto := List (List PyData)
abbrev Fr := List SV

def KT (K : PySem.W.Frag) (a : Addr) (xs : List V) : Prop :=
  ∃ (o : Obj) (its : Array Value) (n : Nat), K.lookup a = some o ∧ o.cls = .type "tuple" ∧ o.data = .seq its n ∧ its.size ≤ sizeLine ∧ Vals xs its.toList
def QL (H : Hp) (N : Addr → Prop) (a : Addr) (xs : List V) : Prop := H a = some (.lst xs) ∧ ¬ N a
def QT (K : PySem.W.Frag) (H : Hp) (N : Addr → Prop) (a : Addr) (xs : List V) : Prop := (Rd H a (.tup xs) ∧ ¬ N a) ∨ KT K a xs
def keyD : Key → PyData
  | .inl i => .int i
  | .inr x => .str x
mutual
/-- d stands at v, apart from N -/
def RD (K : PySem.W.Frag) (H : Hp) (N : Addr → Prop) : PyData → V → Prop
  | .none, v => v = .non
  | .bool b, v => v = .bl b
  | .int i, v => v = .int i
  | .str x, v => v = .str x
  | .list ds, v => ∃ a xs, v = .ref a ∧ QL H N a xs ∧ RDs K H N ds xs
  | .tuple ds, v => ∃ a xs, v = .ref a ∧ QT K H N a xs ∧ RDs K H N ds xs
  | .dict kvs, v => ∃ a es, v = .ref a ∧ (H a = some (.dK es) ∧ ¬ N a) ∧ RDk K H N kvs es
def RDs (K : PySem.W.Frag) (H : Hp) (N : Addr → Prop) : List PyData → List V → Prop
  | [], xs => xs = []
  | d :: ds, xs => ∃ x r, xs = x :: r ∧ RD K H N d x ∧ RDs K H N ds r
def RDk (K : PySem.W.Frag) (H : Hp) (N : Addr → Prop) : List (PyData × PyData) → List (Key × V) → Prop
  | [], es => es = []
  | (k, d) :: ds, es => ∃ q x r, es = (q, x) :: r ∧ keyD q = k ∧ RD K H N d x ∧ RDk K H N ds r
end
section
variable {K : PySem.W.Frag} {H H' : Hp} {N N' : Addr → Prop}
theorem Rd.mv {a : Addr} {u : HO} (h : Rd H a u) (n : ¬ N a) (k : ∀ a o, H a = some o → ¬ N a → H' a = some o) : Rd H' a u := by
  rcases h with h | ⟨o, h⟩
  · exact .inl (k _ _ h n)
  · exact .inr ⟨o, k _ _ h n⟩
theorem Rd.some {a : Addr} {u : HO} (h : Rd H a u) : ∃ o, H a = some o := by
  rcases h with h | ⟨o, h⟩ <;> exact ⟨_, h⟩
mutual
theorem RD.mv (k : ∀ a o, H a = some o → ¬ N a → H' a = some o) (n : ∀ a, N' a → N a ∨ H a = none) : ∀ (d : PyData) (v : V), RD K H N d v → RD K H' N' d v
  | .none, _, h => h
  | .bool _, _, h => h
  | .int _, _, h => h
  | .str _, _, h => h
  | .list ds, _, ⟨a, xs, e, ⟨q1, q2⟩, r⟩ => ⟨a, xs, e, ⟨k _ _ q1 q2, fun z => by
      rcases n a z with z | z
      · exact q2 z
      · rw [q1] at z; cases z⟩, RDs.mv k n ds xs r⟩
  | .tuple ds, _, ⟨a, xs, e, q, r⟩ => ⟨a, xs, e, q.imp_left fun ⟨q1, q2⟩ => ⟨Rd.mv q1 q2 k, fun z => by
      obtain ⟨o, e⟩ := Rd.some q1
      rcases n a z with z | z
      · exact q2 z
      · rw [e] at z; cases z⟩, RDs.mv k n ds xs r⟩
  | .dict kvs, _, ⟨a, es, e, ⟨q1, q2⟩, r⟩ => ⟨a, es, e, ⟨k _ _ q1 q2, fun z => by
      rcases n a z with z | z
      · exact q2 z
      · rw [q1] at z; cases z⟩, RDk.mv k n kvs es r⟩
theorem RDs.mv (k : ∀ a o, H a = some o → ¬ N a → H' a = some o) (n : ∀ a, N' a → N a ∨ H a = none) : ∀ (ds : List PyData) (xs : List V), RDs K H N ds xs → RDs K H' N' ds xs
  | [], _, h => h
  | d :: ds, _, ⟨x, r, e, h1, h2⟩ => ⟨x, r, e, RD.mv k n d x h1, RDs.mv k n ds r h2⟩
theorem RDk.mv (k : ∀ a o, H a = some o → ¬ N a → H' a = some o) (n : ∀ a, N' a → N a ∨ H a = none) : ∀ (ds : List (PyData × PyData)) (es : List (Key × V)), RDk K H N ds es → RDk K H' N' ds es
  | [], _, h => h
  | (_, d) :: ds, _, ⟨q, x, r, e, e2, h1, h2⟩ => ⟨q, x, r, e, e2, RD.mv k n d x h1, RDk.mv k n ds r h2⟩
end
theorem RDs.len : ∀ {ds : List PyData} {xs : List V}, RDs K H N ds xs → xs.length = ds.length
  | [], _, h => by cases h; rfl
  | d :: ds, _, ⟨x, r, e, _, h2⟩ => by subst e; simp [RDs.len h2]
theorem RDs.get : ∀ {ds : List PyData} {xs : List V} {i : Nat} {d : PyData}, RDs K H N ds xs → ds[i]? = some d → ∃ x, xs[i]? = some x ∧ RD K H N d x
  | d :: ds, _, 0, _, ⟨x, r, e, h1, h2⟩, g => by subst e; simp at g; subst g; exact ⟨x, rfl, h1⟩
  | d :: ds, _, i + 1, _, ⟨x, r, e, h1, h2⟩, g => by
    subst e
    obtain ⟨y, e1, e2⟩ := RDs.get (i := i) h2 (by simpa using g)
    exact ⟨y, by simpa using e1, e2⟩
theorem RDs.get' : ∀ {ds : List PyData} {xs : List V} {i : Nat} {x : V}, RDs K H N ds xs → xs[i]? = some x → ∃ d, ds[i]? = some d ∧ RD K H N d x := fun {ds xs i x} h g => by
  have hl := h.len
  have : i < ds.length := by rw [← hl]; exact (List.getElem?_eq_some_iff.mp g).1
  obtain ⟨y, e1, e2⟩ := h.get (List.getElem?_eq_getElem this)
  rw [g] at e1; cases e1
  exact ⟨_, List.getElem?_eq_getElem this, e2⟩
theorem RDs.set : ∀ {ds : List PyData} {xs : List V} {i : Nat} {d : PyData} {x : V}, RDs K H N ds xs → RD K H N d x → RDs K H N (ds.set i d) (xs.set i x)
  | [], _, i, d, x, h, _ => by cases h; exact rfl
  | d :: ds, _, 0, _, _, ⟨x, r, e, h1, h2⟩, g => by subst e; exact ⟨_, _, rfl, g, h2⟩
  | d :: ds, _, i + 1, _, _, ⟨x, r, e, h1, h2⟩, g => by subst e; exact ⟨_, _, rfl, h1, h2.set g⟩
theorem RDs.app : ∀ {ds es : List PyData} {xs ys : List V}, RDs K H N ds xs → RDs K H N es ys → RDs K H N (ds ++ es) (xs ++ ys)
  | [], _, _, _, h, g => by cases h; exact g
  | d :: ds, _, _, _, ⟨x, r, e, h1, h2⟩, g => by subst e; exact ⟨_, _, rfl, h1, h2.app g⟩
theorem RDs.drop : ∀ {ds : List PyData} {xs : List V} (n : Nat), RDs K H N ds xs → RDs K H N (ds.drop n) (xs.drop n)
  | _, _, 0, h => h
  | [], _, n + 1, h => by cases h; exact rfl
  | d :: ds, _, n + 1, ⟨x, r, e, h1, h2⟩ => by subst e; exact h2.drop n
theorem RDs.take : ∀ {ds : List PyData} {xs : List V} (n : Nat), RDs K H N ds xs → RDs K H N (ds.take n) (xs.take n)
  | _, _, 0, h => by simp [RDs]
  | [], _, n + 1, h => by cases h; exact rfl
  | d :: ds, _, n + 1, ⟨x, r, e, h1, h2⟩ => by subst e; exact ⟨_, _, rfl, h1, h2.take n⟩
theorem RDs.of_get : ∀ {ds : List PyData} {xs : List V}, xs.length = ds.length → (∀ (i : Nat) (d : PyData) (x : V), ds[i]? = some d → xs[i]? = some x → RD K H N d x) → RDs K H N ds xs
  | [], xs, hl, _ => List.length_eq_zero_iff.mp hl
  | d :: ds, [], hl, _ => by simp at hl
  | d :: ds, x :: xs, hl, h => ⟨x, xs, rfl, h 0 d x rfl rfl, RDs.of_get (by simpa using hl) fun i d x h1 h2 => h (i + 1) d x (by simpa using h1) (by simpa using h2)⟩
theorem RDs.mem {ds : List PyData} {xs : List V} {x : V} (h : RDs K H N ds xs) (m : x ∈ xs) : ∃ d ∈ ds, RD K H N d x := by
  obtain ⟨i, hi⟩ := List.mem_iff_getElem?.mp m
  obtain ⟨d, e, r⟩ := h.get' hi
  exact ⟨d, List.mem_of_getElem? e, r⟩
theorem QT.sq {a : Addr} {xs : List V} (h : QT K H N a xs) : SqT K H a xs := h.imp (·.1) id
end

/-! ### a frame -/
structure Cf where
  K : PySem.W.Frag
  A : Addr → Prop
  He : Hp
  ase : List Addr
  tb : List (Addr × Str)
def gt (σ : St) (i : Nat) : Option V := (σ[i]?).join
def gs (ρ : Fr) (i : Nat) : SV := (ρ[i]?).getD .non
abbrev Os := Nat → Option Addr
def Nn (A : Addr → Prop) (os : Os) (as : List Addr) : Addr → Prop := fun a => A a ∨ (∃ i, os i = some a) ∨ a ∈ as
def SlotR (K : PySem.W.Frag) (H : Hp) (N : Addr → Prop) (as : List Addr) (x : Option V) (o : Option Addr) : SV → Prop
  | .non => o = none
  | .dat d => o = none ∧ ∃ v, x = some v ∧ RD K H N d v
  | .own ds => ∃ a xs, o = some a ∧ x = some (.ref a) ∧ H a = some (.lst xs) ∧ RDs K H N ds xs
  | .pk _ => False
  | .ref n => o = none ∧ ∃ a, as[n]? = some a ∧ x = some (.ref a)
  | .fz ds => o = none ∧ ∃ a xs, x = some (.ref a) ∧ (Rd H a (.lst xs) ∧ ¬ N a) ∧ RDs K H N ds xs
def StoR (K : PySem.W.Frag) (H : Hp) (N : Addr → Prop) (as : List Addr) (st : Sto) : Prop :=
  st.length ≤ as.length ∧ ∀ (n : Nat) (ds : List PyData), st[n]? = some ds → ∃ a xs, as[n]? = some a ∧ H a = some (.lst xs) ∧ RDs K H N ds xs
structure StOk (c : Cf) (σ : St) (H : Hp) (ρ : Fr) (st : Sto) (os : Os) (as : List Addr) : Prop where
  lr : σ.length = ρ.length
  slot : ∀ i, SlotR c.K H (Nn c.A os as) as (gt σ i) (os i) (gs ρ i)
  sto : StoR c.K H (Nn c.A os as) as st
  pre : ∃ more, as = c.ase ++ (more ++ c.tb.map (·.1)) ∧ c.ase.length + more.length = st.length ∧ ∀ a ∈ more, c.He a = none
  tab : Tabs c.tb H
  osf : ∀ i a, os i = some a → c.He a = none ∧ a ∉ as
  odup : ∀ i j a, os i = some a → os j = some a → i = j
  adup : as.Nodup
  keep : ∀ a o, c.He a = some o → a ∉ c.ase → a ∉ c.tb.map (·.1) → H a = some o
  aal : ∀ a, c.A a → (∃ o, H a = some o) ∧ a ∉ as ∧ ∀ i, os i ≠ some a
def Kp (as : List Addr) (H H' : Hp) : Prop := ∀ a o, H a = some o → a ∉ as → H' a = some o
theorem Kp.refl {as : List Addr} {H : Hp} : Kp as H H := fun _ _ e _ => e
theorem Kp.trans {as : List Addr} {H H1 H2 : Hp} (a : Kp as H H1) (b : Kp as H1 H2) : Kp as H H2 := fun c o e n => b c o (a c o e n) n
theorem Kp.upd {as : List Addr} {H : Hp} {p : Addr} {o : HO} (n : H p = none) : Kp as H (upd H p o) := fun c u e _ => by rw [upd_ne (ne_of_none e n)]; exact e
theorem Kp.free {as : List Addr} {H H' : Hp} (k : Kp as H H') {p : Addr} (n : H' p = none) (h : p ∉ as) : H p = none := by
  cases e : H p with
  | none => rfl
  | some o => rw [k p o e h] at n; cases n
/-- what an expression gives -/
def RV (K : PySem.W.Frag) (H0 H : Hp) (N : Addr → Prop) (as : List Addr) (x : V) : SV → Prop
  | .non => False
  | .dat d => RD K H N d x
  | .own ds => ∃ a xs, x = .ref a ∧ H a = some (.lst xs) ∧ RDs K H N ds xs ∧ H0 a = none ∧ ¬ N a
  | .pk ds => ∃ a xs, x = .ref a ∧ H a = some (.lst xs) ∧ a ∉ as ∧ RDs K H N ds xs
  | .ref n => ∃ a, as[n]? = some a ∧ x = .ref a
  | .fz ds => ∃ a xs, x = .ref a ∧ (Rd H a (.lst xs) ∧ ¬ N a) ∧ RDs K H N ds xs
section
variable {c : Cf} {σ : St} {H H' : Hp} {ρ : Fr} {st : Sto} {os : Os} {as : List Addr}
theorem StOk.alive (ok : StOk c σ H ρ st os as) {a : Addr} (h : Nn c.A os as a) : ∃ o, H a = some o := by
  rcases h with h | ⟨i, h⟩ | h
  · exact (ok.aal a h).1
  · have s := ok.slot i
    rw [h] at s
    cases g : gs ρ i with
    | non => rw [g] at s; cases s
    | dat d => rw [g] at s; cases s.1
    | own ds => rw [g] at s; obtain ⟨b, xs, e, _, e2, _⟩ := s; cases e; exact ⟨_, e2⟩
    | pk ds => rw [g] at s; cases s
    | ref n => rw [g] at s; cases s.1
    | fz n => rw [g] at s; cases s.1
  · obtain ⟨more, e, el, _⟩ := ok.pre
    have hm : a ∈ c.ase ++ more ∨ a ∈ c.tb.map (·.1) := by rw [e] at h; simpa [or_assoc] using h
    rcases hm with h1 | h2
    · obtain ⟨i, hi⟩ := List.mem_iff_getElem?.mp h1
      have hl : i < st.length := by rw [← el]; simpa using (List.getElem?_eq_some_iff.mp hi).1
      obtain ⟨b, xs, e1, e2, _⟩ := ok.sto.2 i _ (List.getElem?_eq_getElem hl)
      have : as[i]? = (c.ase ++ more)[i]? := by
        rw [e, ← List.append_assoc]
        exact List.getElem?_append_left (by simpa using (List.getElem?_eq_some_iff.mp hi).1)
      rw [this, hi] at e1; cases e1
      exact ⟨_, e2⟩
    · obtain ⟨p, hp, rfl⟩ := List.mem_map.mp h2
      obtain ⟨ps, e1, _⟩ := ok.tab p hp
      exact ⟨_, e1⟩
theorem StOk.nn (ok : StOk c σ H ρ st os as) {p : Addr} (n : H p = none) : ¬ Nn c.A os as p := fun h => by
  obtain ⟨o, e⟩ := ok.alive h
  rw [n] at e; cases e
theorem StOk.nas (ok : StOk c σ H ρ st os as) {p : Addr} (n : H p = none) : p ∉ as := fun h => ok.nn n (.inr (.inr h))
theorem StOk.he (ok : StOk c σ H ρ st os as) {p : Addr} (n : H p = none) : c.He p = none := by
  cases e : c.He p with
  | none => rfl
  | some o =>
    obtain ⟨m, e2, _⟩ := ok.pre
    by_cases h : p ∈ c.ase
    · exact absurd (ok.nas n) (by rw [e2]; simp only [List.mem_append]; exact fun z => z (.inl h))
    · by_cases h2 : p ∈ c.tb.map (·.1)
      · exact absurd (ok.nas n) (by rw [e2]; simp only [List.mem_append]; exact fun z => z (.inr (.inr h2)))
      · rw [ok.keep p o e h h2] at n; cases n
/-- a new object -/
theorem StOk.upd (ok : StOk c σ H ρ st os as) {p : Addr} {o : HO} (n : H p = none) : StOk c σ (upd H p o) ρ st os as := by
  have k : ∀ a u, H a = some u → (L2.upd H p o) a = some u := fun a u e => by rw [upd_ne (ne_of_none e n)]; exact e
  refine ⟨ok.lr, fun i => ?_, ⟨ok.sto.1, fun m ds e => ?_⟩, ok.pre, ok.tab.ext k, ok.osf, ok.odup, ok.adup, fun a u e h h2 => k a u (ok.keep a u e h h2), fun a h => let ⟨⟨o, e⟩, r⟩ := ok.aal a h; ⟨⟨o, k a o e⟩, r⟩⟩
  · have s := ok.slot i
    cases g : gs ρ i with
    | non => rw [g] at s; exact s
    | dat d => rw [g] at s; obtain ⟨e, v, e2, r⟩ := s; exact ⟨e, v, e2, RD.mv (fun a o e _ => k a o e) (fun _ z => .inl z) _ _ r⟩
    | own ds => rw [g] at s; obtain ⟨b, xs, e, e2, e3, r⟩ := s; exact ⟨b, xs, e, e2, k _ _ e3, RDs.mv (fun a o e _ => k a o e) (fun _ z => .inl z) _ _ r⟩
    | pk ds => rw [g] at s; cases s
    | ref n => rw [g] at s; exact s
    | fz ds => rw [g] at s; obtain ⟨e, b, xs, e2, ⟨e3, e4⟩, r⟩ := s; exact ⟨e, b, xs, e2, ⟨Rd.mv e3 e4 fun a o e _ => k a o e, e4⟩, RDs.mv (fun a o e _ => k a o e) (fun _ z => .inl z) _ _ r⟩
  · obtain ⟨a, xs, e1, e2, r⟩ := ok.sto.2 m ds e
    exact ⟨a, xs, e1, k _ _ e2, RDs.mv (fun a o e _ => k a o e) (fun _ z => .inl z) _ _ r⟩
end
section
variable {K : PySem.W.Frag} {H0 H H' : Hp} {N : Addr → Prop} {as : List Addr} {x : V} {w : SV}
theorem RV.mv (h : RV K H0 H N as x w) (k : Kp as H H') (hs : ∀ a, a ∈ as → N a) : RV K H0 H' N as x w := by
  have k' : ∀ a o, H a = some o → ¬ N a → H' a = some o := fun a o e n => k a o e fun z => n (hs a z)
  cases w with
  | non => exact h
  | dat d => exact RD.mv k' (fun _ z => .inl z) _ _ h
  | own ds => obtain ⟨a, xs, e, e2, r, e3, e4⟩ := h; exact ⟨a, xs, e, k' _ _ e2 e4, RDs.mv k' (fun _ z => .inl z) _ _ r, e3, e4⟩
  | pk ds =>
    obtain ⟨a, xs, e, e2, n, r⟩ := h
    exact ⟨a, xs, e, k _ _ e2 n, n, RDs.mv k' (fun _ z => .inl z) _ _ r⟩
  | ref n => exact h
  | fz ds =>
    obtain ⟨a, xs, e, ⟨e2, n⟩, r⟩ := h
    exact ⟨a, xs, e, ⟨Rd.mv e2 n k', n⟩, RDs.mv k' (fun _ z => .inl z) _ _ r⟩
theorem RV.from {H1 : Hp} (h : RV K H1 H N as x w) (k : Kp as H0 H1) (hs : ∀ a, a ∈ as → N a) : RV K H0 H N as x w := by
  cases w with
  | own ds => obtain ⟨a, xs, e, e2, r, e3, e4⟩ := h; exact ⟨a, xs, e, e2, r, k.free e3 fun z => e4 (hs a z), e4⟩
  | _ => exact h
end
/-- what a frame may change -/
def Mm (os : Os) (as : List Addr) : Addr → Prop := fun a => (∃ i, os i = some a) ∨ a ∈ as
def Kn (M : Addr → Prop) (H H' : Hp) : Prop := ∀ b o, H b = some o → ¬ M b → H' b = some o
structure Stp (H : Hp) (M : Addr → Prop) (H' : Hp) (M' : Addr → Prop) : Prop where
  kn : Kn M H H'
  mm : ∀ b, M' b → M b ∨ H b = none
theorem Stp.refl {H : Hp} {M : Addr → Prop} : Stp H M H M := ⟨fun _ _ e _ => e, fun _ z => .inl z⟩
theorem Stp.trans {H H1 H2 : Hp} {M M1 M2 : Addr → Prop} (a : Stp H M H1 M1) (b : Stp H1 M1 H2 M2) : Stp H M H2 M2 :=
  ⟨fun c o e n => b.kn c o (a.kn c o e n) (fun z => (a.mm c z).elim n (fun q => by rw [e] at q; cases q)), by
    intro c z
    rcases b.mm c z with q | q
    · exact a.mm c q
    · by_cases h : M c
      · exact .inl h
      · cases e : H c with
        | none => exact .inr rfl
        | some o => rw [a.kn c o e h] at q; cases q⟩
theorem Stp.of {H H' : Hp} {os : Os} {as : List Addr} (k : Kp as H H') : Stp H (Mm os as) H' (Mm os as) := ⟨fun b o e n => k b o e fun z => n (.inr z), fun _ z => .inl z⟩
theorem nn_as {A : Addr → Prop} {os : Os} {as : List Addr} : ∀ a, a ∈ as → Nn A os as a := fun _ h => .inr (.inr h)
end EV
end

section
set_option maxRecDepth 100000
set_option maxHeartbeats 4000000
namespace EV
open PySem PySem.Spec L2

/-! ### bounds that a kernel leaves alone -/
def okI : Int → Bool
  | .ofNat n => Nat.ble n 4611686018427387903
  | .negSucc n => Nat.ble n 4611686018427387902
theorem okI_to {i : Int} (h : okI i = true) : -(2 ^ 62) ≤ i ∧ i < 2 ^ 62 := by
  cases i with
  | ofNat n =>
    have h1 := Nat.le_of_ble_eq_true h
    have e : Int.ofNat n = (n : Int) := rfl
    rw [e]; constructor <;> omega
  | negSucc n =>
    have h1 := Nat.le_of_ble_eq_true h
    have e : Int.negSucc n = -((n : Int) + 1) := Int.negSucc_eq n
    rw [e]; constructor <;> omega
theorem okI_of {i : Int} (h1 : -(2 ^ 61) ≤ i) (h2 : i < 2 ^ 61) : okI i = true := by
  cases i with
  | ofNat n =>
    have e : Int.ofNat n = (n : Int) := rfl
    rw [e] at h2
    exact Nat.ble_eq_true_of_le (by omega)
  | negSucc n =>
    have e : Int.negSucc n = -((n : Int) + 1) := Int.negSucc_eq n
    rw [e] at h1
    exact Nat.ble_eq_true_of_le (by omega)
/-! ### evaluators -/
abbrev FE := Fr → Sto → Option (SV × Sto)
abbrev FT := Fr → Sto → Option (Bool × Sto)
abbrev FA := Fr → Sto → Option (List SV × Sto)
def asD (st : Sto) : SV → Option PyData
  | .non => none
  | .dat d => some d
  | .own ds => some (.list ds)
  | .pk ds => some (.list ds)
  | .ref n => (st[n]?).map .list
  | .fz _ => none
def escD : SV → Option PyData
  | .dat d => some d
  | .own ds => some (.list ds)
  | _ => none
def asB : SV → Option Bool
  | .dat (.bool b) => some b
  | _ => none

/-- d stands at v, the top list anywhere -/
def RT (K : PySem.W.Frag) (H : Hp) (N : Addr → Prop) : PyData → V → Prop
  | .list ds, v => ∃ a xs, v = .ref a ∧ H a = some (.lst xs) ∧ RDs K H N ds xs
  | d, v => RD K H N d v
/-- what an operation gives: data, a fresh list -/
def RG (K : PySem.W.Frag) (H0 H : Hp) (N : Addr → Prop) (x : V) : SV → Prop
  | .dat d => RD K H N d x
  | .own ds => ∃ a xs, x = .ref a ∧ H a = some (.lst xs) ∧ RDs K H N ds xs ∧ H0 a = none ∧ ¬ N a
  | _ => False
inductive Ext (H : Hp) : Hp → Prop where
  | refl : Ext H H
  | step {H' : Hp} {p : Addr} {o : HO} : Ext H H' → H' p = none → Ext H (upd H' p o)
section
variable {K : PySem.W.Frag} {H0 H H' : Hp} {N : Addr → Prop} {as : List Addr} {x : V} {w : SV}
theorem RD.top {d : PyData} {v : V} (h : RD K H N d v) : RT K H N d v := by
  cases d with
  | list ds => obtain ⟨a, xs, e, q, r⟩ := h; exact ⟨a, xs, e, q.1, r⟩
  | _ => exact h
theorem RG.rv (h : RG K H0 H N x w) : RV K H0 H N as x w := by
  cases w with
  | dat d => exact h
  | own ds => exact h
  | _ => exact h.elim
theorem Ext.kp (e : Ext H H') : Kp as H H' := by
  induction e with
  | refl => exact .refl
  | step e n ih => exact ih.trans (.upd n)
theorem Ext.one {p : Addr} {o : HO} (n : H p = none) : Ext H (upd H p o) := .step .refl n
theorem Ext.trans {H1 H2 : Hp} (e : Ext H H1) (f : Ext H1 H2) : Ext H H2 := by
  induction f with
  | refl => exact e
  | step f n ih => exact .step ih n
theorem Ext.same (e : Ext H H') : Same H H' := fun a o h => e.kp (as := []) a o h (by simp)
end
section
variable {c : Cf} {σ : L2.St} {H H' : Hp} {ρ : Fr} {st : Sto} {os : Os} {as : List Addr}
theorem StOk.ext (ok : StOk c σ H ρ st os as) (e : Ext H H') : StOk c σ H' ρ st os as := by
  induction e with
  | refl => exact ok
  | step e n ih => exact ih.upd n
theorem RV.asD {H0 : Hp} {x : V} {w : SV} {d : PyData} (ok : StOk c σ H ρ st os as) (h : RV c.K H0 H (Nn c.A os as) as x w) (e : asD st w = some d) : RT c.K H (Nn c.A os as) d x := by
  cases w with
  | non => cases e
  | dat d' => cases e; exact RD.top h
  | own ds => cases e; obtain ⟨a, xs, e, e2, r, _⟩ := h; exact ⟨a, xs, e, e2, r⟩
  | pk ds => cases e; obtain ⟨a, xs, e, e2, _, r⟩ := h; exact ⟨a, xs, e, e2, r⟩
  | fz ds => cases e
  | ref n =>
    obtain ⟨a, e1, e2⟩ := h
    cases g : st[n]? with
    | none => simp [EV.asD, g] at e
    | some ds =>
      have e' : d = .list ds := by simpa [EV.asD, g] using e.symm
      subst e'
      obtain ⟨b, xs, f1, f2, f3⟩ := ok.sto.2 n ds g
      rw [e1] at f1; cases f1
      exact ⟨_, xs, e2, f2, f3⟩
theorem RV.esc {H0 : Hp} {x : V} {w : SV} {d : PyData} {N : Addr → Prop} {K : PySem.W.Frag} (h : RV K H0 H N as x w) (e : escD w = some d) : RD K H N d x := by
  cases w with
  | dat d' => cases e; exact h
  | own ds => cases e; obtain ⟨a, xs, e, e2, r, _, n⟩ := h; exact ⟨a, xs, e, ⟨e2, n⟩, r⟩
  | _ => cases e
theorem RV.asB {H0 : Hp} {x : V} {w : SV} {b : Bool} {N : Addr → Prop} {K : PySem.W.Frag} (h : RV K H0 H N as x w) (e : EV.asB w = some b) : x = .bl b := by
  cases w with
  | dat d => cases d with
    | bool k => cases e; exact h
    | _ => cases e
  | _ => cases e
end

/-! ### readings -/
def simE (K : PySem.W.Frag) (T : List (Addr × Str)) (f : FE) : TE := fun σ H Q => ∃ A He ase ρ st os as w st', StOk ⟨K, A, He, ase, T⟩ σ H ρ st os as ∧ f ρ st = some (w, st') ∧
  ∀ x H', Kp as H H' → StOk ⟨K, A, He, ase, T⟩ σ H' ρ st' os as → RV K H H' (Nn A os as) as x w → Q x H'
def simT (K : PySem.W.Frag) (T : List (Addr × Str)) (f : FT) : TT := fun σ H Q => ∃ A He ase ρ st os as b st', StOk ⟨K, A, He, ase, T⟩ σ H ρ st os as ∧ f ρ st = some (b, st') ∧
  ∀ H', Kp as H H' → StOk ⟨K, A, He, ase, T⟩ σ H' ρ st' os as → Q b H'
inductive RVs (K : PySem.W.Frag) (H0 H : Hp) (N : Addr → Prop) (as : List Addr) : List V → List SV → Prop where
  | nil : RVs K H0 H N as [] []
  | cons {x w xs ws} : RV K H0 H N as x w → RVs K H0 H N as xs ws → RVs K H0 H N as (x :: xs) (w :: ws)
theorem RVs.len {K : PySem.W.Frag} {H0 H : Hp} {N : Addr → Prop} {as : List Addr} {xs : List V} {ws : List SV} (h : RVs K H0 H N as xs ws) : xs.length = ws.length := by
  induction h with
  | nil => rfl
  | cons _ _ ih => simp [ih]
def simA (K : PySem.W.Frag) (T : List (Addr × Str)) (f : FA) : TA := fun σ H Q => ∃ A He ase ρ st os as ws st', StOk ⟨K, A, He, ase, T⟩ σ H ρ st os as ∧ f ρ st = some (ws, st') ∧
  ∀ xs H', Kp as H H' → StOk ⟨K, A, He, ase, T⟩ σ H' ρ st' os as → RVs K H H' (Nn A os as) as xs ws → Q xs H'
def DE (T : List (Addr × Str)) (X : Cx) (e : Expr) (f : FE) : Prop := PE X e (simE X.K T f)
def DT (T : List (Addr × Str)) (X : Cx) (e : Expr) (f : FT) : Prop := PT X e (simT X.K T f)
def DW (T : List (Addr × Str)) (X : Cx) (e : Expr) (f : FT) : Prop := PW X e (simT X.K T f)
def DA (T : List (Addr × Str)) (X : Cx) (es : List Expr) (f : FA) : Prop := PA X es (simA X.K T f)
theorem PE.weak {X : Cx} {e : Expr} {t t' : TE} (h : PE X e t) (k : ∀ σ H Q, t' σ H Q → t σ H Q) : PE X e t' := ⟨fun pins s σ H Q I q => h.run pins s σ H Q I (k σ H Q q)⟩
theorem PT.weak {X : Cx} {e : Expr} {t t' : TT} (h : PT X e t) (k : ∀ σ H Q, t' σ H Q → t σ H Q) : PT X e t' := ⟨fun pins s σ H Q I q => h.run pins s σ H Q I (k σ H Q q)⟩
theorem PW.weak {X : Cx} {e : Expr} {t t' : TT} (h : PW X e t) (k : ∀ σ H Q, t' σ H Q → t σ H Q) : PW X e t' := ⟨fun wh pins s σ H Q I q => h.run wh pins s σ H Q I (k σ H Q q)⟩
theorem PA.weak {X : Cx} {e : List Expr} {t t' : TA} (h : PA X e t) (k : ∀ σ H Q, t' σ H Q → t σ H Q) : PA X e t' := ⟨fun pos pins s σ H Q I q => h.run pos pins s σ H Q I (k σ H Q q)⟩

/-! ### names, constants -/
section
variable {X : Cx} {pos p : Pos}
def fVar (i : Nat) : FE := fun ρ st => match gs ρ i with
  | .dat d => some (.dat d, st)
  | .own ds => some (.pk ds, st)
  | .ref n => some (.ref n, st)
  | .fz ds => some (.fz ds, st)
  | _ => none
def fCon (d : PyData) : FE := fun _ st => some (.dat d, st)
theorem gt_some {σ : L2.St} {i : Nat} {v : V} (h : gt σ i = some v) : σ[i]? = some (some v) := by
  unfold gt at h
  cases e : σ[i]? with
  | none => rw [e] at h; cases h
  | some o => rw [e] at h; cases o with
    | none => cases h
    | some u => cases h; rfl
theorem var_weak {K : PySem.W.Frag} {i : Nat} {σ : L2.St} {H : Hp} {Q : VK} (h : simE K T (fVar i) σ H Q) : tVar i σ H Q := by
  obtain ⟨A, He, ase, ρ, st, os, as, w, st', ok, e, q⟩ := h
  have s := ok.slot i
  unfold fVar at e
  cases g : gs ρ i with
  | non => rw [g] at e; cases e
  | pk ds => rw [g] at e; cases e
  | dat d =>
    rw [g] at e s; cases e
    obtain ⟨_, v, e2, r⟩ := s
    exact ⟨v, gt_some e2, q v H .refl ok r⟩
  | own ds =>
    rw [g] at e s; cases e
    obtain ⟨a, xs, e1, e2, e3, r⟩ := s
    exact ⟨.ref a, gt_some e2, q _ H .refl ok ⟨a, xs, rfl, e3, (ok.osf i a e1).2, r⟩⟩
  | ref n =>
    rw [g] at e s; cases e
    obtain ⟨_, a, e2, e3⟩ := s
    exact ⟨.ref a, gt_some e3, q _ H .refl ok ⟨a, e2, rfl⟩⟩
  | fz ds =>
    rw [g] at e s; cases e
    obtain ⟨_, a, xs, e2, e3, r⟩ := s
    exact ⟨.ref a, gt_some e2, q _ H .refl ok ⟨a, xs, rfl, e3, r⟩⟩
theorem de_var {i : Nat} {x : Str} (hN : X.N[i]? = some x := by rfl) (hv : Vis X.env.scope x := by first | exact .inl rfl | exact .inr (.inl rfl) | exact .inr (.inr rfl)) (hd : (x == ("__debug__" : Str)) = false := by decide) (hcd : (x == ("__classdict__" : Str)) = false := by decide) :
    DE T X (.Name x pos) (fVar i) := PE.weak (pe_var hN hv hd hcd) fun _ _ _ => var_weak
theorem con_weak {K : PySem.W.Frag} {d : PyData} {v : V} (r : ∀ (H : Hp) (N : Addr → Prop), RD K H N d v) {σ : L2.St} {H : Hp} {Q : VK} (h : simE K T (fCon d) σ H Q) : tC v σ H Q := by
  obtain ⟨A, He, ase, ρ, st, os, as, w, st', ok, e, q⟩ := h
  cases e
  exact q v H .refl ok (r _ _)
theorem de_int {i : Int} {j} : DE T X (.Constant (.int i) j pos) (fCon (.int i)) := PE.weak pe_int fun _ _ _ => con_weak (K := X.K) fun _ _ => by unfold RD; rfl
theorem de_bl {b : Bool} {j} : DE T X (.Constant (.bool b) j pos) (fCon (.bool b)) := PE.weak pe_bl fun _ _ _ => con_weak (K := X.K) fun _ _ => by unfold RD; rfl
theorem de_non {j} : DE T X (.Constant .none j pos) (fCon .none) := PE.weak pe_non fun _ _ _ => con_weak (K := X.K) fun _ _ => by unfold RD; rfl
theorem de_str {x : Str} {j} : DE T X (.Constant (.str x) j pos) (fCon (.str x)) := PE.weak pe_str fun _ _ _ => con_weak (K := X.K) fun _ _ => by unfold RD; rfl
/-- a module's constant: d stands at u wherever -/
def ConV (K : PySem.W.Frag) (mg : Str → Option Value) (x : Str) (d : PyData) : Prop := ∃ u v, mg x = some u ∧ RelV v u ∧ ∀ (H : Hp) (N : Addr → Prop), RD K H N d v
theorem de_glob {x : Str} {d : PyData} (hm : ConV X.K X.mg x d) (hg : Gl X x := by rfl) (hd : (x == ("__debug__" : Str)) = false := by decide) : DE T X (.Name x pos) (fCon d) := by
  obtain ⟨u, v, e, r, k⟩ := hm
  exact PE.weak (pe_glob hg e r hd) fun _ _ _ => con_weak k

/-! ### one, two places -/
def fOp1 (g : PyData → Option SV) (a : FE) : FE := fun ρ st => match a ρ st with
  | some (v, st1) => match asD st1 v with
    | some d => (g d).map fun w => (w, st1)
    | none => none
  | none => none
def fOp2 (g : PyData → PyData → Option SV) (a b : FE) : FE := fun ρ st => match a ρ st with
  | some (v, st1) => match b ρ st1 with
    | some (u, st2) => match asD st2 v, asD st2 u with
      | some d, some e => (g d e).map fun w => (w, st2)
      | _, _ => none
    | none => none
  | none => none
/-- an operation's reading over data -/
def RO1 (K : PySem.W.Frag) (g : PyData → Option SV) : V → Hp → VK → Prop := fun x H Q => ∃ N d w, (∀ p, H p = none → ¬ N p) ∧ RT K H N d x ∧ g d = some w ∧ ∀ x' H', Ext H H' → RG K H H' N x' w → Q x' H'
def RO2 (K : PySem.W.Frag) (g : PyData → PyData → Option SV) : R2 := fun x y H Q => ∃ N d e w, (∀ p, H p = none → ¬ N p) ∧ RT K H N d x ∧ RT K H N e y ∧ g d e = some w ∧ ∀ x' H', Ext H H' → RG K H H' N x' w → Q x' H'
theorem op1_weak {K : PySem.W.Frag} {g : PyData → Option SV} {a : FE} {σ : L2.St} {H : Hp} {Q : VK} (h : simE K T (fOp1 g a) σ H Q) : simE K T a σ H fun x H1 => RO1 K g x H1 Q := by
  obtain ⟨A, He, ase, ρ, st, os, as, w, st', ok, e, q⟩ := h
  unfold fOp1 at e
  cases ea : a ρ st with
  | none => rw [ea] at e; cases e
  | some p =>
    obtain ⟨v, st1⟩ := p
    rw [ea] at e
    dsimp only at e
    cases ed : asD st1 v with
    | none => rw [ed] at e; cases e
    | some d =>
      rw [ed] at e
      dsimp only at e
      cases eg : g d with
      | none => rw [eg] at e; cases e
      | some w' =>
        rw [eg] at e; cases e
        refine ⟨A, He, ase, ρ, st, os, as, v, _, ok, ea, fun x H1 k1 ok1 r1 => ⟨_, d, w, fun p n => ok1.nn n, RV.asD ok1 r1 ed, eg, fun x' H' e' r' => ?_⟩⟩
        exact q x' H' (k1.trans e'.kp) (ok1.ext e') (r'.rv.from k1 nn_as)
theorem op2_weak {K : PySem.W.Frag} {g : PyData → PyData → Option SV} {a b : FE} {σ : L2.St} {H : Hp} {Q : VK} (h : simE K T (fOp2 g a b) σ H Q) : tOp (RO2 K g) (simE K T a) (simE K T b) σ H Q := by
  obtain ⟨A, He, ase, ρ, st, os, as, w, st', ok, e, q⟩ := h
  unfold fOp2 at e
  cases ea : a ρ st with
  | none => rw [ea] at e; cases e
  | some p =>
    obtain ⟨v, st1⟩ := p
    rw [ea] at e
    dsimp only at e
    cases eb : b ρ st1 with
    | none => rw [eb] at e; cases e
    | some p =>
      obtain ⟨u, st2⟩ := p
      rw [eb] at e
      dsimp only at e
      cases ed : asD st2 v with
      | none => rw [ed] at e; cases e
      | some d => cases ee : asD st2 u with
        | none => rw [ed, ee] at e; cases e
        | some d2 =>
          rw [ed, ee] at e
          dsimp only at e
          cases eg : g d d2 with
          | none => rw [eg] at e; cases e
          | some w' =>
            rw [eg] at e; cases e
            refine ⟨A, He, ase, ρ, st, os, as, v, _, ok, ea, fun x H1 k1 ok1 r1 => ⟨A, He, ase, ρ, st1, os, as, u, _, ok1, eb, fun y H2 k2 ok2 r2 => ?_⟩⟩
            refine ⟨_, d, d2, w, fun p n => ok2.nn n, RV.asD ok2 (r1.mv k2 nn_as) ed, RV.asD ok2 r2 ee, eg, fun x' H' e' r' => ?_⟩
            exact q x' H' (k1.trans (k2.trans e'.kp)) (ok2.ext e') (r'.rv.from (k1.trans k2) nn_as)
theorem de_op {op : Operator} {g : PyData → PyData → Option SV} {a b : Expr} {fa fb : FE} (ho : OpR X (binaryOp op) (RO2 X.K g)) (ha : DE T X a fa) (hb : DE T X b fb) : DE T X (.BinOp a op b pos) (fOp2 g fa fb) :=
  PE.weak (pe_op ho ha hb) fun _ _ _ => op2_weak
theorem de_un {op : UnaryOp} {g : PyData → Option SV} {a : Expr} {fa : FE} (ho : UnR X (unaryOp op) (RO1 X.K g)) (ha : DE T X a fa) : DE T X (.UnaryOp op a pos) (fOp1 g fa) :=
  PE.weak (pe_un ho ha) fun _ _ _ => op1_weak
theorem de_cmp {op : CmpOp} {g : PyData → PyData → Option SV} {a b : Expr} {fa fb : FE} (ho : OpR X (compareOp op) (RO2 X.K g)) (ha : DE T X a fa) (hb : DE T X b fb) (hm : behindInMarks op b = false := by with_unfolding_all rfl) : DE T X (.Compare a [op] [b] pos) (fOp2 g fa fb) :=
  PE.weak (pe_cmpR ho ha hb hm) fun _ _ _ => op2_weak
/-- a value as a test -/
def fTst (a : FE) : FT := fun ρ st => match a ρ st with
  | some (v, st1) => (asB v).map fun b => (b, st1)
  | none => none
theorem tst_weak {K : PySem.W.Frag} {a : FE} {σ : L2.St} {H : Hp} {Q : Bool → Hp → Prop} (h : simT K T (fTst a) σ H Q) : simE K T a σ H fun x H1 => ∃ k, x = .bl k ∧ Q k H1 := by
  obtain ⟨A, He, ase, ρ, st, os, as, b, st', ok, e, q⟩ := h
  unfold fTst at e
  cases ea : a ρ st with
  | none => rw [ea] at e; cases e
  | some p =>
    obtain ⟨v, st1⟩ := p
    rw [ea] at e
    dsimp only at e
    cases ed : asB v with
    | none => rw [ed] at e; cases e
    | some k =>
      rw [ed] at e; cases e
      exact ⟨A, He, ase, ρ, st, os, as, v, _, ok, ea, fun x H1 k1 ok1 r1 => ⟨b, r1.asB ed, q H1 k1 ok1⟩⟩
theorem dt_cmp {op : CmpOp} {g : PyData → PyData → Option SV} {a b : Expr} {fa fb : FE} (ho : OpR X (compareOp op) (RO2 X.K g)) (ha : DE T X a fa) (hb : DE T X b fb) (hm : behindInMarks op b = false := by with_unfolding_all rfl) : DT T X (.Compare a [op] [b] pos) (fTst (fOp2 g fa fb)) :=
  PT.weak (pt_cmpR ho ha hb hm) fun σ H Q h => op2_weak (K := X.K) (tst_weak h)
theorem dt_val {a : Expr} {fa : FE} (ha : DE T X a fa) (he : ∀ whole, isTrue a X.env whole = (do let v ← whole; standAt a.pos; holding [v] (truthy v)) := by intro _; rfl) : DT T X a (fTst fa) :=
  PT.weak (pt_val ha he) fun _ _ _ h => tst_weak h
end
end EV
end

section
set_option maxRecDepth 100000
set_option maxHeartbeats 4000000
namespace EV
open PySem PySem.Spec L2

/-! ### operators over data -/
def gAdd : PyData → PyData → Option SV
  | .int i, .int j => some (.dat (.int (i + j)))
  | .str x, .str y => if x.length + y.length ≤ sizeLine then some (.dat (.str (x ++ y))) else none
  | .list a, .list b => if a.length + b.length ≤ sizeLine then some (.own (a ++ b)) else none
  | .tuple a, .tuple b => if a.length + b.length ≤ sizeLine then some (.dat (.tuple (a ++ b))) else none
  | _, _ => none
def gSub : PyData → PyData → Option SV
  | .int i, .int j => some (.dat (.int (i - j)))
  | _, _ => none
def gMul : PyData → PyData → Option SV
  | .int i, .int j => if i.natAbs.log2 + j.natAbs.log2 < 1000000 then some (.dat (.int (i * j))) else none
  | .list a, .int k => if okI k = true ∧ a.length * k.toNat ≤ sizeLine then some (.own (List.replicate k.toNat a).flatten) else none
  | .tuple a, .int k => if a ≠ [] ∧ 2 ≤ k ∧ k ≤ 1000 ∧ a.length ≤ 1000 then some (.dat (.tuple (List.replicate k.toNat a).flatten)) else none
  | _, _ => none
def gFdiv : PyData → PyData → Option SV
  | .int i, .int j => if 0 < j ∧ j.natAbs.log2 < 9000 then some (.dat (.int (i / j))) else none
  | _, _ => none
def gMod : PyData → PyData → Option SV
  | .int i, .int j => if 0 < j then some (.dat (.int (i % j))) else none
  | _, _ => none
def gPow : PyData → PyData → Option SV
  | .int i, .int j => if 0 ≤ j ∧ Nat.ble (Builtin.Int.intBits i * j.toNat) 134217728 = true then some (.dat (.int (i ^ j.toNat))) else none
  | _, _ => none
def gNeg : PyData → Option SV
  | .int i => some (.dat (.int (-i)))
  | _ => none
def dB (b : Bool) : SV := .dat (.bool b)
def gLt : PyData → PyData → Option SV
  | .int i, .int j => some (dB (decide (i < j)))
  | .str x, .str y => some (dB (decide (x.cps.toList < y.cps.toList)))
  | _, _ => none
def gLe : PyData → PyData → Option SV
  | .int i, .int j => some (dB (decide (i ≤ j)))
  | _, _ => none
def gGt : PyData → PyData → Option SV
  | .int i, .int j => some (dB (decide (j < i)))
  | _, _ => none
def gGe : PyData → PyData → Option SV
  | .int i, .int j => some (dB (decide (j ≤ i)))
  | _, _ => none
def isNone : PyData → Bool
  | .none => true
  | _ => false
def gIs : PyData → PyData → Option SV
  | d, .none => some (dB (isNone d))
  | .bool a, .bool b => some (dB (decide (a = b)))
  | _, _ => none
def gIsNot : PyData → PyData → Option SV
  | d, .none => some (dB (!isNone d))
  | .bool a, .bool b => some (dB (!decide (a = b)))
  | _, _ => none
/-- == of scalars, or of data of a shape -/
def gEq : PyData → PyData → Option SV
  | .int i, .int j => some (dB (decide (i = j)))
  | .str x, .str y => some (dB (decide (x = y)))
  | d, e => if SeqAt.shaped d = true ∧ SeqAt.shaped e = true then some (dB (PyData.eqv d e)) else none
def gNe : PyData → PyData → Option SV
  | .int i, .int j => some (dB (!decide (i = j)))
  | .str x, .str y => some (dB (!decide (x = y)))
  | d, e => if SeqAt.shaped d = true ∧ SeqAt.shaped e = true then some (dB (!PyData.eqv d e)) else none
section
variable {K : PySem.W.Frag} {H : Hp} {N : Addr → Prop}
theorem RG.int {H0 : Hp} {i : Int} : RG K H0 H N (.int i) (.dat (.int i)) := by show RD K H N (.int i) (.int i); unfold RD; rfl
theorem RG.bl {H0 : Hp} {b : Bool} : RG K H0 H N (.bl b) (dB b) := by show RD K H N (.bool b) (.bl b); unfold RD; rfl
theorem RG.str {H0 : Hp} {x : Str} : RG K H0 H N (.str x) (.dat (.str x)) := by show RD K H N (.str x) (.str x); unfold RD; rfl
theorem RG.new {p : Addr} {xs : List V} {ds : List PyData} (n : H p = none) (nn : ¬ N p) (r : RDs K H N ds xs) : RG K H (upd H p (.lst xs)) N (.ref p) (.own ds) :=
  ⟨p, xs, rfl, upd_same, RDs.mv (fun a o e _ => by rw [upd_ne (ne_of_none e n)]; exact e) (fun _ z => .inl z) _ _ r, n, nn⟩
theorem RG.newT {p : Addr} {xs : List V} {ds : List PyData} (n : H p = none) (nn : ¬ N p) (r : RDs K H N ds xs) : RG K H (upd H p (.tup xs)) N (.ref p) (.dat (.tuple ds)) := by
  show RD K _ N (.tuple ds) (.ref p)
  unfold RD
  exact ⟨p, xs, rfl, .inl ⟨.inl upd_same, nn⟩, RDs.mv (fun a o e _ => by rw [upd_ne (ne_of_none e n)]; exact e) (fun _ z => .inl z) _ _ r⟩
theorem RT.int {i : Int} {x : V} (h : RT K H N (.int i) x) : x = .int i := h
theorem RT.str {i : Str} {x : V} (h : RT K H N (.str i) x) : x = .str i := h
theorem RT.bl {i : Bool} {x : V} (h : RT K H N (.bool i) x) : x = .bl i := h
theorem RT.non {x : V} (h : RT K H N .none x) : x = .non := h
theorem RT.lst {ds : List PyData} {x : V} (h : RT K H N (.list ds) x) : ∃ a xs, x = .ref a ∧ H a = some (.lst xs) ∧ RDs K H N ds xs := h
theorem RT.tup {ds : List PyData} {x : V} (h : RT K H N (.tuple ds) x) : ∃ a xs, x = .ref a ∧ QT K H N a xs ∧ RDs K H N ds xs := h
theorem RT.isNone {d : PyData} {x : V} (h : RT K H N d x) : decide (x = .non) = isNone d := by
  cases d with
  | none => have e := h.non; subst e; rfl
  | bool b => have e := h.bl; subst e; rfl
  | int i => have e := h.int; subst e; rfl
  | str y => have e := h.str; subst e; rfl
  | list ds => obtain ⟨a, xs, e, _⟩ := h.lst; subst e; rfl
  | tuple ds => obtain ⟨a, xs, e, _⟩ := h.tup; subst e; rfl
  | dict ds => obtain ⟨a, xs, e, _⟩ := h; subst e; rfl
theorem rds_rep {ds : List PyData} {xs : List V} (r : RDs K H N ds xs) : ∀ n : Nat, RDs K H N (List.replicate n ds).flatten (List.replicate n xs).flatten
  | 0 => by simp [RDs]
  | n + 1 => by
    rw [List.replicate_succ, List.replicate_succ, List.flatten_cons, List.flatten_cons]
    exact r.app (rds_rep r n)
end
section
variable {X : Cx}
theorem o_add : OpR X (binaryOp .Add) (RO2 X.K gAdd) := by
  intro pins s σ H x y v u Q I rx ry ⟨N, d, e, w, nf, hd, he, hg, q⟩
  cases d with
  | int i => cases e with
    | int j => cases hg; exact op_add pins s σ H x y v u Q I rx ry ⟨i, j, hd.int, he.int, q _ H .refl .int⟩
    | _ => cases hg
  | str i => cases e with
    | str j =>
      dsimp only [gAdd] at hg
      split at hg
      · rename_i hz; cases hg; exact op_add_str pins s σ H x y v u Q I rx ry ⟨i, j, hd.str, he.str, hz, q _ H .refl .str⟩
      · cases hg
    | _ => cases hg
  | list a => cases e with
    | list b =>
      dsimp only [gAdd] at hg
      split at hg
      · rename_i hz; cases hg
        obtain ⟨p, xs, e1, h1, r1⟩ := hd.lst
        obtain ⟨p', ys, e2, h2, r2⟩ := he.lst
        refine op_cat pins s σ H x y v u Q I rx ry ⟨p, p', xs, ys, e1, e2, h1, h2, by rw [r1.len, r2.len]; exact hz, fun t nt => q _ _ (.one nt) (.new nt (nf t nt) (r1.app r2))⟩
      · cases hg
    | _ => cases hg
  | tuple a => cases e with
    | tuple b =>
      dsimp only [gAdd] at hg
      split at hg
      · rename_i hz; cases hg
        obtain ⟨p, xs, e1, h1, r1⟩ := hd.tup
        obtain ⟨p', ys, e2, h2, r2⟩ := he.tup
        refine op_catA pins s σ H x y v u Q I rx ry ⟨p, p', xs, ys, e1, e2, h1.sq, h2.sq, by rw [r1.len, r2.len]; exact hz, fun ex => ?_, fun _ ey => ?_, fun _ _ t nt => q _ _ (.one nt) (.newT nt (nf t nt) (r1.app r2))⟩
        · have ea : a = [] := List.eq_nil_of_length_eq_zero (by rw [← r1.len, ex]; rfl)
          subst ea
          exact q _ H .refl (by rw [← e2]; exact he)
        · have eb : b = [] := List.eq_nil_of_length_eq_zero (by rw [← r2.len, ey]; rfl)
          subst eb
          exact q _ H .refl (by rw [← e1, List.append_nil]; exact hd)
      · cases hg
    | _ => cases hg
  | _ => cases e <;> cases hg
theorem o_sub : OpR X (binaryOp .Sub) (RO2 X.K gSub) := by
  intro pins s σ H x y v u Q I rx ry ⟨N, d, e, w, nf, hd, he, hg, q⟩
  cases d with
  | int i => cases e with
    | int j => cases hg; exact op_sub pins s σ H x y v u Q I rx ry ⟨i, j, hd.int, he.int, q _ H .refl .int⟩
    | _ => cases hg
  | _ => cases e <;> cases hg
theorem o_mul : OpR X (binaryOp .Mult) (RO2 X.K gMul) := by
  intro pins s σ H x y v u Q I rx ry ⟨N, d, e, w, nf, hd, he, hg, q⟩
  cases d with
  | int i => cases e with
    | int j =>
      dsimp only [gMul] at hg
      split at hg
      · rename_i hz; cases hg; exact op_mulW pins s σ H x y v u Q I rx ry ⟨i, j, hd.int, he.int, hz, q _ H .refl .int⟩
      · cases hg
    | _ => cases hg
  | list a => cases e with
    | int k =>
      dsimp only [gMul] at hg
      split at hg
      · rename_i hz; cases hg
        obtain ⟨p, xs, e1, h1, r1⟩ := hd.lst
        exact op_rep pins s σ H x y v u Q I rx ry ⟨p, k, xs, e1, he.int, h1, by have := okI_to hz.1; omega, by have := okI_to hz.1; omega, by rw [r1.len]; exact hz.2, fun t nt => q _ _ (.one nt) (.new nt (nf t nt) (rds_rep r1 _))⟩
      · cases hg
    | _ => cases hg
  | tuple a => cases e with
    | int k =>
      dsimp only [gMul] at hg
      split at hg
      · rename_i hz; cases hg
        obtain ⟨p, xs, e1, h1, r1⟩ := hd.tup
        refine op_repT pins s σ H x y v u Q I rx ry ⟨p, k, xs, e1, he.int, h1.sq, fun z => hz.1 ?_, hz.2.1, hz.2.2.1, by rw [r1.len]; exact hz.2.2.2, fun t nt => q _ _ (.one nt) (.newT nt (nf t nt) (rds_rep r1 _))⟩
        exact List.eq_nil_of_length_eq_zero (by rw [← r1.len, z]; rfl)
      · cases hg
    | _ => cases hg
  | _ => cases e <;> cases hg
theorem o_fdiv : OpR X (binaryOp .FloorDiv) (RO2 X.K gFdiv) := by
  intro pins s σ H x y v u Q I rx ry ⟨N, d, e, w, nf, hd, he, hg, q⟩
  cases d with
  | int i => cases e with
    | int j =>
      dsimp only [gFdiv] at hg
      split at hg
      · rename_i hz; cases hg; exact op_fdivW pins s σ H x y v u Q I rx ry ⟨i, j, hd.int, he.int, hz, q _ H .refl .int⟩
      · cases hg
    | _ => cases hg
  | _ => cases e <;> cases hg
theorem o_mod : OpR X (binaryOp .Mod) (RO2 X.K gMod) := by
  intro pins s σ H x y v u Q I rx ry ⟨N, d, e, w, nf, hd, he, hg, q⟩
  cases d with
  | int i => cases e with
    | int j =>
      dsimp only [gMod] at hg
      split at hg
      · rename_i hz; cases hg; exact op_mod pins s σ H x y v u Q I rx ry ⟨i, j, hd.int, he.int, hz, q _ H .refl .int⟩
      · cases hg
    | _ => cases hg
  | _ => cases e <;> cases hg
theorem o_pow : OpR X (binaryOp .Pow) (RO2 X.K gPow) := by
  intro pins s σ H x y v u Q I rx ry ⟨N, d, e, w, nf, hd, he, hg, q⟩
  cases d with
  | int i => cases e with
    | int j =>
      dsimp only [gPow] at hg
      split at hg
      · rename_i hz; cases hg
        have ex := hd.int
        have ey := he.int
        subst ex; subst ey
        obtain ⟨t, rfl⟩ := rx
        obtain ⟨t', rfl⟩ := ry
        exact PyProof.Rows.pow_int hz.1 (by
          have h2 := Nat.le_of_ble_eq_true hz.2
          have h3 : ((Builtin.Int.intBits i * j.toNat : Nat) : Int) = (Builtin.Int.intBits i : Int) * j := by rw [Int.natCast_mul, Int.toNat_of_nonneg hz.1]
          rw [← h3]; omega) ⟨.int _, H, I.tok _, ⟨_, rfl⟩, q _ H .refl .int⟩
      · cases hg
    | _ => cases hg
  | _ => cases e <;> cases hg
theorem u_neg : UnR X (unaryOp .USub) (RO1 X.K gNeg) := by
  intro pins s σ H x v Q I rx ⟨N, d, w, nf, hd, hg, q⟩
  cases d with
  | int i => cases hg; exact un_neg pins s σ H x v Q I rx ⟨i, hd.int, q _ H .refl .int⟩
  | _ => cases hg
theorem o_lt : OpR X (compareOp .Lt) (RO2 X.K gLt) := by
  intro pins s σ H x y v u Q I rx ry ⟨N, d, e, w, nf, hd, he, hg, q⟩
  cases d with
  | int i => cases e with
    | int j => cases hg; exact op_lt pins s σ H x y v u Q I rx ry ⟨i, j, hd.int, he.int, q _ H .refl .bl⟩
    | _ => cases hg
  | str i => cases e with
    | str j => cases hg; exact op_lt_str pins s σ H x y v u Q I rx ry ⟨i, j, hd.str, he.str, q _ H .refl .bl⟩
    | _ => cases hg
  | _ => cases e <;> cases hg
theorem o_le : OpR X (compareOp .LtE) (RO2 X.K gLe) := by
  intro pins s σ H x y v u Q I rx ry ⟨N, d, e, w, nf, hd, he, hg, q⟩
  cases d with
  | int i => cases e with
    | int j => cases hg; exact op_le pins s σ H x y v u Q I rx ry ⟨i, j, hd.int, he.int, q _ H .refl .bl⟩
    | _ => cases hg
  | _ => cases e <;> cases hg
theorem o_gt : OpR X (compareOp .Gt) (RO2 X.K gGt) := by
  intro pins s σ H x y v u Q I rx ry ⟨N, d, e, w, nf, hd, he, hg, q⟩
  cases d with
  | int i => cases e with
    | int j => cases hg; exact op_gt pins s σ H x y v u Q I rx ry ⟨i, j, hd.int, he.int, q _ H .refl .bl⟩
    | _ => cases hg
  | _ => cases e <;> cases hg
theorem o_ge : OpR X (compareOp .GtE) (RO2 X.K gGe) := by
  intro pins s σ H x y v u Q I rx ry ⟨N, d, e, w, nf, hd, he, hg, q⟩
  cases d with
  | int i => cases e with
    | int j => cases hg; exact op_ge pins s σ H x y v u Q I rx ry ⟨i, j, hd.int, he.int, q _ H .refl .bl⟩
    | _ => cases hg
  | _ => cases e <;> cases hg
theorem o_is : OpR X (compareOp .Is) (RO2 X.K gIs) := by
  intro pins s σ H x y v u Q I rx ry ⟨N, d, e, w, nf, hd, he, hg, q⟩
  cases e with
  | none =>
    have ew : w = dB (isNone d) := by cases d <;> (cases hg; rfl)
    subst ew
    exact op_isN pins s σ H x y v u Q I rx ry ⟨he.non, by rw [hd.isNone]; exact q _ H .refl .bl⟩
  | bool b => cases d with
    | bool a => cases hg; exact op_is_bl pins s σ H x y v u Q I rx ry ⟨a, b, hd.bl, he.bl, q _ H .refl .bl⟩
    | _ => cases hg
  | _ => cases d <;> cases hg
theorem o_isnot : OpR X (compareOp .IsNot) (RO2 X.K gIsNot) := by
  intro pins s σ H x y v u Q I rx ry ⟨N, d, e, w, nf, hd, he, hg, q⟩
  cases e with
  | none =>
    have ew : w = dB (!isNone d) := by cases d <;> (cases hg; rfl)
    subst ew
    exact op_notN pins s σ H x y v u Q I rx ry ⟨he.non, by rw [hd.isNone]; exact q _ H .refl .bl⟩
  | bool b => cases d with
    | bool a => cases hg; exact op_isnot_bl pins s σ H x y v u Q I rx ry ⟨a, b, hd.bl, he.bl, q _ H .refl .bl⟩
    | _ => cases hg
  | _ => cases d <;> cases hg

mutual
theorem RD.dp {K : PySem.W.Frag} {H : Hp} {N : Addr → Prop} : ∀ {d : PyData} {x : V}, RD K H N d x → d.canLay0 = true → Dp K H x d
  | .none, _, h, _ => by cases (show _ = V.non from h); exact .non
  | .bool b, _, h, _ => by cases (show _ = V.bl b from h); exact .bl b
  | .int i, _, h, _ => by cases (show _ = V.int i from h); exact .int i
  | .str z, _, h, _ => by cases (show _ = V.str z from h); exact .str z
  | .list ds, _, ⟨a, xs, e, q, r⟩, c => by cases e; exact .lst (SqL.of q.1) (RDs.dp r c)
  | .tuple ds, _, ⟨a, xs, e, q, r⟩, c => by cases e; exact .tup q.sq (RDs.dp r c)
  | .dict _, _, _, c => by cases c
theorem RDs.dp {K : PySem.W.Frag} {H : Hp} {N : Addr → Prop} : ∀ {ds : List PyData} {xs : List V}, RDs K H N ds xs → PyData.canLayAll0 ds = true → DpAll K H xs ds
  | [], _, h, _ => by cases h; exact .nil
  | d :: ds, _, ⟨x, r, e, h1, h2⟩, c => by
    cases e
    have c' : (d.canLay0 && PyData.canLayAll0 ds) = true := c
    rw [Bool.and_eq_true] at c'
    exact .cons (RD.dp h1 c'.1) (RDs.dp h2 c'.2)
end
theorem RT.dp {K : PySem.W.Frag} {H : Hp} {N : Addr → Prop} {d : PyData} {x : V} (h : RT K H N d x) (c : SeqAt.shaped d = true) : Dp K H x d := by
  have c' := SeqAt.canLay_of_shaped c
  cases d with
  | list ds => obtain ⟨a, xs, e, q, r⟩ := h.lst; cases e; exact .lst (SqL.of q) (RDs.dp r c')
  | _ => exact RD.dp (N := N) h c'
theorem o_eq (hu : X.A.units + 64 < cLine) : OpR X (compareOp .Eq) (RO2 X.K gEq) := by
  intro pins s σ H x y v u Q I rx ry ⟨N, d, e, w, nf, hd, he, hg, q⟩
  have gen : (if SeqAt.shaped d = true ∧ SeqAt.shaped e = true then some (dB (PyData.eqv d e)) else none) = some w → wpAny (model X.prog X.w) X.A (compareOp .Eq v u) (EP X pins σ Q) X.xe s := fun hg => by
    split at hg
    · rename_i hz; cases hg
      exact op_eqD hu pins s σ H x y v u Q I rx ry ⟨d, e, hd.dp hz.1, he.dp hz.2, hz.1, hz.2, q _ H .refl .bl⟩
    · cases hg
  cases d with
  | int i => cases e with
    | int j =>
      cases hg
      refine op_eq pins s σ H x y v u Q I rx ry ⟨by rw [hd.int, he.int]; rfl, ?_⟩
      rw [hd.int, he.int, show decide (V.int i = V.int j) = decide (i = j) by simp]
      exact q _ H .refl .bl
    | _ => exact gen hg
  | str i => cases e with
    | str j =>
      cases hg
      refine op_eq pins s σ H x y v u Q I rx ry ⟨by rw [hd.str, he.str]; rfl, ?_⟩
      rw [hd.str, he.str, show decide (V.str i = V.str j) = decide (i = j) by simp]
      exact q _ H .refl .bl
    | _ => exact gen hg
  | _ => cases e <;> exact gen hg
theorem o_ne (hu : X.A.units + 64 < cLine) : OpR X (compareOp .NotEq) (RO2 X.K gNe) := by
  intro pins s σ H x y v u Q I rx ry ⟨N, d, e, w, nf, hd, he, hg, q⟩
  have gen : (if SeqAt.shaped d = true ∧ SeqAt.shaped e = true then some (dB (!PyData.eqv d e)) else none) = some w → wpAny (model X.prog X.w) X.A (compareOp .NotEq v u) (EP X pins σ Q) X.xe s := fun hg => by
    split at hg
    · rename_i hz; cases hg
      exact op_neD hu pins s σ H x y v u Q I rx ry ⟨d, e, hd.dp hz.1, he.dp hz.2, hz.1, hz.2, q _ H .refl .bl⟩
    · cases hg
  cases d with
  | int i => cases e with
    | int j =>
      cases hg
      refine op_ne pins s σ H x y v u Q I rx ry ⟨by rw [hd.int, he.int]; rfl, ?_⟩
      rw [hd.int, he.int, show decide (V.int i = V.int j) = decide (i = j) by simp]
      exact q _ H .refl .bl
    | _ => exact gen hg
  | str i => cases e with
    | str j =>
      cases hg
      refine op_ne pins s σ H x y v u Q I rx ry ⟨by rw [hd.str, he.str]; rfl, ?_⟩
      rw [hd.str, he.str, show decide (V.str i = V.str j) = decide (i = j) by simp]
      exact q _ H .refl .bl
    | _ => exact gen hg
  | _ => cases e <;> exact gen hg
end
end EV
end

section
set_option maxRecDepth 100000
set_option maxHeartbeats 4000000
namespace EV
open PySem PySem.Spec L2

/-! ### sequences of either kind, their iterators -/
def SqK (k : Bool) (K : PySem.W.Frag) (H : Hp) (a : Addr) (xs : List V) : Prop := if k = true then SqL K H a xs else SqT K H a xs
def IsSq (k : Bool) (h : Heap) (l : Addr) (its : Array Value) : Prop := if k = true then h.IsList l its else h.IsTuple l its
def IsIt (k : Bool) (h : Heap) (it l : Addr) (i : Nat) : Prop := if k = true then h.IsListIter it l i else h.IsTupleIter it l i
def itO (k : Bool) (l : Addr) : Obj := if k = true then { cls := .type "list_iterator", data := .fields #[.ref l, .int 0 0] } else { cls := .type "tuple_iterator", data := .fields #[.ref l, .int 0 0] }
theorem begK (k : Bool) (l : Addr) (its : Array Value) : Begins (.ref l) (itO k l) fun h => IsSq k h l its := by
  cases k
  · exact begins_tuple l its
  · exact begins_list l its
theorem drawK {prog : Program} {w : World} {A : Around} (hh : A.handled = none) (k : Bool) (it l : Addr) (hne : l ≠ it) (its : Array Value) :
    Draws prog w A it [it, l] its.size (fun i v => its[i]? = some v) fun i h => IsIt k h it l i ∧ IsSq k h l its := by
  cases k
  · exact Draws.tuple hh it l hne its
  · exact Draws.list hh it l hne its
theorem itO_it {k : Bool} {h : Heap} {it l : Addr} (e : h.get? it = some (itO k l)) : IsIt k h it l 0 := by
  cases k
  · exact ⟨_, e, rfl, rfl⟩
  · exact ⟨_, e, rfl, rfl⟩
theorem IsIt.obj {k : Bool} {h : Heap} {it l : Addr} {i : Nat} (e : IsIt k h it l i) : ∃ o, h.get? it = some o ∧ ∀ v, o.data ≠ .cell v := by
  cases k
  · obtain ⟨o, ho, _, hd⟩ := e; exact ⟨o, ho, fun v q => by rw [hd] at q; cases q⟩
  · obtain ⟨o, ho, _, hd⟩ := e; exact ⟨o, ho, fun v q => by rw [hd] at q; cases q⟩
theorem IsIt.keep {k : Bool} {h h' : Heap} {it l : Addr} {i : Nat} (e : IsIt k h it l i) (kp : ∀ o, h.get? it = some o → h'.get? it = some o) : IsIt k h' it l i := by
  cases k
  · obtain ⟨o, ho, hc, hd⟩ := e; exact ⟨o, kp o ho, hc, hd⟩
  · obtain ⟨o, ho, hc, hd⟩ := e; exact ⟨o, kp o ho, hc, hd⟩
theorem seqK {X : Cx} {pins : List (Addr × Obj)} {σ : L2.St} {H : Hp} {s : Shared} {k : Bool} {a : Addr} {xs : List V} (I : Inv X pins σ H s) (h : SqK k X.K H a xs) :
    ∃ its : List Value, Vals xs its ∧ IsSq k s.heap a its.toArray ∧ a < s.heap.objs.size := by
  cases k
  · obtain ⟨its, r, t, _⟩ := I.tuple h
    exact ⟨its, r, t, t.lt⟩
  · obtain ⟨its, r, p, _⟩ := I.list h
    exact ⟨its, r, p.isList, p.lt⟩
/-- a walk of n turns whose i-th gives a new tuple of Row i, while S stands -/
def ItN (S : Hp → Prop) (Row : Nat → List V → Prop) (n : Nat) : It :=
  ⟨fun i H => i < n ∧ S H, fun i H v H' => ∃ T xs, v = .ref T ∧ H T = none ∧ H' = upd H T (.tup xs) ∧ Row i xs, fun i H => i = n ∧ S H⟩
theorem turnG {P : Program} {w : World} {K : PySem.W.Frag} {elts : List Expr} {kk n : Nat} {tpos : Pos} {I : Addr} {cells wr : List Addr} {tn : Nat → Heap → Prop} {S : Hp → Prop} {Row : Nat → List V → Prop}
    (hmem : I ∈ cells) (hwr : ∀ b ∈ wr, b ∈ cells) (hobj : ∀ i h, tn i h → ∀ b ∈ cells, ∃ o, h.get? b = some o ∧ ∀ v, o.data ≠ .cell v)
    (hkeep : ∀ i h h', tn i h → (∀ b ∈ cells, ∀ o, h.get? b = some o → h'.get? b = some o) → tn i h')
    (hself : ∀ (A : Around) (i : Nat) (s : Shared) (Q : Value → Shared → Prop) (E : Value → Shared → Prop), tn i s.heap → Q (.ref I) s → wpAny (model P w) A (pyIter (.ref I)) Q E s)
    (G : ∀ (X : Cx) (pins : List (Addr × Obj)) (σ : L2.St) (H : Hp) (s : Shared), X.prog = P → X.w = w → X.K = K → X.calm = true → Inv X pins σ H s → S H →
      ∃ (fpG : List Addr) (Y : Nat → Heap → Value → Heap → Prop) (St : Nat → Heap → Prop), GoesN P w X.A (.Tuple elts kk tpos) I fpG wr n Y St ∧ (∀ i, tn i s.heap → St i s.heap) ∧ (∀ i h, St i h → tn i h) ∧
        ∀ i v h', i < n → Y i s.heap v h' → ∃ T xs us, v = .ref T ∧ s.heap.objs.size ≤ T ∧ Row i xs ∧ Vals xs us ∧ xs.length ≤ sizeLine ∧ h'.IsTuple T us.toArray) :
    Turn P w K (.Tuple elts kk tpos) (ItN S Row n) cells I tn where
  mem := hmem
  obj := hobj
  keep := hkeep
  self := hself
  item := by
    intro X hP hw hK hc i pins s σ H E Iv hf st hg
    obtain ⟨hi, hS⟩ := hg
    obtain ⟨fpG, Y, St, g, g1, g2, g3⟩ := G X pins σ H s hP hw hK hc Iv hS
    subst hP hw hK
    refine g.goes i s _ E hi (g1 i st) fun v h' tk hY st' hk htk => ?_
    obtain ⟨T, xs, us, rfl, hT, row, hv, hz, ht⟩ := g3 i v h' hi hY
    have new : ObjOk X.prog X.w (upd H T (.tup xs)) h' T (.tup xs) := ⟨hz, us, hv, ht⟩
    have I1 : Inv X pins σ (upd H T (.tup xs)) { s with heap := h', toks := tk } := Iv.turnedNew (t' := tk) (ch := wr) (fun b o hb q => hk b o hb q) (fun b hb => hf b (hwr b hb)) hT new
    refine ⟨.ref T, _, I1, rfl, ⟨T, xs, rfl, Iv.hok.fresh hT, rfl, row⟩, g2 _ _ st', fun b hb => ?_⟩
    obtain ⟨o, ho, _⟩ := hobj i _ st b hb
    rw [upd_ne (Nat.ne_of_lt (Nat.lt_of_lt_of_le (Heap.lt_size ho) hT))]
    exact (hf b hb).1
  done := by
    intro X hP hw hK hc i pins s σ H E Iv hf st hg
    obtain ⟨hi, hS⟩ := hg
    obtain ⟨fpG, Y, St, g, g1, g2, g3⟩ := G X pins σ H s hP hw hK hc Iv hS
    subst hP hw hK
    subst hi
    exact g.stops s _ E (g1 _ st) fun h' tk hk htk => Iv.turnedL (t' := tk) (ch := wr) (fun b o hb q => hk b o hb q) fun b hb => hf b (hwr b hb)

theorem meets_enum1 {v : Value} {o : Obj} {Hh : Heap → Prop} (B : Begins v o Hh) :
    Meets (Builtin.«enumerate.__new__» ⟨[.type "enumerate", v], []⟩) (fun _ R s => Hh s.heap ∧
      R (.ok (.ret (.ref (s.heap.push o).objs.size))) { s with heap := (s.heap.push o).push ⟨.type "enumerate", none, .fields #[.none, .bool false, .ref s.heap.objs.size, rawInt 0, .none, .none], #[]⟩ }) :=
  .of_wp fun prog w A R s hyp => by
    obtain ⟨hp, gn, dr, tok, osx⟩ := s
    obtain ⟨h1, hyp⟩ := hyp
    have isub := sub_enumerate
    have it1 : ∀ {A' : Around} {E : Value → Shared → Prop} {Q : Value → Shared → Prop}, Q (.ref hp.objs.size) ⟨hp.push o, gn, dr, tok, osx⟩ → wpAny (model prog w) A' (pyIter v) Q E ⟨hp, gn, dr, tok, osx⟩ :=
      fun q => B.iter prog w _ _ ⟨hp, gn, dr, tok, osx⟩ _ h1 q
    wp_walk using it1
    refine wpAny_stack_any fun sk => wpAny_pure ?_
    split
    · rename_i c _ _ _ _ _
      cases (c == Value.type "enumerate")
      · wp_walk using it1
        exact ⟨_, rfl, hyp⟩
      · wp_walk using it1
        exact ⟨_, rfl, hyp⟩
    · wp_walk using it1
      exact ⟨_, rfl, hyp⟩
theorem call_enum1 {prog : Program} {w : World} {A : Around} {E : Value → Shared → Prop} {s : Shared} {v : Value} {o : Obj} {Hh : Heap → Prop} {Q : Value → Shared → Prop} (B : Begins v o Hh) (h1 : Hh s.heap)
    (h : ∀ h2 : Heap, IsEnum h2 (s.heap.objs.size + 1) s.heap.objs.size 0 .none → h2.get? s.heap.objs.size = some o → (∀ b u, s.heap.get? b = some u → h2.get? b = some u) → Q (.ref (s.heap.objs.size + 1)) { s with heap := h2 }) :
    wpAny (model prog w) A (call (.type "enumerate") [v]) Q E s := by
  refine callType_new F.called_enumerate (by decide) (F.typeCall_enumerate_1 _) (F.newCall_enumerate_1 _) (fun obj => F.args_object_init_2 obj _) F.entry_enumerate_new (meets_enum1 B) ⟨h1, ?_⟩
  have sz : (s.heap.push o).objs.size = s.heap.objs.size + 1 := Heap.size_push ..
  show _ ∧ _
  rw [sz]
  have he : IsEnum ((s.heap.push o).push ⟨.type "enumerate", none, .fields #[.none, .bool false, .ref s.heap.objs.size, rawInt 0, .none, .none], #[]⟩) (s.heap.objs.size + 1) s.heap.objs.size 0 .none := by
    have e := Heap.get?_push_size (s.heap.push o) (o := ⟨.type "enumerate", none, .fields #[.none, .bool false, .ref s.heap.objs.size, rawInt 0, .none, .none], #[]⟩) rfl
    rw [sz] at e
    exact e
  refine ⟨⟨_, he, rfl⟩, h _ he ?_ ?_⟩
  · exact Heap.get?_push_of_some _ (Heap.get?_push_size s.heap B.free)
  · intro b u e
    exact Heap.get?_push_of_some _ (Heap.get?_push_of_some _ e)

theorem nin1 {n a : Nat} (h : a < n) : n + 1 ∉ [n, a] := by simp; omega
theorem le1 {n b : Nat} (h : b = n + 1 ∨ b = n) : n ≤ b := by omega
theorem le2 {n b : Nat} (h : b = n + 4 ∨ b = n + 2 ∨ b = n + 3 ∨ b = n ∨ b = n + 1) : n ≤ b := by omega
theorem le3 {n b : Nat} (h : b = n + 5 ∨ b = n + 3 ∨ b = n + 4 ∨ b = n ∨ b = n + 1 ∨ b = n + 2) : n ≤ b := by omega
theorem lt2 {n a : Nat} (h : a < n) : a ≠ n + 1 ∧ a ≠ n + 2 ∧ a ≠ n := by omega
theorem itO_free {k : Bool} {l : Addr} : (itO k l).isFreed = false := by cases k <;> rfl
section
variable {X : Cx} {p pos tpos : Pos} {elts : List Expr} {kk : Nat}
def iEnumK (K : PySem.W.Frag) (ta : TA) : TI := fun σ H R => ta σ H fun vs H1 => ∃ k a xs, vs = [.ref a] ∧ SqK k K H1 a xs ∧ xs.length + 2 ≤ sizeLine ∧
  R (ItN (fun H => SqK k K H a xs) (fun i ys => ∃ x, xs[i]? = some x ∧ ys = [.int (i : Nat), x]) xs.length) H1
theorem pi_enumK {e : Expr} {ta : TA} (hg : Gl X "enumerate") (hm : X.mg "enumerate" = none) (ha : PA X [e] ta) (hs : starEach [e] X.env = [(false, eval e X.env)] := by rfl) :
    PI X (.Tuple elts kk tpos) (.Call (.Name "enumerate" p) [e] [] pos) (iEnumK X.K ta) := by
  refine ⟨fun pins s σ H R I h => ?_⟩
  refine PyProof.Rows.Call_ (ld_blt I hg hm PyProof.Rows.boot_enumerate (PyProof.Rows.callWith_type1 (thn (ha.run pos pins s σ H _ I h) fun us s1 ⟨vs, H1, I1, r1, q1⟩ => ?_) hs rfl))
  obtain ⟨k, a, xs, ex, hq, hz, q⟩ := q1
  subst ex
  cases r1 with
  | cons r rr =>
    cases rr
    cases r
    obtain ⟨its, rv, hsq, hlt⟩ := seqK I1 hq
    refine call_enum1 (begK k a its.toArray) hsq fun h2 he hio hk => wpAny_pyIter_enum he ?_
    have I2 : Inv X pins σ H1 { s1 with heap := h2 } := I1.kept (t' := s1.toks) hk
    have hne : s1.heap.objs.size + 1 ≠ s1.heap.objs.size := Nat.succ_ne_self _
    have hna : a ≠ s1.heap.objs.size := Nat.ne_of_lt hlt
    refine ⟨s1.heap.objs.size + 1, [s1.heap.objs.size + 1, s1.heap.objs.size], fun i h => (∃ old, IsEnum h (s1.heap.objs.size + 1) s1.heap.objs.size ((0 : Int) + (i : Int)) old) ∧ IsIt k h s1.heap.objs.size a i, _, H1, rfl, I2,
      turnG (wr := [s1.heap.objs.size + 1, s1.heap.objs.size]) (by simp) (fun b hb => hb) ?_ ?_ ?_ ?_, ⟨⟨.none, he⟩, itO_it hio⟩, fun b hb => ?_, q⟩
    · intro i h st b hb
      obtain ⟨⟨old, h1⟩, h2⟩ := st
      have e' : b = s1.heap.objs.size + 1 ∨ b = s1.heap.objs.size := by simpa using hb
      rcases e' with z | z
      · rw [z]; exact ⟨_, h1, fun v q => nomatch q⟩
      · rw [z]; exact h2.obj
    · intro i h h' st kp
      obtain ⟨⟨old, h1⟩, h2⟩ := st
      exact ⟨⟨old, kp _ (by simp) _ h1⟩, h2.keep fun o q => kp _ (by simp) o q⟩
    · intro A i s Q E st hq
      obtain ⟨⟨old, h1⟩, _⟩ := st
      exact wpAny_pyIter_enum h1 hq
    · intro X' pins' σ' H' s' hP hw hK hc Iv hS
      rw [← hP, ← hw]
      rw [← hK] at hS
      obtain ⟨its', rv', hsq', hlt'⟩ := seqK Iv hS
      have hl : its'.toArray.size = xs.length := by rw [List.size_toArray]; exact rv'.length.symm
      have D := drawK (prog := X'.prog) (w := X'.w) (A := X'.A.in1) (Iv.ok.hd hc) k s1.heap.objs.size a hna its'.toArray
      rw [hl] at D
      refine ⟨_, _, _, GoesN.enumFrom (0 : Int) D (s1.heap.objs.size + 1) hne (nin1 hlt) (by simp), fun i st => ⟨st.1, st.2, hsq'⟩, fun i h st => ⟨st.1, st.2.1⟩, fun i v h' hi y => ?_⟩
      obtain ⟨T, t, u, ev, hT, hu, ht⟩ := y
      obtain ⟨x, hx⟩ : ∃ x, xs[i]? = some x := ⟨_, List.getElem?_eq_getElem hi⟩
      obtain ⟨u', hu', ru⟩ := rv'.get hx
      have eu : u = u' := by
        have z : its'[i]? = some u := by simpa using hu
        rw [hu'] at z; cases z; rfl
      subst eu
      refine ⟨T, [.int (i : Nat), x], [.int ((0 : Int) + (i : Int)) t, u], ev, hT, ⟨x, hx, rfl⟩, .cons ⟨t, by simp⟩ (.cons ru .nil), by show 2 ≤ sizeLine; decide, ht⟩
    · have e' : b = s1.heap.objs.size + 1 ∨ b = s1.heap.objs.size := by simpa using hb
      have hle : s1.heap.objs.size ≤ b := le1 e'
      exact I1.fpOk hle (I1.hok.fresh hle)
def iZipK2 (K : PySem.W.Frag) (ta : TA) : TI := fun σ H R => ta σ H fun vs H1 => ∃ k1 k2 a b xs ys, vs = [.ref a, .ref b] ∧ SqK k1 K H1 a xs ∧ SqK k2 K H1 b ys ∧
  R (ItN (fun H => SqK k1 K H a xs ∧ SqK k2 K H b ys) (fun i zs => ∃ x y, xs[i]? = some x ∧ ys[i]? = some y ∧ zs = [x, y]) (min xs.length ys.length)) H1
theorem zip_pull {xs : List V} {its : List Value} (r : Vals xs its) {i : Nat} {u : Value} (h : its.toArray[i]? = some u) : ∃ x, xs[i]? = some x ∧ RelV x u := by
  have z : its[i]? = some u := by simpa using h
  have hl := r.length
  have hi : i < xs.length := by rw [hl]; exact (List.getElem?_eq_some_iff.mp z).1
  obtain ⟨u', hu', ru⟩ := r.get (List.getElem?_eq_getElem hi)
  rw [z] at hu'; cases hu'
  exact ⟨_, List.getElem?_eq_getElem hi, ru⟩
theorem pi_zipK2 {e e2 : Expr} {ta : TA} (hg : Gl X "zip") (hm : X.mg "zip" = none) (ha : PA X [e, e2] ta)
    (hs : starEach [e, e2] X.env = (false, eval e X.env) :: starEach [e2] X.env := by rfl) (hpl : (backTo pos (starEach [e2] X.env)).any (·.1) = false := by rfl) :
    PI X (.Tuple elts kk tpos) (.Call (.Name "zip" p) [e, e2] [] pos) (iZipK2 X.K ta) := by
  refine ⟨fun pins s σ H R I h => ?_⟩
  refine PyProof.Rows.Call_ (ld_blt I hg hm PyProof.Rows.boot_zip (PyProof.Rows.callWith_type1 (thn (ha.run pos pins s σ H _ I h) fun us s1 ⟨vs, H1, I1, r1, q1⟩ => ?_) hs hpl))
  obtain ⟨k1, k2, a, b, xs, ys, ex, hq1, hq2, q⟩ := q1
  subst ex
  cases r1 with
  | cons r rr => cases rr with
    | cons r' rr =>
      cases rr
      cases r
      cases r'
      obtain ⟨its, rv, hsq, hlt⟩ := seqK I1 hq1
      obtain ⟨its2, rv2, hsq2, hlt2⟩ := seqK I1 hq2
      refine zip_begins2 (begK k1 a its.toArray) (begK k2 b its2.toArray) hsq hsq2 fun h2 hz hTI hTO h1 h3 hsz hk => wpAny_pyIter_zip hz ?_
      have I2 : Inv X pins σ H1 { s1 with heap := h2 } := I1.kept (t' := s1.toks) hk
      generalize hN : s1.heap.objs.size = N at *
      refine ⟨N + 4, [N + 4, N + 2, N + 3, N, N + 1], fun i h => IsZip h (N + 4) (N + 2) (N + 3) .none ∧ IsTupOf2 h (N + 2) (.ref N) (.ref (N + 1)) ∧ (∃ a1 a2, IsTupOf2 h (N + 3) a1 a2) ∧ IsIt k1 h N a i ∧ IsIt k2 h (N + 1) b i, _, H1, rfl, I2,
        turnG (wr := [N + 4, N + 3, N, N + 1]) (by simp) (fun b hb => by simp at hb ⊢; rcases hb with z | z | z | z <;> simp [z]) ?_ ?_ ?_ ?_, ⟨hz, hTI, ⟨_, _, hTO⟩, itO_it h1, itO_it h3⟩, fun c hb => ?_, q⟩
      · intro i h st c hb
        obtain ⟨z1, z2, ⟨_, _, z3⟩, z4, z5⟩ := st
        have e' : c = N + 4 ∨ c = N + 2 ∨ c = N + 3 ∨ c = N ∨ c = N + 1 := by simpa using hb
        rcases e' with z | z | z | z | z
        · rw [z]; exact ⟨_, z1, fun v q => nomatch q⟩
        · rw [z]; exact ⟨_, z2, fun v q => nomatch q⟩
        · rw [z]; exact ⟨_, z3, fun v q => nomatch q⟩
        · rw [z]; exact z4.obj
        · rw [z]; exact z5.obj
      · intro i h h' st kp
        obtain ⟨z1, z2, ⟨_, _, z3⟩, z4, z5⟩ := st
        exact ⟨kp _ (by simp) _ z1, kp _ (by simp) _ z2, ⟨_, _, kp _ (by simp) _ z3⟩, z4.keep fun o q => kp _ (by simp) o q, z5.keep fun o q => kp _ (by simp) o q⟩
      · intro A i s Q E st hq
        exact wpAny_pyIter_zip st.1 hq
      · intro X' pins' σ' H' s' hP hw hK hc Iv hS
        rw [← hP, ← hw]
        rw [← hK] at hS
        obtain ⟨jts, rw1, jsq, jlt⟩ := seqK Iv hS.1
        obtain ⟨jts2, rw2, jsq2, jlt2⟩ := seqK Iv hS.2
        have hl1 : jts.toArray.size = xs.length := by rw [List.size_toArray]; exact rw1.length.symm
        have hl2 : jts2.toArray.size = ys.length := by rw [List.size_toArray]; exact rw2.length.symm
        have D1 := drawK (prog := X'.prog) (w := X'.w) (A := X'.A.in1) (Iv.ok.hd hc) k1 N a (lt2 hlt).2.2 jts.toArray
        have D2 := drawK (prog := X'.prog) (w := X'.w) (A := X'.A.in1) (Iv.ok.hd hc) k2 (N + 1) b (lt2 hlt2).1 jts2.toArray
        have S := zip_sep2 (N := N) (fp1 := [a]) (fp2 := [b]) (by simpa using hlt) (by simpa using hlt2)
        have g := GoesN.zip2 (elts := elts) (x1 := kk) (pos := tpos) S D1 D2
        rw [hl1, hl2] at g
        refine ⟨_, _, _, g, fun i st => ⟨st.1, st.2.1, st.2.2.1, ⟨st.2.2.2.1, jsq⟩, ⟨st.2.2.2.2, jsq2⟩⟩, fun i h st => ⟨st.1, st.2.1, st.2.2.1, st.2.2.2.1.1, st.2.2.2.2.1⟩, fun i v h' hi y => ?_⟩
        obtain ⟨T, u1, u2, ev, hT, hu1, hu2, ht⟩ := y
        obtain ⟨x, hx, rx⟩ := zip_pull rw1 hu1
        obtain ⟨y, hy, ry⟩ := zip_pull rw2 hu2
        exact ⟨T, [x, y], [u1, u2], ev, hT, ⟨x, y, hx, hy, rfl⟩, .cons rx (.cons ry .nil), by show 2 ≤ sizeLine; decide, ht⟩
      · have e' : c = N + 4 ∨ c = N + 2 ∨ c = N + 3 ∨ c = N ∨ c = N + 1 := by simpa using hb
        have hle : s1.heap.objs.size ≤ c := by rw [hN]; exact le2 e'
        exact I1.fpOk hle (I1.hok.fresh hle)
def iZipK3 (K : PySem.W.Frag) (ta : TA) : TI := fun σ H R => ta σ H fun vs H1 => ∃ k1 k2 k3 a b c xs ys zs, vs = [.ref a, .ref b, .ref c] ∧ SqK k1 K H1 a xs ∧ SqK k2 K H1 b ys ∧ SqK k3 K H1 c zs ∧
  R (ItN (fun H => SqK k1 K H a xs ∧ SqK k2 K H b ys ∧ SqK k3 K H c zs) (fun i ws => ∃ x y z, xs[i]? = some x ∧ ys[i]? = some y ∧ zs[i]? = some z ∧ ws = [x, y, z]) (min (min xs.length ys.length) zs.length)) H1
theorem pi_zipK3 {e e2 e3 : Expr} {ta : TA} (hg : Gl X "zip") (hm : X.mg "zip" = none) (ha : PA X [e, e2, e3] ta)
    (hs : starEach [e, e2, e3] X.env = (false, eval e X.env) :: starEach [e2, e3] X.env := by rfl) (hpl : (backTo pos (starEach [e2, e3] X.env)).any (·.1) = false := by rfl) :
    PI X (.Tuple elts kk tpos) (.Call (.Name "zip" p) [e, e2, e3] [] pos) (iZipK3 X.K ta) := by
  refine ⟨fun pins s σ H R I h => ?_⟩
  refine PyProof.Rows.Call_ (ld_blt I hg hm PyProof.Rows.boot_zip (PyProof.Rows.callWith_type1 (thn (ha.run pos pins s σ H _ I h) fun us s1 ⟨vs, H1, I1, r1, q1⟩ => ?_) hs hpl))
  obtain ⟨k1, k2, k3, a, b, c, xs, ys, zs, ex, hq1, hq2, hq3, q⟩ := q1
  subst ex
  cases r1 with
  | cons r rr => cases rr with
    | cons r' rr => cases rr with
      | cons r'' rr =>
        cases rr
        cases r
        cases r'
        cases r''
        obtain ⟨its, rv, hsq, hlt⟩ := seqK I1 hq1
        obtain ⟨its2, rv2, hsq2, hlt2⟩ := seqK I1 hq2
        obtain ⟨its3, rv3, hsq3, hlt3⟩ := seqK I1 hq3
        refine zip_begins3 (begK k1 a its.toArray) (begK k2 b its2.toArray) (begK k3 c its3.toArray) hsq hsq2 hsq3 fun h2 hz hTI hTO h1 h3 h4 hsz hk => wpAny_pyIter_zip hz ?_
        have I2 : Inv X pins σ H1 { s1 with heap := h2 } := I1.kept (t' := s1.toks) hk
        generalize hN : s1.heap.objs.size = N at *
        refine ⟨N + 5, [N + 5, N + 3, N + 4, N, N + 1, N + 2], fun i h => IsZip h (N + 5) (N + 3) (N + 4) .none ∧ IsTupOf3 h (N + 3) (.ref N) (.ref (N + 1)) (.ref (N + 2)) ∧ (∃ a1 a2 a3, IsTupOf3 h (N + 4) a1 a2 a3) ∧ IsIt k1 h N a i ∧ IsIt k2 h (N + 1) b i ∧ IsIt k3 h (N + 2) c i, _, H1, rfl, I2,
          turnG (wr := [N + 5, N + 4, N, N + 1, N + 2]) (by simp) (fun b hb => by simp at hb ⊢; rcases hb with z | z | z | z | z <;> simp [z]) ?_ ?_ ?_ ?_, ⟨hz, hTI, ⟨_, _, _, hTO⟩, itO_it h1, itO_it h3, itO_it h4⟩, fun c hb => ?_, q⟩
        · intro i h st c hb
          obtain ⟨z1, z2, ⟨_, _, _, z3⟩, z4, z5, z6⟩ := st
          have e' : c = N + 5 ∨ c = N + 3 ∨ c = N + 4 ∨ c = N ∨ c = N + 1 ∨ c = N + 2 := by simpa using hb
          rcases e' with z | z | z | z | z | z
          · rw [z]; exact ⟨_, z1, fun v q => nomatch q⟩
          · rw [z]; exact ⟨_, z2, fun v q => nomatch q⟩
          · rw [z]; exact ⟨_, z3, fun v q => nomatch q⟩
          · rw [z]; exact z4.obj
          · rw [z]; exact z5.obj
          · rw [z]; exact z6.obj
        · intro i h h' st kp
          obtain ⟨z1, z2, ⟨_, _, _, z3⟩, z4, z5, z6⟩ := st
          exact ⟨kp _ (by simp) _ z1, kp _ (by simp) _ z2, ⟨_, _, _, kp _ (by simp) _ z3⟩, z4.keep fun o q => kp _ (by simp) o q, z5.keep fun o q => kp _ (by simp) o q, z6.keep fun o q => kp _ (by simp) o q⟩
        · intro A i s Q E st hq
          exact wpAny_pyIter_zip st.1 hq
        · intro X' pins' σ' H' s' hP hw hK hc Iv hS
          rw [← hP, ← hw]
          rw [← hK] at hS
          obtain ⟨jts, rw1, jsq, jlt⟩ := seqK Iv hS.1
          obtain ⟨jts2, rw2, jsq2, jlt2⟩ := seqK Iv hS.2.1
          obtain ⟨jts3, rw3, jsq3, jlt3⟩ := seqK Iv hS.2.2
          have hl1 : jts.toArray.size = xs.length := by rw [List.size_toArray]; exact rw1.length.symm
          have hl2 : jts2.toArray.size = ys.length := by rw [List.size_toArray]; exact rw2.length.symm
          have hl3 : jts3.toArray.size = zs.length := by rw [List.size_toArray]; exact rw3.length.symm
          have D1 := drawK (prog := X'.prog) (w := X'.w) (A := X'.A.in1) (Iv.ok.hd hc) k1 N a (lt2 hlt).2.2 jts.toArray
          have D2 := drawK (prog := X'.prog) (w := X'.w) (A := X'.A.in1) (Iv.ok.hd hc) k2 (N + 1) b (lt2 hlt2).1 jts2.toArray
          have D3 := drawK (prog := X'.prog) (w := X'.w) (A := X'.A.in1) (Iv.ok.hd hc) k3 (N + 2) c (lt2 hlt3).2.1 jts3.toArray
          have S := zip_sep3 (N := N) (fp1 := [a]) (fp2 := [b]) (fp3 := [c]) (by simpa using hlt) (by simpa using hlt2) (by simpa using hlt3)
          have g := GoesN.zip3 (elts := elts) (x1 := kk) (pos := tpos) S D1 D2 D3
          rw [hl1, hl2, hl3] at g
          refine ⟨_, _, _, g, fun i st => ⟨st.1, st.2.1, st.2.2.1, ⟨st.2.2.2.1, jsq⟩, ⟨st.2.2.2.2.1, jsq2⟩, ⟨st.2.2.2.2.2, jsq3⟩⟩, fun i h st => ⟨st.1, st.2.1, st.2.2.1, st.2.2.2.1.1, st.2.2.2.2.1.1, st.2.2.2.2.2.1⟩, fun i v h' hi y => ?_⟩
          obtain ⟨T, u1, u2, u3, ev, hT, hu1, hu2, hu3, ht⟩ := y
          obtain ⟨x, hx, rx⟩ := zip_pull rw1 hu1
          obtain ⟨y, hy, ry⟩ := zip_pull rw2 hu2
          obtain ⟨z, hz, rz⟩ := zip_pull rw3 hu3
          exact ⟨T, [x, y, z], [u1, u2, u3], ev, hT, ⟨x, y, z, hx, hy, hz, rfl⟩, .cons rx (.cons ry (.cons rz .nil)), by show 3 ≤ sizeLine; decide, ht⟩
        · have e' : c = N + 5 ∨ c = N + 3 ∨ c = N + 4 ∨ c = N ∨ c = N + 1 ∨ c = N + 2 := by simpa using hb
          have hle : s1.heap.objs.size ≤ c := by rw [hN]; exact le3 e'
          exact I1.fpOk hle (I1.hok.fresh hle)
end
end EV
end

section
set_option maxRecDepth 100000
set_option maxHeartbeats 4000000
namespace EV
open PySem PySem.Spec L2

section
variable {X : Cx} {pos p : Pos} {a b c : Expr} {rest : List Expr}
/-! ### tests -/
def fAndT (a b : FT) : FT := fun ρ st => match a ρ st with
  | some (true, st1) => b ρ st1
  | some (false, st1) => some (false, st1)
  | none => none
def fOrT (a b : FT) : FT := fun ρ st => match a ρ st with
  | some (true, st1) => some (true, st1)
  | some (false, st1) => b ρ st1
  | none => none
def fNotT (a : FT) : FT := fun ρ st => match a ρ st with
  | some (k, st1) => some (!k, st1)
  | none => none
theorem andT_weak {K : PySem.W.Frag} {fa fb : FT} {σ : L2.St} {H : Hp} {Q : Bool → Hp → Prop} (h : simT K T (fAndT fa fb) σ H Q) : tAnd (simT K T fa) (simT K T fb) σ H Q := by
  obtain ⟨A, He, ase, ρ, st, os, as, w, st', ok, e, q⟩ := h
  unfold fAndT at e
  cases ea : fa ρ st with
  | none => rw [ea] at e; cases e
  | some r =>
    obtain ⟨k, st1⟩ := r
    rw [ea] at e
    refine ⟨A, He, ase, ρ, st, os, as, k, st1, ok, ea, fun H1 k1 ok1 => ?_⟩
    cases k with
    | true => exact (if_pos rfl).mpr ⟨A, He, ase, ρ, st1, os, as, w, st', ok1, e, fun H2 k2 ok2 => q H2 (k1.trans k2) ok2⟩
    | false => cases e; exact (if_neg Bool.false_ne_true).mpr (q H1 k1 ok1)
theorem orT_weak {K : PySem.W.Frag} {fa fb : FT} {σ : L2.St} {H : Hp} {Q : Bool → Hp → Prop} (h : simT K T (fOrT fa fb) σ H Q) : tOr (simT K T fa) (simT K T fb) σ H Q := by
  obtain ⟨A, He, ase, ρ, st, os, as, w, st', ok, e, q⟩ := h
  unfold fOrT at e
  cases ea : fa ρ st with
  | none => rw [ea] at e; cases e
  | some r =>
    obtain ⟨k, st1⟩ := r
    rw [ea] at e
    refine ⟨A, He, ase, ρ, st, os, as, k, st1, ok, ea, fun H1 k1 ok1 => ?_⟩
    cases k with
    | true => cases e; exact (if_pos rfl).mpr (q H1 k1 ok1)
    | false => exact (if_neg Bool.false_ne_true).mpr ⟨A, He, ase, ρ, st1, os, as, w, st', ok1, e, fun H2 k2 ok2 => q H2 (k1.trans k2) ok2⟩
theorem dw_and1 {fa : FT} (ha : DT T X a fa) : DW T X (.BoolOp .And [a] pos) fa := pw_and1 ha
theorem dw_or1 {fa : FT} (ha : DT T X a fa) : DW T X (.BoolOp .Or [a] pos) fa := pw_or1 ha
theorem dw_and {fa fb : FT} (ha : DT T X a fa) (hb : DW T X (.BoolOp .And (b :: rest) pos) fb) : DW T X (.BoolOp .And (a :: b :: rest) pos) (fAndT fa fb) := PW.weak (pw_and ha hb) fun _ _ _ => andT_weak
theorem dw_or {fa fb : FT} (ha : DT T X a fa) (hb : DW T X (.BoolOp .Or (b :: rest) pos) fb) : DW T X (.BoolOp .Or (a :: b :: rest) pos) (fOrT fa fb) := PW.weak (pw_or ha hb) fun _ _ _ => orT_weak
theorem DW.pt {e : Expr} {fa : FT} (h : DW T X e fa) : DT T X e fa := PW.pt h
theorem dt_not {fa : FT} (ha : DT T X a fa) : DT T X (.UnaryOp .Not a pos) (fNotT fa) := PT.weak (pt_not ha) fun σ H Q h => by
  obtain ⟨A, He, ase, ρ, st, os, as, w, st', ok, e, q⟩ := h
  unfold fNotT at e
  cases ea : fa ρ st with
  | none => rw [ea] at e; cases e
  | some r =>
    obtain ⟨k, st1⟩ := r
    rw [ea] at e; cases e
    exact ⟨A, He, ase, ρ, st, os, as, k, _, ok, ea, fun H1 k1 ok1 => q H1 k1 ok1⟩

/-! ### and, or, not, if as values -/
def fAnd (a b : FE) : FE := fun ρ st => match a ρ st with
  | some (v, st1) => match asB v with
    | some true => b ρ st1
    | some false => some (dB false, st1)
    | none => none
  | none => none
def fOr (a b : FE) : FE := fun ρ st => match a ρ st with
  | some (v, st1) => match asB v with
    | some true => some (dB true, st1)
    | some false => b ρ st1
    | none => none
  | none => none
def fNot (a : FE) : FE := fun ρ st => match a ρ st with
  | some (v, st1) => match asB v with
    | some k => some (dB (!k), st1)
    | none => none
  | none => none
theorem RV.bl {K : PySem.W.Frag} {H0 H : Hp} {N : Addr → Prop} {as : List Addr} {k : Bool} : RV K H0 H N as (.bl k) (dB k) := by show RD K H N (.bool k) (.bl k); unfold RD; rfl
theorem and_weak {K : PySem.W.Frag} {fa fb : FE} {σ : L2.St} {H : Hp} {Q : VK} (h : simE K T (fAnd fa fb) σ H Q) : tAndV (simE K T fa) (simE K T fb) σ H Q := by
  obtain ⟨A, He, ase, ρ, st, os, as, w, st', ok, e, q⟩ := h
  unfold fAnd at e
  cases ea : fa ρ st with
  | none => rw [ea] at e; cases e
  | some r =>
    obtain ⟨v, st1⟩ := r
    rw [ea] at e
    dsimp only at e
    cases eb : asB v with
    | none => rw [eb] at e; cases e
    | some k =>
      rw [eb] at e
      refine ⟨A, He, ase, ρ, st, os, as, v, st1, ok, ea, fun x H1 k1 ok1 r1 => ⟨k, r1.asB eb, ?_⟩⟩
      cases k with
      | true => exact (if_pos rfl).mpr ⟨A, He, ase, ρ, st1, os, as, w, st', ok1, e, fun x H2 k2 ok2 r2 => q x H2 (k1.trans k2) ok2 (r2.from k1 nn_as)⟩
      | false => cases e; exact (if_neg Bool.false_ne_true).mpr (q _ H1 k1 ok1 .bl)
theorem or_weak {K : PySem.W.Frag} {fa fb : FE} {σ : L2.St} {H : Hp} {Q : VK} (h : simE K T (fOr fa fb) σ H Q) : tOrV (simE K T fa) (simE K T fb) σ H Q := by
  obtain ⟨A, He, ase, ρ, st, os, as, w, st', ok, e, q⟩ := h
  unfold fOr at e
  cases ea : fa ρ st with
  | none => rw [ea] at e; cases e
  | some r =>
    obtain ⟨v, st1⟩ := r
    rw [ea] at e
    dsimp only at e
    cases eb : asB v with
    | none => rw [eb] at e; cases e
    | some k =>
      rw [eb] at e
      refine ⟨A, He, ase, ρ, st, os, as, v, st1, ok, ea, fun x H1 k1 ok1 r1 => ⟨k, r1.asB eb, ?_⟩⟩
      cases k with
      | true => cases e; exact (if_pos rfl).mpr (q _ H1 k1 ok1 .bl)
      | false => exact (if_neg Bool.false_ne_true).mpr ⟨A, He, ase, ρ, st1, os, as, w, st', ok1, e, fun x H2 k2 ok2 r2 => q x H2 (k1.trans k2) ok2 (r2.from k1 nn_as)⟩
theorem de_one {op} {fa : FE} (h : DE T X a fa) : DE T X (.BoolOp op [a] pos) fa := pe_one h
theorem de_and {fa fb : FE} (ha : DE T X a fa) (hb : DE T X (.BoolOp .And (b :: rest) pos) fb) : DE T X (.BoolOp .And (a :: b :: rest) pos) (fAnd fa fb) := PE.weak (pe_and ha hb) fun _ _ _ => and_weak
theorem de_or {fa fb : FE} (ha : DE T X a fa) (hb : DE T X (.BoolOp .Or (b :: rest) pos) fb) : DE T X (.BoolOp .Or (a :: b :: rest) pos) (fOr fa fb) := PE.weak (pe_or ha hb) fun _ _ _ => or_weak
theorem de_not {fa : FE} (ha : DE T X a fa) : DE T X (.UnaryOp .Not a pos) (fNot fa) := PE.weak (pe_not ha) fun σ H Q h => by
  obtain ⟨A, He, ase, ρ, st, os, as, w, st', ok, e, q⟩ := h
  unfold fNot at e
  cases ea : fa ρ st with
  | none => rw [ea] at e; cases e
  | some r =>
    obtain ⟨v, st1⟩ := r
    rw [ea] at e
    dsimp only at e
    cases eb : asB v with
    | none => rw [eb] at e; cases e
    | some k =>
      rw [eb] at e; cases e
      exact ⟨A, He, ase, ρ, st, os, as, v, _, ok, ea, fun x H1 k1 ok1 r1 => ⟨k, r1.asB eb, q _ H1 k1 ok1 .bl⟩⟩
def fIte (c : FT) (a b : FE) : FE := fun ρ st => match c ρ st with
  | some (true, st1) => a ρ st1
  | some (false, st1) => b ρ st1
  | none => none
theorem de_ite {fc : FT} {fa fb : FE} (hc : DT T X c fc) (ha : DE T X a fa) (hb : DE T X b fb) : DE T X (.IfExp c a b pos) (fIte fc fa fb) := PE.weak (pe_ifExp hc ha hb) fun σ H Q h => by
  obtain ⟨A, He, ase, ρ, st, os, as, w, st', ok, e, q⟩ := h
  unfold fIte at e
  cases ea : fc ρ st with
  | none => rw [ea] at e; cases e
  | some r =>
    obtain ⟨k, st1⟩ := r
    rw [ea] at e
    refine ⟨A, He, ase, ρ, st, os, as, k, st1, ok, ea, fun H1 k1 ok1 => ?_⟩
    cases k with
    | true => exact (if_pos rfl).mpr ⟨A, He, ase, ρ, st1, os, as, w, st', ok1, e, fun x H2 k2 ok2 r2 => q x H2 (k1.trans k2) ok2 (r2.from k1 nn_as)⟩
    | false => exact (if_neg Bool.false_ne_true).mpr ⟨A, He, ase, ρ, st1, os, as, w, st', ok1, e, fun x H2 k2 ok2 r2 => q x H2 (k1.trans k2) ok2 (r2.from k1 nn_as)⟩

/-! ### a chain of two comparisons -/
def fChain (g g' : PyData → PyData → Option SV) (a b c : FE) : FE := fun ρ st => match a ρ st with
  | some (v, st1) => match b ρ st1 with
    | some (u, st2) => match asD st2 v, asD st2 u with
      | some d, some e => match g d e with
        | some w => match asB w with
          | some true => match c ρ st2 with
            | some (t, st3) => match asD st3 u, asD st3 t with
              | some e', some f => (g' e' f).map fun w => (w, st3)
              | _, _ => none
            | none => none
          | some false => some (dB false, st2)
          | none => none
        | none => none
      | _, _ => none
    | none => none
  | none => none
theorem chain_weak {K : PySem.W.Frag} {g g' : PyData → PyData → Option SV} {fa fb fc : FE} {σ : L2.St} {H : Hp} {Q : VK} (h : simE K T (fChain g g' fa fb fc) σ H Q) :
    tChain (RO2 K g) (RO2 K g') (simE K T fa) (simE K T fb) (simE K T fc) σ H Q := by
  obtain ⟨A, He, ase, ρ, st, os, as, w, st', ok, e, q⟩ := h
  unfold fChain at e
  cases ea : fa ρ st with
  | none => rw [ea] at e; cases e
  | some r =>
    obtain ⟨v, st1⟩ := r
    rw [ea] at e
    dsimp only at e
    cases eb : fb ρ st1 with
    | none => rw [eb] at e; cases e
    | some r =>
      obtain ⟨u, st2⟩ := r
      rw [eb] at e
      dsimp only at e
      cases ed : asD st2 v with
      | none => rw [ed] at e; cases e
      | some d => cases ee : asD st2 u with
        | none => rw [ed, ee] at e; cases e
        | some d2 =>
          rw [ed, ee] at e
          dsimp only at e
          cases eg : g d d2 with
          | none => rw [eg] at e; cases e
          | some w' =>
            rw [eg] at e
            dsimp only at e
            cases ek : asB w' with
            | none => rw [ek] at e; cases e
            | some k =>
              rw [ek] at e
              refine ⟨A, He, ase, ρ, st, os, as, v, _, ok, ea, fun x H1 k1 ok1 r1 => ⟨A, He, ase, ρ, st1, os, as, u, _, ok1, eb, fun y H2 k2 ok2 r2 => ?_⟩⟩
              refine ⟨_, d, d2, w', fun p n => ok2.nn n, RV.asD ok2 (r1.mv k2 nn_as) ed, RV.asD ok2 r2 ee, eg, fun x' H3 e3 r3 => ⟨k, (r3.rv (as := as)).asB ek, ?_⟩⟩
              have ok3 := ok2.ext e3
              cases k with
              | false => cases e; exact (if_neg Bool.false_ne_true).mpr (q _ H3 (k1.trans (k2.trans e3.kp)) ok3 .bl)
              | true =>
                dsimp only at e
                cases ec : fc ρ st2 with
                | none => rw [ec] at e; cases e
                | some r =>
                  obtain ⟨t, st3⟩ := r
                  rw [ec] at e
                  dsimp only at e
                  cases ed' : asD st3 u with
                  | none => rw [ed'] at e; cases e
                  | some d' => cases ee' : asD st3 t with
                    | none => rw [ed', ee'] at e; cases e
                    | some f =>
                      rw [ed', ee'] at e
                      dsimp only at e
                      cases eg' : g' d' f with
                      | none => rw [eg'] at e; cases e
                      | some w2 =>
                        rw [eg'] at e; cases e
                        refine (if_pos rfl).mpr ⟨A, He, ase, ρ, st2, os, as, t, _, ok3, ec, fun z H4 k4 ok4 r4 => ?_⟩
                        refine ⟨_, d', f, w, fun p n => ok4.nn n, RV.asD ok4 ((r2.mv e3.kp nn_as).mv k4 nn_as) ed', RV.asD ok4 r4 ee', eg', fun x5 H5 e5 r5 => ?_⟩
                        exact q x5 H5 (k1.trans (k2.trans (e3.kp.trans (k4.trans e5.kp)))) (ok4.ext e5) (r5.rv.from (k1.trans (k2.trans (e3.kp.trans k4))) nn_as)
theorem de_chain {op op' : CmpOp} {g g' : PyData → PyData → Option SV} {fa fb fc : FE} (ho : OpR X (compareOp op) (RO2 X.K g)) (ho' : OpR X (compareOp op') (RO2 X.K g')) (ha : DE T X a fa) (hb : DE T X b fb) (hc : DE T X c fc)
    (hm : lastMarks [op, op'] [b, c] = false := by with_unfolding_all rfl) : DE T X (.Compare a [op, op'] [b, c] pos) (fChain g g' fa fb fc) := PE.weak (pe_chain ho ho' ha hb hc hm) fun _ _ _ => chain_weak
theorem dt_chain {op op' : CmpOp} {g g' : PyData → PyData → Option SV} {fa fb fc : FE} (ho : OpR X (compareOp op) (RO2 X.K g)) (ho' : OpR X (compareOp op') (RO2 X.K g')) (ha : DE T X a fa) (hb : DE T X b fb) (hc : DE T X c fc)
    (hm : lastMarks [op, op'] [b, c] = false := by with_unfolding_all rfl) : DT T X (.Compare a [op, op'] [b, c] pos) (fTst (fChain g g' fa fb fc)) :=
  PT.weak (pt_chain ho ho' ha hb hc hm) fun σ H Q h => chain_weak (K := X.K) (tst_weak h)

/-! ### arguments, displays -/
def fNil : FA := fun _ st => some ([], st)
def fCons (a : FE) (r : FA) : FA := fun ρ st => match a ρ st with
  | some (v, st1) => match r ρ st1 with
    | some (vs, st2) => some (v :: vs, st2)
    | none => none
  | none => none
theorem RVs.mv {K : PySem.W.Frag} {H0 H H' : Hp} {N : Addr → Prop} {as : List Addr} {xs : List V} {ws : List SV} (h : RVs K H0 H N as xs ws) (k : Kp as H H') (hs : ∀ a, a ∈ as → N a) : RVs K H0 H' N as xs ws := by
  induction h with
  | nil => exact .nil
  | cons r _ ih => exact .cons (r.mv k hs) ih
theorem RVs.from {K : PySem.W.Frag} {H0 H1 H : Hp} {N : Addr → Prop} {as : List Addr} {xs : List V} {ws : List SV} (h : RVs K H1 H N as xs ws) (k : Kp as H0 H1) (hs : ∀ a, a ∈ as → N a) : RVs K H0 H N as xs ws := by
  induction h with
  | nil => exact .nil
  | cons r _ ih => exact .cons (r.from k hs) ih
theorem da_nil : DA T X [] fNil := PA.weak pa_nil fun σ H Q h => by
  obtain ⟨A, He, ase, ρ, st, os, as, w, st', ok, e, q⟩ := h
  cases e
  exact q _ H .refl ok .nil
theorem cons_weak {K : PySem.W.Frag} {fa : FE} {fr : FA} {σ : L2.St} {H : Hp} {Q : List V → Hp → Prop} (h : simA K T (fCons fa fr) σ H Q) : tCons (simE K T fa) (simA K T fr) σ H Q := by
  obtain ⟨A, He, ase, ρ, st, os, as, w, st', ok, e, q⟩ := h
  unfold fCons at e
  cases ea : fa ρ st with
  | none => rw [ea] at e; cases e
  | some r =>
    obtain ⟨v, st1⟩ := r
    rw [ea] at e
    dsimp only at e
    cases eb : fr ρ st1 with
    | none => rw [eb] at e; cases e
    | some r =>
      obtain ⟨vs, st2⟩ := r
      rw [eb] at e; cases e
      refine ⟨A, He, ase, ρ, st, os, as, v, st1, ok, ea, fun x H1 k1 ok1 r1 => ⟨A, He, ase, ρ, st1, os, as, vs, _, ok1, eb, fun xs H2 k2 ok2 r2 => ?_⟩⟩
      exact q _ H2 (k1.trans k2) ok2 (.cons (r1.mv k2 nn_as) (r2.from k1 nn_as))
theorem da_cons {e : Expr} {es : List Expr} {fa : FE} {fr : FA} (ha : DE T X e fa) (hr : DA T X es fr) (hs : starEach (e :: es) X.env = (false, eval e X.env) :: starEach es X.env := by rfl) : DA T X (e :: es) (fCons fa fr) :=
  PA.weak (pa_cons ha hr hs) fun _ _ _ => cons_weak
def escDs : List SV → Option (List PyData)
  | [] => some []
  | w :: ws => match escD w, escDs ws with
    | some d, some ds => some (d :: ds)
    | _, _ => none
theorem RVs.esc {K : PySem.W.Frag} {H0 H : Hp} {N : Addr → Prop} {as : List Addr} : ∀ {xs : List V} {ws : List SV} {ds : List PyData}, RVs K H0 H N as xs ws → escDs ws = some ds → RDs K H N ds xs
  | _, _, _, .nil, e => by cases e; exact rfl
  | _, _, _, .cons (w := w) (ws := ws) r t, e => by
    unfold escDs at e
    cases ea : escD w with
    | none => rw [ea] at e; cases e
    | some d => cases eb : escDs ws with
      | none => rw [ea, eb] at e; cases e
      | some ds' => rw [ea, eb] at e; cases e; exact ⟨_, _, rfl, r.esc ea, t.esc eb⟩
def fTup (a : FA) : FE := fun ρ st => match a ρ st with
  | some (vs, st1) => match escDs vs with
    | some ds => if ds.length ≤ sizeLine then some (.dat (.tuple ds), st1) else none
    | none => none
  | none => none
def fLst (a : FA) : FE := fun ρ st => match a ρ st with
  | some (vs, st1) => match escDs vs with
    | some ds => if ds.length ≤ sizeLine then some (.own ds, st1) else none
    | none => none
  | none => none
theorem de_tup {es : List Expr} {x1} {fa : FA} (h : DA T X es fa) : DE T X (.Tuple es x1 pos) (fTup fa) := PE.weak (pe_tup h) fun σ H Q h => by
  obtain ⟨A, He, ase, ρ, st, os, as, w, st', ok, e, q⟩ := h
  unfold fTup at e
  cases ea : fa ρ st with
  | none => rw [ea] at e; cases e
  | some r =>
    obtain ⟨vs, st1⟩ := r
    rw [ea] at e
    dsimp only at e
    cases eb : escDs vs with
    | none => rw [eb] at e; cases e
    | some ds =>
      rw [eb] at e
      dsimp only at e
      split at e
      · rename_i hz
        cases e
        refine ⟨A, He, ase, ρ, st, os, as, vs, _, ok, ea, fun xs H1 k1 ok1 r1 => ⟨by rw [(r1.esc eb).len]; exact hz, fun t nt => ?_⟩⟩
        exact q _ _ (k1.trans (.upd nt)) (ok1.upd nt) ((RG.newT nt (ok1.nn nt) (r1.esc eb)).rv.from k1 nn_as)
      · cases e
theorem de_lst {es : List Expr} {fa : FA} (h : DA T X es fa) : DE T X (.List es pos) (fLst fa) := PE.weak (pe_lst h) fun σ H Q h => by
  obtain ⟨A, He, ase, ρ, st, os, as, w, st', ok, e, q⟩ := h
  unfold fLst at e
  cases ea : fa ρ st with
  | none => rw [ea] at e; cases e
  | some r =>
    obtain ⟨vs, st1⟩ := r
    rw [ea] at e
    dsimp only at e
    cases eb : escDs vs with
    | none => rw [eb] at e; cases e
    | some ds =>
      rw [eb] at e
      dsimp only at e
      split at e
      · rename_i hz
        cases e
        refine ⟨A, He, ase, ρ, st, os, as, vs, _, ok, ea, fun xs H1 k1 ok1 r1 => ⟨by rw [(r1.esc eb).len]; exact hz, fun t nt => ?_⟩⟩
        exact q _ _ (k1.trans (.upd nt)) (ok1.upd nt) ((RG.new nt (ok1.nn nt) (r1.esc eb)).rv.from k1 nn_as)
      · cases e

/-! ### subscripts, slices -/
def gIx : PyData → PyData → Option SV
  | .list ds, .int i => (atI ds i).map .dat
  | .tuple ds, .int i => (atI ds i).map .dat
  | .str z, .int i => if z.length ≤ sizeLine then (atI z.cps.toList i).map fun c => .dat (.str ⟨#[c]⟩) else none
  | _, _ => none
theorem rds_at {K : PySem.W.Frag} {H : Hp} {N : Addr → Prop} {ds : List PyData} {xs : List V} {i : Int} {d : PyData} (r : RDs K H N ds xs) (h : atI ds i = some d) : ∃ x, atI xs i = some x ∧ RD K H N d x := by
  unfold atI at h ⊢
  rw [r.len]
  cases e : ixN ds.length i with
  | none => rw [e] at h; cases h
  | some j => rw [e] at h; exact r.get h
theorem i_ix : IxR X (RO2 X.K gIx) := by
  intro value slice pins s σ H x y v u Q I rx ry ⟨N, d, e, w, nf, hd, he, hg, q⟩ hp
  cases d with
  | list ds => cases e with
    | int i =>
      dsimp only [gIx] at hg
      cases ea : atI ds i with
      | none => rw [ea] at hg; cases hg
      | some d =>
        rw [ea] at hg; cases hg
        obtain ⟨p, xs, e1, h1, r1⟩ := hd.lst
        obtain ⟨z, hz, rz⟩ := rds_at r1 ea
        exact ix_list value slice pins s σ H x y v u Q I rx ry ⟨p, xs, i, z, e1, he.int, SqL.of h1, hz, q _ H .refl rz⟩ hp
    | _ => cases hg
  | tuple ds => cases e with
    | int i =>
      dsimp only [gIx] at hg
      cases ea : atI ds i with
      | none => rw [ea] at hg; cases hg
      | some d =>
        rw [ea] at hg; cases hg
        obtain ⟨p, xs, e1, h1, r1⟩ := hd.tup
        obtain ⟨z, hz, rz⟩ := rds_at r1 ea
        exact ix_tup value slice pins s σ H x y v u Q I rx ry ⟨p, xs, i, z, e1, he.int, h1.sq, hz, q _ H .refl rz⟩ hp
    | _ => cases hg
  | str z => cases e with
    | int i =>
      dsimp only [gIx] at hg
      split at hg
      · rename_i hz
        cases ea : atI z.cps.toList i with
        | none => rw [ea] at hg; cases hg
        | some c =>
          rw [ea] at hg; cases hg
          exact ix_str value slice pins s σ H x y v u Q I rx ry ⟨z, i, c, hd.str, he.int, hz, ea, q _ H .refl .str⟩ hp
      · cases hg
    | _ => cases hg
  | _ => cases e <;> cases hg
theorem de_ix {fa fb : FE} (ha : DE T X a fa) (hb : DE T X b fb) (hs : PlainIx b := by intro _ _; rfl) : DE T X (.Subscript a b pos) (fOp2 gIx fa fb) := PE.weak (pe_ix i_ix ha hb hs) fun _ _ _ => op2_weak
/-- x[i] of a list that never changes -/
def fIxZ (i : Nat) (b : FE) : FE := fun ρ st => match gs ρ i with
  | .fz ds => match b ρ st with
    | some (u, st1) => match asD st1 u with
      | some (.int j) => (atI ds j).map fun d => (.dat d, st1)
      | _ => none
    | none => none
  | _ => none
theorem de_ixZ {i : Nat} {x : Str} {fb : FE} (hb : DE T X b fb) (hN : X.N[i]? = some x := by rfl) (hv : Vis X.env.scope x := by first | exact .inl rfl | exact .inr (.inl rfl) | exact .inr (.inr rfl)) (hs : PlainIx b := by intro _ _; rfl)
    (hd : (x == ("__debug__" : Str)) = false := by decide) (hcd : (x == ("__classdict__" : Str)) = false := by decide) : DE T X (.Subscript (.Name x p) b pos) (fIxZ i fb) :=
  PE.weak (pe_ix ix_list (pe_var hN hv hd hcd) hb hs) fun σ H Q h => by
    obtain ⟨A, He, ase, ρ, st, os, as, w, st', ok, e, q⟩ := h
    unfold fIxZ at e
    cases eg : gs ρ i with
    | fz ds =>
      rw [eg] at e
      dsimp only at e
      cases eb : fb ρ st with
      | none => rw [eb] at e; cases e
      | some r =>
        obtain ⟨u, st1⟩ := r
        rw [eb] at e
        dsimp only at e
        cases ed : asD st1 u with
        | none => rw [ed] at e; cases e
        | some d => cases d with
          | int j =>
            rw [ed] at e
            dsimp only at e
            cases ea : atI ds j with
            | none => rw [ea] at e; cases e
            | some d =>
              rw [ea] at e; cases e
              have sl := ok.slot i
              rw [eg] at sl
              obtain ⟨_, a', xs, e1, e2, r⟩ := sl
              refine ⟨.ref a', gt_some e1, A, He, ase, ρ, st, os, as, u, _, ok, eb, fun y H1 k1 ok1 r1 => ?_⟩
              have r' : RDs X.K H1 (Nn A os as) ds xs := RDs.mv (fun b o e n => k1 b o e fun z => n (nn_as _ z)) (fun _ z => .inl z) _ _ r
              obtain ⟨z, hz, rz⟩ := rds_at r' ea
              refine ⟨a', xs, j, z, rfl, (RV.asD ok1 r1 ed).int, .inl (Rd.mv e2.1 e2.2 fun b o e n => k1 b o e fun z => n (nn_as _ z)), hz, q z H1 k1 ok1 rz⟩
          | _ => rw [ed] at e; cases e
    | _ => rw [eg] at e; cases e
def cutD (ds : List PyData) (lo hi : Option Int) : List PyData := (ds.drop (HT.sIx ds.length 0 lo)).take (HT.sIx ds.length ds.length hi - HT.sIx ds.length 0 lo)
theorem rds_cut {K : PySem.W.Frag} {H : Hp} {N : Addr → Prop} {ds : List PyData} {xs : List V} (r : RDs K H N ds xs) (lo hi : Option Int) : RDs K H N (cutD ds lo hi) (cutV xs lo hi) := by
  unfold cutD cutV
  rw [r.len]
  exact (r.drop _).take _
def gSl : PyData → Option Int → Option Int → Option SV
  | .list ds, lo, hi => some (.own (cutD ds lo hi))
  | .tuple ds, lo, hi => some (.dat (.tuple (cutD ds lo hi)))
  | _, _, _ => none
abbrev FO := Fr → Sto → Option (Option Int × Sto)
def fNo : FO := fun _ st => some (none, st)
def fPart (a : FE) : FO := fun ρ st => match a ρ st with
  | some (v, st1) => match asD st1 v with
    | some (.int i) => some (some i, st1)
    | _ => none
  | none => none
def simO (K : PySem.W.Frag) (T : List (Addr × Str)) (f : FO) : TO := fun σ H Q => ∃ A He ase ρ st os as o st', StOk ⟨K, A, He, ase, T⟩ σ H ρ st os as ∧ f ρ st = some (o, st') ∧ ∀ H', Kp as H H' → StOk ⟨K, A, He, ase, T⟩ σ H' ρ st' os as → Q o H'
def DO (T : List (Addr × Str)) (X : Cx) (e : Option Expr) (f : FO) : Prop := PO X e (simO X.K T f)
theorem PO.weak {e : Option Expr} {t t' : TO} (h : PO X e t) (k : ∀ σ H Q, t' σ H Q → t σ H Q) : PO X e t' := ⟨fun pins s σ H Q I q => h.run pins s σ H Q I (k σ H Q q)⟩
theorem do_no : DO T X none fNo := PO.weak po_none fun σ H Q h => by
  obtain ⟨A, He, ase, ρ, st, os, as, w, st', ok, e, q⟩ := h
  cases e
  exact q H .refl ok
theorem do_part {e : Expr} {fa : FE} (ha : DE T X e fa) : DO T X (some e) (fPart fa) := PO.weak (po_some ha) fun σ H Q h => by
  obtain ⟨A, He, ase, ρ, st, os, as, w, st', ok, e, q⟩ := h
  unfold fPart at e
  cases ea : fa ρ st with
  | none => rw [ea] at e; cases e
  | some r =>
    obtain ⟨v, st1⟩ := r
    rw [ea] at e
    dsimp only at e
    cases ed : asD st1 v with
    | none => rw [ed] at e; cases e
    | some d => cases d with
      | int i => rw [ed] at e; cases e; exact ⟨A, He, ase, ρ, st, os, as, v, _, ok, ea, fun x H1 k1 ok1 r1 => ⟨i, (RV.asD ok1 r1 ed).int, q H1 k1 ok1⟩⟩
      | _ => rw [ed] at e; cases e
def fSl (a : FE) (lo hi : FO) : FE := fun ρ st => match a ρ st with
  | some (v, st1) => match lo ρ st1 with
    | some (l, st2) => match hi ρ st2 with
      | some (h, st3) => match asD st3 v with
        | some d => (gSl d l h).map fun w => (w, st3)
        | none => none
      | none => none
    | none => none
  | none => none
theorem sl_any : SlR X (fun x lo hi H Q => rSlL X.K x lo hi H Q ∨ rSlA X.K x lo hi H Q) := sl_list.or sl_tupA
theorem sx_len (n d : Nat) (h : d ≤ n) (o : Option Int) : HT.sIx n d o ≤ n := by
  cases o with
  | none => exact h
  | some v => show (if v < 0 then (v + (n : Int)).toNat else min v.toNat n) ≤ n; split <;> omega
theorem de_sl {e : Expr} {lo hi : Option Expr} {p2 : Pos} {fa : FE} {fl fh : FO} (he : DE T X e fa) (hl : DO T X lo fl) (hh : DO T X hi fh) : DE T X (.Subscript e (.Slice lo hi none p2) pos) (fSl fa fl fh) :=
  PE.weak (pe_slice sl_any he hl hh) fun σ H Q h => by
    obtain ⟨A, He, ase, ρ, st, os, as, w, st', ok, e, q⟩ := h
    unfold fSl at e
    cases ea : fa ρ st with
    | none => rw [ea] at e; cases e
    | some r =>
      obtain ⟨v, st1⟩ := r
      rw [ea] at e
      dsimp only at e
      cases el : fl ρ st1 with
      | none => rw [el] at e; cases e
      | some r =>
        obtain ⟨l, st2⟩ := r
        rw [el] at e
        dsimp only at e
        cases eh : fh ρ st2 with
        | none => rw [eh] at e; cases e
        | some r =>
          obtain ⟨u, st3⟩ := r
          rw [eh] at e
          dsimp only at e
          cases ed : asD st3 v with
          | none => rw [ed] at e; cases e
          | some d =>
            rw [ed] at e
            dsimp only at e
            refine ⟨A, He, ase, ρ, st, os, as, v, _, ok, ea, fun x H1 k1 ok1 r1 => ⟨A, He, ase, ρ, st1, os, as, l, _, ok1, el, fun H2 k2 ok2 => ⟨A, He, ase, ρ, st2, os, as, u, _, ok2, eh, fun H3 k3 ok3 => ?_⟩⟩⟩
            have rt := RV.asD ok3 ((r1.mv k2 nn_as).mv k3 nn_as) ed
            have kk := k1.trans (k2.trans k3)
            cases d with
            | list ds =>
              cases e
              obtain ⟨p', xs, e1, h1, r⟩ := rt.lst
              exact .inl ⟨p', xs, e1, SqL.of h1, fun t nt => q _ _ (kk.trans (.upd nt)) (ok3.upd nt) ((RG.new nt (ok3.nn nt) (rds_cut r l u)).rv.from kk nn_as)⟩
            | tuple ds =>
              cases e
              obtain ⟨p', xs, e1, h1, r⟩ := rt.tup
              refine .inr ⟨p', xs, e1, h1.sq, fun hw => ?_, fun _ t nt => q _ _ (kk.trans (.upd nt)) (ok3.upd nt) ((RG.newT nt (ok3.nn nt) (rds_cut r l u)).rv.from kk nn_as)⟩
              have e2 : cutD ds l u = ds := by unfold cutD; rw [← r.len, hw.1, hw.2, r.len]; simp
              refine q _ H3 kk ok3 (RV.from (H1 := H3) ?_ kk nn_as)
              rw [e2]
              have : RD X.K H3 (Nn A os as) (.tuple ds) (.ref p') := ⟨p', xs, rfl, h1, r⟩
              exact this
            | _ => cases e
/-- x[lo:hi] of a list that never changes -/
def fSlZ (i : Nat) (lo hi : FO) : FE := fun ρ st => match gs ρ i with
  | .fz ds => match lo ρ st with
    | some (l, st2) => match hi ρ st2 with
      | some (h, st3) => some (.own (cutD ds l h), st3)
      | none => none
    | none => none
  | _ => none
theorem de_slZ {i : Nat} {x : Str} {lo hi : Option Expr} {p2 : Pos} {fl fh : FO} (hl : DO T X lo fl) (hh : DO T X hi fh) (hN : X.N[i]? = some x := by rfl) (hv : Vis X.env.scope x := by first | exact .inl rfl | exact .inr (.inl rfl) | exact .inr (.inr rfl))
    (hd : (x == ("__debug__" : Str)) = false := by decide) (hcd : (x == ("__classdict__" : Str)) = false := by decide) : DE T X (.Subscript (.Name x p) (.Slice lo hi none p2) pos) (fSlZ i fl fh) :=
  PE.weak (pe_slice sl_list (pe_var hN hv hd hcd) hl hh) fun σ H Q h => by
    obtain ⟨A, He, ase, ρ, st, os, as, w, st', ok, e, q⟩ := h
    unfold fSlZ at e
    cases eg : gs ρ i with
    | fz ds =>
      rw [eg] at e
      dsimp only at e
      cases el : fl ρ st with
      | none => rw [el] at e; cases e
      | some r =>
        obtain ⟨l, st2⟩ := r
        rw [el] at e
        dsimp only at e
        cases eh : fh ρ st2 with
        | none => rw [eh] at e; cases e
        | some r =>
          obtain ⟨u, st3⟩ := r
          rw [eh] at e; cases e
          have sl := ok.slot i
          rw [eg] at sl
          obtain ⟨_, a', xs, e1, e2, r⟩ := sl
          refine ⟨.ref a', gt_some e1, A, He, ase, ρ, st, os, as, l, _, ok, el, fun H2 k2 ok2 => ⟨A, He, ase, ρ, st2, os, as, u, _, ok2, eh, fun H3 k3 ok3 => ?_⟩⟩
          have kk := k2.trans k3
          have kq : ∀ b o, H b = some o → ¬ Nn A os as b → H3 b = some o := fun b o e n => kk b o e fun z => n (nn_as _ z)
          have r' : RDs X.K H3 (Nn A os as) ds xs := RDs.mv kq (fun _ z => .inl z) _ _ r
          exact ⟨a', xs, rfl, .inl (Rd.mv e2.1 e2.2 kq), fun t nt => q _ _ (kk.trans (.upd nt)) (ok3.upd nt) ((RG.new nt (ok3.nn nt) (rds_cut r' l u)).rv.from kk nn_as)⟩
    | _ => rw [eg] at e; cases e
end
end EV
end

section
set_option maxRecDepth 100000
set_option maxHeartbeats 4000000
namespace EV
open PySem PySem.Spec L2

/-! ### built-ins over data -/
inductive RTs (K : PySem.W.Frag) (H : Hp) (N : Addr → Prop) : List PyData → List V → Prop where
  | nil : RTs K H N [] []
  | cons {d x ds xs} : RT K H N d x → RTs K H N ds xs → RTs K H N (d :: ds) (x :: xs)
def asDs (st : Sto) : List SV → Option (List PyData)
  | [] => some []
  | w :: ws => match asD st w, asDs st ws with
    | some d, some ds => some (d :: ds)
    | _, _ => none
theorem RVs.asDs {c : Cf} {σ : L2.St} {H H0 : Hp} {ρ : Fr} {st : Sto} {os : Os} {as : List Addr} (ok : StOk c σ H ρ st os as) : ∀ {xs : List V} {ws : List SV} {ds : List PyData}, RVs c.K H0 H (Nn c.A os as) as xs ws → EV.asDs st ws = some ds → RTs c.K H (Nn c.A os as) ds xs
  | _, _, _, .nil, e => by cases e; exact .nil
  | _, _, _, .cons (w := w) (ws := ws) r t, e => by
    unfold EV.asDs at e
    cases ea : asD st w with
    | none => rw [ea] at e; cases e
    | some d => cases eb : EV.asDs st ws with
      | none => rw [ea, eb] at e; cases e
      | some ds' => rw [ea, eb] at e; cases e; exact .cons (RV.asD ok r ea) (RVs.asDs ok t eb)
def RC (K : PySem.W.Frag) (g : List PyData → Option SV) : List V → Hp → VK → Prop := fun vs H Q => ∃ N ds w, (∀ p, H p = none → ¬ N p) ∧ RTs K H N ds vs ∧ g ds = some w ∧ ∀ x' H', Ext H H' → RG K H H' N x' w → Q x' H'
def fCB (g : List PyData → Option SV) (a : FA) : FE := fun ρ st => match a ρ st with
  | some (ws, st1) => match asDs st1 ws with
    | some ds => (g ds).map fun w => (w, st1)
    | none => none
  | none => none
section
variable {X : Cx} {pos p : Pos} {e : Expr} {es : List Expr} {x : Str}
theorem cb_weak {K : PySem.W.Frag} {g : List PyData → Option SV} {fa : FA} {σ : L2.St} {H : Hp} {Q : VK} (h : simE K T (fCB g fa) σ H Q) : tCB (RC K g) (simA K T fa) σ H Q := by
  obtain ⟨A, He, ase, ρ, st, os, as, w, st', ok, e, q⟩ := h
  unfold fCB at e
  cases ea : fa ρ st with
  | none => rw [ea] at e; cases e
  | some r =>
    obtain ⟨ws, st1⟩ := r
    rw [ea] at e
    dsimp only at e
    cases ed : asDs st1 ws with
    | none => rw [ed] at e; cases e
    | some ds =>
      rw [ed] at e
      dsimp only at e
      cases eg : g ds with
      | none => rw [eg] at e; cases e
      | some w' =>
        rw [eg] at e; cases e
        refine ⟨A, He, ase, ρ, st, os, as, ws, _, ok, ea, fun xs H1 k1 ok1 r1 => ⟨_, ds, w, fun p n => ok1.nn n, r1.asDs ok1 ed, eg, fun x' H' e' r' => ?_⟩⟩
        exact q x' H' (k1.trans e'.kp) (ok1.ext e') (r'.rv.from k1 nn_as)
theorem de_cb {id : String} {g : List PyData → Option SV} {fa : FA} (hc : CallR X (.builtin id) (RC X.K g)) (hm : X.mg x = none) (ha : DA T X (e :: es) fa) (hg : Gl X x := by rfl) (hv : bootBuiltins x = some (.builtin id) := by decide +kernel) (hn : x ≠ "__name__" := by decide) (hd : (x == ("__debug__" : Str)) = false := by decide)
    (he : starEach (e :: es) X.env = (false, eval e X.env) :: starEach es X.env := by rfl) (hpl : (backTo pos (starEach es X.env)).any (·.1) = false := by rfl) : DE T X (.Call (.Name x p) (e :: es) [] pos) (fCB g fa) :=
  PE.weak (pe_callB hc hg hm hv ha hn hd he hpl) fun _ _ _ => cb_weak
theorem de_ct {Ty : String} {g : List PyData → Option SV} {fa : FA} (hc : CallR X (.type Ty) (RC X.K g)) (hm : X.mg x = none) (ha : DA T X (e :: es) fa) (hg : Gl X x := by rfl) (hv : bootBuiltins x = some (.type Ty) := by decide +kernel) (hn : x ≠ "__name__" := by decide) (hd : (x == ("__debug__" : Str)) = false := by decide)
    (he : starEach (e :: es) X.env = (false, eval e X.env) :: starEach es X.env := by rfl) (hpl : (backTo pos (starEach es X.env)).any (·.1) = false := by rfl) : DE T X (.Call (.Name x p) (e :: es) [] pos) (fCB g fa) :=
  PE.weak (pe_callTy hc hg hm hv ha hn hd he hpl) fun _ _ _ => cb_weak

def intsOf : List PyData → Option (List Int)
  | [] => some []
  | .int i :: r => (intsOf r).map (i :: ·)
  | _ => none
def boolsOf : List PyData → Option (List Bool)
  | [] => some []
  | .bool i :: r => (boolsOf r).map (i :: ·)
  | _ => none
theorem intsOf_rds {K : PySem.W.Frag} {H : Hp} {N : Addr → Prop} : ∀ {ds : List PyData} {is : List Int} {xs : List V}, intsOf ds = some is → RDs K H N ds xs → xs = is.map V.int
  | [], _, _, e, h => by cases e; exact h
  | .int i :: r, _, _, e, ⟨x, t, e1, h1, h2⟩ => by
    unfold intsOf at e
    cases ei : intsOf r with
    | none => rw [ei] at e; cases e
    | some is =>
      rw [ei] at e; cases e
      subst e1
      rw [show x = V.int i from h1, intsOf_rds ei h2]; rfl
  | .none :: _, _, _, e, _ => by cases e
  | .bool _ :: _, _, _, e, _ => by cases e
  | .str _ :: _, _, _, e, _ => by cases e
  | .list _ :: _, _, _, e, _ => by cases e
  | .tuple _ :: _, _, _, e, _ => by cases e
  | .dict _ :: _, _, _, e, _ => by cases e
theorem boolsOf_rds {K : PySem.W.Frag} {H : Hp} {N : Addr → Prop} : ∀ {ds : List PyData} {is : List Bool} {xs : List V}, boolsOf ds = some is → RDs K H N ds xs → xs = is.map V.bl
  | [], _, _, e, h => by cases e; exact h
  | .bool i :: r, _, _, e, ⟨x, t, e1, h1, h2⟩ => by
    unfold boolsOf at e
    cases ei : boolsOf r with
    | none => rw [ei] at e; cases e
    | some is =>
      rw [ei] at e; cases e
      subst e1
      rw [show x = V.bl i from h1, boolsOf_rds ei h2]; rfl
  | .none :: _, _, _, e, _ => by cases e
  | .int _ :: _, _, _, e, _ => by cases e
  | .str _ :: _, _, _, e, _ => by cases e
  | .list _ :: _, _, _, e, _ => by cases e
  | .tuple _ :: _, _, _, e, _ => by cases e
  | .dict _ :: _, _, _, e, _ => by cases e
theorem intsOf_map (is : List Int) : intsOf (is.map PyData.int) = some is := by
  induction is with
  | nil => rfl
  | cons i r ih => simp [intsOf, ih]
theorem boolsOf_map (is : List Bool) : boolsOf (is.map PyData.bool) = some is := by
  induction is with
  | nil => rfl
  | cons i r ih => simp [boolsOf, ih]
def gLen : List PyData → Option SV
  | [.list ds] => some (.dat (.int ds.length))
  | [.tuple ds] => some (.dat (.int ds.length))
  | [.str z] => if z.length ≤ sizeLine then some (.dat (.int z.length)) else none
  | _ => none
def gSum : List PyData → Option SV
  | [.list ds] => (intsOf ds).map fun is => .dat (.int is.sum)
  | [.tuple ds] => (intsOf ds).map fun is => .dat (.int is.sum)
  | _ => none
def maxL (a : Int) (l : List Int) : Int := l.foldl max a
def minL (a : Int) (l : List Int) : Int := l.foldl min a
def gMax : List PyData → Option SV
  | [.int i, .int j] => some (.dat (.int (max i j)))
  | [.int i, .int j, .int k] => some (.dat (.int (max (max i j) k)))
  | [.list ds] => match intsOf ds with
    | some (i :: r) => some (.dat (.int (maxL i r)))
    | _ => none
  | _ => none
def gMin : List PyData → Option SV
  | [.int i, .int j] => some (.dat (.int (min i j)))
  | [.int i, .int j, .int k] => some (.dat (.int (min (min i j) k)))
  | [.list ds] => match intsOf ds with
    | some (i :: r) => some (.dat (.int (minL i r)))
    | _ => none
  | _ => none
def gAbs : List PyData → Option SV
  | [.int i] => some (.dat (.int (i.natAbs : Int)))
  | _ => none
def gInt : List PyData → Option SV
  | [.int i] => some (.dat (.int i))
  | [.bool b] => some (.dat (.int (if b then 1 else 0)))
  | _ => none
def gList : List PyData → Option SV
  | [.list ds] => some (.own ds)
  | [.tuple ds] => some (.own ds)
  | _ => none
def gTuple : List PyData → Option SV
  | [.list ds] => some (.dat (.tuple ds))
  | [.tuple ds] => some (.dat (.tuple ds))
  | _ => none
def gAll : List PyData → Option SV
  | [.list ds] => (boolsOf ds).map fun bs => dB (bs.all id)
  | _ => none
def gAny : List PyData → Option SV
  | [.list ds] => (boolsOf ds).map fun bs => dB (bs.any id)
  | _ => none
theorem maxL_spec : ∀ (l : List Int) (a : Int), maxL a l ∈ a :: l ∧ ∀ y ∈ a :: l, y ≤ maxL a l
  | [], a => by simp [maxL]
  | b :: l, a => by
    obtain ⟨h1, h2⟩ := maxL_spec l (max a b)
    have e : maxL a (b :: l) = maxL (max a b) l := rfl
    rw [e]
    refine ⟨?_, fun y hy => ?_⟩
    · rcases List.mem_cons.mp h1 with z | z
      · rw [z]; by_cases h : a ≤ b
        · rw [Int.max_eq_right h]; simp
        · rw [Int.max_eq_left (by omega)]; simp
      · simp [z]
    · have h3 := h2 (max a b) (by simp)
      rcases List.mem_cons.mp hy with z | z
      · subst z; have := Int.le_max_left y b; omega
      · rcases List.mem_cons.mp z with z | z
        · subst z; have := Int.le_max_right a y; omega
        · exact h2 y (by simp [z])
theorem minL_spec : ∀ (l : List Int) (a : Int), minL a l ∈ a :: l ∧ ∀ y ∈ a :: l, minL a l ≤ y
  | [], a => by simp [minL]
  | b :: l, a => by
    obtain ⟨h1, h2⟩ := minL_spec l (min a b)
    have e : minL a (b :: l) = minL (min a b) l := rfl
    rw [e]
    refine ⟨?_, fun y hy => ?_⟩
    · rcases List.mem_cons.mp h1 with z | z
      · rw [z]; by_cases h : a ≤ b
        · rw [Int.min_eq_left h]; simp
        · rw [Int.min_eq_right (by omega)]; simp
      · simp [z]
    · have h3 := h2 (min a b) (by simp)
      rcases List.mem_cons.mp hy with z | z
      · subst z; have := Int.min_le_left y b; omega
      · rcases List.mem_cons.mp z with z | z
        · subst z; have := Int.min_le_right a y; omega
        · exact h2 y (by simp [z])
theorem rts1 {K : PySem.W.Frag} {H : Hp} {N : Addr → Prop} {d : PyData} {xs : List V} (h : RTs K H N [d] xs) : ∃ x, xs = [x] ∧ RT K H N d x := by
  cases h with
  | cons r t => cases t; exact ⟨_, rfl, r⟩
theorem rts2 {K : PySem.W.Frag} {H : Hp} {N : Addr → Prop} {d e : PyData} {xs : List V} (h : RTs K H N [d, e] xs) : ∃ x y, xs = [x, y] ∧ RT K H N d x ∧ RT K H N e y := by
  cases h with
  | cons r t => obtain ⟨y, rfl, q⟩ := rts1 t; exact ⟨_, _, rfl, r, q⟩
theorem rts3 {K : PySem.W.Frag} {H : Hp} {N : Addr → Prop} {d e f : PyData} {xs : List V} (h : RTs K H N [d, e, f] xs) : ∃ x y z, xs = [x, y, z] ∧ RT K H N d x ∧ RT K H N e y ∧ RT K H N f z := by
  cases h with
  | cons r t => obtain ⟨y, z, rfl, q, q'⟩ := rts2 t; exact ⟨_, _, _, rfl, r, q, q'⟩
theorem b_len : CallR X (.builtin "len") (RC X.K gLen) := by
  intro pins s σ H xs us Q I r ⟨N, ds, w, nf, hd, hg, q⟩
  match ds, hg, hd with
  | [.list l], hg, hd =>
    cases hg
    obtain ⟨x, rfl, rt⟩ := rts1 hd
    obtain ⟨a, ys, rfl, h1, r1⟩ := rt.lst
    exact call_len_seq pins s σ H _ us Q I r ⟨a, ys, rfl, .inl (SqL.of h1), by rw [r1.len]; exact q _ H .refl .int⟩
  | [.tuple l], hg, hd =>
    cases hg
    obtain ⟨x, rfl, rt⟩ := rts1 hd
    obtain ⟨a, ys, rfl, h1, r1⟩ := rt.tup
    exact call_len_seq pins s σ H _ us Q I r ⟨a, ys, rfl, .inr h1.sq, by rw [r1.len]; exact q _ H .refl .int⟩
  | [.str z], hg, hd =>
    dsimp only [gLen] at hg
    split at hg
    · rename_i hz; cases hg
      obtain ⟨x, rfl, rt⟩ := rts1 hd
      exact call_len_str pins s σ H _ us Q I r ⟨z, by rw [rt.str], hz, q _ H .refl .int⟩
    · cases hg
theorem preSum_take (f : Nat → Int) (l : List Int) (h : ∀ i x, l[i]? = some x → f i = x) : ∀ n, n ≤ l.length → preSum f n = (l.take n).sum
  | 0, _ => by simp [preSum]
  | n + 1, hn => by
    have e : l[n]? = some l[n] := List.getElem?_eq_getElem (by omega)
    rw [preSum, preSum_take f l h n (by omega), List.take_add_one, e, List.sum_append, h n _ e]
    simp
theorem sum_tup {A : Around} {P : Program} {w : World} {E : Value → Shared → Prop} {s : Shared} {a : Addr} {its : List Value} {ns : List Int} {Q : Value → Shared → Prop} (hh : A.handled = none) (ht : s.heap.IsTuple a its.toArray) (hi : PyProof.Rows.IntsAre its ns)
    (h : ∀ h' tk t', (∀ b o, s.heap.get? b = some o → h'.get? b = some o) → Q (.int ns.sum t') { s with heap := h', toks := tk }) : wpAny (model P w) A (call (.builtin "sum") [.ref a]) Q E s := by
  have hla : a < s.heap.objs.size := let ⟨_, e, _⟩ := ht; Heap.lt_size e
  have hne : a ≠ s.heap.objs.size := Nat.ne_of_lt hla
  refine call_sum_walkG ((begins_tuple a its.toArray).iter _ _ _ _ _ _ ht ?_)
  have hk : ∀ b o, s.heap.get? b = some o → (s.heap.push { cls := .type "tuple_iterator", data := .fields #[.ref a, .int 0 0] }).get? b = some o := fun b o e => Heap.get?_push_of_some _ e
  have W := Walks.tuple (prog := P) (w := w) (A := A.in1) hh s.heap.objs.size a hne its.toArray
  refine ⟨s.heap.objs.size, _, _, _, _, _, fun i => ns.getD i 0, rfl, W, ⟨⟨_, Heap.get?_push_size _ rfl, rfl, rfl⟩, ht.at fun o e => hk a o e⟩, fun b hb => ?_, fun i v hv => ?_, fun h' tk t' hk' => ?_⟩
  · have e' : b = s.heap.objs.size ∨ b = a := by simpa using hb
    show b < (s.heap.push _).objs.size
    rw [Heap.size_push]
    rcases e' with z | z
    · rw [z]; exact Nat.lt_succ_self _
    · rw [z]; exact Nat.lt_succ_of_lt hla
  · have hv' : its[i]? = some v := by simpa using hv
    have hn : i < ns.length := by rw [← hi.length]; exact (List.getElem?_eq_some_iff.mp hv').1
    obtain ⟨t, e⟩ := hi.get i _ (List.getElem?_eq_getElem hn)
    rw [hv'] at e
    refine ⟨t, ?_⟩
    have : ns.getD i 0 = ns[i] := by simp [List.getD, List.getElem?_eq_getElem hn]
    show v = Value.int (ns.getD i 0) t
    rw [this]
    exact Option.some.inj e
  · have e : preSum (fun i => ns.getD i 0) its.toArray.size = ns.sum := by
      rw [List.size_toArray, hi.length, preSum_take (fun i => ns.getD i 0) ns (fun i x e => by simp [List.getD, e]) _ (Nat.le_refl _), List.take_length]
    rw [e]
    refine h h' tk t' fun b o q => hk' b o (fun z => ?_) (hk b o q)
    have e' : b = s.heap.objs.size := by simpa using z
    exact absurd (e' ▸ Heap.lt_size q) (Nat.lt_irrefl _)

theorem b_sum (hc : X.calm = true) : CallR X (.builtin "sum") (RC X.K gSum) := by
  intro pins s σ H xs us Q I r ⟨N, ds, w, nf, hd, hg, q⟩
  match ds, hg, hd with
  | [.list l], hg, hd =>
    dsimp only [gSum] at hg
    cases ei : intsOf l with
    | none => rw [ei] at hg; cases hg
    | some is =>
      rw [ei] at hg; cases hg
      obtain ⟨x, rfl, rt⟩ := rts1 hd
      obtain ⟨a, ys, rfl, h1, r1⟩ := rt.lst
      exact cr_sum hc pins s σ H _ us Q I r ⟨a, is, rfl, by rw [← intsOf_rds ei r1]; exact SqL.of h1, q _ H .refl .int⟩
  | [.tuple l], hg, hd =>
    dsimp only [gSum] at hg
    cases ei : intsOf l with
    | none => rw [ei] at hg; cases hg
    | some is =>
      rw [ei] at hg; cases hg
      obtain ⟨x, rfl, rt⟩ := rts1 hd
      obtain ⟨a, ys, rfl, h1, r1⟩ := rt.tup
      obtain ⟨its, rv, t, _⟩ := I.tuple h1.sq
      rw [Vals.ref1 r]
      rw [intsOf_rds ei r1] at rv
      exact sum_tup (I.ok.hd hc) t (intsAre_of rv) fun h' tk t' hk => ⟨.int _, H, I.kept hk, ⟨_, rfl⟩, q _ H .refl .int⟩
theorem b_max (hc : X.calm = true) : CallR X (.builtin "max") (RC X.K gMax) := by
  intro pins s σ H xs us Q I r ⟨N, ds, w, nf, hd, hg, q⟩
  match ds, hg, hd with
  | [.int i, .int j], hg, hd =>
    cases hg
    obtain ⟨x, y, rfl, r1, r2⟩ := rts2 hd
    refine call_max2 hc pins s σ H _ us Q I r ⟨i, j, by rw [r1.int, r2.int], ?_⟩
    rw [show (if j > i then j else i) = max i j by rw [Int.max_def]; split <;> split <;> omega]
    exact q _ H .refl .int
  | [.int i, .int j, .int k], hg, hd =>
    cases hg
    obtain ⟨x, y, z, rfl, r1, r2, r3⟩ := rts3 hd
    refine call_max3Nu hc pins s σ H _ us Q I r ⟨.int i, .int j, .int k, .int (max (max i j) k), by rw [r1.int, r2.int, r3.int], ?_, q _ H .refl .int⟩
    have e : ∀ a b : Int, nuMax2 (.int a) (.int b) = some (.int (max a b)) := fun a b => by
      show (some (decide (b > a))).map (fun c => if c = true then V.int b else V.int a) = some (V.int (max a b))
      rw [Int.max_def]
      by_cases h : b > a
      · rw [decide_eq_true h, if_pos (by omega)]; rfl
      · rw [decide_eq_false h]
        by_cases h2 : a ≤ b
        · rw [if_pos h2, show a = b by omega]; rfl
        · rw [if_neg h2]; rfl
    show (nuMax2 (.int i) (.int j)).bind (fun m => nuMax2 m (.int k)) = _
    rw [e]
    exact e _ _
  | [.list l], hg, hd =>
    dsimp only [gMax] at hg
    cases ei : intsOf l with
    | none => rw [ei] at hg; cases hg
    | some is =>
      rw [ei] at hg
      match is, ei, hg with
      | i :: t, ei, hg =>
        cases hg
        obtain ⟨x, rfl, rt⟩ := rts1 hd
        obtain ⟨a, ys, rfl, h1, r1⟩ := rt.lst
        refine cr_max hc pins s σ H _ us Q I r ⟨a, i :: t, rfl, by rw [← intsOf_rds ei r1]; exact SqL.of h1, by simp, fun m h1 h2 => ?_⟩
        obtain ⟨z1, z2⟩ := maxL_spec t i
        have a1 := h2 _ z1
        have a2 := z2 _ h1
        rw [show m = maxL i t by omega]
        exact q _ H .refl .int
theorem b_min (hc : X.calm = true) : CallR X (.builtin "min") (RC X.K gMin) := by
  intro pins s σ H xs us Q I r ⟨N, ds, w, nf, hd, hg, q⟩
  match ds, hg, hd with
  | [.int i, .int j], hg, hd =>
    cases hg
    obtain ⟨x, y, rfl, r1, r2⟩ := rts2 hd
    refine call_min2 hc pins s σ H _ us Q I r ⟨i, j, by rw [r1.int, r2.int], ?_⟩
    rw [show (if j < i then j else i) = min i j by rw [Int.min_def]; split <;> split <;> omega]
    exact q _ H .refl .int
  | [.int i, .int j, .int k], hg, hd =>
    cases hg
    obtain ⟨x, y, z, rfl, r1, r2, r3⟩ := rts3 hd
    refine call_min3Nu hc pins s σ H _ us Q I r ⟨.int i, .int j, .int k, .int (min (min i j) k), by rw [r1.int, r2.int, r3.int], ?_, q _ H .refl .int⟩
    have e : ∀ a b : Int, nuMin2 (.int a) (.int b) = some (.int (min a b)) := fun a b => by
      show (some (decide (b < a))).map (fun c => if c = true then V.int b else V.int a) = some (V.int (min a b))
      rw [Int.min_def]
      by_cases h : b < a
      · rw [decide_eq_true h, if_neg (by omega)]; rfl
      · rw [decide_eq_false h, if_pos (by omega)]; rfl
    show (nuMin2 (.int i) (.int j)).bind (fun m => nuMin2 m (.int k)) = _
    rw [e]
    exact e _ _
  | [.list l], hg, hd =>
    dsimp only [gMin] at hg
    cases ei : intsOf l with
    | none => rw [ei] at hg; cases hg
    | some is =>
      rw [ei] at hg
      match is, ei, hg with
      | i :: t, ei, hg =>
        cases hg
        obtain ⟨x, rfl, rt⟩ := rts1 hd
        obtain ⟨a, ys, rfl, h1, r1⟩ := rt.lst
        refine cr_min hc pins s σ H _ us Q I r ⟨a, i :: t, rfl, by rw [← intsOf_rds ei r1]; exact SqL.of h1, by simp, fun m h1 h2 => ?_⟩
        obtain ⟨z1, z2⟩ := minL_spec t i
        have a1 := h2 _ z1
        have a2 := z2 _ h1
        rw [show m = minL i t by omega]
        exact q _ H .refl .int
theorem b_abs : CallR X (.builtin "abs") (RC X.K gAbs) := by
  intro pins s σ H xs us Q I r ⟨N, ds, w, nf, hd, hg, q⟩
  match ds, hg, hd with
  | [.int i], hg, hd =>
    cases hg
    obtain ⟨x, rfl, r1⟩ := rts1 hd
    refine call_abs pins s σ H _ us Q I r ⟨i, by rw [r1.int], ?_⟩
    rw [show (if i < 0 then -i else i) = (i.natAbs : Int) by split <;> omega]
    exact q _ H .refl .int
theorem b_int : CallR X (.type "int") (RC X.K gInt) := by
  intro pins s σ H xs us Q I r ⟨N, ds, w, nf, hd, hg, q⟩
  match ds, hg, hd with
  | [.int i], hg, hd =>
    cases hg
    obtain ⟨x, rfl, r1⟩ := rts1 hd
    exact call_int1 pins s σ H _ us Q I r (.inl ⟨i, by rw [r1.int], q _ H .refl .int⟩)
  | [.bool b], hg, hd =>
    cases hg
    obtain ⟨x, rfl, r1⟩ := rts1 hd
    exact call_int1 pins s σ H _ us Q I r (.inr ⟨b, by rw [r1.bl], q _ H .refl .int⟩)
theorem b_list : CallR X (.type "list") (RC X.K gList) := by
  intro pins s σ H xs us Q I r ⟨N, ds, w, nf, hd, hg, q⟩
  match ds, hg, hd with
  | [.list l], hg, hd =>
    cases hg
    obtain ⟨x, rfl, rt⟩ := rts1 hd
    obtain ⟨a, ys, rfl, h1, r1⟩ := rt.lst
    exact call_list_of pins s σ H _ us Q I r ⟨a, ys, rfl, .inl (SqL.of h1), fun t nt => q _ _ (.one nt) (.new nt (nf t nt) r1)⟩
  | [.tuple l], hg, hd =>
    cases hg
    obtain ⟨x, rfl, rt⟩ := rts1 hd
    obtain ⟨a, ys, rfl, h1, r1⟩ := rt.tup
    exact call_list_of pins s σ H _ us Q I r ⟨a, ys, rfl, .inr h1.sq, fun t nt => q _ _ (.one nt) (.new nt (nf t nt) r1)⟩
theorem b_tuple : CallR X (.type "tuple") (RC X.K gTuple) := by
  intro pins s σ H xs us Q I r ⟨N, ds, w, nf, hd, hg, q⟩
  match ds, hg, hd with
  | [.list l], hg, hd =>
    cases hg
    obtain ⟨x, rfl, rt⟩ := rts1 hd
    obtain ⟨a, ys, rfl, h1, r1⟩ := rt.lst
    exact call_tuple_of pins s σ H _ us Q I r ⟨a, ys, rfl, .inl ⟨SqL.of h1, fun t nt => q _ _ (.one nt) (.newT nt (nf t nt) r1)⟩⟩
  | [.tuple l], hg, hd =>
    cases hg
    obtain ⟨x, rfl, rt⟩ := rts1 hd
    obtain ⟨a, ys, rfl, h1, r1⟩ := rt.tup
    exact call_tuple_of pins s σ H _ us Q I r ⟨a, ys, rfl, .inr ⟨h1.sq, q _ H .refl rt⟩⟩
theorem b_all (hc : X.calm = true) : CallR X (.builtin "all") (RC X.K gAll) := by
  intro pins s σ H xs us Q I r ⟨N, ds, w, nf, hd, hg, q⟩
  match ds, hg, hd with
  | [.list l], hg, hd =>
    dsimp only [gAll] at hg
    cases ei : boolsOf l with
    | none => rw [ei] at hg; cases hg
    | some is =>
      rw [ei] at hg; cases hg
      obtain ⟨x, rfl, rt⟩ := rts1 hd
      obtain ⟨a, ys, rfl, h1, r1⟩ := rt.lst
      exact cr_all hc pins s σ H _ us Q I r ⟨a, is, rfl, by rw [← boolsOf_rds ei r1]; exact SqL.of h1, q _ H .refl .bl⟩
theorem b_any (hc : X.calm = true) : CallR X (.builtin "any") (RC X.K gAny) := by
  intro pins s σ H xs us Q I r ⟨N, ds, w, nf, hd, hg, q⟩
  match ds, hg, hd with
  | [.list l], hg, hd =>
    dsimp only [gAny] at hg
    cases ei : boolsOf l with
    | none => rw [ei] at hg; cases hg
    | some is =>
      rw [ei] at hg; cases hg
      obtain ⟨x, rfl, rt⟩ := rts1 hd
      obtain ⟨a, ys, rfl, h1, r1⟩ := rt.lst
      exact cr_any hc pins s σ H _ us Q I r ⟨a, is, rfl, by rw [← boolsOf_rds ei r1]; exact SqL.of h1, q _ H .refl .bl⟩
end
end EV
end

section
set_option maxRecDepth 100000
set_option maxHeartbeats 4000000
namespace EV
open PySem PySem.Spec L2
open LamX (TabS Tabs ExtN)
open PyProof.Rows (envOfC)

/-! ### a def's promise, where no repr is under way -/
structure FnG (P : Program) (w : World) (K : PySem.W.Frag) (mg : Str → Option Value) (base : Heap) (k : Nat) (f : Addr) (fd : FuncData) (ps : List Str) (sp : Sp) : Prop where
  len : ∀ vs H Q E, sp vs H Q E → vs.length = ps.length
  run : ∀ (A : Around) (outer : List Env) (s : Shared) (H : Hp) (args : Args) (us : List Value) (vs : List V) (Q : VK), Room k A → A.guards = some [] → Env0 P w K mg base A outer s H → BindsTo s fd args (ps.zip us) → Vals vs us → sp vs H Q E0 →
    codeAny (model P w) A (.call (.ref f) args) (CR CX0 outer P w H s Q E0) s
theorem FnG.mono {P : Program} {w : World} {K : PySem.W.Frag} {mg : Str → Option Value} {base : Heap} {j k : Nat} {f : Addr} {fd : FuncData} {ps : List Str} {sp : Sp} (F : FnG P w K mg base j f fd ps sp) (h : j ≤ k) : FnG P w K mg base k f fd ps sp :=
  ⟨F.len, fun A outer s H args us vs Q hr hg => F.run A outer s H args us vs Q (hr.mono h) hg⟩
theorem FnG.imp {P : Program} {w : World} {K : PySem.W.Frag} {mg : Str → Option Value} {base : Heap} {k : Nat} {f : Addr} {fd : FuncData} {ps : List Str} {sp sp' : Sp} (F : FnG P w K mg base k f fd ps sp) (h : ∀ vs H Q E, sp' vs H Q E → sp vs H Q E) : FnG P w K mg base k f fd ps sp' :=
  ⟨fun vs H Q E q => F.len vs H Q E (h _ _ _ _ q), fun A outer s H args us vs Q hr hg he hb hv hs => F.run A outer s H args us vs Q hr hg he hb hv (h _ _ _ _ hs)⟩
/-- the code object of the def at f -/
def codeOf (K : PySem.W.Frag) (f : Addr) : Value := match K.lookup f with
  | some ⟨_, _, .func fd, _⟩ => fd.code
  | _ => .none
theorem FunD.okG {P : Program} {w : World} {K : PySem.W.Frag} {mg : Str → Option Value} {base : Heap} {x qual : Str} {params : Arguments} {body : List Stmt} {scope : Scope} {dvs : List V} {kws : List (Str × V)} {f : Addr} {fd : FuncData} {N ps : List Str} {k : Nat} {sp : Sp}
    (F : FunD K x qual params body scope dvs kws f fd) (S : FnScope N ps scope) (len : ∀ vs H Q E, sp vs H Q E → vs.length = ps.length)
    (hbody : ∀ (A : Around) (outer : List Env) (s : Shared) (H : Hp) (vs : List V) (Q : VK), Room k (A.deeper (envOfC qual scope s.heap.objs.size f (codeOf K f))) → A.guards = some [] → sp vs H Q E0 →
      ∃ t, PSs (cxOf CX0 P w K mg base N qual scope f (codeOf K f) A outer s H E0) body t ∧ t { nx := fun _ H' => Q .non H', rt := Q } (start N vs) H) : FnG P w K mg base (k + 1) f fd ps sp := by
  obtain ⟨oc, od, dV, kV, doc, pm, an, cdv, ct, osl, rfl, lk, hcd, _, _⟩ := F.ex
  have ecd : codeOf K f = cdv := by unfold codeOf; rw [lk]
  rw [ecd] at hbody
  refine ⟨len, fun Ar outs sh Hh ars uvs vvs Qq room gds ev binds rel prom => ?_⟩
  have lens := len _ _ _ _ prom
  have kin : K.In sh.heap := ev.mod.kin.keeps fun b o e => (ev.bs b o e).1
  have nolim : sh.heap.NoLimit := ev.mod.nolimit.keeps fun b o e => (ev.bs b o e).1
  have kinds : ∀ q ∈ ps.zip uvs, scope.names.lookup q.1 = some .local ∨ (scope.names.lookup q.1 = some .cell ∧ ((cellsFrom (sh.heap.objs.size + 1) scope.names []).lookup q.1).isSome = true) := by
    rintro ⟨nm, vl⟩ hq
    have z := S.par nm (List.of_mem_zip hq).1
    exact z.imp id fun z => ⟨z, PySem.W.cellsFrom_some _ _ _ (.inl z)⟩
  refine codeAny_call_function room.depth (kin _ _ lk) rfl S.co S.gen rfl (PySem.W.codeRec_of kin hcd) (binds _ _ _ _ (wpAny_newFunctionEnv_cells S.kind kinds ?_))
  intro env' e' sh1 ic
  subst e'
  refine ⟨nolim.keeps ic.toInCall.keep, codeAny_func ?_⟩
  obtain ⟨t, der, rd⟩ := hbody Ar outs sh Hh vvs Qq (room.deeper _) gds prom
  have I0 := inv_start (CX := CX0) (P := P) (w := w) (K := K) (mg := mg) (base := base) (E := E0) (cd := cdv) (qual := qual) (f := f) S room.hd ev lens rel ic
  refine wpAny_mono (der.run [] sh1 (start N vvs) Hh _ I0 rd) ?_ (fun _ _ z => z)
  intro fl sh2 sp2
  cases fl with
  | ret u =>
    obtain ⟨v, _, H2, J, rv, z⟩ := sp2
    exact ⟨v, H2, J.os, J.bare, J.base, J.hok, rv, z⟩
  | next =>
    obtain ⟨_, H2, J, z⟩ := sp2
    exact ⟨V.non, H2, J.os, J.bare, J.base, J.hok, rfl, z⟩
  | brk => obtain ⟨_, _, _, z⟩ := sp2; exact z.elim
  | cont => obtain ⟨_, _, _, z⟩ := sp2; exact z.elim

/-! ### promises of evaluators -/
/-- a value given to a def -/
def RA (K : PySem.W.Frag) (H : Hp) (N : Addr → Prop) (as : List Addr) (x : V) : SV → Prop
  | .dat d => RD K H N d x
  | .ref n => ∃ a, as[n]? = some a ∧ x = .ref a
  | .fz ds => ∃ a xs, x = .ref a ∧ (Rd H a (.lst xs) ∧ ¬ N a) ∧ RDs K H N ds xs
  | _ => False
inductive RAs (K : PySem.W.Frag) (H : Hp) (N : Addr → Prop) (as : List Addr) : List V → List SV → Prop where
  | nil : RAs K H N as [] []
  | cons {x w xs ws} : RA K H N as x w → RAs K H N as xs ws → RAs K H N as (x :: xs) (w :: ws)
theorem RAs.len {K : PySem.W.Frag} {H : Hp} {N : Addr → Prop} {as : List Addr} {xs : List V} {ws : List SV} (h : RAs K H N as xs ws) : xs.length = ws.length := by
  induction h with
  | nil => rfl
  | cons _ _ ih => simp [ih]
abbrev FF := List SV → Sto → Option (SV × Sto)
def spF (K : PySem.W.Frag) (T : List (Addr × Str)) (np : Nat) (g : FF) : Sp := fun vs H Q _ => ∃ (A : Addr → Prop) (sa : List Addr) (ws : List SV) (st : Sto) (w : SV) (st' : Sto),
  vs.length = np ∧ sa.length = st.length ∧ (∀ a, A a → (∃ o, H a = some o) ∧ a ∉ sa ++ T.map (·.1)) ∧ (sa ++ T.map (·.1)).Nodup ∧ Tabs T H ∧
  StoR K H (fun a => A a ∨ a ∈ sa ++ T.map (·.1)) (sa ++ T.map (·.1)) st ∧ RAs K H (fun a => A a ∨ a ∈ sa ++ T.map (·.1)) (sa ++ T.map (·.1)) vs ws ∧ g ws st = some (w, st') ∧ st'.length = st.length ∧
  ∀ x H', Kp (sa ++ T.map (·.1)) H H' → Tabs T H' → StoR K H' (fun a => A a ∨ a ∈ sa ++ T.map (·.1)) (sa ++ T.map (·.1)) st' → RV K H H' (fun a => A a ∨ a ∈ sa ++ T.map (·.1)) (sa ++ T.map (·.1)) x w → Q x H'
/-- what a value is for a callee -/
def argOf : SV → Option SV
  | .dat d => some (.dat d)
  | .own ds => some (.dat (.list ds))
  | .ref n => some (.ref n)
  | .fz ds => some (.fz ds)
  | _ => none
def argsOf : List SV → Option (List SV)
  | [] => some []
  | w :: ws => match argOf w, argsOf ws with
    | some d, some ds => some (d :: ds)
    | _, _ => none
/-- a value that a def gives: data, a fresh list -/
def retOk : SV → Bool
  | .dat _ => true
  | .own _ => true
  | _ => false
def fCall (g : FF) (a : FA) : FE := fun ρ st => match a ρ st with
  | some (ws, st1) => match argsOf ws with
    | some vs => match g vs st1 with
      | some (w, st2) => if retOk w = true ∧ st2.length = st1.length then some (w, st2) else none
      | none => none
    | none => none
  | none => none
theorem RVs.args {K : PySem.W.Frag} {H0 H : Hp} {N : Addr → Prop} {as : List Addr} : ∀ {xs : List V} {ws vs : List SV}, RVs K H0 H N as xs ws → argsOf ws = some vs → RAs K H N as xs vs
  | _, _, _, .nil, e => by cases e; exact .nil
  | _, _, _, .cons (w := w) (ws := ws) r t, e => by
    unfold argsOf at e
    cases ea : argOf w with
    | none => rw [ea] at e; cases e
    | some d => cases eb : argsOf ws with
      | none => rw [ea, eb] at e; cases e
      | some ds =>
        rw [ea, eb] at e; cases e
        refine .cons ?_ (t.args eb)
        cases w with
        | dat d' => cases ea; exact r
        | own ds => cases ea; exact r.esc rfl
        | ref n => cases ea; exact r
        | fz ds => cases ea; exact r
        | _ => cases ea
theorem call_weak {K : PySem.W.Frag} {g : FF} {np : Nat} {fa : FA} {σ : L2.St} {H : Hp} {Q : VK} (hn : ∀ ws st w st', g ws st = some (w, st') → ws.length = np) (h : simE K T (fCall g fa) σ H Q) : tCall (spF K T np g) [] E0 (simA K T fa) σ H Q := by
  obtain ⟨A, He, ase, ρ, st, os, as, w, st', ok, e, q⟩ := h
  unfold fCall at e
  cases ea : fa ρ st with
  | none => rw [ea] at e; cases e
  | some r =>
    obtain ⟨ws, st1⟩ := r
    rw [ea] at e
    dsimp only at e
    cases ed : argsOf ws with
    | none => rw [ed] at e; cases e
    | some vs =>
      rw [ed] at e
      dsimp only at e
      cases eg : g vs st1 with
      | none => rw [eg] at e; cases e
      | some r =>
        obtain ⟨w', st2⟩ := r
        rw [eg] at e
        dsimp only at e
        split at e
        · rename_i hz
          cases e
          refine ⟨A, He, ase, ρ, st, os, as, ws, st1, ok, ea, fun xs H1 k1 ok1 r1 => ?_⟩
          show spF K T np g (xs ++ []) H1 Q E0
          rw [List.append_nil]
          obtain ⟨more, epre, elen, hmore⟩ := ok1.pre
          have eas : as = (ase ++ more) ++ T.map (·.1) := by rw [epre, List.append_assoc]
          have eN : ∀ a, Nn A os as a ↔ ((A a ∨ ∃ i, os i = some a) ∨ a ∈ (ase ++ more) ++ T.map (·.1)) := fun a => by rw [← eas]; unfold Nn; exact or_assoc.symm
          have eN' : (fun a => (A a ∨ ∃ i, os i = some a) ∨ a ∈ (ase ++ more) ++ T.map (·.1)) = Nn A os as := by funext a; exact propext (eN a).symm
          have ra := r1.args ed
          refine ⟨fun a => A a ∨ ∃ i, os i = some a, ase ++ more, vs, st1, w, st', ?_, by rw [← elen, List.length_append], fun a ha => ?_, by rw [← eas]; exact ok1.adup, ok1.tab, ?_, ?_, eg, hz.2, fun x H' k tb sr rv => ?_⟩
          · rw [ra.len]; exact hn _ _ _ _ eg
          · rw [← eas]
            rcases ha with ha | ⟨i, ha⟩
            · exact ⟨(ok1.aal a ha).1, (ok1.aal a ha).2.1⟩
            · exact ⟨ok1.alive (.inr (.inl ⟨i, ha⟩)), (ok1.osf i a ha).2⟩
          · rw [eN', ← eas]; exact ok1.sto
          · rw [eN', ← eas]; exact ra
          · rw [eN', ← eas] at sr rv
            rw [← eas] at k
            refine q x H' (k1.trans k) ⟨ok1.lr, fun i => ?_, sr, ⟨more, epre, by rw [hz.2]; exact elen, hmore⟩, tb, ok1.osf, ok1.odup, ok1.adup, fun a o e n1 n2 => ?_, fun a ha => ?_⟩ (rv.from k1 nn_as)
            · have s := ok1.slot i
              have kq : ∀ b o, H1 b = some o → ¬ Nn A os as b → H' b = some o := fun b o e n => k b o e fun z => n (nn_as _ z)
              cases g : gs ρ i with
              | non => rw [g] at s; exact s
              | dat d => rw [g] at s; obtain ⟨e, v, e2, r⟩ := s; exact ⟨e, v, e2, RD.mv kq (fun _ z => .inl z) _ _ r⟩
              | own ds => rw [g] at s; obtain ⟨b, xs, e, e2, e3, r⟩ := s; exact ⟨b, xs, e, e2, k _ _ e3 (ok1.osf i b e).2, RDs.mv kq (fun _ z => .inl z) _ _ r⟩
              | pk ds => rw [g] at s; cases s
              | ref n => rw [g] at s; exact s
              | fz ds => rw [g] at s; obtain ⟨e, b, xs, e2, ⟨e3, e4⟩, r⟩ := s; exact ⟨e, b, xs, e2, ⟨Rd.mv e3 e4 kq, e4⟩, RDs.mv kq (fun _ z => .inl z) _ _ r⟩
            · have n1' : a ∉ ase := n1
              have n2' : a ∉ T.map (·.1) := n2
              have e' : He a = some o := e
              by_cases hm : a ∈ more
              · exact absurd ((hmore a hm).symm.trans e) (fun z => nomatch z)
              · exact k a o (ok1.keep a o e n1 n2) (by rw [epre]; simp only [List.mem_append]; intro z; exact z.elim n1' fun z => z.elim hm n2')
            · obtain ⟨⟨o, e⟩, n, n'⟩ := ok1.aal a ha
              exact ⟨⟨o, k a o e n⟩, n, n'⟩
        · cases e
section
variable {X : Cx} {pos p : Pos} {e : Expr} {es : List Expr} {x : Str}
theorem run_fnG {pins : List (Addr × Obj)} {σ : L2.St} {H : Hp} {s : Shared} {Q : VK} {us : List Value} {vs : List V} {k : Nat} {f : Addr} {fd : FuncData} {ps : List Str} {sp : Sp} (F : FnG X.prog X.w X.K X.mg X.base k f fd ps sp) (hr : Room k X.A) (hG : X.A.guards = some []) (hb : Binds X.K fd ps [])
    (I : Inv X pins σ H s) (r : Vals vs us) (h : sp vs H Q E0) : wpAny (model X.prog X.w) X.A (call (.ref f) us) (EP X pins σ Q) X.xe s := by
  have hl : (us ++ []).length = ps.length := by rw [List.append_nil, ← r.length]; exact F.len _ _ _ _ h
  have b0 := hb s us I.kIn hl
  rw [List.append_nil] at b0
  refine wpAny_call (codeAny_mono (F.run X.A X.stack s H ⟨us, []⟩ us vs Q hr hG I.env0 b0 r h) ?_)
  intro res s2 hc
  cases res with
  | error e => exact False.elim hc
  | ok fl => cases fl with
    | ret u => exact I.after hc
    | _ => exact False.elim hc
theorem de_call {k : Nat} {f : Addr} {fd : FuncData} {ps : List Str} {g : FF} {fa : FA} (F : FnG X.prog X.w X.K X.mg X.base k f fd ps (spF X.K T ps.length g)) (hb : Binds X.K fd ps []) (hm : X.mg x = some (.ref f)) (hk : PySem.W.keepIn X.K (.ref f) = true) (hr : Room k X.A) (hG : X.A.guards = some [])
    (hn : ∀ ws st w st', g ws st = some (w, st') → ws.length = ps.length) (ha : DA T X (e :: es) fa) (hg : Gl X x := by rfl)
    (hdb : (x == ("__debug__" : Str)) = false := by decide) (he : starEach (e :: es) X.env = (false, eval e X.env) :: starEach es X.env := by rfl) (hpl : (backTo pos (starEach es X.env)).any (·.1) = false := by rfl) :
    DE T X (.Call (.Name x p) (e :: es) [] pos) (fCall g fa) := by
  refine PE.weak (t := tCall (spF X.K T ps.length g) [] E0 (simA X.K T fa)) ⟨fun pins s σ H Q I h => ?_⟩ fun _ _ _ => call_weak hn
  refine wpAny_Call_Name_kw (ld_glob I hg hm ?_ hdb)
  refine PySem.W.callWith_K (h₀ := X.base) I.ok.mod.kin hk (thn (ha.run pos pins s σ H _ I h) fun us s1 ⟨vs, H1, I1, r, q⟩ => ⟨I1.kIn, ?_⟩) he hpl
  have q' : spF X.K T ps.length g (vs ++ []) H1 Q E0 := q
  rw [List.append_nil] at q'
  exact run_fnG F hr hG hb I1 r q'
theorem spF_len {K : PySem.W.Frag} {np : Nat} {g : FF} : ∀ vs H Q E, spF K T np g vs H Q E → vs.length = np := fun _ _ _ _ ⟨_, _, _, _, _, _, h, _⟩ => h
end
end EV
end

section
set_option maxRecDepth 100000
set_option maxHeartbeats 4000000
namespace EV
open PySem PySem.Spec L2
open LamX (TabS Tabs ExtN)

/-! ### changing a frame -/
theorem gt_set_same {σ : L2.St} {i : Nat} {v : V} (h : i < σ.length) : gt (σ.set i (some v)) i = some v := by unfold gt; rw [List.getElem?_set_self h]; rfl
theorem gt_set_ne {σ : L2.St} {i j : Nat} {o : Option V} (h : j ≠ i) : gt (σ.set i o) j = gt σ j := by unfold gt; rw [List.getElem?_set_ne (Ne.symm h)]
theorem gs_set_same {ρ : Fr} {i : Nat} {w : SV} (h : i < ρ.length) : gs (ρ.set i w) i = w := by unfold gs; rw [List.getElem?_set_self h]; rfl
theorem gs_set_ne {ρ : Fr} {i j : Nat} {w : SV} (h : j ≠ i) : gs (ρ.set i w) j = gs ρ j := by unfold gs; rw [List.getElem?_set_ne (Ne.symm h)]
def osSet (os : Os) (i : Nat) (o : Option Addr) : Os := fun j => if j = i then o else os j
theorem osSet_same {os : Os} {i : Nat} {o : Option Addr} : osSet os i o i = o := by simp [osSet]
theorem osSet_ne {os : Os} {i j : Nat} {o : Option Addr} (h : j ≠ i) : osSet os i o j = os j := by simp [osSet, h]
section
variable {K : PySem.W.Frag} {H H' : Hp} {N N' : Addr → Prop} {as : List Addr} {x : Option V} {o : Option Addr} {w : SV}
theorem SlotR.mv (h : SlotR K H N as x o w) (k : ∀ a u, H a = some u → ¬ N a → H' a = some u) (n : ∀ a, N' a → N a ∨ H a = none) (ko : ∀ a xs, o = some a → H a = some (.lst xs) → H' a = some (.lst xs)) : SlotR K H' N' as x o w := by
  cases w with
  | non => exact h
  | dat d => obtain ⟨e, v, e2, r⟩ := h; exact ⟨e, v, e2, RD.mv k n _ _ r⟩
  | own ds => obtain ⟨b, xs, e, e2, e3, r⟩ := h; exact ⟨b, xs, e, e2, ko b xs e e3, RDs.mv k n _ _ r⟩
  | pk ds => cases h
  | ref n => exact h
  | fz ds =>
    obtain ⟨e, b, xs, e2, ⟨e3, e4⟩, r⟩ := h
    refine ⟨e, b, xs, e2, ⟨Rd.mv e3 e4 k, fun z => ?_⟩, RDs.mv k n _ _ r⟩
    rcases n b z with z | z
    · exact e4 z
    · obtain ⟨u, e⟩ := Rd.some e3; rw [e] at z; cases z
theorem StoR.mv {st : Sto} (h : StoR K H N as st) (k : ∀ a u, H a = some u → ¬ N a → H' a = some u) (n : ∀ a, N' a → N a ∨ H a = none) (ka : ∀ a xs, a ∈ as → H a = some (.lst xs) → H' a = some (.lst xs)) : StoR K H' N' as st :=
  ⟨h.1, fun m ds e => let ⟨a, xs, e1, e2, r⟩ := h.2 m ds e; ⟨a, xs, e1, ka a xs (List.mem_of_getElem? e1) e2, RDs.mv k n _ _ r⟩⟩
end
section
variable {c : Cf} {σ σ2 : L2.St} {H H' : Hp} {ρ ρ2 : Fr} {st st2 : Sto} {os : Os} {as : List Addr}
theorem StOk.len2 (ok : StOk c σ H ρ st os as) (ok2 : StOk c σ2 H' ρ2 st2 os as) : st2.length = st.length := by
  obtain ⟨m, e, l, _⟩ := ok.pre
  obtain ⟨m2, e2, l2, _⟩ := ok2.pre
  have h1 := congrArg List.length e
  have h2 := congrArg List.length e2
  simp only [List.length_append] at h1 h2
  omega
/-- the slots of before, the store of now -/
theorem StOk.back (ok : StOk c σ H ρ st os as) (ok2 : StOk c σ2 H' ρ2 st2 os as) (k : Kp as H H') : StOk c σ H' ρ st2 os as := by
  have kq : ∀ b o, H b = some o → ¬ Nn c.A os as b → H' b = some o := fun b o e n => k b o e fun z => n (nn_as _ z)
  refine ⟨ok.lr, fun i => (ok.slot i).mv kq (fun _ z => .inl z) fun a xs e e2 => k a _ e2 (ok.osf i a e).2, ok2.sto, ok2.pre, ok2.tab, ok.osf, ok.odup, ok.adup, ok2.keep, ok2.aal⟩
/-- a slot is given data -/
theorem StOk.put (ok : StOk c σ H ρ st os as) {i : Nat} {v : V} {d : PyData} (hi : i < ρ.length) (r : RD c.K H (Nn c.A os as) d v) : StOk c (σ.set i (some v)) H (ρ.set i (.dat d)) st (osSet os i none) as := by
  have sub : ∀ a, Nn c.A (osSet os i none) as a → Nn c.A os as a := fun a h => by
    rcases h with h | ⟨j, h⟩ | h
    · exact .inl h
    · by_cases e : j = i
      · subst e; rw [osSet_same] at h; cases h
      · rw [osSet_ne e] at h; exact .inr (.inl ⟨j, h⟩)
    · exact .inr (.inr h)
  have kq : ∀ b o, H b = some o → ¬ Nn c.A os as b → H b = some o := fun _ _ e _ => e
  have sub' : ∀ a, Nn c.A (osSet os i none) as a → Nn c.A os as a ∨ H a = none := fun a h => .inl (sub a h)
  have ose : ∀ j a, osSet os i none j = some a → os j = some a := fun j a h => by
    by_cases e : j = i
    · subst e; rw [osSet_same] at h; cases h
    · rwa [osSet_ne e] at h
  refine ⟨by simp [ok.lr], fun j => ?_, ok.sto.mv kq sub' (fun _ _ _ e => e), ok.pre, ok.tab, fun j a h => ok.osf j a (ose j a h), fun j k a h1 h2 => ok.odup j k a (ose j a h1) (ose k a h2), ok.adup, ok.keep, fun a h => ?_⟩
  · by_cases e : j = i
    · subst e
      rw [gt_set_same (by rw [ok.lr]; exact hi), gs_set_same hi, osSet_same]
      exact ⟨rfl, v, rfl, RD.mv kq sub' _ _ r⟩
    · rw [gt_set_ne e, gs_set_ne e, osSet_ne e]
      exact (ok.slot j).mv kq sub' fun _ _ _ e => e
  · obtain ⟨h1, h2, h3⟩ := ok.aal a h
    exact ⟨h1, h2, fun j z => h3 j (ose j a z)⟩
/-- a tracked list that nothing but its owner sees is changed -/
theorem StOk.updA (ok : StOk c σ H ρ st os as) {a : Addr} {xs ys : List V} (ha : c.A a) (e : H a = some (.lst xs)) (ne : c.He a = none) : StOk c σ (L2.upd H a (.lst ys)) ρ st os as := by
  have k : ∀ b u, H b = some u → b ≠ a → (L2.upd H a (.lst ys)) b = some u := fun b u q n => by rw [upd_ne n]; exact q
  have kq : ∀ b u, H b = some u → ¬ Nn c.A os as b → (L2.upd H a (.lst ys)) b = some u := fun b u q n => k b u q fun z => n (by rw [z]; exact .inl ha)
  obtain ⟨_, na, no⟩ := ok.aal a ha
  refine ⟨ok.lr, fun i => (ok.slot i).mv kq (fun _ z => .inl z) fun b zs e1 e2 => k b _ e2 fun z => no i (by rw [← z]; exact e1), ok.sto.mv kq (fun _ z => .inl z) fun b zs hb e2 => k b _ e2 fun z => na (by rw [← z]; exact hb), ok.pre, fun p hp => ?_, ok.osf, ok.odup, ok.adup, fun b o q n1 n2 => ?_, fun b hb => ?_⟩
  · obtain ⟨ps, h1, h2, h3⟩ := ok.tab p hp
    refine ⟨ps, k _ _ h1 (ne_of h1 e (by intro z; cases z)), h2, fun pos cv hc => ?_⟩
    obtain ⟨cc, e1, e2⟩ := h3 pos cv hc
    exact ⟨cc, e1, k _ _ e2 (ne_of e2 e (by intro z; cases z))⟩
  · by_cases z : b = a
    · subst z; rw [ne] at q; cases q
    · exact k b o (ok.keep b o q n1 n2) z
  · obtain ⟨⟨o, q⟩, r⟩ := ok.aal b hb
    by_cases z : b = a
    · subst z; exact ⟨⟨_, upd_same⟩, r⟩
    · exact ⟨⟨o, k b o q z⟩, r⟩
/-- one more address to keep away from, newly made -/
theorem StOk.addA (ok : StOk c σ H ρ st os as) {a : Addr} {o : HO} (n : H a = none) : StOk { c with A := fun b => c.A b ∨ b = a } σ (L2.upd H a o) ρ st os as := by
  have ok1 := ok.upd (o := o) n
  have sub : ∀ b, Nn (fun b => c.A b ∨ b = a) os as b → Nn c.A os as b ∨ H b = none := fun b h => by
    rcases h with (h | h) | h
    · exact .inl (.inl h)
    · exact .inr (by rw [h]; exact n)
    · exact .inl (.inr h)
  have kq : ∀ b u, H b = some u → ¬ Nn c.A os as b → (L2.upd H a o) b = some u := fun b u q _ => by rw [upd_ne (ne_of_none q n)]; exact q
  have k : ∀ b u, H b = some u → (L2.upd H a o) b = some u := fun b u q => by rw [upd_ne (ne_of_none q n)]; exact q
  refine ⟨ok.lr, fun i => (ok.slot i).mv kq sub fun b zs _ e2 => k b _ e2, ok.sto.mv kq sub fun b zs _ e2 => k b _ e2, ok.pre, ok1.tab, ok.osf, ok.odup, ok.adup, ok1.keep, fun b hb => ?_⟩
  rcases hb with hb | hb
  · exact ok1.aal b hb
  · subst hb
    exact ⟨⟨_, upd_same⟩, ok.nas n, fun i e => by
      obtain ⟨u, q⟩ := ok.alive (.inr (.inl ⟨i, e⟩)); rw [n] at q; cases q⟩
theorem StOk.subA {A' : Addr → Prop} (ok : StOk { c with A := A' } σ H ρ st os as) (h : ∀ b, c.A b → A' b) : StOk c σ H ρ st os as := by
  have sub : ∀ b, Nn c.A os as b → Nn A' os as b ∨ H b = none := fun b z => .inl (z.imp_left (h b))
  have kq : ∀ b u, H b = some u → ¬ Nn A' os as b → H b = some u := fun _ _ e _ => e
  exact ⟨ok.lr, fun i => (ok.slot i).mv kq sub fun _ _ _ e => e, ok.sto.mv kq sub fun _ _ _ e => e, ok.pre, ok.tab, ok.osf, ok.odup, ok.adup, ok.keep, fun b hb => ok.aal b (h b hb)⟩
end

/-! ### what is walked -/
abbrev FI := Fr → Sto → Option (List PyData × Sto)
def WalkD (K : PySem.W.Frag) (J : It) (ds : List PyData) (H0 : Hp) (N0 M0 : Addr → Prop) : Prop := ∃ (G : Hp → Prop) (Y : Nat → Hp → V → Hp → Prop), Walk J ds.length G Y ∧ (∀ H, Kn M0 H0 H → G H) ∧
  ∀ i x H H', i < ds.length → Kn M0 H0 H → Y i H x H' → Ext H H' ∧ ∃ d, ds[i]? = some d ∧ ∀ N : Addr → Prop, (∀ b, N b → N0 b ∨ H0 b = none) → (∀ b, H b = none → ¬ N b) → RD K H' N d x
def mOf (pk : Bool) (os : Os) (as : List Addr) : Addr → Prop := if pk = true then (fun a => a ∈ as) else Mm os as
def simI (K : PySem.W.Frag) (T : List (Addr × Str)) (pk : Bool) (f : FI) : TI := fun σ H R => ∃ A He ase ρ st os as ds st', StOk ⟨K, A, He, ase, T⟩ σ H ρ st os as ∧ f ρ st = some (ds, st') ∧
  ∀ J H', Kp as H H' → StOk ⟨K, A, He, ase, T⟩ σ H' ρ st' os as → WalkD K J ds H' (Nn A os as) (mOf pk os as) → R J H'
def DI (T : List (Addr × Str)) (pk : Bool) (X : Cx) (tg iter : Expr) (f : FI) : Prop := PI X tg iter (simI X.K T pk f)
theorem PI.weak {X : Cx} {tg iter : Expr} {t t' : TI} (h : PI X tg iter t) (k : ∀ σ H Q, t' σ H Q → t σ H Q) : PI X tg iter t' := ⟨fun pins s σ H R I q => h.run pins s σ H R I (k σ H R q)⟩
theorem PI.or {X : Cx} {tg iter : Expr} {t t' : TI} (h : PI X tg iter t) (h' : PI X tg iter t') : PI X tg iter (fun σ H R => t σ H R ∨ t' σ H R) :=
  ⟨fun pins s σ H R I q => q.elim (h.run pins s σ H R I) (h'.run pins s σ H R I)⟩
def itOf (pk : Bool) : SV → Option (Bool × List PyData)
  | .dat (.list ds) => some (true, ds)
  | .dat (.tuple ds) => some (false, ds)
  | .own ds => some (true, ds)
  | .pk ds => if pk = true then some (true, ds) else none
  | .fz ds => some (true, ds)
  | _ => none
theorem mOf_n {pk : Bool} {A : Addr → Prop} {os : Os} {as : List Addr} {a : Addr} (h : ¬ Nn A os as a) : ¬ mOf pk os as a := fun z => by
  cases pk
  · exact h (.inr z)
  · exact h (nn_as _ z)
theorem it_seq {c : Cf} {σ : L2.St} {H H0 : Hp} {ρ : Fr} {st : Sto} {os : Os} {as : List Addr} {pk k : Bool} {x : V} {w : SV} {ds : List PyData} (ok : StOk c σ H ρ st os as) (r : RV c.K H0 H (Nn c.A os as) as x w) (e : itOf pk w = some (k, ds)) :
    ∃ a xs, x = .ref a ∧ SqK k c.K H a xs ∧ RDs c.K H (Nn c.A os as) ds xs ∧ ∀ H', Kn (mOf pk os as) H H' → SqK k c.K H' a xs := by
  cases w with
  | dat d => cases d with
    | list l => cases e; obtain ⟨a, xs, e, q, r⟩ := r; exact ⟨a, xs, e, SqL.of q.1, r, fun H' kn => SqL.of (kn _ _ q.1 (mOf_n q.2))⟩
    | tuple l =>
      cases e; obtain ⟨a, xs, e, q, r⟩ := r
      refine ⟨a, xs, e, q.sq, r, fun H' kn => ?_⟩
      rcases q with ⟨q1, q2⟩ | q
      · refine .inl ?_
        rcases q1 with q1 | ⟨o, q1⟩
        · exact .inl (kn _ _ q1 (mOf_n q2))
        · exact .inr ⟨o, kn _ _ q1 (mOf_n q2)⟩
      · exact .inr q
    | _ => cases e
  | own l => cases e; obtain ⟨a, xs, e, q, r, _, n⟩ := r; exact ⟨a, xs, e, SqL.of q, r, fun H' kn => SqL.of (kn _ _ q (mOf_n n))⟩
  | pk l =>
    cases pk with
    | false => cases e
    | true => cases e; obtain ⟨a, xs, e, q, n, r⟩ := r; exact ⟨a, xs, e, SqL.of q, r, fun H' kn => SqL.of (kn _ _ q n)⟩
  | fz l =>
    cases e; obtain ⟨a, xs, e, ⟨q1, q2⟩, r⟩ := r
    refine ⟨a, xs, e, .inl q1, r, fun H' kn => .inl ?_⟩
    rcases q1 with q1 | ⟨o, q1⟩
    · exact .inl (kn _ _ q1 (mOf_n q2))
    · exact .inr ⟨o, kn _ _ q1 (mOf_n q2)⟩
  | _ => cases e
theorem mOf_sub {pk : Bool} {A : Addr → Prop} {os : Os} {as : List Addr} {a : Addr} (h : mOf pk os as a) : Nn A os as a := by
  cases pk
  · exact .inr h
  · exact nn_as _ h
/-- an item of a list as it stood stands still -/
theorem item_mv {K : PySem.W.Frag} {H0 H : Hp} {A : Addr → Prop} {os : Os} {as : List Addr} {pk : Bool} {d : PyData} {x : V} (r : RD K H0 (Nn A os as) d x) (kn : Kn (mOf pk os as) H0 H) {N : Addr → Prop} (hN : ∀ b, N b → Nn A os as b ∨ H0 b = none) : RD K H N d x :=
  RD.mv (fun b o e n => kn b o e fun z => n (mOf_sub z)) hN _ _ r
def fItS (pk : Bool) (a : FE) : FI := fun ρ st => match a ρ st with
  | some (w, st1) => match itOf pk w with
    | some (_, ds) => some (ds, st1)
    | none => none
  | none => none
section
variable {X : Cx} {pos p tpos : Pos} {tg e e2 e3 : Expr} {es elts : List Expr} {kk : Nat} {x : Str} {pk : Bool}
theorem di_seq {fa : FE} (ha : DE T X e fa) : DI T pk X tg e (fItS pk fa) := PI.weak (PI.or (pi_list ha) (pi_tup ha)) fun σ H R h => by
  obtain ⟨A, He, ase, ρ, st, os, as, ds, st', ok, e, q⟩ := h
  unfold fItS at e
  cases ea : fa ρ st with
  | none => rw [ea] at e; cases e
  | some r =>
    obtain ⟨w, st1⟩ := r
    rw [ea] at e
    dsimp only at e
    cases ei : itOf pk w with
    | none => rw [ei] at e; cases e
    | some r =>
      obtain ⟨k, ds'⟩ := r
      rw [ei] at e; cases e
      cases k with
      | true =>
        refine .inl ⟨A, He, ase, ρ, st, os, as, w, _, ok, ea, fun x H1 k1 ok1 r1 => ?_⟩
        obtain ⟨a, xs, ex, sq, rd, st⟩ := it_seq ok1 r1 ei
        refine ⟨a, ex, ⟨xs, sq⟩, q _ H1 k1 ok1 ⟨_, _, by rw [← rd.len]; exact walk_list, st, fun i y H2 H3 hi kn hy => ?_⟩⟩
        obtain ⟨e1, e2⟩ := hy
        subst e1
        obtain ⟨d, e3, r3⟩ := rd.get' e2
        exact ⟨.refl, d, e3, fun N hN _ => item_mv r3 kn hN⟩
      | false =>
        refine .inr ⟨A, He, ase, ρ, st, os, as, w, _, ok, ea, fun x H1 k1 ok1 r1 => ?_⟩
        obtain ⟨a, xs, ex, sq, rd, st⟩ := it_seq ok1 r1 ei
        refine ⟨a, ex, ⟨xs, sq⟩, q _ H1 k1 ok1 ⟨_, _, by rw [← rd.len]; exact walk_tup, st, fun i y H2 H3 hi kn hy => ?_⟩⟩
        obtain ⟨e1, e2⟩ := hy
        subst e1
        obtain ⟨d, e3, r3⟩ := rd.get' e2
        exact ⟨.refl, d, e3, fun N hN _ => item_mv r3 kn hN⟩
def rangeD (lo : Int) (n : Nat) : List PyData := (List.range n).map fun (i : Nat) => .int (lo + (i : Int))
theorem rangeD_len (lo : Int) (n : Nat) : (rangeD lo n).length = n := by simp [rangeD]
theorem rangeD_get {lo : Int} {n i : Nat} (h : i < n) : (rangeD lo n)[i]? = some (.int (lo + (i : Int))) := by simp [rangeD, h]
def fRange1 (a : FE) : FI := fun ρ st => match a ρ st with
  | some (w, st1) => match asD st1 w with
    | some (.int j) => if okI j = true then some (rangeD 0 j.toNat, st1) else none
    | _ => none
  | none => none
def fRange2 (a b : FE) : FI := fun ρ st => match a ρ st with
  | some (w, st1) => match b ρ st1 with
    | some (u, st2) => match asD st2 w, asD st2 u with
      | some (.int i), some (.int j) => if okI i = true ∧ okI j = true then some (rangeD i (j - i).toNat, st2) else none
      | _, _ => none
    | none => none
  | none => none
theorem walkD_range {K : PySem.W.Frag} {lo : Int} {n : Nat} {H0 : Hp} {N0 M0 : Addr → Prop} : WalkD K (Itr lo n) (rangeD lo n) H0 N0 M0 := by
  refine ⟨_, _, by rw [rangeD_len]; exact walk_range, fun _ _ => trivial, fun i y H2 H3 hi kn hy => ?_⟩
  obtain ⟨e1, e2⟩ := hy
  subst e1
  rw [rangeD_len] at hi
  refine ⟨.refl, _, rangeD_get hi, fun N _ _ => ?_⟩
  rw [e2]; unfold RD; rfl
theorem di_range1 {fa : FE} (hm : X.mg "range" = none) (ha : DE T X e fa) (hg : Gl X "range" := by rfl) (hs : starEach [e] X.env = [(false, eval e X.env)] := by rfl) : DI T pk X tg (.Call (.Name "range" p) [e] [] pos) (fRange1 fa) :=
  PI.weak (pi_range1 hg hm (pa_cons ha pa_nil (by rw [hs]; rfl)) hs) fun σ H R h => by
    obtain ⟨A, He, ase, ρ, st, os, as, ds, st', ok, e, q⟩ := h
    unfold fRange1 at e
    cases ea : fa ρ st with
    | none => rw [ea] at e; cases e
    | some r =>
      obtain ⟨w, st1⟩ := r
      rw [ea] at e
      dsimp only at e
      cases ed : asD st1 w with
      | none => rw [ed] at e; cases e
      | some d => cases d with
        | int j =>
          rw [ed] at e
          dsimp only at e
          split at e
          · rename_i hz; cases e
            exact ⟨A, He, ase, ρ, st, os, as, w, _, ok, ea, fun x H1 k1 ok1 r1 => ⟨j, by rw [(RV.asD ok1 r1 ed).int], (okI_to hz).1, (okI_to hz).2, q _ H1 k1 ok1 walkD_range⟩⟩
          · cases e
        | _ => rw [ed] at e; cases e
theorem di_range2 {fa fb : FE} (hm : X.mg "range" = none) (ha : DE T X e fa) (hb : DE T X e2 fb) (hg : Gl X "range" := by rfl) (hs : starEach [e, e2] X.env = [(false, eval e X.env), (false, eval e2 X.env)] := by rfl) (hs2 : starEach [e2] X.env = [(false, eval e2 X.env)] := by rfl) :
    DI T pk X tg (.Call (.Name "range" p) [e, e2] [] pos) (fRange2 fa fb) :=
  PI.weak (pi_range2 hg hm (pa_cons ha (pa_cons hb pa_nil (by rw [hs2]; rfl)) (by rw [hs, hs2])) hs hs2) fun σ H R h => by
    obtain ⟨A, He, ase, ρ, st, os, as, ds, st', ok, e, q⟩ := h
    unfold fRange2 at e
    cases ea : fa ρ st with
    | none => rw [ea] at e; cases e
    | some r =>
      obtain ⟨w, st1⟩ := r
      rw [ea] at e
      dsimp only at e
      cases eb : fb ρ st1 with
      | none => rw [eb] at e; cases e
      | some r =>
        obtain ⟨u, st2⟩ := r
        rw [eb] at e
        dsimp only at e
        cases ed : asD st2 w with
        | none => rw [ed] at e; cases e
        | some d => cases ee : asD st2 u with
          | none => rw [ed, ee] at e; cases d <;> cases e
          | some d2 => rw [ed, ee] at e; cases d with
            | int i => cases d2 with
              | int j =>
                dsimp only at e
                split at e
                · rename_i hz; cases e
                  refine ⟨A, He, ase, ρ, st, os, as, w, _, ok, ea, fun x H1 k1 ok1 r1 => ⟨A, He, ase, ρ, st1, os, as, u, _, ok1, eb, fun y H2 k2 ok2 r2 => ⟨i, j, ?_, ⟨(okI_to hz.1).1, (okI_to hz.1).2, (okI_to hz.2).1, (okI_to hz.2).2⟩, q _ H2 (k1.trans k2) ok2 walkD_range⟩⟩⟩
                  rw [(RV.asD ok2 (r1.mv k2 nn_as) ed).int, (RV.asD ok2 r2 ee).int]
                · cases e
              | _ => cases e
            | _ => cases d2 <;> cases e
def enumD (ds : List PyData) : List PyData := ds.mapIdx fun i d => .tuple [.int (i : Nat), d]
theorem enumD_len (ds : List PyData) : (enumD ds).length = ds.length := by simp [enumD]
theorem enumD_get {ds : List PyData} {i : Nat} {d : PyData} (h : ds[i]? = some d) : (enumD ds)[i]? = some (.tuple [.int (i : Nat), d]) := by simp [enumD, h]
def fEnum (pk : Bool) (a : FE) : FI := fun ρ st => match a ρ st with
  | some (w, st1) => match itOf pk w with
    | some (_, ds) => if ds.length + 2 ≤ sizeLine then some (enumD ds, st1) else none
    | none => none
  | none => none
theorem rd_row {K : PySem.W.Frag} {H : Hp} {N : Addr → Prop} {t : Addr} {xs : List V} {ds : List PyData} (n : H t = none) (nn : ∀ b, H b = none → ¬ N b) (r : RDs K H N ds xs) : RD K (upd H t (.tup xs)) N (.tuple ds) (.ref t) := by
  have : RG K H (upd H t (.tup xs)) N (.ref t) (.dat (.tuple ds)) := RG.newT n (nn t n) r
  exact this
theorem di_enum {fa : FE} (hm : X.mg "enumerate" = none) (ha : DE T X e fa) (hg : Gl X "enumerate" := by rfl) (hs : starEach [e] X.env = [(false, eval e X.env)] := by rfl) : DI T pk X (.Tuple elts kk tpos) (.Call (.Name "enumerate" p) [e] [] pos) (fEnum pk fa) :=
  PI.weak (pi_enumK hg hm (pa_cons ha pa_nil (by rw [hs]; rfl)) hs) fun σ H R h => by
    obtain ⟨A, He, ase, ρ, st, os, as, ds, st', ok, e, q⟩ := h
    unfold fEnum at e
    cases ea : fa ρ st with
    | none => rw [ea] at e; cases e
    | some r =>
      obtain ⟨w, st1⟩ := r
      rw [ea] at e
      dsimp only at e
      cases ei : itOf pk w with
      | none => rw [ei] at e; cases e
      | some r =>
        obtain ⟨k, ds'⟩ := r
        rw [ei] at e
        dsimp only at e
        split at e
        · rename_i hz; cases e
          refine ⟨A, He, ase, ρ, st, os, as, w, _, ok, ea, fun x H1 k1 ok1 r1 => ?_⟩
          obtain ⟨a, xs, ex, sq, rd, stt⟩ := it_seq ok1 r1 ei
          refine ⟨k, a, xs, by rw [ex], sq, by rw [rd.len]; exact hz, q _ H1 k1 ok1 ⟨fun H => SqK k X.K H a xs, _, ⟨fun i H hi g => ⟨by rw [← enumD_len, rd.len] at *; simpa [enumD_len] using hi, g⟩, fun H g => ⟨by rw [enumD_len, rd.len], g⟩, fun i H y H' _ _ yy => yy⟩, stt, fun i y H2 H3 hi kn hy => ?_⟩⟩
          obtain ⟨t, ys, e1, n1, e2, z, hz1, hz2⟩ := hy
          subst e1 e2 hz2
          obtain ⟨d, e3, r3⟩ := rd.get' hz1
          exact ⟨.one n1, _, enumD_get e3, fun N hN nn => rd_row n1 nn ⟨_, _, rfl, by unfold RD; rfl, _, _, rfl, item_mv r3 kn hN, by simp [RDs]⟩⟩
        · cases e
def zipD (a b : List PyData) : List PyData := List.zipWith (fun x y => .tuple [x, y]) a b
def zipD3 (a b c : List PyData) : List PyData := List.zipWith (fun x y => match x with | .tuple xs => .tuple (xs ++ [y]) | _ => .none) (zipD a b) c
theorem zipD_len (a b : List PyData) : (zipD a b).length = min a.length b.length := by simp [zipD]
theorem zipD3_len (a b c : List PyData) : (zipD3 a b c).length = min (min a.length b.length) c.length := by simp [zipD3, zipD_len]
theorem zipD_get {a b : List PyData} {i : Nat} {x y : PyData} (h1 : a[i]? = some x) (h2 : b[i]? = some y) : (zipD a b)[i]? = some (.tuple [x, y]) := by simp [zipD, List.getElem?_zipWith, h1, h2]
theorem zipD3_get {a b c : List PyData} {i : Nat} {x y z : PyData} (h1 : a[i]? = some x) (h2 : b[i]? = some y) (h3 : c[i]? = some z) : (zipD3 a b c)[i]? = some (.tuple [x, y, z]) := by
  simp [zipD3, List.getElem?_zipWith, zipD_get h1 h2, h3]
def fZip (pk : Bool) (a b : FE) : FI := fun ρ st => match a ρ st with
  | some (w, st1) => match b ρ st1 with
    | some (u, st2) => match itOf pk w, itOf pk u with
      | some (_, ds), some (_, es) => some (zipD ds es, st2)
      | _, _ => none
    | none => none
  | none => none
theorem di_zip {fa fb : FE} (hm : X.mg "zip" = none) (ha : DE T X e fa) (hb : DE T X e2 fb) (hg : Gl X "zip" := by rfl) (hs : starEach [e, e2] X.env = (false, eval e X.env) :: starEach [e2] X.env := by rfl) (hs2 : starEach [e2] X.env = [(false, eval e2 X.env)] := by rfl) (hpl : (backTo pos (starEach [e2] X.env)).any (·.1) = false := by rfl) :
    DI T pk X (.Tuple elts kk tpos) (.Call (.Name "zip" p) [e, e2] [] pos) (fZip pk fa fb) :=
  PI.weak (pi_zipK2 hg hm (pa_cons ha (pa_cons hb pa_nil (by rw [hs2]; rfl)) hs) hs hpl) fun σ H R h => by
    obtain ⟨A, He, ase, ρ, st, os, as, ds, st', ok, e, q⟩ := h
    unfold fZip at e
    cases ea : fa ρ st with
    | none => rw [ea] at e; cases e
    | some r =>
      obtain ⟨w, st1⟩ := r
      rw [ea] at e
      dsimp only at e
      cases eb : fb ρ st1 with
      | none => rw [eb] at e; cases e
      | some r =>
        obtain ⟨u, st2⟩ := r
        rw [eb] at e
        dsimp only at e
        cases ei : itOf pk w with
        | none => rw [ei] at e; cases e
        | some r => cases ej : itOf pk u with
          | none => rw [ei, ej] at e; cases e
          | some r2 =>
            obtain ⟨k1, d1⟩ := r
            obtain ⟨k2, d2⟩ := r2
            rw [ei, ej] at e; cases e
            refine ⟨A, He, ase, ρ, st, os, as, w, _, ok, ea, fun x H1 k1' ok1 r1 => ⟨A, He, ase, ρ, st1, os, as, u, _, ok1, eb, fun y H2 k2' ok2 r2 => ?_⟩⟩
            obtain ⟨a, xs, ex, sq, rd, stt⟩ := it_seq ok2 (r1.mv k2' nn_as) ei
            obtain ⟨b, ys, ey, sq2, rd2, stt2⟩ := it_seq ok2 r2 ej
            refine ⟨k1, k2, a, b, xs, ys, by rw [ex, ey], sq, sq2, q _ H2 (k1'.trans k2') ok2 ⟨fun H => SqK k1 X.K H a xs ∧ SqK k2 X.K H b ys, _, ⟨fun i H hi g => ⟨by rw [zipD_len] at hi; rw [rd.len, rd2.len]; exact hi, g⟩, fun H g => ⟨by rw [zipD_len, rd.len, rd2.len], g⟩, fun i H y H' _ _ yy => yy⟩, fun H' kn => ⟨stt H' kn, stt2 H' kn⟩, fun i y H3 H4 hi kn hy => ?_⟩⟩
            obtain ⟨t, zs, e1, n1, e2, z1, z2, hz1, hz2, hz3⟩ := hy
            subst e1 e2 hz3
            obtain ⟨q1, e3, r3⟩ := rd.get' hz1
            obtain ⟨q2, e4, r4⟩ := rd2.get' hz2
            exact ⟨.one n1, _, zipD_get e3 e4, fun N hN nn => rd_row n1 nn ⟨_, _, rfl, item_mv r3 kn hN, _, _, rfl, item_mv r4 kn hN, by simp [RDs]⟩⟩
def fZip3 (pk : Bool) (a b c : FE) : FI := fun ρ st => match a ρ st with
  | some (w, st1) => match b ρ st1 with
    | some (u, st2) => match c ρ st2 with
      | some (v, st3) => match itOf pk w, itOf pk u, itOf pk v with
        | some (_, ds), some (_, es), some (_, fs) => some (zipD3 ds es fs, st3)
        | _, _, _ => none
      | none => none
    | none => none
  | none => none
theorem di_zip3 {fa fb fc : FE} (hm : X.mg "zip" = none) (ha : DE T X e fa) (hb : DE T X e2 fb) (hc : DE T X e3 fc) (hg : Gl X "zip" := by rfl) (hs : starEach [e, e2, e3] X.env = (false, eval e X.env) :: starEach [e2, e3] X.env := by rfl)
    (hs2 : starEach [e2, e3] X.env = (false, eval e2 X.env) :: starEach [e3] X.env := by rfl) (hs3 : starEach [e3] X.env = [(false, eval e3 X.env)] := by rfl) (hpl : (backTo pos (starEach [e2, e3] X.env)).any (·.1) = false := by rfl) :
    DI T pk X (.Tuple elts kk tpos) (.Call (.Name "zip" p) [e, e2, e3] [] pos) (fZip3 pk fa fb fc) :=
  PI.weak (pi_zipK3 hg hm (pa_cons ha (pa_cons hb (pa_cons hc pa_nil (by rw [hs3]; rfl)) hs2) hs) hs hpl) fun σ H R h => by
    obtain ⟨A, He, ase, ρ, st, os, as, ds, st', ok, e, q⟩ := h
    unfold fZip3 at e
    cases ea : fa ρ st with
    | none => rw [ea] at e; cases e
    | some r =>
      obtain ⟨w, st1⟩ := r
      rw [ea] at e
      dsimp only at e
      cases eb : fb ρ st1 with
      | none => rw [eb] at e; cases e
      | some r =>
        obtain ⟨u, st2⟩ := r
        rw [eb] at e
        dsimp only at e
        cases ec : fc ρ st2 with
        | none => rw [ec] at e; cases e
        | some r =>
          obtain ⟨v, st3⟩ := r
          rw [ec] at e
          dsimp only at e
          cases ei : itOf pk w with
          | none => rw [ei] at e; cases e
          | some r => cases ej : itOf pk u with
            | none => rw [ei, ej] at e; cases e
            | some r2 => cases el : itOf pk v with
              | none => rw [ei, ej, el] at e; cases e
              | some r3 =>
                obtain ⟨k1, d1⟩ := r
                obtain ⟨k2, d2⟩ := r2
                obtain ⟨k3, d3⟩ := r3
                rw [ei, ej, el] at e; cases e
                refine ⟨A, He, ase, ρ, st, os, as, w, _, ok, ea, fun x H1 k1' ok1 r1 => ⟨A, He, ase, ρ, st1, os, as, u, _, ok1, eb, fun y H2 k2' ok2 r2 => ⟨A, He, ase, ρ, st2, os, as, v, _, ok2, ec, fun z H3 k3' ok3 r3 => ?_⟩⟩⟩
                obtain ⟨a, xs, ex, sq, rd, stt⟩ := it_seq ok3 ((r1.mv k2' nn_as).mv k3' nn_as) ei
                obtain ⟨b, ys, ey, sq2, rd2, stt2⟩ := it_seq ok3 (r2.mv k3' nn_as) ej
                obtain ⟨cc, zs, ez, sq3, rd3, stt3⟩ := it_seq ok3 r3 el
                refine ⟨k1, k2, k3, a, b, cc, xs, ys, zs, by rw [ex, ey, ez], sq, sq2, sq3, q _ H3 (k1'.trans (k2'.trans k3')) ok3 ⟨fun H => SqK k1 X.K H a xs ∧ SqK k2 X.K H b ys ∧ SqK k3 X.K H cc zs, _, ⟨fun i H hi g => ⟨by rw [zipD3_len] at hi; rw [rd.len, rd2.len, rd3.len]; exact hi, g⟩, fun H g => ⟨by rw [zipD3_len, rd.len, rd2.len, rd3.len], g⟩, fun i H y H' _ _ yy => yy⟩, fun H' kn => ⟨stt H' kn, stt2 H' kn, stt3 H' kn⟩, fun i y H4 H5 hi kn hy => ?_⟩⟩
                obtain ⟨t, ws, e1, n1, e2, z1, z2, z3, hz1, hz2, hz3, hz4⟩ := hy
                subst e1 e2 hz4
                obtain ⟨q1, e3, r4⟩ := rd.get' hz1
                obtain ⟨q2, e4, r5⟩ := rd2.get' hz2
                obtain ⟨q3, e5, r6⟩ := rd3.get' hz3
                exact ⟨.one n1, _, zipD3_get e3 e4 e5, fun N hN nn => rd_row n1 nn ⟨_, _, rfl, item_mv r4 kn hN, _, _, rfl, item_mv r5 kn hN, _, _, rfl, item_mv r6 kn hN, by simp [RDs]⟩⟩
end
end EV
end

section
set_option maxRecDepth 100000
set_option maxHeartbeats 4000000
namespace EV
open PySem PySem.Spec L2
open LamX (TabS Tabs ExtN)

section
variable {c : Cf} {σ : L2.St} {H : Hp} {ρ : Fr} {st : Sto} {os : Os} {as : List Addr}
theorem StOk.put' (ok : StOk c σ H ρ st os as) {i : Nat} {v : V} {d : PyData} (r : RD c.K H (Nn c.A os as) d v) : StOk c (σ.set i (some v)) H (ρ.set i (.dat d)) st (osSet os i none) as := by
  by_cases hi : i < ρ.length
  · exact ok.put hi r
  · have e1 : σ.set i (some v) = σ := List.set_eq_of_length_le (by rw [ok.lr]; omega)
    have e2 : ρ.set i (.dat d) = ρ := List.set_eq_of_length_le (by omega)
    have e3 : osSet os i none = os := by
      funext j
      by_cases e : j = i
      · subst e
        rw [osSet_same]
        have s := ok.slot j
        have g : gs ρ j = .non := by unfold gs; rw [List.getElem?_eq_none (by omega)]; rfl
        rw [g] at s
        exact s.symm
      · exact osSet_ne e
    rw [e1, e2, e3]
    exact ok
/-- a slot is forgotten -/
theorem StOk.clr (ok : StOk c σ H ρ st os as) {i : Nat} : StOk c (σ.set i none) H (ρ.set i .non) st (osSet os i none) as := by
  have ose : ∀ j a, osSet os i none j = some a → os j = some a := fun j a h => by
    by_cases e : j = i
    · subst e; rw [osSet_same] at h; cases h
    · rwa [osSet_ne e] at h
  have sub : ∀ a, Nn c.A (osSet os i none) as a → Nn c.A os as a ∨ H a = none := fun a h => .inl (by
    rcases h with h | ⟨j, h⟩ | h
    · exact .inl h
    · exact .inr (.inl ⟨j, ose j a h⟩)
    · exact .inr (.inr h))
  have kq : ∀ b o, H b = some o → ¬ Nn c.A os as b → H b = some o := fun _ _ e _ => e
  refine ⟨by simp [ok.lr], fun j => ?_, ok.sto.mv kq sub (fun _ _ _ e => e), ok.pre, ok.tab, fun j a h => ok.osf j a (ose j a h), fun j k a h1 h2 => ok.odup j k a (ose j a h1) (ose k a h2), ok.adup, ok.keep, fun a h => ?_⟩
  · by_cases e : j = i
    · subst e
      rw [osSet_same]
      have g : gs (ρ.set j SV.non) j = .non := by
        unfold gs
        by_cases hj : j < ρ.length
        · rw [List.getElem?_set_self hj]; rfl
        · rw [List.getElem?_eq_none (by simpa using hj)]; rfl
      rw [g]
      rfl
    · rw [gt_set_ne e, gs_set_ne e, osSet_ne e]
      exact (ok.slot j).mv kq sub fun _ _ _ e => e
  · obtain ⟨h1, h2, h3⟩ := ok.aal a h
    exact ⟨h1, h2, fun j z => h3 j (ose j a z)⟩
def noOwn : SV → Bool
  | .own _ => false
  | _ => true
theorem StOk.noOwn (ok : StOk c σ H ρ st os as) {i : Nat} (h : EV.noOwn (gs ρ i) = true) : os i = none := by
  have s := ok.slot i
  cases g : gs ρ i with
  | non => rw [g] at s; exact s
  | dat d => rw [g] at s; exact s.1
  | own ds => rw [g] at h; cases h
  | pk ds => rw [g] at s; cases s
  | ref n => rw [g] at s; exact s.1
  | fz ds => rw [g] at s; exact s.1
def wipeF (ρ : Fr) : List Nat → Fr
  | [] => ρ
  | v :: vs => (wipeF ρ vs).set v .non
theorem StOk.wipe (ok : StOk c σ H ρ st os as) : ∀ vs : List Nat, (∀ i ∈ vs, os i = none) → StOk c (wipe σ vs) H (wipeF ρ vs) st os as
  | [], _ => ok
  | v :: vs, h => by
    have ih := StOk.wipe ok vs fun i hi => h i (by simp [hi])
    have e : osSet os v none = os := by
      funext j
      by_cases e : j = v
      · subst e; rw [osSet_same]; exact (h j (by simp)).symm
      · exact osSet_ne e
    have z := ih.clr (i := v)
    rw [e] at z
    exact z
end
theorem wipe_set : ∀ {vs : List Nat} {σ : L2.St} {i : Nat} {y : Option V}, i ∈ vs → wipe (σ.set i y) vs = wipe σ vs
  | v :: vs, σ, i, y, h => by
    show (wipe (σ.set i y) vs).set v none = (wipe σ vs).set v none
    by_cases hm : i ∈ vs
    · rw [wipe_set hm]
    · have hv : i = v := by
        rcases List.mem_cons.mp h with z | z
        · exact z
        · exact absurd z hm
      subst hv
      have gen : ∀ (ws : List Nat) (σ : L2.St), i ∉ ws → wipe (σ.set i y) ws = (wipe σ ws).set i y := by
        intro ws
        induction ws with
        | nil => intro σ _; rfl
        | cons u us ih =>
          intro σ hn
          simp only [List.mem_cons, not_or] at hn
          show (wipe (σ.set i y) us).set u none = ((wipe σ us).set u none).set i y
          rw [ih σ hn.2, List.set_comm _ _ hn.1]
      rw [gen vs σ hm, List.set_set]
theorem wipe_wipe (σ : L2.St) (vs : List Nat) : wipe (wipe σ vs) vs = wipe σ vs := by
  have gen : ∀ ws : List Nat, (∀ i ∈ ws, i ∈ vs) → wipe (wipe σ ws) vs = wipe σ vs := by
    intro ws
    induction ws with
    | nil => intro _; rfl
    | cons u us ih =>
      intro h
      show wipe ((wipe σ us).set u none) vs = wipe σ vs
      rw [wipe_set (h u (by simp)), ih fun i hi => h i (by simp [hi])]
  exact gen vs fun _ h => h

/-! ### targets -/
abbrev TgF := Fr → PyData → Option Fr
def SG (K : PySem.W.Frag) (T : List (Addr × Str)) (vs : List Nat) (g : TG) (f : TgF) : Prop := ∀ A He ase (σ : L2.St) (H : Hp) (ρ : Fr) (st : Sto) (os : Os) (as : List Addr) (d : PyData) (v : V) (ρ' : Fr) (Q : L2.St → Hp → Prop),
  StOk ⟨K, A, He, ase, T⟩ σ H ρ st os as → RD K H (Nn A os as) d v → f ρ d = some ρ' →
    (∀ σ' os', StOk ⟨K, A, He, ase, T⟩ σ' H ρ' st os' as → wipe σ' vs = wipe σ vs → (∀ i, os' i = none ∨ os' i = os i) → (∀ i, i ∉ vs → os' i = os i) → Q σ' H) → g v σ H Q
def SGs (K : PySem.W.Frag) (T : List (Addr × Str)) (vs : List Nat) (g : TGs) (f : Fr → List PyData → Option Fr) : Prop := ∀ A He ase (σ : L2.St) (H : Hp) (ρ : Fr) (st : Sto) (os : Os) (as : List Addr) (ds : List PyData) (xs : List V) (ρ' : Fr) (Q : L2.St → Hp → Prop),
  StOk ⟨K, A, He, ase, T⟩ σ H ρ st os as → RDs K H (Nn A os as) ds xs → f ρ ds = some ρ' →
    (∀ σ' os', StOk ⟨K, A, He, ase, T⟩ σ' H ρ' st os' as → wipe σ' vs = wipe σ vs → (∀ i, os' i = none ∨ os' i = os i) → (∀ i, i ∉ vs → os' i = os i) → Q σ' H) → g xs σ H Q
def tName (i : Nat) : TgF := fun ρ d => some (ρ.set i (.dat d))
def tNil : Fr → List PyData → Option Fr := fun ρ ds => match ds with
  | [] => some ρ
  | _ => none
def tCons (t : TgF) (r : Fr → List PyData → Option Fr) : Fr → List PyData → Option Fr := fun ρ ds => match ds with
  | d :: ds => match t ρ d with
    | some ρ' => r ρ' ds
    | none => none
  | _ => none
def tTup (n : Nat) (r : Fr → List PyData → Option Fr) : TgF := fun ρ d => match d with
  | .tuple ds => if ds.length = n then r ρ ds else none
  | _ => none
theorem sg_name {K : PySem.W.Frag} {vs : List Nat} {i : Nat} (h : i ∈ vs := by decide) : SG K T vs (gName i) (tName i) := by
  intro A He ase σ H ρ st os as d v ρ' Q ok r e q
  cases e
  refine q _ _ (ok.put' r) (wipe_set h) (fun j => ?_) fun j hj => ?_
  · by_cases e : j = i
    · subst e; exact .inl osSet_same
    · exact .inr (osSet_ne e)
  · exact osSet_ne fun e => hj (e ▸ h)
theorem sgs_nil {K : PySem.W.Frag} {vs : List Nat} : SGs K T vs gNil tNil := by
  intro A He ase σ H ρ st os as ds xs ρ' Q ok r e q
  cases ds with
  | nil => cases e; cases r; exact ⟨rfl, q σ os ok rfl (fun _ => .inr rfl) fun _ _ => rfl⟩
  | cons _ _ => cases e
theorem sgs_cons {K : PySem.W.Frag} {vs : List Nat} {g : TG} {gr : TGs} {t : TgF} {r : Fr → List PyData → Option Fr} (h1 : SG K T vs g t) (h2 : SGs K T vs gr r) : SGs K T vs (gCons g gr) (tCons t r) := by
  intro A He ase σ H ρ st os as ds xs ρ' Q ok rr e q
  cases ds with
  | nil => cases e
  | cons d ds =>
    obtain ⟨x, ys, ex, r1, r2⟩ := rr
    unfold tCons at e
    dsimp only at e
    cases et : t ρ d with
    | none => rw [et] at e; cases e
    | some ρ1 =>
      rw [et] at e
      refine ⟨x, ys, ex, h1 A He ase σ H ρ st os as d x ρ1 _ ok r1 et fun σ1 os1 ok1 w1 o1 p1 => ?_⟩
      have sub : ∀ a, Nn A os1 as a → Nn A os as a ∨ H a = none := fun a z => .inl (by
        rcases z with z | ⟨j, z⟩ | z
        · exact .inl z
        · rcases o1 j with y | y
          · rw [y] at z; cases z
          · exact .inr (.inl ⟨j, y ▸ z⟩)
        · exact .inr (.inr z))
      refine h2 A He ase σ1 H ρ1 st os1 as ds ys ρ' Q ok1 (RDs.mv (fun _ _ e _ => e) sub _ _ r2) e fun σ2 os2 ok2 w2 o2 p2 => q σ2 os2 ok2 (w2.trans w1) (fun j => ?_) fun j hj => (p2 j hj).trans (p1 j hj)
      rcases o2 j with y | y
      · exact .inl y
      · rcases o1 j with z | z
        · exact .inl (y.trans z)
        · exact .inr (y.trans z)
theorem sg_tup {K : PySem.W.Frag} {vs : List Nat} {n : Nat} {gr : TGs} {r : Fr → List PyData → Option Fr} (h : SGs K T vs gr r) : SG K T vs (gTup K n gr) (tTup n r) := by
  intro A He ase σ H ρ st os as d v ρ' Q ok rr e q
  cases d with
  | tuple ds =>
    unfold tTup at e
    dsimp only at e
    split at e
    · rename_i hl
      obtain ⟨a, xs, ex, sq, rd⟩ := rr
      exact ⟨a, xs, ex, sq.sq, by rw [rd.len]; exact hl, h A He ase σ H ρ st os as ds xs ρ' Q ok rd e q⟩
    · cases e
  | _ => cases e

/-! ### comprehensions -/
def compL (tg : TgF) (cs : FT) (el : FE) (ρ : Fr) : List PyData → Sto → Option (List PyData × Sto)
  | [], st => some ([], st)
  | d :: ds, st => match tg ρ d with
    | some ρ1 => match cs ρ1 st with
      | some (true, st1) => match el ρ1 st1 with
        | some (w, st2) => match escD w with
          | some e => (compL tg cs el ρ ds st2).map fun r => (e :: r.1, r.2)
          | none => none
        | none => none
      | some (false, st1) => compL tg cs el ρ ds st1
      | none => none
    | none => none
def fComp (own : List Nat) (it : FI) (tg : TgF) (cs : FT) (el : FE) : FE := fun ρ st =>
  if own.all (fun i => noOwn (gs ρ i)) = true then
    match it ρ st with
    | some (ds, st1) => if ds.length ≤ sizeLine then (compL tg cs el (wipeF ρ own) ds st1).map fun r => (.own r.1, r.2) else none
    | none => none
  else none
def fYes : FT := fun _ st => some (true, st)
def DTs (T : List (Addr × Str)) (X : Cx) (ifs : List Expr) (f : FT) : Prop := PTs X ifs (simT X.K T f)
section
variable {X : Cx} {pos p tpos : Pos}
theorem dts_nil : DTs T X [] fYes := ⟨fun pins s σ H Q I h => pts_nil.run pins s σ H Q I (by
  obtain ⟨A, He, ase, ρ, st, os, as, b, st', ok, e, q⟩ := h
  cases e
  exact q H .refl ok)⟩
theorem dts_one {c : Expr} {f : FT} (h : DT T X c f) : DTs T X [c] f := pts_one h
theorem compL_len {tg : TgF} {cs : FT} {el : FE} {ρ : Fr} : ∀ {ds : List PyData} {st : Sto} {r : List PyData × Sto}, compL tg cs el ρ ds st = some r → r.1.length ≤ ds.length
  | [], st, r, h => by cases h; exact Nat.le_refl _
  | d :: ds, st, r, h => by
    unfold compL at h
    cases h1 : tg ρ d with
    | none => rw [h1] at h; cases h
    | some ρ1 =>
      rw [h1] at h
      dsimp only at h
      cases h2 : cs ρ1 st with
      | none => rw [h2] at h; cases h
      | some q =>
        obtain ⟨b, st1⟩ := q
        rw [h2] at h
        cases b with
        | false => exact Nat.le_succ_of_le (compL_len h)
        | true =>
          dsimp only at h
          cases h3 : el ρ1 st1 with
          | none => rw [h3] at h; cases h
          | some q =>
            obtain ⟨w, st2⟩ := q
            rw [h3] at h
            dsimp only at h
            cases h4 : escD w with
            | none => rw [h4] at h; cases h
            | some e =>
              rw [h4] at h
              dsimp only at h
              cases h5 : compL tg cs el ρ ds st2 with
              | none => rw [h5] at h; cases h
              | some r' => rw [h5] at h; cases h; exact Nat.succ_le_succ (compL_len h5)
theorem comp_weak {K : PySem.W.Frag} {fi : FI} {g : TG} {tg : TgF} {cs : FT} {el : FE} {vs : List Nat} (sg : SG K T vs g tg) {σ : L2.St} {H : Hp} {Q : VK} (h : simE K T (fComp vs fi tg cs el) σ H Q) :
    tLc (simI K T true fi) g (simT K T cs) (simE K T el) vs σ H Q := by
  obtain ⟨A, He, ase, ρ, st, os, as, w, st', ok, e, q⟩ := h
  unfold fComp at e
  split at e
  · rename_i hown
    have hos : ∀ i ∈ vs, os i = none := fun i hi => ok.noOwn (List.all_eq_true.mp hown i hi)
    cases ei : fi ρ st with
    | none => rw [ei] at e; cases e
    | some r =>
      obtain ⟨ds, st1⟩ := r
      rw [ei] at e
      dsimp only at e
      split at e
      · rename_i hz
        cases el1 : compL tg cs el (wipeF ρ vs) ds st1 with
        | none => rw [el1] at e; cases e
        | some r =>
          obtain ⟨out, st2⟩ := r
          rw [el1] at e; cases e
          refine ⟨A, He, ase, ρ, st, os, as, ds, st1, ok, ei, fun J H1 k1 ok1 wd D nD => ?_⟩
          obtain ⟨G, Y, W, hG, hY⟩ := wd
          have hsubA : ∀ b, Nn (fun b => A b ∨ b = D) os as b → Nn A os as b ∨ H1 b = none := fun b z => by
            rcases z with (z | z) | z
            · exact .inl (.inl z)
            · exact .inr (by rw [z]; exact nD)
            · exact .inl (.inr z)
          have hDas : D ∉ as := ok1.nas nD
          have hDe : He D = none := ok1.he nD
          have ok0 : StOk ⟨K, fun b => A b ∨ b = D, He, ase, T⟩ (wipe σ vs) (upd H1 D (.lst [])) (wipeF ρ vs) st1 os as := (ok1.addA (o := .lst []) nD).wipe vs hos
          refine lc_it W (fun i Hi => ∃ acc vacc sti rest, StOk ⟨K, fun b => A b ∨ b = D, He, ase, T⟩ (wipe σ vs) Hi (wipeF ρ vs) sti os as ∧ Hi D = some (.lst vacc) ∧ RDs K Hi (Nn (fun b => A b ∨ b = D) os as) acc vacc ∧
            acc.length ≤ i ∧ compL tg cs el (wipeF ρ vs) (ds.drop i) sti = some (rest, st2) ∧ acc ++ rest = out ∧ Kn (fun a => a ∈ as) H1 Hi)
            ⟨[], [], st1, out, ok0, upd_same, by simp [RDs], Nat.le_refl _, el1, rfl, fun b o e n => by rw [upd_ne (ne_of_none e nD)]; exact e⟩ (fun i Hi _ hp => ?_) (fun i x Hi H' hi hp hy => ?_) (fun Hi hp => ?_)
          · obtain ⟨acc, vacc, sti, rest, _, _, _, _, _, _, kn⟩ := hp
            exact hG Hi kn
          · obtain ⟨acc, vacc, sti, rest, oki, hD, ra, hl, ec, eo, kn⟩ := hp
            obtain ⟨ex, d, ed, rd⟩ := hY i x Hi H' hi kn hy
            have okx := oki.ext ex
            have rd' := rd (Nn (fun b => A b ∨ b = D) os as) hsubA fun b nb => oki.nn nb
            have hdrop : ds.drop i = d :: ds.drop (i + 1) := by
              rw [List.drop_eq_getElem_cons hi]
              rw [List.getElem?_eq_getElem hi] at ed
              cases ed; rfl
            rw [hdrop] at ec
            unfold compL at ec
            cases h1 : tg (wipeF ρ vs) d with
            | none => rw [h1] at ec; cases ec
            | some ρ1 =>
              rw [h1] at ec
              dsimp only at ec
              refine sg _ He ase _ H' _ sti os as d x ρ1 _ okx rd' h1 fun σ2 os' ok2 w2 o2 p2 => ?_
              have eos : os' = os := by
                funext j
                rcases o2 j with y | y
                · by_cases hj : j ∈ vs
                  · rw [y]; exact (hos j hj).symm
                  · exact p2 j hj
                · exact y
              subst eos
              refine ⟨by rw [w2, wipe_wipe], ?_⟩
              cases h2 : cs ρ1 sti with
              | none => rw [h2] at ec; cases ec
              | some r =>
                obtain ⟨b, sti1⟩ := r
                rw [h2] at ec
                refine ⟨_, He, ase, ρ1, sti, os', as, b, sti1, ok2, h2, fun H3 k3 ok3 => ?_⟩
                have kk3 : Kp as Hi H3 := ex.kp.trans k3
                have kn3 : Kn (fun a => a ∈ as) H1 H3 := fun b o e n => kk3 b o (kn b o e n) n
                cases b with
                | false =>
                  refine (if_neg Bool.false_ne_true).mpr ⟨acc, vacc, sti1, rest, oki.back ok3 kk3, kk3 _ _ hD hDas, ?_, Nat.le_succ_of_le hl, ec, eo, kn3⟩
                  exact RDs.mv (fun b o e n => kk3 b o e fun z => n (nn_as _ z)) (fun _ z => .inl z) _ _ ra
                | true =>
                  refine (if_pos rfl).mpr ?_
                  dsimp only at ec
                  cases h3 : el ρ1 sti1 with
                  | none => rw [h3] at ec; cases ec
                  | some r =>
                    obtain ⟨w, sti2⟩ := r
                    rw [h3] at ec
                    dsimp only at ec
                    cases h4 : escD w with
                    | none => rw [h4] at ec; cases ec
                    | some ee =>
                      rw [h4] at ec
                      dsimp only at ec
                      cases h5 : compL tg cs el (wipeF ρ vs) (ds.drop (i + 1)) sti2 with
                      | none => rw [h5] at ec; cases ec
                      | some r =>
                        obtain ⟨rest', stz⟩ := r
                        rw [h5] at ec; cases ec
                        refine ⟨_, He, ase, ρ1, sti1, os', as, w, sti2, ok3, h3, fun y H4 k4 ok4 r4 => ?_⟩
                        have kk4 : Kp as Hi H4 := kk3.trans k4
                        have hD4 : H4 D = some (.lst vacc) := kk4 _ _ hD hDas
                        have ra4 : RDs K H4 (Nn (fun b => A b ∨ b = D) os' as) acc vacc := RDs.mv (fun b o e n => kk4 b o e fun z => n (nn_as _ z)) (fun _ z => .inl z) _ _ ra
                        have okb := oki.back ok4 kk4
                        have okf := okb.updA (ys := vacc ++ [y]) (.inr rfl) hD4 hDe
                        have hDN : Nn (fun b => A b ∨ b = D) os' as D := .inl (.inr rfl)
                        have kq : ∀ b o, H4 b = some o → ¬ Nn (fun b => A b ∨ b = D) os' as b → (upd H4 D (.lst (vacc ++ [y]))) b = some o := fun b o e n => by
                          rw [upd_ne fun z => n (by rw [z]; exact hDN)]; exact e
                        refine ⟨vacc, hD4, by rw [ra4.len]; omega, acc ++ [ee], vacc ++ [y], sti2, rest', okf, upd_same, ?_, by simp; omega, h5, by simpa using eo, fun b o e n => ?_⟩
                        · exact RDs.mv kq (fun _ z => .inl z) _ _ (ra4.app ⟨y, [], rfl, r4.esc h4, by simp [RDs]⟩)
                        · rw [upd_ne (ne_of_none e nD)]
                          exact kk4 b o (kn b o e n) n
          · obtain ⟨acc, vacc, sti, rest, oki, hD, ra, hl, ec, eo, kn⟩ := hp
            rw [List.drop_length] at ec
            cases ec
            rw [List.append_nil] at eo
            subst eo
            have okA : StOk ⟨K, A, He, ase, T⟩ (wipe σ vs) Hi (wipeF ρ vs) st2 os as := oki.subA (c := ⟨K, A, He, ase, T⟩) fun b z => .inl z
            have kp1 : Kp as H1 Hi := fun b o e n => kn b o e n
            have okF := ok1.back okA kp1
            refine q _ Hi (k1.trans kp1) okF ⟨D, vacc, rfl, hD, RDs.mv (fun _ _ e _ => e) (fun b z => .inl (z.imp_left .inl)) _ _ ra, k1.free nD hDas, ok1.nn nD⟩
      · cases e
  · cases e
theorem de_comp {elt tgx iter : Expr} {ifs : List Expr} {scope : Scope} {own : List (Str × Nat)} {fi : FI} {g : TG} {tg : TgF} {cs : FT} {el : FE} (sg : SG X.K T (own.map (·.2)) g tg) (hc : X.calm = true) (hN : X.N.Nodup) (hi : DI T true X tgx iter fi) (ok : BlkOk X.N X.env.scope scope own)
    (hg : ∀ (s : Shared) (H : Hp) (C : Addr) (cl : List (Str × Addr)) (fp : List Addr), PG (X.blk s H scope (compEnvC scope cl C X.env) fp) tgx g)
    (ht : ∀ (s : Shared) (H : Hp) (C : Addr) (cl : List (Str × Addr)) (fp : List Addr), DTs T (X.blk s H scope (compEnvC scope cl C X.env) fp) ifs cs)
    (he : ∀ (s : Shared) (H : Hp) (C : Addr) (cl : List (Str × Addr)) (fp : List Addr), DE T (X.blk s H scope (compEnvC scope cl C X.env) fp) elt el) (hs : ∀ x, foldedSetIterable iter X.env x = pure x := by intro _; rfl) :
    DE T X (.ListComp elt [⟨tgx, iter, ifs, 0⟩] scope pos) (fComp (own.map (·.2)) fi tg cs el) :=
  PE.weak (pe_lc (tt := simT X.K T cs) (te := simE X.K T el) hc hN hi ok hg ht he hs) fun _ _ _ => comp_weak sg
end
end EV
end

section
set_option maxRecDepth 100000
set_option maxHeartbeats 4000000
namespace EV
open PySem PySem.Spec L2
open LamX (TabS Tabs ExtN)

/-! ### statements -/
inductive Fl where
  | nx (ρ : Fr) | ret (w : SV) | bk (ρ : Fr) | ct (ρ : Fr)
abbrev FS := Fr → Sto → Option (Fl × Sto)
def SPost (c : Cf) (st' : Sto) (D : Ends) (H : Hp) (M : Addr → Prop) : Fl → Prop
  | .nx ρ' => ∀ (σ' : L2.St) (H' : Hp) (os' : Os) (as' : List Addr), StOk c σ' H' ρ' st' os' as' → Stp H M H' (Mm os' as') → D.nx σ' H'
  | .bk ρ' => ∀ (σ' : L2.St) (H' : Hp) (os' : Os) (as' : List Addr), StOk c σ' H' ρ' st' os' as' → Stp H M H' (Mm os' as') → D.bk σ' H'
  | .ct ρ' => ∀ (σ' : L2.St) (H' : Hp) (os' : Os) (as' : List Addr), StOk c σ' H' ρ' st' os' as' → Stp H M H' (Mm os' as') → D.ct σ' H'
  | .ret w => ∀ (x : V) (σ' : L2.St) (H' : Hp) (ρ' : Fr) (os' : Os) (as' : List Addr), StOk c σ' H' ρ' st' os' as' → Stp H M H' (Mm os' as') → RV c.K c.He H' (Nn c.A os' as') as' x w → D.rt x H'
theorem SPost.from {c : Cf} {st' : Sto} {D : Ends} {H H1 : Hp} {M M1 : Addr → Prop} {fl : Fl} (q : SPost c st' D H M fl) (s : Stp H M H1 M1) : SPost c st' D H1 M1 fl := by
  cases fl with
  | nx ρ2 => exact fun σ2 H2 os2 as2 ok2 s2 => q σ2 H2 os2 as2 ok2 (s.trans s2)
  | bk ρ2 => exact fun σ2 H2 os2 as2 ok2 s2 => q σ2 H2 os2 as2 ok2 (s.trans s2)
  | ct ρ2 => exact fun σ2 H2 os2 as2 ok2 s2 => q σ2 H2 os2 as2 ok2 (s.trans s2)
  | ret w => exact fun x σ2 H2 ρ2 os2 as2 ok2 s2 => q x σ2 H2 ρ2 os2 as2 ok2 (s.trans s2)
def simS (K : PySem.W.Frag) (T : List (Addr × Str)) (F : FS) : TS := fun D σ H => ∃ A He ase ρ st os as fl st', StOk ⟨K, A, He, ase, T⟩ σ H ρ st os as ∧ F ρ st = some (fl, st') ∧ SPost ⟨K, A, He, ase, T⟩ st' D H (Mm os as) fl
def DS (T : List (Addr × Str)) (X : Cx) (s : Stmt) (F : FS) : Prop := PS X s (simS X.K T F)
def DSs (T : List (Addr × Str)) (X : Cx) (s : List Stmt) (F : FS) : Prop := PSs X s (simS X.K T F)
theorem PS.weak {X : Cx} {s : Stmt} {t t' : TS} (h : PS X s t) (k : ∀ D σ H, t' D σ H → t D σ H) : PS X s t' := ⟨fun pins s σ H D I q => h.run pins s σ H D I (k D σ H q)⟩
theorem PSs.weak {X : Cx} {s : List Stmt} {t t' : TS} (h : PSs X s t) (k : ∀ D σ H, t' D σ H → t D σ H) : PSs X s t' := ⟨fun pins s σ H D I q => h.run pins s σ H D I (k D σ H q)⟩
def fNx : FS := fun ρ st => some (.nx ρ, st)
def fSeq (a b : FS) : FS := fun ρ st => match a ρ st with
  | some (.nx ρ1, st1) => b ρ1 st1
  | some (fl, st1) => some (fl, st1)
  | none => none
theorem nx_weak {K : PySem.W.Frag} {D : Ends} {σ : L2.St} {H : Hp} (h : simS K T fNx D σ H) : D.nx σ H := by
  obtain ⟨A, He, ase, ρ, st, os, as, fl, st', ok, e, q⟩ := h
  cases e
  exact q σ H os as ok .refl
theorem seq_weak {K : PySem.W.Frag} {a b : FS} {D : Ends} {σ : L2.St} {H : Hp} (h : simS K T (fSeq a b) D σ H) : tSeq (simS K T a) (simS K T b) D σ H := by
  obtain ⟨A, He, ase, ρ, st, os, as, fl, st', ok, e, q⟩ := h
  unfold fSeq at e
  cases ea : a ρ st with
  | none => rw [ea] at e; cases e
  | some r =>
    obtain ⟨f1, st1⟩ := r
    rw [ea] at e
    cases f1 with
    | nx ρ1 => exact ⟨A, He, ase, ρ, st, os, as, .nx ρ1, st1, ok, ea, fun σ1 H1 os1 as1 ok1 s1 => ⟨A, He, ase, ρ1, st1, os1, as1, fl, st', ok1, e, q.from s1⟩⟩
    | bk ρ1 => cases e; exact ⟨A, He, ase, ρ, st, os, as, .bk ρ1, _, ok, ea, q⟩
    | ct ρ1 => cases e; exact ⟨A, He, ase, ρ, st, os, as, .ct ρ1, _, ok, ea, q⟩
    | ret w => cases e; exact ⟨A, He, ase, ρ, st, os, as, .ret w, _, ok, ea, q⟩
section
variable {X : Cx} {pos p : Pos} {s : Stmt} {rest : List Stmt} {x : Str}
theorem dss_nil : DSs T X [] fNx := PSs.weak pss_nil fun _ _ _ => nx_weak
theorem dss_cons {a b : FS} (h1 : DS T X s a) (h2 : DSs T X rest b) : DSs T X (s :: rest) (fSeq a b) := PSs.weak (pss_cons h1 h2) fun _ _ _ => seq_weak
theorem dss_one {a : FS} (h1 : DS T X s a) : DSs T X [s] a := pss_one h1
theorem ds_pass : DS T X (.Pass pos) fNx := PS.weak ps_pass fun _ _ _ => nx_weak
def fBk : FS := fun ρ st => some (.bk ρ, st)
def fCt : FS := fun ρ st => some (.ct ρ, st)
def fNever : FS := fun _ _ => none
theorem ds_break : DS T X (.Break pos) fBk := PS.weak ps_break fun D σ H h => by
  obtain ⟨A, He, ase, ρ, st, os, as, fl, st', ok, e, q⟩ := h
  cases e
  exact q σ H os as ok .refl
theorem ds_continue : DS T X (.Continue pos) fCt := PS.weak ps_continue fun D σ H h => by
  obtain ⟨A, He, ase, ρ, st, os, as, fl, st', ok, e, q⟩ := h
  cases e
  exact q σ H os as ok .refl
theorem ds_never : DS T X s fNever := PS.weak ps_never fun D σ H h => by
  obtain ⟨A, He, ase, ρ, st, os, as, fl, st', ok, e, q⟩ := h
  cases e
def fIf (c : FT) (a b : FS) : FS := fun ρ st => match c ρ st with
  | some (true, st1) => a ρ st1
  | some (false, st1) => b ρ st1
  | none => none
theorem ds_if {c : Expr} {a b : List Stmt} {fc : FT} {fa fb : FS} (hc : DT T X c fc) (ha : DSs T X a fa) (hb : DSs T X b fb) : DS T X (.If c a b pos) (fIf fc fa fb) := PS.weak (ps_if hc ha hb) fun D σ H h => by
  obtain ⟨A, He, ase, ρ, st, os, as, fl, st', ok, e, q⟩ := h
  unfold fIf at e
  cases ea : fc ρ st with
  | none => rw [ea] at e; cases e
  | some r =>
    obtain ⟨k, st1⟩ := r
    rw [ea] at e
    refine ⟨A, He, ase, ρ, st, os, as, k, st1, ok, ea, fun H1 k1 ok1 => ?_⟩
    have q' := q.from (Stp.of k1)
    cases k with
    | true => exact (if_pos rfl).mpr ⟨A, He, ase, ρ, st1, os, as, fl, st', ok1, e, q'⟩
    | false => exact (if_neg Bool.false_ne_true).mpr ⟨A, He, ase, ρ, st1, os, as, fl, st', ok1, e, q'⟩
theorem RV.up {K : PySem.W.Frag} {H0 H : Hp} {N N' : Addr → Prop} {as : List Addr} {x : V} {w : SV} (h : RV K H0 H N as x w) (n : ∀ a, N' a → N a) (hr : retOk w = true) : RV K H0 H N' as x w := by
  cases w with
  | dat d => exact RD.mv (fun _ _ e _ => e) (fun a z => .inl (n a z)) _ _ h
  | own ds => obtain ⟨a, xs, e, e2, r, e3, e4⟩ := h; exact ⟨a, xs, e, e2, RDs.mv (fun _ _ e _ => e) (fun a z => .inl (n a z)) _ _ r, e3, fun z => e4 (n a z)⟩
  | _ => cases hr
theorem stp_osSet {H H' : Hp} {os : Os} {as : List Addr} {i : Nat} (k : Kp as H H') : Stp H (Mm os as) H' (Mm (osSet os i none) as) :=
  ⟨fun b o e n => k b o e fun z => n (.inr z), fun b z => .inl (by
    rcases z with ⟨j, z⟩ | z
    · by_cases ej : j = i
      · subst ej; rw [osSet_same] at z; cases z
      · rw [osSet_ne ej] at z; exact .inl ⟨j, z⟩
    · exact .inr z)⟩
def fRet (a : FE) : FS := fun ρ st => match a ρ st with
  | some (w, st1) => if retOk w = true then some (.ret w, st1) else none
  | none => none
theorem ds_ret {e : Expr} {fa : FE} (ha : DE T X e fa) : DS T X (.Return (some e) pos) (fRet fa) := PS.weak (ps_ret ha) fun D σ H h => by
  obtain ⟨A, He, ase, ρ, st, os, as, fl, st', ok, e, q⟩ := h
  unfold fRet at e
  cases ea : fa ρ st with
  | none => rw [ea] at e; cases e
  | some r =>
    obtain ⟨w, st1⟩ := r
    rw [ea] at e
    dsimp only at e
    split at e
    · rename_i hr
      cases e
      refine ⟨A, He, ase, ρ, st, os, as, w, _, ok, ea, fun x H1 k1 ok1 r1 => q x σ H1 ρ os as ok1 (.of k1) ?_⟩
      cases w with
      | dat d => exact r1
      | own ds => obtain ⟨a, xs, e, e2, r, e3, e4⟩ := r1; exact ⟨a, xs, e, e2, r, ok.he e3, e4⟩
      | _ => cases hr
    · cases e
def fRetN : FS := fun _ st => some (.ret (.dat .none), st)
theorem ds_retN : DS T X (.Return none pos) fRetN := PS.weak ps_retN fun D σ H h => by
  obtain ⟨A, He, ase, ρ, st, os, as, fl, st', ok, e, q⟩ := h
  cases e
  refine q _ σ H ρ os as ok .refl ?_
  show RD X.K H (Nn A os as) .none .non
  unfold RD; rfl
/-- return x, x a list of one's own -/
def fRetO (i : Nat) : FS := fun ρ st => match gs ρ i with
  | .own ds => some (.ret (.own ds), st)
  | .dat d => some (.ret (.dat d), st)
  | _ => none
theorem ds_retO {i : Nat} (hN : X.N[i]? = some x := by rfl) (hv : Vis X.env.scope x := by first | exact .inl rfl | exact .inr (.inl rfl) | exact .inr (.inr rfl)) (hd : (x == ("__debug__" : Str)) = false := by decide) (hcd : (x == ("__classdict__" : Str)) = false := by decide) :
    DS T X (.Return (some (.Name x p)) pos) (fRetO i) := PS.weak (ps_ret (pe_var hN hv hd hcd)) fun D σ H h => by
  obtain ⟨A, He, ase, ρ, st, os, as, fl, st', ok, e, q⟩ := h
  unfold fRetO at e
  have s := ok.slot i
  cases g : gs ρ i with
  | dat d =>
    rw [g] at e s; cases e
    obtain ⟨_, v, e2, r⟩ := s
    exact ⟨v, gt_some e2, q v σ H ρ os as ok .refl r⟩
  | own ds =>
    rw [g] at e s; cases e
    obtain ⟨a, xs, e1, e2, e3, r⟩ := s
    have okc := ok.clr (i := i)
    have sub : ∀ b, Nn A (osSet os i none) as b → Nn A os as b := fun b z => by
      rcases z with z | ⟨j, z⟩ | z
      · exact .inl z
      · by_cases ej : j = i
        · subst ej; rw [osSet_same] at z; cases z
        · rw [osSet_ne ej] at z; exact .inr (.inl ⟨j, z⟩)
      · exact .inr (.inr z)
    refine ⟨.ref a, gt_some e2, q _ _ H _ _ as okc (stp_osSet .refl) ⟨a, xs, rfl, e3, RDs.mv (fun _ _ e _ => e) (fun b z => .inl (sub b z)) _ _ r, (ok.osf i a e1).1, fun z => ?_⟩⟩
    rcases z with z | ⟨j, z⟩ | z
    · exact (ok.aal a z).2.2 i e1
    · by_cases ej : j = i
      · subst ej; rw [osSet_same] at z; cases z
      · rw [osSet_ne ej] at z; exact ej (ok.odup j i a z e1)
    · exact (ok.osf i a e1).2 z
  | _ => rw [g] at e; cases e
def fExpr (a : FE) : FS := fun ρ st => match a ρ st with
  | some (_, st1) => some (.nx ρ, st1)
  | none => none
theorem ds_expr {e : Expr} {fa : FE} (ha : DE T X e fa) (hs : swapsWith e none pos.line X.env = pure false := by rfl) : DS T X (.Expr e pos) (fExpr fa) := PS.weak (ps_expr ha hs) fun D σ H h => by
  obtain ⟨A, He, ase, ρ, st, os, as, fl, st', ok, e, q⟩ := h
  unfold fExpr at e
  cases ea : fa ρ st with
  | none => rw [ea] at e; cases e
  | some r =>
    obtain ⟨w, st1⟩ := r
    rw [ea] at e; cases e
    exact ⟨A, He, ase, ρ, st, os, as, w, _, ok, ea, fun x H1 k1 ok1 r1 => q σ H1 os as ok1 (.of k1)⟩
theorem ds_doc {z : Str} {j pos'} : DS T X (.Expr (.Constant (.str z) j pos) pos') fNx := PS.weak ps_doc fun _ _ _ => nx_weak

/-! ### stores to names -/
def bindOf : SV → Option SV
  | .dat d => some (.dat d)
  | .own ds => some (.dat (.list ds))
  | .ref n => some (.ref n)
  | .fz ds => some (.fz ds)
  | _ => none
def fSet (i : Nat) (a : FE) : FS := fun ρ st => match a ρ st with
  | some (w, st1) => (bindOf w).map fun u => (.nx (ρ.set i u), st1)
  | none => none
theorem osSet_sub {A : Addr → Prop} {os : Os} {as : List Addr} {i : Nat} {b : Addr} (z : Nn A (osSet os i none) as b) : Nn A os as b := by
  rcases z with z | ⟨j, z⟩ | z
  · exact .inl z
  · by_cases ej : j = i
    · subst ej; rw [osSet_same] at z; cases z
    · rw [osSet_ne ej] at z; exact .inr (.inl ⟨j, z⟩)
  · exact .inr (.inr z)
/-- a slot is given what is no list of one's own -/
theorem StOk.putG {c : Cf} {σ : L2.St} {H : Hp} {ρ : Fr} {st : Sto} {os : Os} {as : List Addr} (ok : StOk c σ H ρ st os as) {i : Nat} {v : V} {w : SV} (hs : SlotR c.K H (Nn c.A (osSet os i none) as) as (some v) none w) (hi : i < ρ.length ∨ w = .non) :
    StOk c (σ.set i (some v)) H (ρ.set i w) st (osSet os i none) as := by
  have okc := ok.clr (i := i)
  refine ⟨by simp [ok.lr], fun j => ?_, okc.sto, okc.pre, okc.tab, okc.osf, okc.odup, okc.adup, okc.keep, okc.aal⟩
  by_cases e : j = i
  · subst e
    rcases hi with hi | hi
    · rw [gt_set_same (by rw [ok.lr]; exact hi), gs_set_same hi, osSet_same]; exact hs
    · subst hi
      rw [osSet_same]
      have g : gs (ρ.set j SV.non) j = .non := by
        unfold gs
        by_cases hj : j < ρ.length
        · rw [List.getElem?_set_self hj]; rfl
        · rw [List.getElem?_eq_none (by simpa using hj)]; rfl
      rw [g]; rfl
  · have s := okc.slot j
    rw [gt_set_ne e, gs_set_ne e, osSet_ne e] at s
    rw [gt_set_ne e, gs_set_ne e, osSet_ne e]
    exact s
theorem StOk.putB {c : Cf} {σ : L2.St} {H H0 : Hp} {ρ : Fr} {st : Sto} {os : Os} {as : List Addr} (ok : StOk c σ H ρ st os as) {i : Nat} {v : V} {w u : SV} (r : RV c.K H0 H (Nn c.A os as) as v w) (e : bindOf w = some u) :
    StOk c (σ.set i (some v)) H (ρ.set i u) st (osSet os i none) as := by
  by_cases hi : i < ρ.length
  · refine ok.putG ?_ (.inl hi)
    have sub : ∀ b, Nn c.A (osSet os i none) as b → Nn c.A os as b ∨ H b = none := fun b z => .inl (osSet_sub z)
    have kq : ∀ b o, H b = some o → ¬ Nn c.A os as b → H b = some o := fun _ _ e _ => e
    cases w with
    | dat d => cases e; exact ⟨rfl, v, rfl, RD.mv kq sub _ _ r⟩
    | own ds => cases e; exact ⟨rfl, v, rfl, RD.mv kq sub _ _ (r.esc rfl)⟩
    | ref n => cases e; obtain ⟨a, e1, e2⟩ := r; exact ⟨rfl, a, e1, by rw [e2]⟩
    | fz ds => cases e; obtain ⟨a, xs, e1, ⟨e2, e3⟩, r⟩ := r; exact ⟨rfl, a, xs, by rw [e1], ⟨e2, fun z => e3 (osSet_sub z)⟩, RDs.mv kq sub _ _ r⟩
    | _ => cases e
  · have e1 : σ.set i (some v) = σ := List.set_eq_of_length_le (by rw [ok.lr]; omega)
    have e2 : ρ.set i u = ρ := List.set_eq_of_length_le (by omega)
    have okc := ok.clr (i := i)
    rw [List.set_eq_of_length_le (by rw [ok.lr]; omega), List.set_eq_of_length_le (by omega)] at okc
    rw [e1, e2]
    exact okc
theorem set_weak {K : PySem.W.Frag} {i : Nat} {fa : FE} {D : Ends} {σ : L2.St} {H : Hp} (h : simS K T (fSet i fa) D σ H) : simE K T fa σ H fun x H1 => gName i x σ H1 D.nx := by
  obtain ⟨A, He, ase, ρ, st, os, as, fl, st', ok, e, q⟩ := h
  unfold fSet at e
  cases ea : fa ρ st with
  | none => rw [ea] at e; cases e
  | some r =>
    obtain ⟨w, st1⟩ := r
    rw [ea] at e
    dsimp only at e
    cases eb : bindOf w with
    | none => rw [eb] at e; cases e
    | some u =>
      rw [eb] at e; cases e
      exact ⟨A, He, ase, ρ, st, os, as, w, _, ok, ea, fun x H1 k1 ok1 r1 => q _ H1 _ as (ok1.putB r1 eb) (stp_osSet k1)⟩
theorem ds_set {i : Nat} {e : Expr} {fa : FE} {pos' : Pos} (ha : DE T X e fa) (hN : X.N.Nodup) (hi : X.N[i]? = some x := by rfl) (hx : Loc X.env.scope x := by first | exact .inl rfl | exact .inr rfl) (hs : swapsWith e (some (.Name x pos')) pos.line X.env = pure false := by rfl)
    (hf : X.fn x = true ∨ X.env.scope.names.lookup x = some .local := by first | exact .inl rfl | exact .inr rfl | assumption) : DS T X (.Assign [.Name x pos'] e pos) (fSet i fa) :=
  PS.weak (ps_set hN hi hx ha hs hf) fun _ _ _ => set_weak
theorem ds_setc {i : Nat} {y : Str} {py spos : Pos} {elt tgx iter : Expr} {ifs : List Expr} {scope : Scope} {own : List (Str × Nat)} {fi : FI} {g : TG} {tg : TgF} {cs : FT} {el : FE} (sg : SG X.K T (own.map (·.2)) g tg) (hc : X.calm = true) (hN : X.N.Nodup) (hy : X.N[i]? = some y) (hyl : X.env.scope.names.lookup y = some .local)
    (hsw : swapsWith (.ListComp elt [⟨tgx, iter, ifs, 0⟩] scope pos) (some (.Name y py)) spos.line X.env = pure true) (hi : DI T true X tgx iter fi) (ok : BlkOk X.N X.env.scope scope own)
    (hg : ∀ (s : Shared) (H : Hp) (C : Addr) (cl : List (Str × Addr)) (fp : List Addr), PG (X.blk s H scope (compEnvC scope cl C X.env) fp) tgx g)
    (ht : ∀ (s : Shared) (H : Hp) (C : Addr) (cl : List (Str × Addr)) (fp : List Addr), DTs T (X.blk s H scope (compEnvC scope cl C X.env) fp) ifs cs)
    (he : ∀ (s : Shared) (H : Hp) (C : Addr) (cl : List (Str × Addr)) (fp : List Addr), DE T (X.blk s H scope (compEnvC scope cl C X.env) fp) elt el) (hs : ∀ x, foldedSetIterable iter X.env x = pure x := by intro _; rfl) :
    DS T X (.Assign [.Name y py] (.ListComp elt [⟨tgx, iter, ifs, 0⟩] scope pos) spos) (fSet i (fComp (own.map (·.2)) fi tg cs el)) :=
  PS.weak (ps_setLc (tt := simT X.K T cs) (te := simE X.K T el) hc hN hy hyl hsw hi ok hg ht he hs) fun _ _ _ h => comp_weak sg (set_weak h)

/-! ### lists of one's own -/
mutual
/-- no list, no dict within -/
def flatD : PyData → Bool
  | .none => true
  | .bool _ => true
  | .int _ => true
  | .str _ => true
  | .tuple ds => flatDs ds
  | .list _ => false
  | .dict _ => false
def flatDs : List PyData → Bool
  | [] => true
  | d :: ds => flatD d && flatDs ds
end
def stFlat (st : Sto) : Bool := st.all flatDs
mutual
theorem RD.flat {K : PySem.W.Frag} {H : Hp} {N N' : Addr → Prop} (hl : ∀ b, N' b → N b ∨ ∃ xs, H b = some (.lst xs)) : ∀ {d : PyData} {v : V}, RD K H N d v → flatD d = true → RD K H N' d v
  | .none, _, r, _ => r
  | .bool _, _, r, _ => r
  | .int _, _, r, _ => r
  | .str _, _, r, _ => r
  | .tuple ds, _, ⟨a, xs, e, q, r⟩, f => ⟨a, xs, e, q.imp_left fun ⟨q1, q2⟩ => ⟨q1, fun z => by
      rcases hl a z with z | ⟨ys, z⟩
      · exact q2 z
      · rcases q1 with q1 | ⟨o, q1⟩ <;> (rw [z] at q1; cases q1)⟩, RDs.flat hl r f⟩
  | .list _, _, _, f => by cases f
  | .dict _, _, _, f => by cases f
theorem RDs.flat {K : PySem.W.Frag} {H : Hp} {N N' : Addr → Prop} (hl : ∀ b, N' b → N b ∨ ∃ xs, H b = some (.lst xs)) : ∀ {ds : List PyData} {vs : List V}, RDs K H N ds vs → flatDs ds = true → RDs K H N' ds vs
  | [], _, r, _ => r
  | d :: ds, _, ⟨x, t, e, r1, r2⟩, f => by
    have f' : (flatD d && flatDs ds) = true := f
    rw [Bool.and_eq_true] at f'
    exact ⟨x, t, e, RD.flat hl r1 f'.1, RDs.flat hl r2 f'.2⟩
end
theorem StoR.flat {K : PySem.W.Frag} {H : Hp} {N N' : Addr → Prop} {as : List Addr} {st : Sto} (r : StoR K H N as st) (hl : ∀ b, N' b → N b ∨ ∃ xs, H b = some (.lst xs)) (f : stFlat st = true) : StoR K H N' as st :=
  ⟨r.1, fun n ds e => by
    obtain ⟨a, xs, e1, e2, rd⟩ := r.2 n ds e
    exact ⟨a, xs, e1, e2, RDs.flat hl rd (List.all_eq_true.mp f ds (List.mem_of_getElem? e))⟩⟩
end
end EV
end

section
set_option maxRecDepth 100000
set_option maxHeartbeats 4000000
namespace EV
open PySem PySem.Spec L2
open LamX (TabS Tabs ExtN)

section
variable {c : Cf} {σ : L2.St} {H H0 : Hp} {ρ : Fr} {st st0 : Sto} {os : Os} {as : List Addr}
/-! ### a list of one's own is let go -/
def frz (ρ : Fr) (i : Nat) : Fr := match gs ρ i with
  | .own ds => ρ.set i (.dat (.list ds))
  | _ => ρ
theorem gs_lt {w : SV} {i : Nat} (h : gs ρ i = w) (n : w ≠ .non) : i < ρ.length := by
  rcases Nat.lt_or_ge i ρ.length with z | z
  · exact z
  · exact absurd (by rw [← h]; unfold gs; rw [List.getElem?_eq_none z]; rfl) n
theorem set_self {i : Nat} {v : Option V} {σ : L2.St} (h : σ[i]? = some v) : σ.set i v = σ := by
  apply List.ext_getElem? ; intro j
  by_cases e : i = j
  · subst e
    have hi := (List.getElem?_eq_some_iff.mp h).1
    rw [List.getElem?_set_self hi, h]
  · rw [List.getElem?_set_ne e]
theorem StOk.frz (ok : StOk c σ H ρ st os as) (i : Nat) : ∃ os', StOk c σ H (frz ρ i) st os' as ∧ ∀ M', M' = Mm os' as → Stp H (Mm os as) H M' := by
  unfold EV.frz
  split
  · rename_i ds g
    have s := ok.slot i
    rw [g] at s
    obtain ⟨a, xs, e1, e2, e3, r⟩ := s
    have hi := gs_lt g (by simp)
    have z := ok.putG (i := i) (v := .ref a) (w := .dat (.list ds)) ?_ (.inl hi)
    · rw [set_self (gt_some e2)] at z
      exact ⟨_, z, fun M' e => e ▸ stp_osSet .refl⟩
    · refine ⟨rfl, _, rfl, a, xs, rfl, ⟨e3, fun z => ?_⟩, RDs.mv (fun _ _ e _ => e) (fun b z => .inl (osSet_sub z)) _ _ r⟩
      rcases z with z | ⟨j, z⟩ | z
      · exact (ok.aal a z).2.2 i e1
      · by_cases ej : j = i
        · subst ej; rw [osSet_same] at z; cases z
        · rw [osSet_ne ej] at z; exact ej (ok.odup j i a z e1)
      · exact (ok.osf i a e1).2 z
  · exact ⟨os, ok, fun M' e => e ▸ .refl⟩
def fFrz (i : Nat) (F : FS) : FS := fun ρ st => F (EV.frz ρ i) st
theorem ds_frz {X : Cx} {s : Stmt} {F : FS} (i : Nat) (h : DS T X s F) : DS T X s (fFrz i F) := PS.weak h fun D σ H z => by
  obtain ⟨A, He, ase, ρ, st, os, as, fl, st', ok, e, q⟩ := z
  obtain ⟨os', ok', stp⟩ := ok.frz i
  exact ⟨A, He, ase, _, st, os', as, fl, st', ok', e, q.from (stp _ rfl)⟩

/-! ### a slot is given a list of one's own -/
theorem StOk.putO (ok0 : StOk c σ H0 ρ st0 os as) (ok : StOk c σ H ρ st os as) (k : Kp as H0 H) (f : stFlat st = true) {a : Addr} {xs : List V} {ds : List PyData} {i : Nat} (ha : H a = some (.lst xs)) (r : RDs c.K H (Nn c.A os as) ds xs) (fd : flatDs ds = true)
    (n0 : H0 a = none) (nn : ¬ Nn c.A os as a) (hi : i < ρ.length) : StOk c (σ.set i (some (.ref a))) H (ρ.set i (.own ds)) st (osSet os i (some a)) as := by
  have sub : ∀ b, Nn c.A (osSet os i (some a)) as b → Nn c.A os as b ∨ b = a := fun b z => by
    rcases z with z | ⟨j, z⟩ | z
    · exact .inl (.inl z)
    · by_cases ej : j = i
      · subst ej; rw [osSet_same] at z; cases z; exact .inr rfl
      · rw [osSet_ne ej] at z; exact .inl (.inr (.inl ⟨j, z⟩))
    · exact .inl (.inr (.inr z))
  have hl : ∀ b, Nn c.A (osSet os i (some a)) as b → Nn c.A os as b ∨ ∃ xs, H b = some (.lst xs) := fun b z => by
    rcases sub b z with z | z
    · exact .inl z
    · subst z; exact .inr ⟨_, ha⟩
  refine ⟨by simp [ok.lr], fun j => ?_, ok.sto.flat hl f, ok.pre, ok.tab, fun j b z => ?_, fun j l b z1 z2 => ?_, ok.adup, ok.keep, fun b hb => ⟨(ok.aal b hb).1, (ok.aal b hb).2.1, fun j z => ?_⟩⟩
  · by_cases ej : j = i
    · subst ej
      rw [gt_set_same (by rw [ok.lr]; exact hi), gs_set_same hi, osSet_same]
      exact ⟨a, xs, rfl, rfl, ha, RDs.flat hl r fd⟩
    · rw [gt_set_ne ej, gs_set_ne ej, osSet_ne ej]
      refine (ok0.slot j).mv (fun b o e n => k b o e fun z => n (nn_as _ z)) (fun b z => ?_) (fun b ys e1 e2 => k b _ e2 (ok.osf j b e1).2)
      rcases sub b z with z | z
      · exact .inl z
      · subst z; exact .inr n0
  · by_cases ej : j = i
    · subst ej; rw [osSet_same] at z; cases z
      exact ⟨ok0.he n0, fun z => nn (nn_as _ z)⟩
    · rw [osSet_ne ej] at z; exact ok.osf j b z
  · by_cases ej : j = i
    · by_cases el : l = i
      · rw [ej, el]
      · subst ej; rw [osSet_same] at z1; cases z1; rw [osSet_ne el] at z2; exact absurd (.inr (.inl ⟨l, z2⟩)) nn
    · by_cases el : l = i
      · subst el; rw [osSet_same] at z2; cases z2; rw [osSet_ne ej] at z1; exact absurd (.inr (.inl ⟨j, z1⟩)) nn
      · rw [osSet_ne ej] at z1; rw [osSet_ne el] at z2; exact ok.odup j l b z1 z2
  · by_cases ej : j = i
    · subst ej; rw [osSet_same] at z; cases z; exact nn (.inl hb)
    · rw [osSet_ne ej] at z; exact (ok.aal b hb).2.2 j z
def fSetO (i : Nat) (a : FE) : FS := fun ρ st => match a ρ st with
  | some (.own ds, st1) => if (i < ρ.length ∧ flatDs ds = true) ∧ stFlat st1 = true then some (.nx (ρ.set i (.own ds)), st1) else none
  | _ => none
theorem setO_weak {K : PySem.W.Frag} {i : Nat} {fa : FE} {D : Ends} {σ : L2.St} {H : Hp} (h : simS K T (fSetO i fa) D σ H) : simE K T fa σ H fun x H1 => gName i x σ H1 D.nx := by
  obtain ⟨A, He, ase, ρ, st, os, as, fl, st', ok, e, q⟩ := h
  unfold fSetO at e
  cases ea : fa ρ st with
  | none => rw [ea] at e; cases e
  | some r =>
    obtain ⟨w, st1⟩ := r
    rw [ea] at e
    cases w with
    | own ds =>
      dsimp only at e
      split at e
      · rename_i hz
        cases e
        refine ⟨A, He, ase, ρ, st, os, as, .own ds, _, ok, ea, fun x H1 k1 ok1 r1 => ?_⟩
        obtain ⟨a, xs, ex, e2, rd, e3, e4⟩ := r1
        subst ex
        refine q _ H1 _ as (ok.putO ok1 k1 hz.2 e2 rd hz.1.2 e3 e4 hz.1.1) ⟨fun b o e n => k1 b o e fun z => n (.inr z), fun b z => ?_⟩
        rcases z with ⟨j, z⟩ | z
        · by_cases ej : j = i
          · subst ej; rw [osSet_same] at z; cases z; exact .inr e3
          · rw [osSet_ne ej] at z; exact .inl (.inl ⟨j, z⟩)
        · exact .inl (.inr z)
      · cases e
    | _ => cases e

/-! ### a slot is given a cell of the store -/
def refsIn (n : Nat) (ρ : Fr) : Bool := ρ.all fun w => match w with
  | .ref m => decide (m < n)
  | _ => true
theorem refsIn_at {n m i : Nat} (h : refsIn n ρ = true) (g : gs ρ i = .ref m) : m < n := by
  have hi := gs_lt g (by simp)
  have := List.all_eq_true.mp h ρ[i] (List.getElem_mem hi)
  have e : ρ[i] = .ref m := by unfold gs at g; rw [List.getElem?_eq_getElem hi] at g; exact g
  rw [e] at this
  simpa using this
theorem StOk.putR (ok0 : StOk c σ H0 ρ st0 os as) (ok : StOk c σ H ρ st os as) (k : Kp as H0 H) (f : stFlat st = true) {a : Addr} {xs : List V} {ds : List PyData} {i : Nat} (ha : H a = some (.lst xs)) (r : RDs c.K H (Nn c.A os as) ds xs) (fd : flatDs ds = true)
    (n0 : H0 a = none) (nn : ¬ Nn c.A os as a) (hi : i < ρ.length) (hr : refsIn st.length ρ = true) :
    ∃ as' os', StOk c (σ.set i (some (.ref a))) H (ρ.set i (.ref st.length)) (st ++ [ds]) os' as' ∧ ∀ b, Mm os' as' b → Mm os as b ∨ b = a := by
  obtain ⟨more, epre, elen, hmore⟩ := ok.pre
  have eas : as = (c.ase ++ more) ++ c.tb.map (·.1) := by rw [epre, List.append_assoc]
  have hlen : (c.ase ++ more).length = st.length := by rw [List.length_append]; exact elen
  have hmem : ∀ b, b ∈ (c.ase ++ (more ++ [a])) ++ c.tb.map (·.1) ↔ b ∈ as ∨ b = a := fun b => by
    rw [eas]; simp only [List.mem_append, List.mem_singleton]
    constructor
    · rintro ((h | h | h) | h)
      · exact .inl (.inl (.inl h))
      · exact .inl (.inl (.inr h))
      · exact .inr h
      · exact .inl (.inr h)
    · rintro (((h | h) | h) | h)
      · exact .inl (.inl h)
      · exact .inl (.inr (.inl h))
      · exact .inr h
      · exact .inl (.inr (.inr h))
  have sub : ∀ b, Nn c.A (osSet os i none) ((c.ase ++ (more ++ [a])) ++ c.tb.map (·.1)) b → Nn c.A os as b ∨ b = a := fun b z => by
    rcases z with z | ⟨j, z⟩ | z
    · exact .inl (.inl z)
    · by_cases ej : j = i
      · subst ej; rw [osSet_same] at z; cases z
      · rw [osSet_ne ej] at z; exact .inl (.inr (.inl ⟨j, z⟩))
    · rcases (hmem b).mp z with z | z
      · exact .inl (.inr (.inr z))
      · exact .inr z
  have hl : ∀ b, Nn c.A (osSet os i none) ((c.ase ++ (more ++ [a])) ++ c.tb.map (·.1)) b → Nn c.A os as b ∨ ∃ xs, H b = some (.lst xs) := fun b z => by
    rcases sub b z with z | z
    · exact .inl z
    · subst z; exact .inr ⟨_, ha⟩
  have eq2 : (c.ase ++ (more ++ [a])) ++ c.tb.map (·.1) = (c.ase ++ more) ++ (a :: c.tb.map (·.1)) := by simp
  have at0 : ∀ n, n < st.length → ((c.ase ++ (more ++ [a])) ++ c.tb.map (·.1))[n]? = as[n]? := fun n hn => by
    rw [eas, eq2]; exact (List.getElem?_append_left (by rw [hlen]; exact hn)).trans (List.getElem?_append_left (by rw [hlen]; exact hn)).symm
  have at1 : ((c.ase ++ (more ++ [a])) ++ c.tb.map (·.1))[st.length]? = some a := by
    rw [eq2, List.getElem?_append_right (by rw [hlen]; exact Nat.le_refl _), hlen]
    simp
  refine ⟨(c.ase ++ (more ++ [a])) ++ c.tb.map (·.1), osSet os i none, ⟨by simp [ok.lr], fun j => ?_, ?_, ⟨more ++ [a], by rw [List.append_assoc], by simp; omega, fun b hb => ?_⟩, ok.tab, fun j b z => ?_, fun j l b z1 z2 => ?_, ?_, ok.keep, fun b hb => ⟨(ok.aal b hb).1, fun z => ?_, fun j z => ?_⟩⟩, fun b z => ?_⟩
  · by_cases ej : j = i
    · subst ej
      rw [gt_set_same (by rw [ok.lr]; exact hi), gs_set_same hi, osSet_same]
      exact ⟨rfl, a, at1, rfl⟩
    · rw [gt_set_ne ej, gs_set_ne ej, osSet_ne ej]
      have s := (ok0.slot j).mv (N' := Nn c.A (osSet os i none) ((c.ase ++ (more ++ [a])) ++ c.tb.map (·.1))) (H' := H) (fun b o e n => k b o e fun z => n (nn_as _ z)) (fun b z => by
        rcases sub b z with z | z
        · exact .inl z
        · subst z; exact .inr n0) (fun b ys e1 e2 => k b _ e2 (ok.osf j b e1).2)
      cases g : gs ρ j with
      | non => rw [g] at s; exact s
      | dat d => rw [g] at s; exact s
      | own d => rw [g] at s; exact s
      | pk d => rw [g] at s; exact s
      | fz d => rw [g] at s; exact s
      | ref m =>
        rw [g] at s
        obtain ⟨s1, b, s2, s3⟩ := s
        exact ⟨s1, b, by rw [at0 m (refsIn_at hr g)]; exact s2, s3⟩
  · have s := ok.sto.flat hl f
    refine ⟨by simp; omega, fun n es e => ?_⟩
    by_cases hn : n < st.length
    · rw [List.getElem?_append_left hn] at e
      obtain ⟨b, ys, e1, e2, rd⟩ := s.2 n es e
      exact ⟨b, ys, by rw [at0 n hn]; exact e1, e2, rd⟩
    · have hn' : n = st.length := by
        have := (List.getElem?_eq_some_iff.mp e).1
        simp at this; omega
      subst hn'
      simp at e
      subst e
      exact ⟨a, xs, at1, ha, RDs.flat hl r fd⟩
  · rcases List.mem_append.mp hb with hb | hb
    · exact hmore b hb
    · rw [List.mem_singleton] at hb; subst hb; exact ok0.he n0
  · by_cases ej : j = i
    · subst ej; rw [osSet_same] at z; cases z
    · rw [osSet_ne ej] at z
      refine ⟨(ok.osf j b z).1, fun q => ?_⟩
      rcases (hmem b).mp q with q | q
      · exact (ok.osf j b z).2 q
      · subst q; exact nn (.inr (.inl ⟨j, z⟩))
  · by_cases ej : j = i
    · subst ej; rw [osSet_same] at z1; cases z1
    · by_cases el : l = i
      · subst el; rw [osSet_same] at z2; cases z2
      · rw [osSet_ne ej] at z1; rw [osSet_ne el] at z2; exact ok.odup j l b z1 z2
  · have ad := ok.adup
    rw [eas] at ad
    have na : a ∉ (c.ase ++ more) ++ c.tb.map (·.1) := fun z => nn (.inr (.inr (eas ▸ z)))
    have pm : ((c.ase ++ (more ++ [a])) ++ c.tb.map (·.1)).Perm (a :: ((c.ase ++ more) ++ c.tb.map (·.1))) := by
      rw [eq2]
      exact List.perm_middle
    exact pm.nodup_iff.mpr (List.nodup_cons.mpr ⟨na, ad⟩)
  · rcases (hmem b).mp z with z | z
    · exact (ok.aal b hb).2.1 z
    · subst z; exact nn (.inl hb)
  · by_cases ej : j = i
    · subst ej; rw [osSet_same] at z; cases z
    · rw [osSet_ne ej] at z; exact (ok.aal b hb).2.2 j z
  · rcases z with ⟨j, z⟩ | z
    · by_cases ej : j = i
      · subst ej; rw [osSet_same] at z; cases z
      · rw [osSet_ne ej] at z; exact .inl (.inl ⟨j, z⟩)
    · rcases (hmem b).mp z with z | z
      · exact .inl (.inr z)
      · exact .inr z
def fSetR (i : Nat) (a : FE) : FS := fun ρ st => match a ρ st with
  | some (.own ds, st1) => if (i < ρ.length ∧ flatDs ds = true) ∧ (stFlat st1 = true ∧ refsIn st1.length ρ = true) then some (.nx (ρ.set i (.ref st1.length)), st1 ++ [ds]) else none
  | _ => none
theorem setR_weak {K : PySem.W.Frag} {i : Nat} {fa : FE} {D : Ends} {σ : L2.St} {H : Hp} (h : simS K T (fSetR i fa) D σ H) : simE K T fa σ H fun x H1 => gName i x σ H1 D.nx := by
  obtain ⟨A, He, ase, ρ, st, os, as, fl, st', ok, e, q⟩ := h
  unfold fSetR at e
  cases ea : fa ρ st with
  | none => rw [ea] at e; cases e
  | some r =>
    obtain ⟨w, st1⟩ := r
    rw [ea] at e
    cases w with
    | own ds =>
      dsimp only at e
      split at e
      · rename_i hz
        cases e
        refine ⟨A, He, ase, ρ, st, os, as, .own ds, _, ok, ea, fun x H1 k1 ok1 r1 => ?_⟩
        obtain ⟨a, xs, ex, e2, rd, e3, e4⟩ := r1
        subst ex
        obtain ⟨as', os', okf, hm⟩ := ok.putR ok1 k1 hz.2.1 e2 rd hz.1.2 e3 e4 hz.1.1 hz.2.2
        exact q _ H1 _ as' okf ⟨fun b o e n => k1 b o e fun z => n (.inr z), fun b z => (hm b z).imp_right fun w => by rw [w]; exact e3⟩
      · cases e
    | _ => cases e
end
section
variable {X : Cx} {pos p : Pos} {s : Stmt} {rest : List Stmt} {x : Str}
theorem ds_setO {i : Nat} {e : Expr} {fa : FE} {pos' : Pos} (ha : DE T X e fa) (hN : X.N.Nodup) (hi : X.N[i]? = some x := by rfl) (hx : Loc X.env.scope x := by first | exact .inl rfl | exact .inr rfl) (hs : swapsWith e (some (.Name x pos')) pos.line X.env = pure false := by rfl)
    (hf : X.fn x = true ∨ X.env.scope.names.lookup x = some .local := by first | exact .inl rfl | exact .inr rfl | assumption) : DS T X (.Assign [.Name x pos'] e pos) (fSetO i fa) :=
  PS.weak (ps_set hN hi hx ha hs hf) fun _ _ _ => setO_weak
theorem ds_setR {i : Nat} {e : Expr} {fa : FE} {pos' : Pos} (ha : DE T X e fa) (hN : X.N.Nodup) (hi : X.N[i]? = some x := by rfl) (hx : Loc X.env.scope x := by first | exact .inl rfl | exact .inr rfl) (hs : swapsWith e (some (.Name x pos')) pos.line X.env = pure false := by rfl)
    (hf : X.fn x = true ∨ X.env.scope.names.lookup x = some .local := by first | exact .inl rfl | exact .inr rfl | assumption) : DS T X (.Assign [.Name x pos'] e pos) (fSetR i fa) :=
  PS.weak (ps_set hN hi hx ha hs hf) fun _ _ _ => setR_weak
theorem ds_setcO {i : Nat} {y : Str} {py spos : Pos} {elt tgx iter : Expr} {ifs : List Expr} {scope : Scope} {own : List (Str × Nat)} {fi : FI} {g : TG} {tg : TgF} {cs : FT} {el : FE} (sg : SG X.K T (own.map (·.2)) g tg) (hc : X.calm = true) (hN : X.N.Nodup) (hy : X.N[i]? = some y) (hyl : X.env.scope.names.lookup y = some .local)
    (hsw : swapsWith (.ListComp elt [⟨tgx, iter, ifs, 0⟩] scope pos) (some (.Name y py)) spos.line X.env = pure true) (hi : DI T true X tgx iter fi) (ok : BlkOk X.N X.env.scope scope own)
    (hg : ∀ (s : Shared) (H : Hp) (C : Addr) (cl : List (Str × Addr)) (fp : List Addr), PG (X.blk s H scope (compEnvC scope cl C X.env) fp) tgx g)
    (ht : ∀ (s : Shared) (H : Hp) (C : Addr) (cl : List (Str × Addr)) (fp : List Addr), DTs T (X.blk s H scope (compEnvC scope cl C X.env) fp) ifs cs)
    (he : ∀ (s : Shared) (H : Hp) (C : Addr) (cl : List (Str × Addr)) (fp : List Addr), DE T (X.blk s H scope (compEnvC scope cl C X.env) fp) elt el) (hs : ∀ x, foldedSetIterable iter X.env x = pure x := by intro _; rfl) :
    DS T X (.Assign [.Name y py] (.ListComp elt [⟨tgx, iter, ifs, 0⟩] scope pos) spos) (fSetO i (fComp (own.map (·.2)) fi tg cs el)) :=
  PS.weak (ps_setLc (tt := simT X.K T cs) (te := simE X.K T el) hc hN hy hyl hsw hi ok hg ht he hs) fun _ _ _ h => comp_weak sg (setO_weak h)
end
end EV
end

section
set_option maxRecDepth 100000
set_option maxHeartbeats 4000000
namespace EV
open PySem PySem.Spec L2
open LamX (TabS Tabs ExtN)

section
variable {c : Cf} {σ : L2.St} {H H0 : Hp} {ρ : Fr} {st st0 : Sto} {os : Os} {as : List Addr}
/-! ### a list of one's own is changed -/
theorem tabs_upd {T : List (Addr × Str)} {a : Addr} {xs ys : List V} (h : Tabs T H) (e : H a = some (.lst xs)) : Tabs T (L2.upd H a (.lst ys)) := fun p hp => by
  have k : ∀ b u, H b = some u → b ≠ a → (L2.upd H a (.lst ys)) b = some u := fun b u q n => by rw [upd_ne n]; exact q
  obtain ⟨ps, h1, h2, h3⟩ := h p hp
  refine ⟨ps, k _ _ h1 (ne_of h1 e (by intro z; cases z)), h2, fun pos cv hc => ?_⟩
  obtain ⟨cc, e1, e2⟩ := h3 pos cv hc
  exact ⟨cc, e1, k _ _ e2 (ne_of e2 e (by intro z; cases z))⟩
theorem StOk.updO (ok : StOk c σ H ρ st os as) {i : Nat} {a : Addr} {xs ys : List V} {ds es : List PyData} (hg : gs ρ i = .own ds) (ho : os i = some a) (e : H a = some (.lst xs)) (r : RDs c.K H (Nn c.A os as) es ys) :
    StOk c σ (L2.upd H a (.lst ys)) (ρ.set i (.own es)) st os as := by
  have k : ∀ b u, H b = some u → b ≠ a → (L2.upd H a (.lst ys)) b = some u := fun b u q n => by rw [upd_ne n]; exact q
  have na : Nn c.A os as a := .inr (.inl ⟨i, ho⟩)
  have kq : ∀ b u, H b = some u → ¬ Nn c.A os as b → (L2.upd H a (.lst ys)) b = some u := fun b u q n => k b u q fun z => n (by rw [z]; exact na)
  obtain ⟨he, has⟩ := ok.osf i a ho
  refine ⟨by simp [ok.lr], fun j => ?_, ok.sto.mv kq (fun _ z => .inl z) fun b zs hb e2 => k b _ e2 fun z => has (by rw [← z]; exact hb), ok.pre, tabs_upd ok.tab e, ok.osf, ok.odup, ok.adup, fun b o q n1 n2 => ?_, fun b hb => ?_⟩
  · by_cases ej : j = i
    · subst ej
      have s := ok.slot j
      rw [hg, ho] at s
      obtain ⟨b, zs, e1, e2, e3, _⟩ := s
      cases e1
      rw [gs_set_same (gs_lt hg (by simp)), ho]
      exact ⟨a, ys, rfl, e2, upd_same, RDs.mv kq (fun _ z => .inl z) _ _ r⟩
    · rw [gs_set_ne ej]
      exact (ok.slot j).mv kq (fun _ z => .inl z) fun b zs e1 e2 => k b _ e2 fun z => ej (ok.odup j i a (by rw [← z]; exact e1) ho)
  · by_cases z : b = a
    · subst z; rw [he] at q; cases q
    · exact k b o (ok.keep b o q n1 n2) z
  · obtain ⟨⟨o, q⟩, r⟩ := ok.aal b hb
    by_cases z : b = a
    · subst z; exact ⟨⟨_, upd_same⟩, r⟩
    · exact ⟨⟨o, k b o q z⟩, r⟩
theorem StOk.updR (ok : StOk c σ H ρ st os as) {n : Nat} {a : Addr} {xs ys : List V} {es : List PyData} (hn : n < st.length) (ha : as[n]? = some a) (e : H a = some (.lst xs)) (r : RDs c.K H (Nn c.A os as) es ys) :
    StOk c σ (L2.upd H a (.lst ys)) ρ (st.set n es) os as := by
  have k : ∀ b u, H b = some u → b ≠ a → (L2.upd H a (.lst ys)) b = some u := fun b u q n => by rw [upd_ne n]; exact q
  have ham := List.mem_of_getElem? ha
  have na : Nn c.A os as a := .inr (.inr ham)
  have kq : ∀ b u, H b = some u → ¬ Nn c.A os as b → (L2.upd H a (.lst ys)) b = some u := fun b u q n => k b u q fun z => n (by rw [z]; exact na)
  refine ⟨ok.lr, fun j => (ok.slot j).mv kq (fun _ z => .inl z) fun b zs e1 e2 => k b _ e2 fun z => (ok.osf j b e1).2 (by rw [z]; exact ham), ⟨by simpa using ok.sto.1, fun m ds em => ?_⟩, ?_, tabs_upd ok.tab e, ok.osf, ok.odup, ok.adup, fun b o q n1 n2 => ?_, fun b hb => ?_⟩
  · by_cases hm : m = n
    · subst hm
      rw [List.getElem?_set_self hn] at em
      cases em
      exact ⟨a, ys, ha, upd_same, RDs.mv kq (fun _ z => .inl z) _ _ r⟩
    · rw [List.getElem?_set_ne (Ne.symm hm)] at em
      obtain ⟨b, zs, e1, e2, rd⟩ := ok.sto.2 m ds em
      refine ⟨b, zs, e1, k b _ e2 fun z => hm ?_, RDs.mv kq (fun _ z => .inl z) _ _ rd⟩
      subst z
      have hm' := (List.getElem?_eq_some_iff.mp e1).1
      exact (List.getElem?_inj hm' ok.adup).mp (e1.trans ha.symm)
  · obtain ⟨more, e1, e2, e3⟩ := ok.pre
    exact ⟨more, e1, by simpa using e2, e3⟩
  · by_cases z : b = a
    · subst z
      obtain ⟨more, e1, e2, e3⟩ := ok.pre
      rw [e1] at ham
      simp only [List.mem_append] at ham
      rcases ham with z | z | z
      · exact absurd z n1
      · rw [e3 b z] at q; cases q
      · exact absurd z n2
    · exact k b o (ok.keep b o q n1 n2) z
  · obtain ⟨⟨o, q⟩, r⟩ := ok.aal b hb
    by_cases z : b = a
    · subst z; exact ⟨⟨_, upd_same⟩, r⟩
    · exact ⟨⟨o, k b o q z⟩, r⟩

/-! ### statement targets -/
abbrev TgS := PyData → Fr → Sto → Option (Fr × Sto)
abbrev TgSs := List PyData → Fr → Sto → Option (Fr × Sto)
def simG (K : PySem.W.Frag) (T : List (Addr × Str)) (f : TgS) : TG := fun v σ H Q => ∃ A He ase ρ st os as d ρ' st', StOk ⟨K, A, He, ase, T⟩ σ H ρ st os as ∧ RD K H (Nn A os as) d v ∧ f d ρ st = some (ρ', st') ∧
  ∀ σ' H' os', StOk ⟨K, A, He, ase, T⟩ σ' H' ρ' st' os' as → (∀ j, os' j = none ∨ os' j = os j) → Kn (Mm os as) H H' → Q σ' H'
def simGs (K : PySem.W.Frag) (T : List (Addr × Str)) (f : TgSs) : TGs := fun vs σ H Q => ∃ A He ase ρ st os as ds ρ' st', StOk ⟨K, A, He, ase, T⟩ σ H ρ st os as ∧ RDs K H (Nn A os as) ds vs ∧ f ds ρ st = some (ρ', st') ∧
  ∀ σ' H' os', StOk ⟨K, A, He, ase, T⟩ σ' H' ρ' st' os' as → (∀ j, os' j = none ∨ os' j = os j) → Kn (Mm os as) H H' → Q σ' H'
def DG (T : List (Addr × Str)) (X : Cx) (tg : Expr) (f : TgS) : Prop := PG X tg (simG X.K T f)
def DGs (T : List (Addr × Str)) (X : Cx) (tg : List Expr) (f : TgSs) : Prop := PGs X tg (simGs X.K T f)
theorem PG.weak {X : Cx} {e : Expr} {t t' : TG} (h : PG X e t) (k : ∀ v σ H Q, t' v σ H Q → t v σ H Q) : PG X e t' := ⟨fun pins s σ H v u Q I r q => h.run pins s σ H v u Q I r (k v σ H Q q)⟩
theorem PGs.weak {X : Cx} {e : List Expr} {t t' : TGs} (h : PGs X e t) (k : ∀ v σ H Q, t' v σ H Q → t v σ H Q) : PGs X e t' := ⟨fun pins s σ H v u Q I r q => h.run pins s σ H v u Q I r (k v σ H Q q)⟩
def gsName (i : Nat) : TgS := fun d ρ st => some (ρ.set i (.dat d), st)
def gsNil : TgSs := fun ds ρ st => match ds with
  | [] => some (ρ, st)
  | _ => none
def gsCons (t : TgS) (r : TgSs) : TgSs := fun ds ρ st => match ds with
  | d :: ds => match t d ρ st with
    | some (ρ1, st1) => r ds ρ1 st1
    | none => none
  | _ => none
def gsTup (n : Nat) (r : TgSs) : TgS := fun d ρ st => match d with
  | .tuple ds => if ds.length = n then r ds ρ st else none
  | _ => none
/-- x[idx] = .., x a list of one's own or a cell of the store -/
def gsSub (i : Nat) (idx : FE) : TgS := fun d ρ st => match idx ρ st with
  | some (.dat (.int k), st1) => match gs ρ i with
    | .own ds => (ixN ds.length k).map fun j => (ρ.set i (.own (ds.set j d)), st1)
    | .ref n => match st1[n]? with
      | some ds => (ixN ds.length k).map fun j => (ρ, st1.set n (ds.set j d))
      | none => none
    | _ => none
  | _ => none
end
section
variable {X : Cx} {pos p : Pos} {s : Stmt} {rest : List Stmt} {x : Str}
theorem dg_name {i : Nat} (hN : X.N.Nodup) (hi : X.N[i]? = some x := by rfl) (hx : Loc X.env.scope x := by first | exact .inl rfl | exact .inr rfl) (hf : X.fn x = true ∨ X.env.scope.names.lookup x = some .local := by first | exact .inl rfl | exact .inr rfl | assumption) : DG T X (.Name x pos) (gsName i) :=
  PG.weak (pg_name hN hi hx hf) fun v σ H Q h => by
    obtain ⟨A, He, ase, ρ, st, os, as, d, ρ', st', ok, r, e, q⟩ := h
    cases e
    exact q _ H _ (ok.put' r) (fun j => by
      by_cases ej : j = i
      · subst ej; exact .inl osSet_same
      · exact .inr (osSet_ne ej)) fun _ _ e _ => e
theorem dgs_nil : DGs T X [] gsNil := PGs.weak pgs_nil fun v σ H Q h => by
  obtain ⟨A, He, ase, ρ, st, os, as, ds, ρ', st', ok, r, e, q⟩ := h
  cases ds with
  | nil => cases e; cases r; exact ⟨rfl, q σ H os ok (fun _ => .inr rfl) fun _ _ e _ => e⟩
  | cons _ _ => cases e
theorem dgs_cons {e : Expr} {es : List Expr} {t : TgS} {r : TgSs} (h1 : DG T X e t) (h2 : DGs T X es r) (hs : (assignEach (e :: es) X.env).map (·.2) = assign e X.env :: (assignEach es X.env).map (·.2) := by rfl) : DGs T X (e :: es) (gsCons t r) :=
  PGs.weak (pgs_cons h1 h2 hs) fun v σ H Q h => by
    obtain ⟨A, He, ase, ρ, st, os, as, ds, ρ', st', ok, rr, e, q⟩ := h
    cases ds with
    | nil => cases e
    | cons d ds =>
      obtain ⟨x, ys, ex, r1, r2⟩ := rr
      unfold gsCons at e
      dsimp only at e
      cases et : t d ρ st with
      | none => rw [et] at e; cases e
      | some z =>
        obtain ⟨ρ1, st1⟩ := z
        rw [et] at e
        refine ⟨x, ys, ex, A, He, ase, ρ, st, os, as, d, ρ1, st1, ok, r1, et, fun σ1 H1 os1 ok1 o1 k1 => ⟨A, He, ase, ρ1, st1, os1, as, ds, ρ', st', ok1, ?_, e, fun σ2 H2 os2 ok2 o2 k2 => q σ2 H2 os2 ok2 (fun j => ?_) fun b o e n => ?_⟩⟩
        · refine RDs.mv (fun b o e n => k1 b o e fun z => n (.inr z)) (fun a z => .inl ?_) _ _ r2
          rcases z with z | ⟨j, z⟩ | z
          · exact .inl z
          · rcases o1 j with y | y
            · rw [y] at z; cases z
            · exact .inr (.inl ⟨j, y ▸ z⟩)
          · exact .inr (.inr z)
        · rcases o2 j with y | y
          · exact .inl y
          · rcases o1 j with w | w
            · exact .inl (y.trans w)
            · exact .inr (y.trans w)
        · refine k2 b o (k1 b o e n) fun z => n ?_
          rcases z with ⟨j, z⟩ | z
          · rcases o1 j with y | y
            · rw [y] at z; cases z
            · exact .inl ⟨j, y ▸ z⟩
          · exact .inr z
theorem dg_tup {es : List Expr} {k : Nat} {r : TgSs} {n : Nat} (hc : X.calm = true) (h : DGs T X es r) (hn : (assignEach es X.env).length = n := by rfl) (hst : (assignEach es X.env).findIdx? (·.1) = none := by rfl) : DG T X (.Tuple es k pos) (gsTup n r) :=
  PG.weak (pg_tup hc h hn hst) fun v σ H Q h => by
    obtain ⟨A, He, ase, ρ, st, os, as, d, ρ', st', ok, rr, e, q⟩ := h
    cases d with
    | tuple ds =>
      unfold gsTup at e
      dsimp only at e
      split at e
      · rename_i hl
        obtain ⟨a, xs, ex, sq, rd⟩ := rr
        exact ⟨a, xs, ex, sq.sq, by rw [rd.len]; exact hl, A, He, ase, ρ, st, os, as, ds, ρ', st', ok, rd, e, q⟩
      · cases e
    | _ => cases e
theorem dg_sub {i : Nat} {b : Expr} {fi : FE} (hi : DE T X b fi) (hN : X.N[i]? = some x := by rfl) (hv : Vis X.env.scope x := by first | exact .inl rfl | exact .inr (.inl rfl) | exact .inr (.inr rfl)) (hd : (x == ("__debug__" : Str)) = false := by decide) (hcd : (x == ("__classdict__" : Str)) = false := by decide)
    (ha : ∀ v, assign (.Subscript (.Name x p) b pos) X.env v = (do
      let ov ← holding [v] (eval (.Name x p) X.env)
      let iv ← holding [v, ov] (eval b X.env)
      standAt pos
      holding [v, ov, iv] (setItem ov iv v)
      release [v, ov, iv] []) := by intro _; rfl) : DG T X (.Subscript (.Name x p) b pos) (gsSub i fi) :=
  PG.weak (pg_sub (pe_var hN hv hd hcd) hi set_list ha) fun v σ H Q h => by
    obtain ⟨A, He, ase, ρ, st, os, as, d, ρ', st', ok, rr, e, q⟩ := h
    have s := ok.slot i
    unfold gsSub at e
    cases ei : fi ρ st with
    | none => rw [ei] at e; cases e
    | some z =>
      obtain ⟨w, st1⟩ := z
      rw [ei] at e
      cases w with
      | dat kd =>
        cases kd with
        | int k =>
          dsimp only at e
          cases g : gs ρ i with
          | own ds =>
            rw [g] at e s
            obtain ⟨a, xs, e1, e2, e3, rd⟩ := s
            dsimp only at e
            cases ej : ixN ds.length k with
            | none => rw [ej] at e; cases e
            | some j =>
              rw [ej] at e; cases e
              refine ⟨.ref a, gt_some e2, A, He, ase, ρ, st, os, as, .dat (.int k), _, ok, ei, fun y H1 k1 ok1 r1 => ?_⟩
              have hy : y = .int k := r1
              have s1 := ok1.slot i
              rw [g] at s1
              obtain ⟨a', xs', f1, f2, f3, rd1⟩ := s1
              rw [e1] at f1; cases f1
              have kq : ∀ b o, H b = some o → ¬ Nn A os as b → H1 b = some o := fun b o e n => k1 b o e fun z => n (nn_as _ z)
              refine ⟨a, xs', k, j, rfl, hy, f3, by rw [rd1.len]; exact ej, ?_⟩
              exact q σ _ os (ok1.updO g e1 f3 (rd1.set (RD.mv kq (fun _ z => .inl z) _ _ rr))) (fun _ => .inr rfl) fun b o e n => by
                rw [upd_ne fun z => n (.inl ⟨i, by rw [z]; exact e1⟩)]; exact k1 b o e fun z => n (.inr z)
          | ref n =>
            rw [g] at e s
            obtain ⟨_, a, e2, e3⟩ := s
            dsimp only at e
            cases es : st1[n]? with
            | none => rw [es] at e; cases e
            | some ds =>
              rw [es] at e
              dsimp only at e
              cases ej : ixN ds.length k with
              | none => rw [ej] at e; cases e
              | some j =>
                rw [ej] at e; cases e
                refine ⟨.ref a, gt_some e3, A, He, ase, ρ, st, os, as, .dat (.int k), _, ok, ei, fun y H1 k1 ok1 r1 => ?_⟩
                have hy : y = .int k := r1
                obtain ⟨a', xs', f1, f3, rd1⟩ := ok1.sto.2 n ds es
                rw [e2] at f1; cases f1
                have kq : ∀ b o, H b = some o → ¬ Nn A os as b → H1 b = some o := fun b o e n => k1 b o e fun z => n (nn_as _ z)
                refine ⟨a, xs', k, j, rfl, hy, f3, by rw [rd1.len]; exact ej, ?_⟩
                exact q σ _ os (ok1.updR (List.getElem?_eq_some_iff.mp es).1 e2 f3 (rd1.set (RD.mv kq (fun _ z => .inl z) _ _ rr))) (fun _ => .inr rfl) fun b o e n => by
                  rw [upd_ne fun z => n (.inr (by rw [z]; exact List.mem_of_getElem? e2))]; exact k1 b o e fun z => n (.inr z)
          | _ => rw [g] at e; cases e
        | _ => cases e
      | _ => cases e
/-- target = value -/
def fAsg (g : TgS) (a : FE) : FS := fun ρ st => match a ρ st with
  | some (w, st1) => match escD w with
    | some d => (g d ρ st1).map fun r => (.nx r.1, r.2)
    | none => none
  | none => none
theorem ds_asg {tg e : Expr} {fa : FE} {g : TgS} (ha : DE T X e fa) (hg : DG T X tg g) (hs : swapsWithSole [tg] e pos.line X.env = pure false := by rfl) (hw : swappedStores [tg] e X.env = pure none := by rfl)
    (h1 : (assignEach [tg] X.env).map (·.2) = [assign tg X.env] := by rfl) : DS T X (.Assign [tg] e pos) (fAsg g fa) := PS.weak (ps_asg ha hg hs hw h1) fun D σ H h => by
  obtain ⟨A, He, ase, ρ, st, os, as, fl, st', ok, e, q⟩ := h
  unfold fAsg at e
  cases ea : fa ρ st with
  | none => rw [ea] at e; cases e
  | some r =>
    obtain ⟨w, st1⟩ := r
    rw [ea] at e
    dsimp only at e
    cases ed : escD w with
    | none => rw [ed] at e; cases e
    | some d =>
      rw [ed] at e
      dsimp only at e
      cases eg : g d ρ st1 with
      | none => rw [eg] at e; cases e
      | some r =>
        obtain ⟨ρ1, st2⟩ := r
        rw [eg] at e; cases e
        refine ⟨A, He, ase, ρ, st, os, as, w, st1, ok, ea, fun x H1 k1 ok1 r1 => ⟨A, He, ase, ρ, st1, os, as, d, ρ1, _, ok1, r1.esc ed, eg, fun σ2 H2 os2 ok2 o2 k2 => q σ2 H2 os2 as ok2 ⟨fun b o e n => ?_, fun b z => .inl ?_⟩⟩⟩
        · exact k2 b o (k1 b o e fun z => n (.inr z)) n
        · rcases z with ⟨j, z⟩ | z
          · rcases o2 j with y | y
            · rw [y] at z; cases z
            · exact .inl ⟨j, y ▸ z⟩
          · exact .inr z
/-- a, b = x, y with local names -/
def fPar (i j : Nat) (a : FA) : FS := fun ρ st => match a ρ st with
  | some ([v, w], st1) => match bindOf v, bindOf w with
    | some v', some w' => some (.nx ((ρ.set i v').set j w'), st1)
    | _, _ => none
  | _ => none
theorem ds_par {i j : Nat} {y : Str} {a b : Expr} {fa : FA} {px py pt : Pos} {kt k2 pt2} (hc : X.calm = true) (hN : X.N.Nodup) (ha : DA T X [a, b] fa)
    (hw : swappedStores [.Tuple [.Name x px, .Name y py] kt pt] (.Tuple [a, b] k2 pt2) X.env = pure (some [x, y])) (hi : X.N[i]? = some x := by rfl) (hj : X.N[j]? = some y := by rfl) (hij : i ≠ j := by decide)
    (hx : X.env.scope.names.lookup x = some .local := by rfl) (hy : X.env.scope.names.lookup y = some .local := by rfl) 
    (hs : swapsWithSole [.Tuple [.Name x px, .Name y py] kt pt] (.Tuple [a, b] k2 pt2) pos.line X.env = pure false := by rfl) :
    DS T X (.Assign [.Tuple [.Name x px, .Name y py] kt pt] (.Tuple [a, b] k2 pt2) pos) (fPar i j fa) := PS.weak (ps_par hc hN hi hj hij hx hy ha hw hs) fun D σ H h => by
  obtain ⟨A, He, ase, ρ, st, os, as, fl, st', ok, e, q⟩ := h
  unfold fPar at e
  split at e
  · rename_i v w st1 ea
    split at e
    · rename_i v' w' ev ew
      cases e
      refine ⟨A, He, ase, ρ, st, os, as, _, _, ok, ea, fun xs H1 k1 ok1 r1 => ?_⟩
      cases r1 with
      | cons rv r2 =>
        cases r2 with
        | cons rw' r3 =>
          cases r3
          rename_i vx wx
          refine ⟨vx, wx, rfl, ?_⟩
          have okA := ok1.putB (i := i) rv ev
          refine q _ H1 _ as ?_ (?_ : Stp H (Mm os as) H1 (Mm (osSet (osSet os i none) j none) as))
          · have sub : ∀ b, Nn A (osSet os i none) as b → Nn A os as b ∨ H1 b = none := fun b z => .inl (osSet_sub z)
            have kq : ∀ b o, H1 b = some o → ¬ Nn A os as b → H1 b = some o := fun _ _ e _ => e
            cases w with
            | dat d => exact okA.putB (H0 := H1) (w := .dat d) (RD.mv kq sub _ _ rw') ew
            | own ds => exact okA.putB (H0 := H1) (w := .dat (.list ds)) (RD.mv kq sub _ _ (rw'.esc rfl)) ew
            | ref n => exact okA.putB (H0 := H1) (w := .ref n) rw' ew
            | fz ds => obtain ⟨a, xs, e1, ⟨e2, e3⟩, r⟩ := rw'; exact okA.putB (H0 := H1) (w := .fz ds) ⟨a, xs, e1, ⟨e2, fun z => e3 (osSet_sub z)⟩, RDs.mv kq sub _ _ r⟩ ew
            | _ => cases ew
          · exact (stp_osSet k1).trans (stp_osSet .refl)
    · cases e
  · cases e

/-! ### append, extend -/
def fApp (i : Nat) (a : FE) : FS := fun ρ st => match a ρ st with
  | some (w, st1) => match escD w with
    | some d => match gs ρ i with
      | .own ds => if ds.length < sizeLine then some (.nx (ρ.set i (.own (ds ++ [d]))), st1) else none
      | .ref n => match st[n]?, st1[n]? with
        | some _, some ds => if ds.length < sizeLine then some (.nx ρ, st1.set n (ds ++ [d])) else none
        | _, _ => none
      | _ => none
    | none => none
  | none => none
theorem app_weak {K : PySem.W.Frag} {i : Nat} {fa : FE} {D : Ends} {σ : L2.St} {H : Hp} (h : simS K T (fApp i fa) D σ H) : tDrop (tBM K "list" rAppend (tVar i) (simA K T (fCons fa fNil))) D σ H := by
  obtain ⟨A, He, ase, ρ, st, os, as, fl, st', ok, e, q⟩ := h
  have s := ok.slot i
  unfold fApp at e
  cases ea : fa ρ st with
  | none => rw [ea] at e; cases e
  | some r =>
    obtain ⟨w, st1⟩ := r
    rw [ea] at e
    dsimp only at e
    cases ed : escD w with
    | none => rw [ed] at e; cases e
    | some d =>
      rw [ed] at e
      dsimp only at e
      have eA : fCons fa fNil ρ st = some ([w], st1) := by unfold fCons; rw [ea]; rfl
      cases g : gs ρ i with
      | own ds =>
        rw [g] at e s
        obtain ⟨a, xs, e1, e2, e3, rd⟩ := s
        dsimp only at e
        split at e
        · rename_i hz
          cases e
          refine ⟨.ref a, gt_some e2, .inl ⟨rfl, xs, .inl (.inl e3)⟩, A, He, ase, ρ, st, os, as, [w], _, ok, eA, fun ys H1 k1 ok1 r1 => ?_⟩
          cases r1 with
          | cons rv r2 =>
            cases r2
            rename_i y
            have s1 := ok1.slot i
            rw [g] at s1
            obtain ⟨a', xs', f1, f2, f3, rd1⟩ := s1
            rw [e1] at f1; cases f1
            refine ⟨a, xs', y, rfl, rfl, f3, by rw [rd1.len]; exact hz, ?_⟩
            exact q σ _ os as (ok1.updO g e1 f3 (rd1.app ⟨y, [], rfl, rv.esc ed, by simp [RDs]⟩)) ⟨fun b o e n => by
              rw [upd_ne fun z => n (.inl ⟨i, by rw [z]; exact e1⟩)]; exact k1 b o e fun z => n (.inr z), fun _ z => .inl z⟩
        · cases e
      | ref n =>
        rw [g] at e s
        obtain ⟨_, a, e2, e3⟩ := s
        dsimp only at e
        cases es0 : st[n]? with
        | none => rw [es0] at e; cases e
        | some ds0 => cases es : st1[n]? with
          | none => rw [es0, es] at e; cases e
          | some ds =>
            rw [es0, es] at e
            dsimp only at e
            split at e
            · rename_i hz
              cases e
              obtain ⟨b, xs0, z1, z2, _⟩ := ok.sto.2 n ds0 es0
              rw [e2] at z1; cases z1
              refine ⟨.ref a, gt_some e3, .inl ⟨rfl, xs0, .inl (.inl z2)⟩, A, He, ase, ρ, st, os, as, [w], _, ok, eA, fun ys H1 k1 ok1 r1 => ?_⟩
              cases r1 with
              | cons rv r2 =>
                cases r2
                rename_i y
                obtain ⟨a', xs', f1, f3, rd1⟩ := ok1.sto.2 n ds es
                rw [e2] at f1; cases f1
                refine ⟨a, xs', y, rfl, rfl, f3, by rw [rd1.len]; exact hz, ?_⟩
                exact q σ _ os as (ok1.updR (List.getElem?_eq_some_iff.mp es).1 e2 f3 (rd1.app ⟨y, [], rfl, rv.esc ed, by simp [RDs]⟩)) ⟨fun b o e n => by
                  rw [upd_ne fun z => n (.inr (by rw [z]; exact List.mem_of_getElem? e2))]; exact k1 b o e fun z => n (.inr z), fun _ z => .inl z⟩
            · cases e
      | _ => rw [g] at e; cases e
/-- x.append(e) -/
theorem ds_app {i : Nat} {e : Expr} {fa : FE} {apos cpos : Pos} (ha : DE T X e fa) (hN : X.N[i]? = some x := by rfl) (hv : Vis X.env.scope x := by first | exact .inl rfl | exact .inr (.inl rfl) | exact .inr (.inr rfl)) (hd : (x == ("__debug__" : Str)) = false := by decide) (hcd : (x == ("__classdict__" : Str)) = false := by decide)
    (hst : starEach [e] X.env = (false, eval e X.env) :: starEach [] X.env := by rfl) (hline : (apos.endLine == cpos.line) = true := by rfl)
    (hs : swapsWith (.Call (.Attribute (.Name x p) "append" apos) [e] [] cpos) none pos.line X.env = pure false := by rfl) : DS T X (.Expr (.Call (.Attribute (.Name x p) "append" apos) [e] [] cpos) pos) (fApp i fa) :=
  PS.weak (ps_expr (pe_bm PySem.F.plainAttrs_list PySem.F.slot_list_append PySem.F.type_list_append mt_append (pe_var hN hv hd hcd) (da_cons ha da_nil hst) rfl (by rw [hst]; rfl) hline hst rfl) hs) fun _ _ _ => app_weak
def fExt (i : Nat) (a : FE) : FS := fun ρ st => match a ρ st with
  | some (w, st1) => match asD st1 w with
    | some (.list es) => match gs ρ i with
      | .own ds => if ds.length + es.length ≤ sizeLine then some (.nx (ρ.set i (.own (ds ++ es))), st1) else none
      | .ref n => match st[n]?, st1[n]? with
        | some _, some ds => if ds.length + es.length ≤ sizeLine then some (.nx ρ, st1.set n (ds ++ es)) else none
        | _, _ => none
      | _ => none
    | _ => none
  | none => none
theorem ext_weak {K : PySem.W.Frag} {i : Nat} {fa : FE} {D : Ends} {σ : L2.St} {H : Hp} (h : simS K T (fExt i fa) D σ H) : tDrop (tBM K "list" rExtend (tVar i) (simA K T (fCons fa fNil))) D σ H := by
  obtain ⟨A, He, ase, ρ, st, os, as, fl, st', ok, e, q⟩ := h
  have s := ok.slot i
  unfold fExt at e
  cases ea : fa ρ st with
  | none => rw [ea] at e; cases e
  | some r =>
    obtain ⟨w, st1⟩ := r
    rw [ea] at e
    dsimp only at e
    split at e
    · rename_i es ed
      have eA : fCons fa fNil ρ st = some ([w], st1) := by unfold fCons; rw [ea]; rfl
      cases g : gs ρ i with
      | own ds =>
        rw [g] at e s
        obtain ⟨a, xs, e1, e2, e3, rd⟩ := s
        dsimp only at e
        split at e
        · rename_i hz
          cases e
          refine ⟨.ref a, gt_some e2, .inl ⟨rfl, xs, .inl (.inl e3)⟩, A, He, ase, ρ, st, os, as, [w], _, ok, eA, fun ys H1 k1 ok1 r1 => ?_⟩
          cases r1 with
          | cons rv r2 =>
            cases r2
            rename_i y
            obtain ⟨b, zs, rfl, eb, rb⟩ := RV.asD ok1 rv ed
            have s1 := ok1.slot i
            rw [g] at s1
            obtain ⟨a', xs', f1, f2, f3, rd1⟩ := s1
            rw [e1] at f1; cases f1
            refine ⟨a, b, xs', zs, rfl, rfl, f3, eb, by rw [rd1.len, rb.len]; exact hz, ?_⟩
            exact q σ _ os as (ok1.updO g e1 f3 (rd1.app rb)) ⟨fun b o e n => by
              rw [upd_ne fun z => n (.inl ⟨i, by rw [z]; exact e1⟩)]; exact k1 b o e fun z => n (.inr z), fun _ z => .inl z⟩
        · cases e
      | ref n =>
        rw [g] at e s
        obtain ⟨_, a, e2, e3⟩ := s
        dsimp only at e
        cases es0 : st[n]? with
        | none => rw [es0] at e; cases e
        | some ds0 => cases es : st1[n]? with
          | none => rw [es0, es] at e; cases e
          | some ds =>
            rw [es0, es] at e
            dsimp only at e
            split at e
            · rename_i hz
              cases e
              obtain ⟨b, xs0, z1, z2, _⟩ := ok.sto.2 n ds0 es0
              rw [e2] at z1; cases z1
              refine ⟨.ref a, gt_some e3, .inl ⟨rfl, xs0, .inl (.inl z2)⟩, A, He, ase, ρ, st, os, as, [w], _, ok, eA, fun ys H1 k1 ok1 r1 => ?_⟩
              cases r1 with
              | cons rv r2 =>
                cases r2
                rename_i y
                obtain ⟨b, zs, rfl, eb, rb⟩ := RV.asD ok1 rv ed
                obtain ⟨a', xs', f1, f3, rd1⟩ := ok1.sto.2 n ds es
                rw [e2] at f1; cases f1
                refine ⟨a, b, xs', zs, rfl, rfl, f3, eb, by rw [rd1.len, rb.len]; exact hz, ?_⟩
                exact q σ _ os as (ok1.updR (List.getElem?_eq_some_iff.mp es).1 e2 f3 (rd1.app rb)) ⟨fun b o e n => by
                  rw [upd_ne fun z => n (.inr (by rw [z]; exact List.mem_of_getElem? e2))]; exact k1 b o e fun z => n (.inr z), fun _ z => .inl z⟩
            · cases e
      | _ => rw [g] at e; cases e
    · cases e
theorem ds_ext {i : Nat} {e : Expr} {fa : FE} {apos cpos : Pos} (ha : DE T X e fa) (hN : X.N[i]? = some x := by rfl) (hv : Vis X.env.scope x := by first | exact .inl rfl | exact .inr (.inl rfl) | exact .inr (.inr rfl)) (hd : (x == ("__debug__" : Str)) = false := by decide) (hcd : (x == ("__classdict__" : Str)) = false := by decide)
    (hst : starEach [e] X.env = (false, eval e X.env) :: starEach [] X.env := by rfl) (hline : (apos.endLine == cpos.line) = true := by rfl)
    (hs : swapsWith (.Call (.Attribute (.Name x p) "extend" apos) [e] [] cpos) none pos.line X.env = pure false := by rfl) : DS T X (.Expr (.Call (.Attribute (.Name x p) "extend" apos) [e] [] cpos) pos) (fExt i fa) :=
  PS.weak (ps_expr (pe_bm PySem.F.plainAttrs_list PySem.F.slot_list_extend PySem.F.type_list_extend mt_extend (pe_var hN hv hd hcd) (da_cons ha da_nil hst) rfl (by rw [hst]; rfl) hline hst rfl) hs) fun _ _ _ => ext_weak
end
end EV
end

section
set_option maxRecDepth 100000
set_option maxHeartbeats 4000000
namespace EV
open PySem PySem.Spec L2
open LamX (TabS Tabs ExtN)

/-! ### for -/
def forL (tg : TgF) (b : FS) : List PyData → Fr → Sto → Option (Fl × Sto)
  | [], ρ, st => some (.nx ρ, st)
  | d :: ds, ρ, st => match tg ρ d with
    | some ρ1 => match b ρ1 st with
      | some (.nx ρ2, st2) => forL tg b ds ρ2 st2
      | some (.ct ρ2, st2) => forL tg b ds ρ2 st2
      | some (.bk ρ2, st2) => some (.nx ρ2, st2)
      | some (.ret w, st2) => some (.ret w, st2)
      | none => none
    | none => none
def fFor (it : FI) (tg : TgF) (b : FS) : FS := fun ρ st => match it ρ st with
  | some (ds, st1) => forL tg b ds ρ st1
  | none => none
theorem mm_sub {A : Addr → Prop} {os os0 : Os} {as as0 : List Addr} {H0 : Hp} (h : ∀ b, Mm os as b → Mm os0 as0 b ∨ H0 b = none) : ∀ b, Nn A os as b → Nn A os0 as0 b ∨ H0 b = none := fun b z => by
  rcases z with z | z
  · exact .inl (.inl z)
  · exact (h b z).imp_left .inr
theorem for_weak {K : PySem.W.Frag} {fi : FI} {g : TG} {tg : TgF} {fb : FS} {vs : List Nat} (sg : SG K T vs g tg) {D : Ends} {σ : L2.St} {H : Hp} (h : simS K T (fFor fi tg fb) D σ H) : tFor (simI K T false fi) g (simS K T fb) D σ H := by
  obtain ⟨A, He, ase, ρ, st, os, as, fl, st', ok, e, q⟩ := h
  unfold fFor at e
  cases ei : fi ρ st with
  | none => rw [ei] at e; cases e
  | some r =>
    obtain ⟨ds, st1⟩ := r
    rw [ei] at e
    dsimp only at e
    refine ⟨A, He, ase, ρ, st, os, as, ds, st1, ok, ei, fun J H1 k1 ok1 wd => ?_⟩
    obtain ⟨G, Y, W, hG, hY⟩ := wd
    have q1 := q.from (Stp.of (os := os) k1)
    refine for_it W (fun i σ2 H2 => ∃ ρ2 st2 os2 as2, StOk ⟨K, A, He, ase, T⟩ σ2 H2 ρ2 st2 os2 as2 ∧ forL tg fb (ds.drop i) ρ2 st2 = some (fl, st') ∧ Stp H1 (Mm os as) H2 (Mm os2 as2)) ⟨ρ, st1, os, as, ok1, e, .refl⟩
      (fun i σ2 H2 _ hp => ?_) (fun i x σ2 H2 H' hi hp hy => ?_) (fun σ2 H2 hp => ?_)
    · obtain ⟨ρ2, st2, os2, as2, _, _, stp⟩ := hp
      exact hG H2 stp.kn
    · obtain ⟨ρ2, st2, os2, as2, ok2, e2, stp⟩ := hp
      obtain ⟨ex, d, ed, rd⟩ := hY i x H2 H' hi stp.kn hy
      have rd' := rd (Nn A os2 as2) (mm_sub stp.mm) fun b nb => ok2.nn nb
      have hdrop : ds.drop i = d :: ds.drop (i + 1) := by
        rw [List.drop_eq_getElem_cons hi]
        rw [List.getElem?_eq_getElem hi] at ed
        cases ed; rfl
      rw [hdrop] at e2
      unfold forL at e2
      cases et : tg ρ2 d with
      | none => rw [et] at e2; cases e2
      | some ρ3 =>
        rw [et] at e2
        dsimp only at e2
        refine sg A He ase σ2 H' ρ2 st2 os2 as2 d x ρ3 _ (ok2.ext ex) rd' et fun σ3 os3 ok3 _ o3 _ => ?_
        have stp3 : Stp H1 (Mm os as) H' (Mm os3 as2) := stp.trans ⟨fun b o e n => ex.kp b o e fun z => n (.inr z), fun b z => .inl (by
          rcases z with ⟨j, z⟩ | z
          · rcases o3 j with y | y
            · rw [y] at z; cases z
            · exact .inl ⟨j, y ▸ z⟩
          · exact .inr z)⟩
        cases eb : fb ρ3 st2 with
        | none => rw [eb] at e2; cases e2
        | some r =>
          obtain ⟨f4, st4⟩ := r
          rw [eb] at e2
          cases f4 with
          | nx ρ4 => exact ⟨A, He, ase, ρ3, st2, os3, as2, .nx ρ4, st4, ok3, eb, fun σ4 H4 os4 as4 ok4 s4 => ⟨ρ4, st4, os4, as4, ok4, e2, stp3.trans s4⟩⟩
          | ct ρ4 => exact ⟨A, He, ase, ρ3, st2, os3, as2, .ct ρ4, st4, ok3, eb, fun σ4 H4 os4 as4 ok4 s4 => ⟨ρ4, st4, os4, as4, ok4, e2, stp3.trans s4⟩⟩
          | bk ρ4 => cases e2; exact ⟨A, He, ase, ρ3, st2, os3, as2, .bk ρ4, _, ok3, eb, fun σ4 H4 os4 as4 ok4 s4 => q1 σ4 H4 os4 as4 ok4 (stp3.trans s4)⟩
          | ret w => cases e2; exact ⟨A, He, ase, ρ3, st2, os3, as2, .ret w, _, ok3, eb, q1.from stp3⟩
    · obtain ⟨ρ2, st2, os2, as2, ok2, e2, stp⟩ := hp
      rw [List.drop_length] at e2
      cases e2
      exact q1 σ2 H2 os2 as2 ok2 stp
section
variable {X : Cx} {pos p : Pos} {s : Stmt} {rest : List Stmt} {x : Str}
theorem ds_for {tgx iter : Expr} {body : List Stmt} {fi : FI} {g : TG} {tg : TgF} {fb : FS} {vs : List Nat} (hp : PassesOwn (model X.prog X.w) X.A X.env X.xe) (hc : X.calm = true) (hi : DI T false X tgx iter fi) (hg : PG X tgx g) (sg : SG X.K T vs g tg) (hb : DSs T X body fb)
    (hs : ∀ x, foldedSetIterable iter X.env x = pure x := by intro _; rfl) : DS T X (.For tgx iter body [] pos) (fFor fi tg fb) := PS.weak (ps_for hp hc hi hg hb hs) fun _ _ _ => for_weak sg

/-! ### while -/
def whileL (c : FT) (b : FS) : Nat → Fr → Sto → Option (Fl × Sto)
  | 0, _, _ => none
  | n + 1, ρ, st => match c ρ st with
    | some (true, st1) => match b ρ st1 with
      | some (.nx ρ2, st2) => whileL c b n ρ2 st2
      | some (.ct ρ2, st2) => whileL c b n ρ2 st2
      | some (.bk ρ2, st2) => some (.nx ρ2, st2)
      | some (.ret w, st2) => some (.ret w, st2)
      | none => none
    | some (false, st1) => some (.nx ρ, st1)
    | none => none
open Classical in
noncomputable def fWhile (c : FT) (b : FS) : FS := fun ρ st => if h : ∃ n r, whileL c b n ρ st = some r then some (Classical.choose (Classical.choose_spec h)) else none
theorem whileL_mono {c : FT} {b : FS} : ∀ {n : Nat} {ρ : Fr} {st : Sto} {r : Fl × Sto}, whileL c b n ρ st = some r → ∀ m, n ≤ m → whileL c b m ρ st = some r
  | 0, ρ, st, r, h, _, _ => by cases h
  | n + 1, ρ, st, r, h, 0, hm => by omega
  | n + 1, ρ, st, r, h, m + 1, hm => by
    unfold whileL at h ⊢
    cases ec : c ρ st with
    | none => rw [ec] at h; cases h
    | some z =>
      obtain ⟨k, st1⟩ := z
      rw [ec] at h
      cases k with
      | false => exact h
      | true =>
        dsimp only at h ⊢
        cases eb : b ρ st1 with
        | none => rw [eb] at h; cases h
        | some z =>
          obtain ⟨f, st2⟩ := z
          rw [eb] at h
          cases f with
          | nx ρ2 => exact whileL_mono h m (by omega)
          | ct ρ2 => exact whileL_mono h m (by omega)
          | bk ρ2 => exact h
          | ret w => exact h
theorem fWhile_of {c : FT} {b : FS} {n : Nat} {ρ : Fr} {st : Sto} {r : Fl × Sto} (h : whileL c b n ρ st = some r) : fWhile c b ρ st = some r := by
  have hx : ∃ n r, whileL c b n ρ st = some r := ⟨n, r, h⟩
  unfold fWhile
  rw [dif_pos hx]
  have h2 := Classical.choose_spec (Classical.choose_spec hx)
  have a1 := whileL_mono h _ (Nat.le_max_left n (Classical.choose hx))
  have a2 := whileL_mono h2 _ (Nat.le_max_right n (Classical.choose hx))
  rw [a1] at a2
  exact a2.symm
theorem of_fWhile {c : FT} {b : FS} {ρ : Fr} {st : Sto} {r : Fl × Sto} (h : fWhile c b ρ st = some r) : ∃ n, whileL c b n ρ st = some r := by
  unfold fWhile at h
  split at h
  · rename_i hx
    have h2 := Classical.choose_spec (Classical.choose_spec hx)
    cases h
    exact ⟨_, h2⟩
  · cases h
theorem while_weak {K : PySem.W.Frag} {fc : FT} {fb : FS} {D : Ends} {σ : L2.St} {H : Hp} (h : simS K T (fWhile fc fb) D σ H) : tWhile (simT K T fc) (simS K T fb) D σ H := by
  obtain ⟨A, He, ase, ρ, st, os, as, fl, st', ok, e, q⟩ := h
  obtain ⟨n0, e⟩ := of_fWhile e
  refine ⟨fun n σ2 H2 => ∃ ρ2 st2 os2 as2, StOk ⟨K, A, He, ase, T⟩ σ2 H2 ρ2 st2 os2 as2 ∧ whileL fc fb n ρ2 st2 = some (fl, st') ∧ Stp H (Mm os as) H2 (Mm os2 as2), ⟨n0, ρ, st, os, as, ok, e, .refl⟩, ?_⟩
  rintro n σ2 H2 ⟨ρ2, st2, os2, as2, ok2, e2, stp⟩
  cases n with
  | zero => cases e2
  | succ n =>
    unfold whileL at e2
    cases ec : fc ρ2 st2 with
    | none => rw [ec] at e2; cases e2
    | some z =>
      obtain ⟨k, st3⟩ := z
      rw [ec] at e2
      refine ⟨A, He, ase, ρ2, st2, os2, as2, k, st3, ok2, ec, fun H3 k3 ok3 => ?_⟩
      have stp3 := stp.trans (Stp.of (os := os2) k3)
      cases k with
      | false => cases e2; exact (if_neg Bool.false_ne_true).mpr (q σ2 H3 os2 as2 ok3 stp3)
      | true =>
        refine (if_pos rfl).mpr ⟨fun σ4 H4 => ∃ ρ4 st4 os4 as4, StOk ⟨K, A, He, ase, T⟩ σ4 H4 ρ4 st4 os4 as4 ∧ whileL fc fb n ρ4 st4 = some (fl, st') ∧ Stp H (Mm os as) H4 (Mm os4 as4), fun σ4 H4 hh => ⟨n, Nat.lt_succ_self n, hh⟩, ?_⟩
        dsimp only at e2
        cases eb : fb ρ2 st3 with
        | none => rw [eb] at e2; cases e2
        | some z =>
          obtain ⟨f4, st4⟩ := z
          rw [eb] at e2
          cases f4 with
          | nx ρ4 => exact ⟨A, He, ase, ρ2, st3, os2, as2, .nx ρ4, st4, ok3, eb, fun σ4 H4 os4 as4 ok4 s4 => ⟨ρ4, st4, os4, as4, ok4, e2, stp3.trans s4⟩⟩
          | ct ρ4 => exact ⟨A, He, ase, ρ2, st3, os2, as2, .ct ρ4, st4, ok3, eb, fun σ4 H4 os4 as4 ok4 s4 => ⟨ρ4, st4, os4, as4, ok4, e2, stp3.trans s4⟩⟩
          | bk ρ4 => cases e2; exact ⟨A, He, ase, ρ2, st3, os2, as2, .bk ρ4, _, ok3, eb, fun σ4 H4 os4 as4 ok4 s4 => q σ4 H4 os4 as4 ok4 (stp3.trans s4)⟩
          | ret w => cases e2; exact ⟨A, He, ase, ρ2, st3, os2, as2, .ret w, _, ok3, eb, q.from stp3⟩
theorem ds_while {c : Expr} {body : List Stmt} {fc : FT} {fb : FS} (hp : PassesOwn (model X.prog X.w) X.A X.env X.xe) (hc : DT T X c fc) (hb : DSs T X body fb) : DS T X (.While c body [] pos) (fWhile fc fb) := PS.weak (ps_while hp hc hb) fun _ _ _ => while_weak

/-! ### a def's body -/
def frame (n : Nat) (ws : List SV) : Fr := ws ++ List.replicate (n - ws.length) .non
def fnOf (np n : Nat) (F : FS) : FF := fun ws st => if ws.length = np then
  match F (frame n ws) st with
  | some (.nx _, st') => some (.dat .none, st'.take st.length)
  | some (.ret w, st') => if retOk w = true then some (w, st'.take st.length) else none
  | _ => none
  else none
theorem fnOf_len {np n : Nat} {F : FS} {ws : List SV} {st st' : Sto} {w : SV} (h : fnOf np n F ws st = some (w, st')) : ws.length = np := by
  unfold fnOf at h
  split at h
  · assumption
  · cases h
theorem gs_frame_lt {n i : Nat} {ws : List SV} (h : i < ws.length) : gs (frame n ws) i = ws[i] := by
  unfold gs frame
  rw [List.getElem?_append_left h, List.getElem?_eq_getElem h]; rfl
theorem gs_frame_ge {n i : Nat} {ws : List SV} (h : ws.length ≤ i) : gs (frame n ws) i = .non := by
  unfold gs frame
  rw [List.getElem?_append_right h]
  cases e : (List.replicate (n - ws.length) SV.non)[i - ws.length]? with
  | none => rfl
  | some w => rw [(List.mem_replicate.mp (List.mem_of_getElem? e)).2]; rfl
theorem gt_start_lt {N : List Str} {vs : List V} {i : Nat} (h : i < vs.length) : gt (start N vs) i = some vs[i] := by
  unfold gt L2.start
  rw [List.getElem?_append_left (by simpa using h)]
  simp [h]
theorem RAs.get {K : PySem.W.Frag} {H : Hp} {N : Addr → Prop} {as : List Addr} {xs : List V} {ws : List SV} (h : RAs K H N as xs ws) : ∀ (i : Nat) (h1 : i < xs.length) (h2 : i < ws.length), RA K H N as xs[i] ws[i] := by
  induction h with
  | nil => intro i h1; exact absurd h1 (Nat.not_lt_zero i)
  | cons r _ ih =>
    intro i h1 h2
    cases i with
    | zero => exact r
    | succ i => exact ih i (by simpa using h1) (by simpa using h2)
theorem body_weak {K : PySem.W.Frag} {np n : Nat} {N : List Str} {F : FS} {vs : List V} {H : Hp} {Q : VK} {E : XK} (hn : N.length = n) (hnp : np ≤ n) (h : spF K T np (fnOf np n F) vs H Q E) : simS K T F { nx := fun _ H' => Q .non H', rt := Q } (start N vs) H := by
  obtain ⟨A, sa, ws, st, w, st', hl, hsa, hA, hnd, htb, hsr, hra, eg, hst, q⟩ := h
  have hlw : ws.length = np := fnOf_len eg
  have eN : Nn A (fun _ => none) (sa ++ T.map (·.1)) = fun a => A a ∨ a ∈ sa ++ T.map (·.1) := by
    funext a
    exact propext ⟨fun z => by
      rcases z with z | ⟨i, z⟩ | z
      · exact .inl z
      · cases z
      · exact .inr z, fun z => z.imp_right .inr⟩
  unfold fnOf at eg
  rw [if_pos hlw] at eg
  have ok : StOk ⟨K, A, H, sa, T⟩ (start N vs) H (frame n ws) st (fun _ => none) (sa ++ T.map (·.1)) := by
    refine ⟨by simp [L2.start, frame, hl, hlw, hn], fun i => ?_, by rw [eN]; exact hsr, ⟨[], by simp, by simp [hsa], fun _ z => absurd z (by simp)⟩, htb, (fun _ _ z => by cases z), (fun _ _ _ z => by cases z), hnd, (fun _ _ e _ _ => e), fun a ha => ⟨(hA a ha).1, (hA a ha).2, fun _ z => by cases z⟩⟩
    rw [eN]
    by_cases hi : i < ws.length
    · have hi' : i < vs.length := by omega
      rw [gs_frame_lt hi, gt_start_lt hi']
      have r := hra.get i hi' hi
      cases e : ws[i] with
      | non => rw [e] at r; cases r
      | dat d => rw [e] at r; exact ⟨rfl, _, rfl, r⟩
      | own d => rw [e] at r; cases r
      | pk d => rw [e] at r; cases r
      | ref m => rw [e] at r; obtain ⟨a, e1, e2⟩ := r; exact ⟨rfl, a, e1, by rw [e2]⟩
      | fz d => rw [e] at r; obtain ⟨a, xs, e1, e2, e3⟩ := r; exact ⟨rfl, a, xs, by rw [e1], e2, e3⟩
    · rw [gs_frame_ge (by omega)]; rfl
  -- what stands at the end
  have fin : ∀ {σ' : L2.St} {H' : Hp} {ρ' : Fr} {stz : Sto} {os' : Os} {as' : List Addr} {x : V}, StOk ⟨K, A, H, sa, T⟩ σ' H' ρ' stz os' as' → st' = stz.take st.length → (∀ N : Addr → Prop, (∀ b, N b → Nn A os' as' b) → RV K H H' N as' x w) → retOk w = true → Q x H' := by
    intro σ' H' ρ' stz os' as' x okz est rv hr
    obtain ⟨more, e1, e2, e3⟩ := okz.pre
    have sub : ∀ b, (A b ∨ b ∈ sa ++ T.map (·.1)) → Nn A os' as' b := fun b z => by
      rcases z with z | z
      · exact .inl z
      · refine .inr (.inr ?_)
        rw [e1]
        simp only [List.mem_append] at z ⊢
        rcases z with z | z
        · exact .inl z
        · exact .inr (.inr z)
    refine q x H' (fun a o e n => okz.keep a o e (fun z => n (by simp [z])) fun z => n (List.mem_append_right _ z)) okz.tab ?_ ?_
    · refine ⟨by rw [hst]; exact hsr.1, fun m ds em => ?_⟩
      have hm : m < st'.length := (List.getElem?_eq_some_iff.mp em).1
      have hm2 : m < st.length := by omega
      rw [est, List.getElem?_take, if_pos hm2] at em
      obtain ⟨a, xs, f1, f2, f3⟩ := okz.sto.2 m ds em
      refine ⟨a, xs, ?_, f2, RDs.mv (fun _ _ e _ => e) (fun b z => .inl (sub b z)) _ _ f3⟩
      rw [← f1, e1]
      have e4 : sa.length = st.length := hsa
      exact (List.getElem?_append_left (by omega)).trans (List.getElem?_append_left (by show m < sa.length; omega)).symm
    · have := rv _ sub
      cases w with
      | dat d => exact this
      | own d => exact this
      | _ => cases hr
  cases eF : F (frame n ws) st with
  | none => rw [eF] at eg; cases eg
  | some r =>
    obtain ⟨fl, stz⟩ := r
    rw [eF] at eg
    cases fl with
    | nx ρ' =>
      cases eg
      exact ⟨A, H, sa, _, st, _, _, .nx ρ', stz, ok, eF, fun σ' H' os' as' okz _ => fin okz rfl (fun N _ => by show RD K H' N .none .non; unfold RD; rfl) rfl⟩
    | ret w' =>
      dsimp only at eg
      split at eg
      · rename_i hr
        cases eg
        exact ⟨A, H, sa, _, st, _, _, .ret w, stz, ok, eF, fun x σ' H' ρ' os' as' okz _ rv => fin okz rfl (fun N hN => rv.up hN hr) hr⟩
      · cases eg
    | bk _ => cases eg
    | ct _ => cases eg
end
/-- a def keeps its evaluator's promise -/
theorem FunD.ev {P : Program} {w : World} {K : PySem.W.Frag} {mg : Str → Option Value} {base : Heap} {x qual : Str} {params : Arguments} {body : List Stmt} {scope : Scope} {dvs : List V} {kws : List (Str × V)} {f : Addr} {fd : FuncData} {N ps : List Str} {k np n : Nat} {Fb : FS}
    (F : FunD K x qual params body scope dvs kws f fd) (S : FnScope N ps scope) (hn : N.length = n) (hps : ps.length = np) (hle : np ≤ n)
    (hbody : ∀ (A : Around) (outer : List Env) (s : Shared) (H : Hp), Room k (A.deeper (PyProof.Rows.envOfC qual scope s.heap.objs.size f (codeOf K f))) → A.guards = some [] →
      DSs T (cxOf CX0 P w K mg base N qual scope f (codeOf K f) A outer s H E0) body Fb) : FnG P w K mg base (k + 1) f fd ps (spF K T ps.length (fnOf np n Fb)) := by
  subst hps
  exact FunD.okG F S (fun _ _ _ _ h => spF_len _ _ _ _ h) fun A outer s H vs Q hr hg h => ⟨_, hbody A outer s H hr hg, body_weak hn hle h⟩
end EV
end

section
set_option maxRecDepth 100000
set_option maxHeartbeats 4000000
namespace EV
open PySem PySem.Spec L2
open LamX (TabS Tabs ExtN)

/-! ### isinstance -/
def kindD : PyData → String
  | .none => "NoneType"
  | .bool _ => "bool"
  | .int _ => "int"
  | .str _ => "str"
  | .list _ => "list"
  | .tuple _ => "tuple"
  | .dict _ => "dict"
def isT (t ty : String) : Bool := t == ty || (t == "bool" && ty == "int")
def isTab (ty : String) : Bool := ["NoneType", "bool", "int", "str", "list", "tuple", "dict"].all fun t => decide (kitB t ty = some (isT t ty))
def fIsi (ty : String) (a : FE) : FE := fun ρ st => match a ρ st with
  | some (w, st1) => (asD st1 w).map fun d => (.dat (.bool (isT (kindD d) ty)), st1)
  | none => none
theorem kindD_tab {ty : String} (h : isTab ty = true) (d : PyData) : kitB (kindD d) ty = some (isT (kindD d) ty) :=
  of_decide_eq_true (List.all_eq_true.mp h (kindD d) (by cases d <;> simp [kindD]))
theorem RT.ty {K : PySem.W.Frag} {H : Hp} {N : Addr → Prop} {d : PyData} {x : V} (h : RT K H N d x) : TyX K H x (.type (kindD d)) := by
  cases d with
  | none => cases (show x = .non from h); exact .base .non
  | bool b => cases (show x = .bl b from h); exact .base (.bl b)
  | int i => cases (show x = .int i from h); exact .base (.int i)
  | str s => cases (show x = .str s from h); exact .base (.str s)
  | list ds => obtain ⟨a, xs, rfl, e, _⟩ := h; exact .base (.lst e)
  | tuple ds =>
    obtain ⟨a, xs, rfl, e, _⟩ := h
    rcases e with ⟨e, _⟩ | e
    · rcases e with e | ⟨o, e⟩
      · exact .base (.tup e)
      · exact .fTuple e
    · obtain ⟨o, its, n, e1, e2, _⟩ := e
      exact .kTuple e1 e2
  | dict kvs => obtain ⟨a, es, rfl, ⟨e, _⟩, _⟩ := h; exact .base (.dK e)
section
variable {X : Cx} {pos p p2 : Pos} {e e2 : Expr} {es : List Expr} {x : Str}
theorem isi_weak {K : PySem.W.Frag} {ty : String} {fa : FE} {σ : L2.St} {H : Hp} {Q : VK} (ht : isTab ty = true) (h : simE K T (fIsi ty fa) σ H Q) : tCB (rIsi K) (L2.tCons (simE K T fa) (L2.tCons (tC (.ty ty)) L2.tNil)) σ H Q := by
  obtain ⟨A, He, ase, ρ, st, os, as, w, st', ok, e, q⟩ := h
  unfold fIsi at e
  cases ea : fa ρ st with
  | none => rw [ea] at e; cases e
  | some r =>
    obtain ⟨v, st1⟩ := r
    rw [ea] at e
    dsimp only at e
    cases ed : asD st1 v with
    | none => rw [ed] at e; cases e
    | some d =>
      rw [ed] at e; cases e
      refine ⟨A, He, ase, ρ, st, os, as, v, _, ok, ea, fun y H1 k1 ok1 r1 => ?_⟩
      exact ⟨y, .ty ty, .type (kindD d), .type ty, _, rfl, .ty ty, (RV.asD ok1 r1 ed).ty, kit_ty (kindD_tab ht d), q _ H1 k1 ok1 (by show RD K H1 (Nn A os as) (.bool _) _; unfold RD; rfl)⟩
theorem de_isi {ty : String} {y : Str} {fa : FE} (ht : isTab ty = true) (hm : X.mg "isinstance" = none) (ha : DE T X e fa) (hmy : X.mg y = none) (hg : Gl X "isinstance" := by rfl) (hgy : Gl X y := by rfl) (hy : bootBuiltins y = some (.type ty) := by decide +kernel) (hn : y ≠ "__name__" := by decide) (hd : (y == ("__debug__" : Str)) = false := by decide)
    (h1 : starEach [e, .Name y p2] X.env = (false, eval e X.env) :: starEach [.Name y p2] X.env := by rfl) (h2 : starEach [.Name y p2] X.env = (false, eval (.Name y p2) X.env) :: starEach [] X.env := by rfl) (hpl : (backTo pos (starEach [.Name y p2] X.env)).any (·.1) = false := by rfl) :
    DE T X (.Call (.Name "isinstance" p) [e, .Name y p2] [] pos) (fIsi ty fa) :=
  PE.weak (pe_callB call_isi hg hm PyProof.Rows.boot_isinstance (pa_cons ha (pa_cons (pe_bltn (v := .ty ty) hgy hmy hy rfl hn hd) pa_nil h2) h1) (by decide) (by decide) h1 hpl) fun _ _ _ => isi_weak ht

/-! ### repr, str -/
def okShow (d : PyData) : Bool := SeqAt.shaped d && d.showable && decide (d.shown.length ≤ sizeLine)
def gRepr : List PyData → Option SV
  | [d] => if okShow d = true then some (.dat (.str d.shown)) else none
  | _ => none
theorem b_repr (hG : X.A.guards = some []) (hu : X.A.units + 80 < cLine) : CallR X (.builtin "repr") (RC X.K gRepr) := by
  intro pins s σ H xs us Q I r h
  obtain ⟨N, ds, w, nf, rd, eg, q⟩ := h
  cases ds with
  | nil => cases eg
  | cons d ds =>
    cases ds with
    | cons _ _ => cases eg
    | nil =>
      have eg : (if okShow d = true then some (SV.dat (.str d.shown)) else none) = some w := eg
      split at eg
      · rename_i hz
        cases eg
        have hz' : ((SeqAt.shaped d && d.showable) && decide (d.shown.length ≤ sizeLine)) = true := hz
        simp only [Bool.and_eq_true, decide_eq_true_eq] at hz'
        cases rd with
        | cons rd r2 =>
          cases r2
          obtain ⟨u, rfl, ru⟩ := r.one
          rename_i x
          have fin : ∀ (h' : Heap) (t : Tok) (tk : Nat), (∀ b o, s.heap.get? b = some o → h'.get? b = some o) → EP X pins σ Q (.str d.shown t) { s with heap := h', toks := tk } := fun h' t tk k =>
            ⟨.str d.shown, H, I.kept k, ⟨t, rfl⟩, q _ H .refl .str⟩
          cases d with
          | none => cases (show x = .non from rd); cases ru; exact PySem.P.repr_of_none (fin _ _ _ fun _ _ e => e)
          | bool b => cases (show x = .bl b from rd); cases ru; exact PySem.P.repr_of_bool (by cases b <;> exact fin _ _ _ fun _ _ e => e)
          | int i => cases (show x = .int i from rd); obtain ⟨t, rfl⟩ := ru; exact PySem.P.repr_of_int (of_decide_eq_true hz'.1.2) (fin _ _ _ fun _ _ e => e)
          | str z => cases (show x = .str z from rd); obtain ⟨t, rfl⟩ := ru; exact PySem.P.repr_of_str (fin _ _ _ fun _ _ e => e) hz'.2
          | dict kvs => exact absurd (SeqAt.canLay_of_shaped hz'.1.1) (by simp [PyData.canLay0])
          | list es =>
            have hdp := rd.dp hz'.1.1
            obtain ⟨a, xs, rfl, _⟩ := rd
            cases ru
            obtain ⟨as, rr⟩ := Dp.reads I _ _ _ hdp rfl
            exact repr_of_reads' rr hz'.1.2 (PyData.noDict_hsm (PyData.hasDict_of_canLay _ (SeqAt.canLay_of_shaped hz'.1.1))) hG (by have := SeqAt.depth_of_shaped hz'.1.1; omega) (fun _ _ e => e) (fun h' t tk k => fin h' t tk k) hz'.2
          | tuple es =>
            have hdp := rd.dp hz'.1.1
            obtain ⟨a, xs, rfl, _⟩ := rd
            cases ru
            obtain ⟨as, rr⟩ := Dp.reads I _ _ _ hdp rfl
            exact repr_of_reads' rr hz'.1.2 (PyData.noDict_hsm (PyData.hasDict_of_canLay _ (SeqAt.canLay_of_shaped hz'.1.1))) hG (by have := SeqAt.depth_of_shaped hz'.1.1; omega) (fun _ _ e => e) (fun h' t tk k => fin h' t tk k) hz'.2
      · cases eg
/-! ### in, not in -/
def flat0 : PyData → Bool
  | .none => true
  | .bool _ => true
  | .int _ => true
  | .str _ => true
  | _ => false
def gIn : PyData → PyData → Option SV
  | d, .tuple ds => if flat0 d = true ∧ ds.all flat0 = true then some (dB (ds.any fun y => PyData.eqv y d)) else none
  | d, .list ds => if flat0 d = true ∧ ds.all flat0 = true then some (dB (ds.any fun y => PyData.eqv y d)) else none
  | _, _ => none
def gNotIn : PyData → PyData → Option SV
  | d, .tuple ds => if flat0 d = true ∧ ds.all flat0 = true then some (dB (!ds.any fun y => PyData.eqv y d)) else none
  | d, .list ds => if flat0 d = true ∧ ds.all flat0 = true then some (dB (!ds.any fun y => PyData.eqv y d)) else none
  | _, _ => none
section
variable {K : PySem.W.Frag} {H : Hp} {N : Addr → Prop}
theorem RD.flatV : ∀ {d : PyData} {x : V}, RD K H N d x → flat0 d = true → flatV x = true
  | .none, _, h, _ => by cases (show _ = V.non from h); rfl
  | .bool _, _, h, _ => by cases (show _ = V.bl _ from h); rfl
  | .int _, _, h, _ => by cases (show _ = V.int _ from h); rfl
  | .str _, _, h, _ => by cases (show _ = V.str _ from h); rfl
  | .list _, _, _, f => by cases f
  | .tuple _, _, _, f => by cases f
  | .dict _, _, _, f => by cases f
theorem RD.eqV {d e : PyData} {x y : V} (h : RD K H N d x) (f : flat0 d = true) (h2 : RD K H N e y) (f2 : flat0 e = true) : eqV x y = PyData.eqv d e := by
  cases d with
  | none => cases (show x = V.non from h); cases e with
    | none => cases (show y = V.non from h2); simp [L2.eqV, PyData.eqv]
    | bool b => cases (show y = V.bl _ from h2); simp [L2.eqV, PyData.eqv]
    | int b => cases (show y = V.int _ from h2); simp [L2.eqV, PyData.eqv]
    | str b => cases (show y = V.str _ from h2); simp [L2.eqV, PyData.eqv]
    | _ => cases f2
  | bool a => cases (show x = V.bl _ from h); cases e with
    | none => cases (show y = V.non from h2); simp [L2.eqV, PyData.eqv]
    | bool b => cases (show y = V.bl _ from h2); simp [L2.eqV, PyData.eqv]
    | int b => cases (show y = V.int _ from h2); simp [L2.eqV, PyData.eqv]
    | str b => cases (show y = V.str _ from h2); simp [L2.eqV, PyData.eqv]
    | _ => cases f2
  | int a => cases (show x = V.int _ from h); cases e with
    | none => cases (show y = V.non from h2); simp [L2.eqV, PyData.eqv]
    | bool b => cases (show y = V.bl _ from h2); simp [L2.eqV, PyData.eqv]
    | int b => cases (show y = V.int _ from h2); simp [L2.eqV, PyData.eqv]
    | str b => cases (show y = V.str _ from h2); simp [L2.eqV, PyData.eqv]
    | _ => cases f2
  | str a => cases (show x = V.str _ from h); cases e with
    | none => cases (show y = V.non from h2); simp [L2.eqV, PyData.eqv]
    | bool b => cases (show y = V.bl _ from h2); simp [L2.eqV, PyData.eqv]
    | int b => cases (show y = V.int _ from h2); simp [L2.eqV, PyData.eqv]
    | str b => cases (show y = V.str _ from h2); simp [L2.eqV, PyData.eqv]
    | _ => cases f2
  | _ => cases f
theorem RDs.inV {d : PyData} {x : V} (h : RD K H N d x) (f : flat0 d = true) : ∀ {ds : List PyData} {xs : List V}, RDs K H N ds xs → ds.all flat0 = true → xs.all flatV = true ∧ inV x xs = ds.any fun y => PyData.eqv y d
  | [], _, r, _ => by cases r; exact ⟨rfl, rfl⟩
  | e :: ds, _, ⟨y, t, eq, r1, r2⟩, fs => by
    subst eq
    rw [List.all_cons, Bool.and_eq_true] at fs
    obtain ⟨i1, i2⟩ := RDs.inV h f r2 fs.2
    refine ⟨by rw [List.all_cons, i1, r1.flatV fs.1]; rfl, ?_⟩
    have i2' : (t.any fun z => L2.eqV z x) = ds.any fun y => PyData.eqv y d := i2
    show ((y :: t).any fun z => L2.eqV z x) = _
    rw [List.any_cons, List.any_cons, i2', RD.eqV r1 fs.1 h f]
theorem RT.rd0 {d : PyData} {x : V} (h : RT K H N d x) (f : flat0 d = true) : RD K H N d x := by
  cases d with
  | list _ => cases f
  | _ => exact h
end
theorem o_in : OpR X (compareOp .In) (RO2 X.K gIn) := by
  intro pins s σ H x y v u Q I rx ry ⟨N, d, e, w, nf, hd, he, hg, q⟩
  cases e with
  | tuple ds =>
    dsimp only [gIn] at hg
    split at hg
    · rename_i hz; cases hg
      obtain ⟨a, xs, rfl, qt, rds⟩ := he.tup
      obtain ⟨i1, i2⟩ := rds.inV (hd.rd0 hz.1) hz.1 hz.2
      exact op_in_seq pins s σ H x _ v u Q I rx ry ⟨a, xs, rfl, .inr qt.sq, (hd.rd0 hz.1).flatV hz.1, i1, by rw [if_neg Bool.false_ne_true, i2]; exact q _ H .refl .bl⟩
    · cases hg
  | list ds =>
    dsimp only [gIn] at hg
    split at hg
    · rename_i hz; cases hg
      obtain ⟨a, xs, rfl, qt, rds⟩ := he.lst
      obtain ⟨i1, i2⟩ := rds.inV (hd.rd0 hz.1) hz.1 hz.2
      exact op_in_seq pins s σ H x _ v u Q I rx ry ⟨a, xs, rfl, .inl (.inl (.inl qt)), (hd.rd0 hz.1).flatV hz.1, i1, by rw [if_neg Bool.false_ne_true, i2]; exact q _ H .refl .bl⟩
    · cases hg
  | _ => cases d <;> cases hg
theorem o_notin : OpR X (compareOp .NotIn) (RO2 X.K gNotIn) := by
  intro pins s σ H x y v u Q I rx ry ⟨N, d, e, w, nf, hd, he, hg, q⟩
  cases e with
  | tuple ds =>
    dsimp only [gNotIn] at hg
    split at hg
    · rename_i hz; cases hg
      obtain ⟨a, xs, rfl, qt, rds⟩ := he.tup
      obtain ⟨i1, i2⟩ := rds.inV (hd.rd0 hz.1) hz.1 hz.2
      exact op_notIn_seq pins s σ H x _ v u Q I rx ry ⟨a, xs, rfl, .inr qt.sq, (hd.rd0 hz.1).flatV hz.1, i1, by rw [if_pos rfl, i2]; exact q _ H .refl .bl⟩
    · cases hg
  | list ds =>
    dsimp only [gNotIn] at hg
    split at hg
    · rename_i hz; cases hg
      obtain ⟨a, xs, rfl, qt, rds⟩ := he.lst
      obtain ⟨i1, i2⟩ := rds.inV (hd.rd0 hz.1) hz.1 hz.2
      exact op_notIn_seq pins s σ H x _ v u Q I rx ry ⟨a, xs, rfl, .inl (.inl (.inl qt)), (hd.rd0 hz.1).flatV hz.1, i1, by rw [if_pos rfl, i2]; exact q _ H .refl .bl⟩
    · cases hg
  | _ => cases d <;> cases hg
end
end EV
end

section
set_option maxRecDepth 100000
set_option maxHeartbeats 4000000
namespace EV
open PySem PySem.Spec L2
open PyProof.Rows (envOfC)

/-! ### pure bodies of lambdas, over the heap alone: all objects stay as they are -/
def Kall (h h' : Heap) : Prop := ∀ b o, h.get? b = some o → h'.get? b = some o
theorem Kall.refl {h : Heap} : Kall h h := fun _ _ e => e
theorem Kall.trans {h h1 h2 : Heap} (a : Kall h h1) (b : Kall h1 h2) : Kall h h2 := fun c o e => b c o (a c o e)
structure LX where
  P : Program
  w : World
  A : Around
  env : Env
  s0 : Shared
  mg : Str → Option Value
  N : List Str
def LX.at (L : LX) (h : Heap) (tk : Nat) : Shared := { L.s0 with heap := h, toks := tk }
def LX.PU (L : LX) (e : Expr) (d : PyData) : Prop := ∀ (h : Heap) (tk : Nat) (Q : Value → Shared → Prop) (E : Value → Shared → Prop), Kall L.s0.heap h →
  (∀ (v : Value) (h' : Heap) (tk' : Nat), Kall h h' → (∃ as, Reads h' v d as) → Q v (L.at h' tk')) → wpAny (model L.P L.w) L.A (eval e L.env) Q E (L.at h tk)
def LX.PB (L : LX) (e : Expr) (b : Bool) : Prop := ∀ (h : Heap) (tk : Nat) (Q : Bool → Shared → Prop) (E : Value → Shared → Prop), Kall L.s0.heap h →
  (∀ (h' : Heap) (tk' : Nat), Kall h h' → Q b (L.at h' tk')) → wpAny (model L.P L.w) L.A (isTrue e L.env (eval e L.env)) Q E (L.at h tk)
structure LX.Ok (L : LX) : Prop where
  kind : L.env.scope.kind = .function
  glob : L.s0.heap.Ns L.env.globals L.mg
def VisL (sc : Scope) (x : Str) : Prop := sc.names.lookup x = some .local ∨ sc.names.lookup x = some .free
def LX.Nm (L : LX) (ρ : Fr) (st : Sto) : Prop := ∀ (i : Nat) (x : Str) (d : PyData) (w : SV) (pos : Pos), L.N[i]? = some x → VisL L.env.scope x → fVar i ρ st = some (w, st) → asD st w = some d → (x == ("__debug__" : Str)) = false → (x == ("__classdict__" : Str)) = false → L.PU (.Name x pos) d
/-- e, read by f, is pure -/
def DL (sc : Scope) (N : List Str) (mg : Str → Option Value) (e : Expr) (f : FE) : Prop := ∀ L : LX, L.env.scope = sc → L.N = N → L.mg = mg → L.Ok → ∀ ρ st w st', L.Nm ρ st → f ρ st = some (w, st') → st' = st ∧ ∀ d, asD st w = some d → L.PU e d
def DLT (sc : Scope) (N : List Str) (mg : Str → Option Value) (e : Expr) (f : FT) : Prop := ∀ L : LX, L.env.scope = sc → L.N = N → L.mg = mg → L.Ok → ∀ ρ st b st', L.Nm ρ st → f ρ st = some (b, st') → st' = st ∧ L.PB e b
theorem rd_up {h h' : Heap} {v : Value} {d : PyData} {as : List Addr} (r : Reads h v d as) (k : Kall h h') : Reads h' v d as := PyProof.Rows.Reads.keeps k r
section
variable {sc : Scope} {N : List Str} {mg : Str → Option Value} {pos p : Pos} {a b c : Expr} {x : Str}
theorem dl_var {i : Nat} (hN : N[i]? = some x := by rfl) (hv : VisL sc x := by first | exact .inl rfl | exact .inr rfl) (hd : (x == ("__debug__" : Str)) = false := by decide) (hcd : (x == ("__classdict__" : Str)) = false := by decide) : DL sc N mg (.Name x pos) (fVar i) := by
  intro L e1 e2 e3 ok ρ st w st' nm e
  have e' : st' = st := by
    unfold fVar at e
    split at e <;> first | (cases e; rfl) | cases e
  subst e'
  exact ⟨rfl, fun d ed => nm i x d w pos (e2 ▸ hN) (e1 ▸ hv) e ed hd hcd⟩
theorem con_st {d : PyData} {ρ : Fr} {st st' : Sto} {w : SV} (e : fCon d ρ st = some (w, st')) : st' = st ∧ w = .dat d := by cases e; exact ⟨rfl, rfl⟩
theorem dl_int {i : Int} {j} : DL sc N mg (.Constant (.int i) j pos) (fCon (.int i)) := by
  intro L e1 e2 e3 ok ρ st w st' nm e
  obtain ⟨rfl, rfl⟩ := con_st e
  refine ⟨rfl, fun d ed h tk Q E k q => ?_⟩
  cases ed
  exact wpAny_Constant_int (q _ _ _ .refl ⟨_, .int _ _⟩)
theorem dl_str {z : Str} {j} : DL sc N mg (.Constant (.str z) j pos) (fCon (.str z)) := by
  intro L e1 e2 e3 ok ρ st w st' nm e
  obtain ⟨rfl, rfl⟩ := con_st e
  refine ⟨rfl, fun d ed h tk Q E k q => ?_⟩
  cases ed
  exact Calls.Constant_str (q _ _ _ .refl ⟨_, .str _ _⟩)
/-- a module's text or number -/
theorem dl_glob {d : PyData} {u : Value} (hm : mg x = some u) (hr : ∀ h : Heap, ∃ as, Reads h u d as) (hg : sc.names.lookup x = some .globalImplicit := by rfl) (hd : (x == ("__debug__" : Str)) = false := by decide) : DL sc N mg (.Name x pos) (fCon d) := by
  intro L e1 e2 e3 ok ρ st w st' nm e
  obtain ⟨rfl, rfl⟩ := con_st e
  refine ⟨rfl, fun d' ed h tk Q E k q => ?_⟩
  cases ed
  obtain ⟨as, r⟩ := hr h
  have hg' : L.env.kindOf x = some .globalImplicit := by show L.env.scope.names.lookup x = _; rw [e1]; exact hg
  exact Calls.Name_function_global ok.kind hg' (Calls.loadGlobal_global (s := L.at h tk) (ok.glob.keeps k) (by rw [e3]; exact hm) (q _ _ _ .refl ⟨_, r⟩)) hd

/-! the operations -/
def gSubI : PyData → PyData → Option SV
  | .int i, .int j => some (.dat (.int (i - j)))
  | _, _ => none
def gAddI : PyData → PyData → Option SV
  | .int i, .int j => some (.dat (.int (i + j)))
  | _, _ => none
def gIxI : PyData → PyData → Option SV
  | .list ds, .int i => if okI i = true then (atI ds i).map .dat else none
  | .tuple ds, .int i => if okI i = true then (atI ds i).map .dat else none
  | _, _ => none
def gEqI : PyData → PyData → Option SV
  | .int i, .int j => some (dB (decide (i = j)))
  | .str x, .str y => some (dB (decide (x = y)))
  | _, _ => none
theorem op2_st {g : PyData → PyData → Option SV} {fa fb : FE} {ρ : Fr} {st st' : Sto} {w : SV} (e : fOp2 g fa fb ρ st = some (w, st')) : ∃ v st1 u d e, fa ρ st = some (v, st1) ∧ fb ρ st1 = some (u, st') ∧ asD st' v = some d ∧ asD st' u = some e ∧ g d e = some w := by
  unfold fOp2 at e
  cases ea : fa ρ st with
  | none => rw [ea] at e; cases e
  | some r =>
    obtain ⟨v, st1⟩ := r
    rw [ea] at e
    dsimp only at e
    cases eb : fb ρ st1 with
    | none => rw [eb] at e; cases e
    | some r =>
      obtain ⟨u, st2⟩ := r
      rw [eb] at e
      dsimp only at e
      cases e1 : asD st2 v with
      | none => rw [e1] at e; cases e
      | some d => cases e2 : asD st2 u with
        | none => rw [e1, e2] at e; cases e
        | some d2 =>
          rw [e1, e2] at e
          dsimp only at e
          cases eg : g d d2 with
          | none => rw [eg] at e; cases e
          | some z => rw [eg] at e; cases e; exact ⟨v, st1, u, d, d2, rfl, eb, e1, e2, eg⟩
theorem op1_st {g : PyData → Option SV} {fa : FE} {ρ : Fr} {st st' : Sto} {w : SV} (e : fOp1 g fa ρ st = some (w, st')) : ∃ v d, fa ρ st = some (v, st') ∧ asD st' v = some d ∧ g d = some w := by
  unfold fOp1 at e
  cases ea : fa ρ st with
  | none => rw [ea] at e; cases e
  | some r =>
    obtain ⟨v, st1⟩ := r
    rw [ea] at e
    dsimp only at e
    cases e1 : asD st1 v with
    | none => rw [e1] at e; cases e
    | some d =>
      rw [e1] at e
      dsimp only at e
      cases eg : g d with
      | none => rw [eg] at e; cases e
      | some z => rw [eg] at e; cases e; exact ⟨v, d, rfl, e1, eg⟩
theorem rd_int {h : Heap} {v : Value} {i : Int} {as : List Addr} (r : Reads h v (.int i) as) : ∃ t, v = .int i t := by cases r; exact ⟨_, rfl⟩
theorem rd_str {h : Heap} {v : Value} {i : Str} {as : List Addr} (r : Reads h v (.str i) as) : ∃ t, v = .str i t := by cases r; exact ⟨_, rfl⟩
/-- two operands -/
theorem dl_two {g : PyData → PyData → Option SV} {fa fb : FE} {e : Expr} (ha : DL sc N mg a fa) (hb : DL sc N mg b fb)
    (k : ∀ (L : LX) (d1 d2 d : PyData) (w : SV), g d1 d2 = some w → (∀ st, asD st w = some d → True) → L.PU a d1 → L.PU b d2 → (∀ st, asD st w = some d) → L.PU e d) (hw : ∀ d1 d2 w, g d1 d2 = some w → ∃ d, w = .dat d) : DL sc N mg e (fOp2 g fa fb) := by
  intro L e1 e2 e3 ok ρ st w st' nm ev
  obtain ⟨v, st1, u, d1, d2, a1, a2, a3, a4, a5⟩ := op2_st ev
  obtain ⟨rfl, p1⟩ := ha L e1 e2 e3 ok ρ st v st1 nm a1
  obtain ⟨rfl, p2⟩ := hb L e1 e2 e3 ok ρ st1 u st' nm a2
  obtain ⟨d, rfl⟩ := hw d1 d2 w a5
  refine ⟨rfl, fun d' ed => ?_⟩
  cases ed
  exact k L d1 d2 d _ a5 (fun _ _ => True.intro) (p1 d1 a3) (p2 d2 a4) fun _ => rfl
theorem dl_sub {fa fb : FE} (ha : DL sc N mg a fa) (hb : DL sc N mg b fb) : DL sc N mg (.BinOp a .Sub b pos) (fOp2 gSubI fa fb) := by
  refine dl_two ha hb (fun L d1 d2 d w hg _ p1 p2 hd h tk Q E k q => ?_) fun d1 d2 w hg => ?_
  · cases d1 with
    | int i => cases d2 with
      | int j =>
        cases hg
        cases hd []
        refine wpAny_BinOp (p1 h tk _ E k fun v h1 t1 k1 ⟨_, r1⟩ => p2 h1 t1 _ E (k.trans k1) fun u h2 t2 k2 ⟨_, r2⟩ => ?_)
        obtain ⟨t, rfl⟩ := (rd_int r1)
        obtain ⟨t', rfl⟩ := (rd_int r2)
        exact PyProof.Rows.sub_int (q _ h2 _ (k1.trans k2) ⟨_, .int _ _⟩)
      | _ => cases hg
    | _ => cases hg
  · cases d1 <;> cases d2 <;> first | (cases hg; exact ⟨_, rfl⟩) | cases hg
theorem dl_add {fa fb : FE} (ha : DL sc N mg a fa) (hb : DL sc N mg b fb) : DL sc N mg (.BinOp a .Add b pos) (fOp2 gAddI fa fb) := by
  refine dl_two ha hb (fun L d1 d2 d w hg _ p1 p2 hd h tk Q E k q => ?_) fun d1 d2 w hg => ?_
  · cases d1 with
    | int i => cases d2 with
      | int j =>
        cases hg
        cases hd []
        refine wpAny_BinOp (p1 h tk _ E k fun v h1 t1 k1 ⟨_, r1⟩ => p2 h1 t1 _ E (k.trans k1) fun u h2 t2 k2 ⟨_, r2⟩ => ?_)
        obtain ⟨t, rfl⟩ := (rd_int r1)
        obtain ⟨t', rfl⟩ := (rd_int r2)
        exact PyProof.Rows.add_int (q _ h2 _ (k1.trans k2) ⟨_, .int _ _⟩)
      | _ => cases hg
    | _ => cases hg
  · cases d1 <;> cases d2 <;> first | (cases hg; exact ⟨_, rfl⟩) | cases hg
theorem dl_neg {fa : FE} (ha : DL sc N mg a fa) : DL sc N mg (.UnaryOp .USub a pos) (fOp1 gNeg fa) := by
  intro L e1 e2 e3 ok ρ st w st' nm ev
  obtain ⟨v, d1, a1, a2, a3⟩ := op1_st ev
  obtain ⟨rfl, p1⟩ := ha L e1 e2 e3 ok ρ st v st' nm a1
  cases d1 with
  | int i =>
    cases a3
    refine ⟨rfl, fun d ed h tk Q E k q => ?_⟩
    cases ed
    refine PyProof.Rows.UnaryOp_ (p1 _ a2 h tk _ E k fun v h1 t1 k1 ⟨_, r1⟩ => ?_)
    obtain ⟨t, rfl⟩ := (rd_int r1)
    exact PySem.P.neg_int (q _ h1 _ k1 ⟨_, .int _ _⟩)
  | _ => cases a3
theorem reads_at {h : Heap} : ∀ {vs : List Value} {ds : List PyData} {as : List Addr} {j : Nat} {d : PyData}, ReadsAll h vs ds as → ds[j]? = some d → ∃ v bs, vs[j]? = some v ∧ Reads h v d bs
  | _, [], _, _, _, r, e => by cases e
  | _, d :: ds, _, 0, _, .cons r _, e => by cases e; exact ⟨_, _, rfl, r⟩
  | _, d :: ds, _, j + 1, _, .cons _ t, e => by
    obtain ⟨v, bs, e1, e2⟩ := reads_at (j := j) t (by simpa using e)
    exact ⟨v, bs, by simpa using e1, e2⟩
theorem readsAll_len {h : Heap} : ∀ {vs : List Value} {ds : List PyData} {as : List Addr}, ReadsAll h vs ds as → vs.length = ds.length
  | _, [], _, .nil => rfl
  | _, _ :: _, _, .cons _ t => by simp [readsAll_len t]
theorem dl_ix {fa fb : FE} (ha : DL sc N mg a fa) (hb : DL sc N mg b fb) (hs : PlainIx b := by intro _ _; rfl) : DL sc N mg (.Subscript a b pos) (fOp2 gIxI fa fb) := by
  refine dl_two ha hb (fun L d1 d2 d w hg _ p1 p2 hd h tk Q E k q => ?_) fun d1 d2 w hg => ?_
  · cases d2 with
    | int i =>
      cases d1 with
      | list ds =>
        have hg : (if okI i = true then (atI ds i).map SV.dat else none) = some w := hg
        split at hg
        · rename_i hz
          have hz := okI_to hz
          cases ea : atI ds i with
          | none => rw [ea] at hg; cases hg
          | some z =>
            rw [ea] at hg; cases hg
            cases hd []
            refine PyProof.Rows.Subscript_ (p1 h tk _ E k fun v h1 t1 k1 ⟨_, r1⟩ => p2 h1 t1 _ E (k.trans k1) fun u h2 t2 k2 ⟨_, r2⟩ => ?_)
            obtain ⟨t', rfl⟩ := (rd_int r2)
            have r1' := rd_up r1 k2
            cases r1' with
            | @list ad o vs n _ as' g1 g2 g3 g4 =>
              obtain ⟨j, h1', h2', h3', h4', h5'⟩ := atI_get ea
              obtain ⟨x, bs, ex, rx⟩ := reads_at g4 h2'
              have hl := readsAll_len g4
              have hL : (L.at h2 t2).heap.IsList ad vs := ⟨o, g1, g2, n, g3⟩
              have ex' : vs[j]? = some x := by rw [← Array.getElem?_toList]; exact ex
              have fin : Q x (L.at h2 t2) := q x h2 t2 (k1.trans k2) ⟨_, rx⟩
              have hsz : vs.size = ds.length := by rw [← hl]; simp
              by_cases h0 : 0 ≤ i
              · have hj : i.toNat = j := by
                  rw [seqIndex_of h0 h5'] at h1'
                  exact Option.some.inj h1'
                exact PyProof.Rows.item_listR hL h0 (by omega) (by rw [hj]; exact ex') fin (hs _ _)
              · have hj : (i + (vs.size : Int)).toNat = j := by
                  rw [seqIndex_neg (by omega) h4'] at h1'
                  rw [hsz]
                  exact Option.some.inj h1'
                exact PyProof.Rows.subscriptTail_builtinR (x := x) hL.typeIs PySem.slot_list_getitem.lookup
                  (wpAny_getItem_list_neg (Q := fun r s' => r = x ∧ Q r s') hL (by omega) (by rw [hsz]; omega) (by omega) (by rw [hj]; exact ex') ⟨rfl, fin⟩) (hs _ _)
        · cases hg
      | tuple ds =>
        have hg : (if okI i = true then (atI ds i).map SV.dat else none) = some w := hg
        split at hg
        · rename_i hz
          have hz := okI_to hz
          cases ea : atI ds i with
          | none => rw [ea] at hg; cases hg
          | some z =>
            rw [ea] at hg; cases hg
            cases hd []
            refine PyProof.Rows.Subscript_ (p1 h tk _ E k fun v h1 t1 k1 ⟨_, r1⟩ => p2 h1 t1 _ E (k.trans k1) fun u h2 t2 k2 ⟨_, r2⟩ => ?_)
            obtain ⟨t', rfl⟩ := (rd_int r2)
            have r1' := rd_up r1 k2
            cases r1' with
            | @tuple ad o vs n _ as' g1 g2 g3 g4 =>
              obtain ⟨j, h1', h2', h3', h4', h5'⟩ := atI_get ea
              obtain ⟨x, bs, ex, rx⟩ := reads_at g4 h2'
              have hl := readsAll_len g4
              have hL : PyProof.Rows.IsTup (L.at h2 t2).heap ad vs := ⟨o, g1, g2, n, g3⟩
              have ex' : vs[j]? = some x := by rw [← Array.getElem?_toList]; exact ex
              have fin : Q x (L.at h2 t2) := q x h2 t2 (k1.trans k2) ⟨_, rx⟩
              have hsz : vs.size = ds.length := by rw [← hl]; simp
              exact PyProof.Rows.subscriptTail_builtinR (x := x) hL.typeIs PyProof.Rows.slot_tuple_getitem.lookup
                (PyProof.Rows.getItem_tuple (j := j) (Q := fun r s' => r = x ∧ Q r s') hL (by omega) (by omega) (by rw [hsz]; exact h1') ex' ⟨rfl, fin⟩) (hs _ _)
        · cases hg
      | _ => cases hg
    | _ => cases d1 <;> cases hg
  · cases d1 <;> cases d2 <;> first | (cases hg; done) | (dsimp only [gIxI] at hg; split at hg; (obtain ⟨z, _, rfl⟩ := Option.map_eq_some_iff.mp hg; exact ⟨_, rfl⟩); cases hg)

/-! tests -/
theorem tst_st {fa : FE} {ρ : Fr} {st st' : Sto} {k : Bool} (e : fTst fa ρ st = some (k, st')) : ∃ v, fa ρ st = some (v, st') ∧ asB v = some k := by
  unfold fTst at e
  cases ea : fa ρ st with
  | none => rw [ea] at e; cases e
  | some r =>
    obtain ⟨v, st1⟩ := r
    rw [ea] at e
    dsimp only at e
    cases eb : asB v with
    | none => rw [eb] at e; cases e
    | some b => rw [eb] at e; cases e; exact ⟨v, rfl, eb⟩
theorem dlt_eq {fa fb : FE} (ha : DL sc N mg a fa) (hb : DL sc N mg b fb) : DLT sc N mg (.Compare a [.Eq] [b] pos) (fTst (fOp2 gEqI fa fb)) := by
  intro L e1 e2 e3 ok ρ st kb st' nm ev
  obtain ⟨z, ev, eb⟩ := tst_st ev
  obtain ⟨v, st1, u, d1, d2, a1, a2, a3, a4, a5⟩ := op2_st ev
  obtain ⟨rfl, p1⟩ := ha L e1 e2 e3 ok ρ st v st1 nm a1
  obtain ⟨rfl, p2⟩ := hb L e1 e2 e3 ok ρ st1 u st' nm a2
  refine ⟨rfl, fun h tk Q E k q => ?_⟩
  refine PySem.wpAny_isTrue_Compare1 (p1 d1 a3 h tk _ E k fun v h1 t1 k1 ⟨_, r1⟩ => p2 d2 a4 h1 t1 _ E (k.trans k1) fun u h2 t2 k2 ⟨_, r2⟩ => ?_) (nomark b)
  cases d1 with
  | int i => cases d2 with
    | int j =>
      cases a5; cases eb
      obtain ⟨t, rfl⟩ := (rd_int r1)
      obtain ⟨t', rfl⟩ := (rd_int r2)
      refine PyProof.Rows.eq_int (wpAny_truthy_bool ?_)
      have e : (i == j) = decide (i = j) := by by_cases h : i = j <;> simp [h]
      rw [e]
      exact q h2 t2 (k1.trans k2)
    | _ => cases a5
  | str i => cases d2 with
    | str j =>
      cases a5; cases eb
      obtain ⟨t, rfl⟩ := (rd_str r1)
      obtain ⟨t', rfl⟩ := (rd_str r2)
      refine PyProof.Rows.eq_str (wpAny_truthy_bool ?_)
      have e : (i == j) = decide (i = j) := by by_cases h : i = j <;> simp [h]
      rw [e]
      exact q h2 t2 (k1.trans k2)
    | _ => cases a5
  | _ => cases a5
theorem dl_ite {fc : FT} {fa fb : FE} (hc : DLT sc N mg c fc) (ha : DL sc N mg a fa) (hb : DL sc N mg b fb) : DL sc N mg (.IfExp c a b pos) (fIte fc fa fb) := by
  intro L e1 e2 e3 ok ρ st w st' nm ev
  unfold fIte at ev
  cases ec : fc ρ st with
  | none => rw [ec] at ev; cases ev
  | some r =>
    obtain ⟨kb, st1⟩ := r
    rw [ec] at ev
    obtain ⟨rfl, pc⟩ := hc L e1 e2 e3 ok ρ st kb st1 nm ec
    cases kb with
    | true =>
      obtain ⟨rfl, p⟩ := ha L e1 e2 e3 ok ρ st1 w st' nm ev
      exact ⟨rfl, fun d ed h tk Q E k q => wpAny_IfExp (pc h tk _ E k fun h1 t1 k1 => p d ed h1 t1 Q E (k.trans k1) fun v h2 t2 k2 r => q v h2 t2 (k1.trans k2) r)⟩
    | false =>
      obtain ⟨rfl, p⟩ := hb L e1 e2 e3 ok ρ st1 w st' nm ev
      exact ⟨rfl, fun d ed h tk Q E k q => wpAny_IfExp (pc h tk _ E k fun h1 t1 k1 => p d ed h1 t1 Q E (k.trans k1) fun v h2 t2 k2 r => q v h2 t2 (k1.trans k2) r)⟩
/-- a pair -/
theorem dl_pair {fa fb : FE} {x1} (ha : DL sc N mg a fa) (hb : DL sc N mg b fb) (h1 : ∀ env, starEach [a, b] env = (false, eval a env) :: starEach [b] env := by intro _; rfl) (h2 : ∀ env, starEach [b] env = [(false, eval b env)] := by intro _; rfl) : DL sc N mg (.Tuple [a, b] x1 pos) (fTup (fCons fa (fCons fb fNil))) := by
  intro L e1 e2 e3 ok ρ st w st' nm ev
  unfold fTup fCons at ev
  cases ea : fa ρ st with
  | none => rw [ea] at ev; cases ev
  | some r =>
    obtain ⟨v, st1⟩ := r
    rw [ea] at ev
    obtain ⟨rfl, pa⟩ := ha L e1 e2 e3 ok ρ st v st1 nm ea
    dsimp only at ev
    cases eb : fb ρ st1 with
    | none => rw [eb] at ev; cases ev
    | some r =>
      obtain ⟨u, st2⟩ := r
      rw [eb] at ev
      obtain ⟨rfl, pb⟩ := hb L e1 e2 e3 ok ρ st1 u st2 nm eb
      dsimp only [fNil] at ev
      unfold escDs escDs escDs at ev
      cases ed : escD v with
      | none => rw [ed] at ev; cases ev
      | some d1 => cases ee : escD u with
        | none => rw [ed, ee] at ev; cases ev
        | some d2 =>
          rw [ed, ee] at ev
          have ev' : (if [d1, d2].length ≤ sizeLine then some (SV.dat (.tuple [d1, d2]), st2) else none) = some (w, st') := ev
          rw [if_pos (by show 2 ≤ sizeLine; decide)] at ev'
          cases ev'
          have up : ∀ {st : Sto} {w : SV} {d : PyData}, escD w = some d → asD st w = some d := fun {st w d} e => by cases w <;> first | exact e | cases e
          refine ⟨rfl, fun d ed' h tk Q E k q => ?_⟩
          cases ed'
          refine wpAny_Tuple_spliced ?_
          rw [h1, h2]
          refine Calls.spliced_cons (pa d1 (up ed) h tk _ E k fun v h1 t1 k1 ⟨_, r1⟩ => ?_)
          refine Calls.spliced_cons (pb d2 (up ee) h1 t1 _ E (k.trans k1) fun u h2 t2 k2 ⟨_, r2⟩ => ?_)
          refine Calls.spliced_nil ⟨by show 2 ≤ sizeLine; decide, ?_⟩
          have kp : Kall h2 (h2.push { cls := .type "tuple", data := .seq [v, u].toArray }) := fun b o e => Heap.get?_push_of_some _ e
          refine q _ _ t2 ((k1.trans k2).trans kp) ⟨_, .tuple (Heap.get?_push_size _ rfl) rfl rfl (.cons (rd_up (rd_up r1 k2) kp) (.cons (rd_up r2 kp) .nil))⟩
end
end EV
end

section
set_option maxRecDepth 100000
set_option maxHeartbeats 4000000
namespace EV
open PySem PySem.Spec L2
open LamX (TabS Tabs ExtN CodeO TabB)

/-! ### a lambda of one parameter is made -/
structure Lam1 (sc scope : Scope) (x : Str) : Prop where
  kind : scope.kind = .function
  co : scope.isCoroutine = false
  gen : scope.isGenerator = false
  par : scope.names.lookup x = some .local
  own : ∀ y ∈ scope.names, y.2 = .local → y.1 = x
  nocell : ∀ y ∈ scope.names, y.2 ≠ .cell
  free : ∀ y ∈ scope.names, y.2 = .free → sc.names.lookup y.1 = some .cell ∨ sc.names.lookup y.1 = some .free
def lam1B (sc scope : Scope) (x : Str) : Bool :=
  ((decide (scope.kind = .function) && (!scope.isCoroutine && !scope.isGenerator)) && decide (scope.names.lookup x = some .local)) &&
    scope.names.all fun y => (!decide (y.2 = .local) || decide (y.1 = x)) && (!decide (y.2 = .cell) && (!decide (y.2 = .free) || (decide (sc.names.lookup y.1 = some .cell) || decide (sc.names.lookup y.1 = some .free))))
theorem lam1_by {sc scope : Scope} {x : Str} (h : lam1B sc scope x = true) : Lam1 sc scope x := by
  unfold lam1B at h
  rw [Bool.and_eq_true, Bool.and_eq_true, Bool.and_eq_true, Bool.and_eq_true] at h
  obtain ⟨⟨⟨a, b, c⟩, d⟩, r⟩ := h
  have al := List.all_eq_true.mp r
  refine ⟨of_decide_eq_true a, by simpa using b, by simpa using c, of_decide_eq_true d, fun y hy e => ?_, fun y hy e => ?_, fun y hy e => ?_⟩
  · have z := al y hy
    rw [Bool.and_eq_true] at z
    have z1 := z.1
    rw [e] at z1
    simpa using z1
  · have z := al y hy
    rw [Bool.and_eq_true, Bool.and_eq_true] at z
    have z1 := z.2.1
    rw [e] at z1
    simp at z1
  · have z := al y hy
    rw [Bool.and_eq_true, Bool.and_eq_true] at z
    have z1 := z.2.2
    rw [e] at z1
    simpa using z1
section
variable {X : Cx} {pins : List (Addr × Obj)} {σ : L2.St} {H : Hp} {s : Shared}
theorem Lam1.has {scope : Scope} {x : Str} (L : Lam1 X.env.scope scope x) (ok : X.Ok) : ∀ y ∈ scope.names, y.2 = .free → ∃ c, X.env.cells.lookup y.1 = some c :=
  fun y hy e => (L.free y hy e).elim (fun k => ok.has _ (.inl k)) fun k => ok.has _ (.inr k)
theorem lam_mk {c P : Addr} {params : Arguments} {body : Expr} {scope : Scope} {pos : Pos} {E : Value → Shared → Prop} {Q : Value → Shared → Prop} (I : Inv X pins σ H s) (TB : TabB X.base X.mg c P) (hcode : X.env.code = .ref c)
    (hm : (P, X.env.qual ++ "<lambda>") ∈ T) (hu : ∀ p ∈ T, p.1 = P → p.2 = X.env.qual ++ "<lambda>") (hT : Tabs T H) (hdef : defaultsOf params X.env = ([], [])) (hfree : ∀ y ∈ scope.names, y.2 = .free → ∃ c, X.env.cells.lookup y.1 = some c)
    (h : ∀ (f c' : Addr) (pm ctv : Value) (H1 : Hp) (s' : Shared), Inv X pins σ H1 s' → (∀ b o, H b = some o → b ≠ P → H1 b = some o) → Tabs T H1 →
      s'.heap.get? f = some (PySem.W.kla_obj "<lambda>" (X.env.qual ++ "<lambda>") params body scope (cloFrom X.env.cells scope.names []) pm c' ctv) → s'.heap.CodeRec (.ref c') (X.env.qual ++ "<lambda>") → (∀ b o, b ≠ P → s.heap.get? b = some o → s'.heap.get? b = some o) → Q (.ref f) s') :
    wpAny (model X.prog X.w) X.A (eval (.Lambda params body scope pos) X.env) Q E s := by
  obtain ⟨tb, tP, tOk, tAll⟩ := hT _ hm
  have gP : s.heap.get? P = some { cls := .none, data := .fields tb } := I.hok P _ tP
  have bP : s.heap.BuiltinsAt X.mg P := TB.bm.keeps I.bk
  refine PySem.W.kla_eval hdef ?_
  cases found : codeAmong pos tb.toList with
  | some cv =>
    obtain ⟨cc, rfl, told⟩ := tAll pos cv found
    refine PySem.W.kla_makeFunctionHit (mg := X.mg) (c := c) (P := P) (ps := tb) (closure_ok hfree) I.ok.glob (I.mod.glob.keeps I.bk) hcode (TB.code.keeps I.bk) gP tOk found bP fun ctv g tk up big => ?_
    obtain ⟨⟨oc, vs, t, w1, w2, w3⟩, _, _⟩ := I.hok cc _ told
    refine h _ cc _ ctv H _ (I.kept fun b o e => Heap.get?_push_of_some _ (up b o e)) (fun _ _ e _ => e) hT (Heap.get?_push_size _ rfl) ⟨cc, oc, vs, t, rfl, Heap.get?_push_of_some _ (up _ _ w1), w2, w3⟩ fun b o _ e => Heap.get?_push_of_some _ (up b o e)
  | none =>
    refine PySem.W.kla_makeFunction (mg := X.mg) (c := c) (P := P) (ps := tb) (closure_ok hfree) I.ok.glob (I.mod.glob.keeps I.bk) hcode (TB.code.keeps I.bk) gP tOk found TB.gP bP fun cc ctv g tk up lo hi rec' grown => ?_
    obtain ⟨c2, oc, vs, t, ec, w1, w2, w3⟩ := rec'
    cases ec
    have fresh : H cc = none := I.hok.fresh lo
    have nPc : P ≠ cc := ne_of_none tP fresh
    have J := LamX.inv_table (t' := tk) (more := #[rawInt pos.line, rawInt pos.col, .ref cc]) (h' := g.push (PySem.W.kla_obj "<lambda>" (X.env.qual ++ "<lambda>") params body scope (cloFrom X.env.cells scope.names []) ((X.mg "__name__").getD .none) cc ctv)) I tP
      (fun b o hb e => Heap.get?_push_of_some _ (up b o hb e)) (Heap.get?_push_of_some _ grown) lo ⟨oc, vs, t, Heap.get?_push_of_some _ w1, w2, w3⟩
    have keep : ∀ b o, H b = some o → b ≠ P → upd (upd H P (.tbl (tb ++ #[rawInt pos.line, rawInt pos.col, .ref cc]))) cc (CodeO cc (X.env.qual ++ "<lambda>")) b = some o := fun b o e hb => by
      rw [upd_ne (ne_of_none e fresh), upd_ne hb]; exact e
    have keepC : ∀ b q, H b = some (CodeO b q) → upd (upd H P (.tbl (tb ++ #[rawInt pos.line, rawInt pos.col, .ref cc]))) cc (CodeO cc (X.env.qual ++ "<lambda>")) b = some (CodeO b q) := fun b q e =>
      keep b _ e fun z => by rw [z, tP] at e; exact LamX.codeO_ne tb (Option.some.inj e).symm
    refine h _ cc _ ctv _ _ J keep (fun p hp => ?_) (Heap.get?_push_size _ rfl) ⟨cc, oc, vs, t, rfl, Heap.get?_push_of_some _ w1, w2, w3⟩ fun b o hb e => Heap.get?_push_of_some _ (up b o hb e)
    by_cases hb : p.1 = P
    · rw [hu p hp hb, hb]
      have eL : (tb ++ #[rawInt pos.line, rawInt pos.col, .ref cc]).toList = tb.toList ++ [rawInt pos.line, rawInt pos.col, .ref cc] := by simp
      refine ⟨_, by rw [upd_ne nPc, upd_same], by rw [eL]; exact PySem.TriplesOk_snoc _ _ _ _ tOk, fun p2 cv hcv => ?_⟩
      rw [eL] at hcv
      rcases LamX.among_app _ tOk hcv with z | z
      · obtain ⟨c0, e1, e2⟩ := tAll p2 cv z
        exact ⟨c0, e1, keepC _ _ e2⟩
      · exact ⟨cc, z, upd_same⟩
    · obtain ⟨tb2, a1, a2, a3⟩ := hT p hp
      exact ⟨tb2, keep _ _ a1 hb, a2, fun p2 cv hcv => let ⟨c0, e1, e2⟩ := a3 p2 cv hcv; ⟨c0, e1, keepC _ _ e2⟩⟩
end

/-! ### it is called -/
/-- a reading without lists names no list -/
theorem flat_reads {h : Heap} : (∀ (d : PyData) (v : Value) (as : List Addr), flatD d = true → Reads h v d as → as = []) ∧ (∀ (ds : List PyData) (vs : List Value) (as : List Addr), flatDs ds = true → ReadsAll h vs ds as → as = []) := by
  have key : ∀ n : Nat, (∀ (d : PyData), sizeOf d ≤ n → ∀ (v : Value) (as : List Addr), flatD d = true → Reads h v d as → as = []) ∧ (∀ (ds : List PyData), sizeOf ds ≤ n → ∀ (vs : List Value) (as : List Addr), flatDs ds = true → ReadsAll h vs ds as → as = []) := by
    intro n
    induction n with
    | zero =>
      refine ⟨fun d hd => ?_, fun ds hd => ?_⟩
      · cases d <;> simp at hd
      · cases ds <;> simp at hd
    | succ n ih =>
      refine ⟨fun d hd v as f r => ?_, fun ds hd vs as f r => ?_⟩
      · cases r with
        | none => rfl
        | bool => rfl
        | int => rfl
        | str => rfl
        | list => cases f
        | dict => cases f
        | tuple g1 g2 g3 g4 => exact ih.2 _ (by simp at hd; omega) _ _ f g4
      · cases r with
        | nil => rfl
        | cons r1 r2 =>
          rename_i d ds _ _
          have f' : (flatD d && flatDs ds) = true := f
          rw [Bool.and_eq_true] at f'
          have h1 := ih.1 d (by simp at hd; omega) _ _ f'.1 r1
          have h2 := ih.2 ds (by simp at hd; omega) _ _ f'.2 r2
          rw [h1, h2]; rfl
  exact ⟨fun d v as => (key (sizeOf d)).1 d (Nat.le_refl _) v as, fun ds vs as => (key (sizeOf ds)).2 ds (Nat.le_refl _) vs as⟩
section
variable {X : Cx} {pins : List (Addr × Obj)} {σ : L2.St} {H : Hp} {s : Shared}
theorem clo_get {X : Cx} {scope : Scope} {y : Str} (has : ∀ y ∈ scope.names, y.2 = .free → ∃ c, X.env.cells.lookup y.1 = some c) (hy : scope.names.lookup y = some .free) :
    ∃ c, (cloFrom X.env.cells scope.names []).lookup y = some c ∧ X.env.cells.lookup y = some c := by
  have hm : (y, NameKind.free) ∈ scope.names := PySem.mem_of_lookup hy
  obtain ⟨c, e⟩ := mem_lookup (cloFrom_has (cells := X.env.cells) (acc := []) hm)
  obtain ⟨c0, e0⟩ := has _ hm rfl
  have e0' : X.env.cells.lookup y = some c0 := e0
  rcases cloFrom_mem (PySem.mem_of_lookup e) with z | ⟨_, z⟩
  · cases z
  · rw [e0'] at z
    refine ⟨c, e, ?_⟩
    rw [e0', z]; rfl
/-- f(v) where f is the lambda, at any later heap -/
theorem lam_key {scope : Scope} {x : Str} {params : Arguments} {body : Expr} {f c' : Addr} {pm ctv : Value} {fb : FE} {i : Nat} {A2 : Around} {σ : L2.St} {ρ : Fr} {st : Sto} {os : Os} {as ase : List Addr} {A : Addr → Prop} {He : Hp} {d k : PyData} {v : Value} {wk : SV} {st2 : Sto}
    (I : Inv X pins σ H s) (L : Lam1 X.env.scope scope x) (hf : s.heap.get? f = some (PySem.W.kla_obj "<lambda>" (X.env.qual ++ "<lambda>") params body scope (cloFrom X.env.cells scope.names []) pm c' ctv)) (hc : s.heap.CodeRec (.ref c') (X.env.qual ++ "<lambda>"))
    (hbind : bindArgs (PySem.W.kla_fn "<lambda>" (X.env.qual ++ "<lambda>") params body scope (cloFrom X.env.cells scope.names []) pm (.ref c') ctv) ⟨[v], []⟩ = pure [(x, v)])
    (hroom : A2.depth < recursionLimit) (hN : X.N.Nodup) (hi : X.N[i]? = some x) (hb : DL scope X.N X.mg body fb) (ok : StOk ⟨X.K, A, He, ase, T⟩ σ H ρ st os as)
    (hcap : ∀ j y dd w, X.N[j]? = some y → scope.names.lookup y = some .free → fVar j ρ st = some (w, st) → asD st w = some dd → dd.canLay0 = true)
    (ev : fb (ρ.set i (.dat d)) st = some (wk, st2)) (ek : asD st wk = some k) (fk : flatD k = true) (rv : ∃ bs, Reads s.heap v d bs) (h : Heap) (tk : Nat) (kp : Kall s.heap h) :
    wpAny (model X.prog X.w) A2 (call (.ref f) [v]) (PySem.W.KeyPure k { s with heap := h, toks := tk }) (fun _ _ => False) { s with heap := h, toks := tk } := by
  refine wpAny_call (PySem.W.kla_callFunE hroom (kp _ _ hf) rfl L.co L.gen rfl (hc.keeps kp) ?_)
  rw [hbind]
  refine wpAny_pure (wpAny_newFunctionEnv L.nocell (fun y hy => ?_) (fun h1 hns hsb => ⟨(I.nolimit.keeps kp).fresh _ hsb, ?_⟩) L.kind)
  · rw [List.mem_singleton] at hy; rw [hy]; exact L.par
  have kp1 : Kall h h1 := fun b o e => hsb.extBut b o (Nat.ne_of_lt (Heap.lt_size e)) (Heap.get?_push_of_some _ e)
  refine PySem.W.kla_codeExpr ?_
  have has := L.has I.ok
  have kp2 : Kall s.heap h1 := kp.trans kp1
  let LL : LX := ⟨X.prog, X.w, A2.deeper (PySem.W.envX (X.env.qual ++ "<lambda>") scope h.objs.size f (.ref c') (cloFrom X.env.cells scope.names [])), PySem.W.envX (X.env.qual ++ "<lambda>") scope h.objs.size f (.ref c') (cloFrom X.env.cells scope.names []), { s with heap := h1, toks := tk + 1 }, X.mg, X.N⟩
  have okL : LL.Ok := ⟨L.kind, (I.mod.glob.keeps I.bk).keeps kp2⟩
  have nm : LL.Nm (ρ.set i (.dat d)) st := by
    intro j y dd w pos hj hv hw hd hdb hcd
    have hj : X.N[j]? = some y := hj
    intro g tg Q E kg q
    have kg : Kall h1 g := kg
    by_cases e : j = i
    · subst e
      have ey : y = x := by rw [hj] at hi; exact Option.some.inj hi
      subst ey
      have hlen : j < (ρ.set j (.dat d)).length := by
        by_cases hl : j < ρ.length
        · simpa using hl
        · exfalso
          unfold fVar at hw
          have : gs (ρ.set j (SV.dat d)) j = .non := by unfold gs; rw [List.getElem?_eq_none (by simpa using hl)]; rfl
          rw [this] at hw; cases hw
      have hw' : w = .dat d := by
        unfold fVar at hw
        rw [gs_set_same (by simpa using hlen)] at hw
        cases hw; rfl
      subst hw'
      cases hd
      obtain ⟨bs, rb⟩ := rv
      refine wpAny_Name (wpAny_loadName_local (env := LL.env) L.kind (show LL.env.kindOf y = some .local from L.par) ((show (LL.at g tg).heap.Ns LL.env.locals _ from hns.keeps kg)) (v := v) ?_ ?_) hdb
      · show ([(y, v)].reverse).lookup y = some v
        simp [List.lookup]
      · exact q v g tg .refl ⟨bs, rd_up rb (kp2.trans kg)⟩
    · have hyx : y ≠ x := fun z => e (by
        have h1 : X.N[i]? = X.N[j]? := by rw [hi, hj, z]
        have hil := (List.getElem?_eq_some_iff.mp hi).1
        exact ((List.getElem?_inj hil hN).mp h1).symm)
      have hfree : scope.names.lookup y = some .free := by
        rcases hv with z | z
        · exact absurd (L.own _ (PySem.mem_of_lookup z) rfl) hyx
        · exact z
      have hw2 : fVar j ρ st = some (w, st) := by
        unfold fVar at hw ⊢
        rw [gs_set_ne e] at hw
        exact hw
      obtain ⟨c, c1, c2⟩ := clo_get has hfree
      -- the slot's value
      obtain ⟨x0, hx0, rt⟩ : ∃ x0, gt σ j = some x0 ∧ RT X.K H (Nn A os as) dd x0 := by
        have sl := ok.slot j
        unfold fVar at hw2
        cases gg : gs ρ j with
        | non => rw [gg] at hw2; cases hw2
        | pk ds => rw [gg] at hw2; cases hw2
        | dat d2 => rw [gg] at hw2 sl; cases hw2; cases hd; obtain ⟨_, v0, e2, r⟩ := sl; exact ⟨v0, e2, RD.top r⟩
        | own ds => rw [gg] at hw2 sl; cases hw2; cases hd; obtain ⟨a0, xs, _, e2, e3, r⟩ := sl; exact ⟨_, e2, a0, xs, rfl, e3, r⟩
        | ref n =>
          rw [gg] at hw2 sl; cases hw2
          obtain ⟨_, a0, e2, e3⟩ := sl
          exact ⟨.ref a0, e3, RV.asD (H0 := H) (w := .ref n) ok ⟨a0, e2, rfl⟩ hd⟩
        | fz ds => rw [gg] at hw2; cases hw2; cases hd
      have cl := hcap j y dd w hj hfree hw2 hd
      have hdp : Dp X.K H x0 dd := by
        cases dd with
        | list ds => obtain ⟨a0, xs, e1, e2, r⟩ := rt; subst e1; exact .lst (.inl (.inl e2)) (RDs.dp r cl)
        | _ => exact RD.dp (N := Nn A os as) rt cl
      obtain ⟨m, hn, hl⟩ := I.loc
      have vis : Vis X.env.scope y := (L.free _ (PySem.mem_of_lookup hfree) rfl).elim (fun k => .inr (.inl k)) fun k => .inr (.inr k)
      obtain ⟨u, ru, lk⟩ := hl j y x0 hj (gt_some hx0) vis
      obtain ⟨bs, rb⟩ := Dp.reads I _ _ _ hdp ru
      rcases lk with ⟨z, _⟩ | ⟨_, c3, z1, z2⟩
      · have z : X.env.scope.names.lookup y = some .local := z
        rcases L.free _ (PySem.mem_of_lookup hfree) rfl with k2 | k2 <;> (have k2 : X.env.scope.names.lookup y = _ := k2; rw [k2] at z; cases z)
      · rw [c2] at z1; cases z1
        refine wpAny_Name (wpAny_loadName_free (env := LL.env) L.kind (show LL.env.kindOf y = some .free from hfree) (c := c) c1 (show (LL.at g tg).heap.IsCell c (some u) from ?_) (q u g tg .refl ⟨bs, rd_up rb (kp2.trans kg)⟩) hcd) hdb
        exact z2.keeps (kp2.trans kg)
  obtain ⟨_, pu⟩ := hb LL rfl rfl rfl okL (ρ.set i (.dat d)) st wk st2 nm ev
  refine pu k ek h1 (tk + 1) _ _ .refl fun v' h' tk' k' r' => ?_
  obtain ⟨bs, r'⟩ := r'
  have eb := flat_reads.1 k v' bs fk r'
  subst eb
  exact ⟨h', tk', rfl, kp1.trans k', r'⟩
end
end EV
end

section
set_option maxRecDepth 100000
set_option maxHeartbeats 4000000
namespace EV
open PySem PySem.Spec L2
open LamX (TabS Tabs ExtN CodeO TabB)
open PySem.W (EachIs dataLe AllAlike Sortable alike)

/-! ### sorted(xs, key=lambda x: ..) -/
def keysL (i : Nat) (fb : FE) (ρ : Fr) (st : Sto) : List PyData → Option (List PyData)
  | [] => some []
  | d :: ds => match fb (ρ.set i (.dat d)) st, keysL i fb ρ st ds with
    | some (.dat k, _), some ks => some (k :: ks)
    | _, _ => none
def isTupNE : PyData → Bool
  | .tuple (_ :: _) => true
  | _ => false
def isOther : PyData → Bool
  | .none => false
  | .tuple _ => false
  | _ => true
def keysOk (ks : List PyData) : Bool := (ks.all fun k => flatD k && decide (k.depth ≤ 60)) && ((ks.all fun a => ks.all fun b => alike a b) && (ks.all isTupNE || ks.all isOther))
def sortK (ds ks : List PyData) : List PyData := ((ds.zip ks).mergeSort (dataLe false Prod.snd)).map Prod.fst
def capOk (ρ : Fr) (st : Sto) (j : Nat) : Bool := match fVar j ρ st with
  | some (w, _) => match asD st w with
    | some d => d.canLay0
    | none => true
  | none => true
def fSortK (i : Nat) (caps : List Nat) (fx fb : FE) : FE := fun ρ st => match fx ρ st with
  | some (w, st1) => match asD st1 w with
    | some (.list ds) => match keysL i fb ρ st1 ds with
      | some ks => if (ds.all (·.canLay0) = true ∧ keysOk ks = true) ∧ caps.all (capOk ρ st1) = true then some (.own (sortK ds ks), st1) else none
      | none => none
    | _ => none
  | none => none
theorem keysOk_alike {ks : List PyData} (h : keysOk ks = true) : AllAlike ks := by
  unfold keysOk at h
  rw [Bool.and_eq_true, Bool.and_eq_true] at h
  exact fun d hd d' hd' => List.all_eq_true.mp (List.all_eq_true.mp h.2.1 d hd) d' hd'
theorem keysOk_sortable {ks : List PyData} (h : keysOk ks = true) : Sortable ks := by
  unfold keysOk at h
  rw [Bool.and_eq_true, Bool.and_eq_true, Bool.or_eq_true] at h
  rcases h.2.2 with h | h
  · refine .inl fun d hd => ?_
    have := List.all_eq_true.mp h d hd
    cases d with
    | tuple xs => cases xs with
      | nil => cases this
      | cons x r => exact ⟨x, r, rfl⟩
    | _ => cases this
  · refine .inr fun d hd => ?_
    have := List.all_eq_true.mp h d hd
    cases d <;> first | (cases this; done) | exact ⟨(fun e => by cases e), (fun xs e => by cases e)⟩
theorem keysOk_flat {ks : List PyData} (h : keysOk ks = true) {k : PyData} (m : k ∈ ks) : flatD k = true ∧ k.depth ≤ 60 := by
  unfold keysOk at h
  rw [Bool.and_eq_true] at h
  have := List.all_eq_true.mp h.1 k m
  rw [Bool.and_eq_true, decide_eq_true_eq] at this
  exact this
/-- the items with their keys -/
theorem sort_rows {K : PySem.W.Frag} {H : Hp} {N : Addr → Prop} {R : Value → V → PyData → Prop} {i : Nat} {fb : FE} {ρ : Fr} {st : Sto} : ∀ {ds ks : List PyData} {xs : List V} {its : List Value}, RDs K H N ds xs → Vals xs its → keysL i fb ρ st ds = some ks →
    (∀ d ∈ ds, ∀ x v, RelV x v → RD K H N d x → R v x d) → ∃ bs : List (V × PyData × PyData), EachIs (fun v b => R v b.1 b.2.1) its bs ∧ bs.map (·.1) = xs ∧ bs.map (·.2) = ds.zip ks ∧ bs.length = ds.length ∧ bs.map (·.2.2) = ks ∧
      ∀ b ∈ bs, RD K H N b.2.1 b.1 ∧ ∃ st', fb (ρ.set i (.dat b.2.1)) st = some (.dat b.2.2, st')
  | [], ks, xs, its, r, v, e, hR => by
    cases e; cases r; cases v
    exact ⟨[], .nil, rfl, rfl, rfl, rfl, fun b hb => by cases hb⟩
  | d :: ds, ks, xs, its, ⟨x, t, ex, r1, r2⟩, v, e, hR => by
    subst ex
    cases v with
    | cons v1 v2 =>
      unfold keysL at e
      split at e
      · rename_i k st' ks' e1 e2
        cases e
        obtain ⟨bs, b1, b2, b3, b4, b5, b6⟩ := sort_rows r2 v2 e2 fun d hd => hR d (List.mem_cons_of_mem _ hd)
        refine ⟨(x, d, k) :: bs, .cons (hR d List.mem_cons_self _ _ v1 r1) b1, by simp [b2], by simp [b3], by simp [b4], by simp [b5], fun b hb => ?_⟩
        rcases List.mem_cons.mp hb with z | z
        · subst z; exact ⟨r1, st', e1⟩
        · exact b6 b z
      · cases e
theorem each_vals {h : Heap} {R : Value → V → PyData → Prop} (hR : ∀ v x d, R v x d → RelV x v) : ∀ {vs : List Value} {bs : List (V × PyData × PyData)}, EachIs (fun v b => R v b.1 b.2.1) vs bs → Vals (bs.map (·.1)) vs
  | _, _, .nil => .nil
  | _, _, .cons h1 t => .cons (hR _ _ _ h1) (each_vals (h := h) hR t)
theorem rds_rows {K : PySem.W.Frag} {H : Hp} {N : Addr → Prop} : ∀ {bs : List (V × PyData × PyData)}, (∀ b ∈ bs, RD K H N b.2.1 b.1) → RDs K H N (bs.map (·.2.1)) (bs.map (·.1))
  | [], _ => rfl
  | b :: bs, h => ⟨b.1, bs.map (·.1), rfl, h b List.mem_cons_self, rds_rows fun c hc => h c (List.mem_cons_of_mem _ hc)⟩
theorem sortK_rows {bs : List (V × PyData × PyData)} {ds ks : List PyData} (h : bs.map (·.2) = ds.zip ks) : (bs.mergeSort (dataLe false (·.2.2))).map (·.2.1) = sortK ds ks := by
  unfold sortK
  rw [← h]
  have e := List.map_mergeSort (r := dataLe false fun b : V × PyData × PyData => b.2.2) (s := dataLe false (Prod.snd : PyData × PyData → PyData)) (f := fun b : V × PyData × PyData => b.2) (l := bs) (fun _ _ _ _ => rfl)
  rw [← e, List.map_map]
  rfl
section
variable {c : Cf} {σ : L2.St} {H H' : Hp} {ρ : Fr} {st : Sto} {os : Os} {as : List Addr}
/-- a table alone is written -/
theorem StOk.tabs (ok : StOk c σ H ρ st os as) {P : Addr} {q : Str} (hP : (P, q) ∈ c.tb) (k : ∀ b o, H b = some o → b ≠ P → H' b = some o) (t : Tabs c.tb H') : StOk c σ H' ρ st os as ∧ Kp as H H' := by
  have hPa : P ∈ as := by
    obtain ⟨more, e, _⟩ := ok.pre
    rw [e]
    exact List.mem_append_right _ (List.mem_append_right _ (List.mem_map.mpr ⟨_, hP, rfl⟩))
  have kp : Kp as H H' := fun b o e n => k b o e fun z => n (by rw [z]; exact hPa)
  obtain ⟨tb0, hT, _⟩ := ok.tab _ hP
  have hT : H P = some (.tbl tb0) := hT
  have kl : ∀ b xs, H b = some (.lst xs) → H' b = some (.lst xs) := fun b xs e => k b _ e fun z => by rw [z, hT] at e; cases e
  have kq : ∀ b o, H b = some o → ¬ Nn c.A os as b → H' b = some o := fun b o e n => kp b o e fun z => n (nn_as _ z)
  refine ⟨⟨ok.lr, fun i => (ok.slot i).mv kq (fun _ z => .inl z) fun a xs _ e => kl a xs e, ok.sto.mv kq (fun _ z => .inl z) fun a xs _ e => kl a xs e, ok.pre, t, ok.osf, ok.odup, ok.adup, fun b o e n1 n2 => k b o (ok.keep b o e n1 n2) fun z => n2 (by rw [z]; exact List.mem_map.mpr ⟨_, hP, rfl⟩), fun b hb => ?_⟩, kp⟩
  obtain ⟨⟨o, e⟩, n, n2⟩ := ok.aal b hb
  exact ⟨⟨o, kp b o e n⟩, n, n2⟩
end
def capsOk (N : List Str) (scope : Scope) (caps : List Nat) : Bool := (List.range N.length).all fun j => match N[j]? with
  | some y => !decide (scope.names.lookup y = some .free) || caps.contains j
  | none => true
theorem capsOk_at {N : List Str} {scope : Scope} {caps : List Nat} (h : capsOk N scope caps = true) {j : Nat} {y : Str} (hj : N[j]? = some y) (hy : scope.names.lookup y = some .free) : j ∈ caps := by
  have := List.all_eq_true.mp h j (List.mem_range.mpr (List.getElem?_eq_some_iff.mp hj).1)
  rw [hj] at this
  simpa [hy] using this
section
variable {X : Cx} {pos p lpos kpos : Pos} {e : Expr} {x : Str}
theorem de_sortK {c P : Addr} {i : Nat} {caps : List Nat} {fx fb : FE} {params : Arguments} {body : Expr} {scope : Scope} (hm : X.mg "sorted" = none) (ha : DE T X e fx) (hl : DL scope X.N X.mg body fb) (hL : lam1B X.env.scope scope x = true) (TB : TabB X.base X.mg c P) (hcode : X.env.code = .ref c)
    (hmT : (P, X.env.qual ++ "<lambda>") ∈ T) (hu : ∀ p ∈ T, p.1 = P → p.2 = X.env.qual ++ "<lambda>") (hN : X.N.Nodup) (hcaps : capsOk X.N scope caps = true) (hr : Room 1 X.A) (hi : X.N[i]? = some x := by rfl) (hdef : defaultsOf params X.env = ([], []) := by rfl)
    (hbind : ∀ (q : Str) (cl : List (Str × Addr)) (pm cv ctv v : Value), bindArgs (PySem.W.kla_fn "<lambda>" q params body scope cl pm cv ctv) ⟨[v], []⟩ = pure [(x, v)] := by intros; rfl) (hg : Gl X "sorted" := by rfl)
    (he : backTo pos (starEach [e] X.env) = (false, eval e X.env) :: backTo pos (starEach [] X.env) := by rfl) (hpl : (backTo pos (starEach [e] X.env)).any (·.1) = false := by rfl) :
    DE T X (.Call (.Name "sorted" p) [e] [⟨some (Str.ofString "key"), .Lambda params body scope lpos, kpos⟩] pos) (fSortK i caps fx fb) := by
  refine ⟨fun pins s σ H Q I h => ?_⟩
  obtain ⟨A, He, ase, ρ, st, os, as, w, st', ok, ev, q⟩ := h
  unfold fSortK at ev
  cases ea : fx ρ st with
  | none => rw [ea] at ev; cases ev
  | some r =>
    obtain ⟨w1, st1⟩ := r
    rw [ea] at ev
    dsimp only at ev
    split at ev
    · rename_i ds ed
      cases ek : keysL i fb ρ st1 ds with
      | none => rw [ek] at ev; cases ev
      | some ks =>
        rw [ek] at ev
        dsimp only at ev
        split at ev
        · rename_i hz
          cases ev
          have L := lam1_by hL
          refine wpAny_Call_Name_kw (ld_blt I hg hm (PyProof.Rows.boot_sorted) ?_ (by decide) (by decide))
          refine PyProof.Rows.callWith_kw ?_ he hpl (by rfl) (by rfl)
          rw [he]
          refine Calls.spliced_cons (thn (ha.run pins s σ H (fun x1 H1 => Kp as H H1 ∧ StOk ⟨X.K, A, He, ase, T⟩ σ H1 ρ st' os as ∧ RV X.K H H1 (Nn A os as) as x1 w1) I ⟨A, He, ase, ρ, st, os, as, w1, _, ok, ea, fun x1 H1 k1 ok1 r1 => ⟨k1, ok1, r1⟩⟩) fun u s1 ⟨x1, H1, I1, ru, k1, ok1, r1⟩ => ?_)
          refine Calls.spliced_nil ?_
          obtain ⟨a, xs, rfl, hxs, rds⟩ := (RV.asD ok1 r1 ed).lst
          cases ru
          refine wpAny_evalAll_cons (wpAny_bind (lam_mk I1 TB hcode hmT hu ok1.tab hdef (L.has I1.ok) fun f c' pm ctv H2 s2 I2 k2 t2 hf hc _ => wpAny_bind (wpAny_standAt (wpAny_pure (wpAny_evalAll_nil ?_)))))
          obtain ⟨ok2, kp2⟩ := ok1.tabs hmT k2 t2
          have hPH : ∃ tb0, H1 P = some (.tbl tb0) := let ⟨tb0, e0, _⟩ := ok1.tab _ hmT; ⟨tb0, e0⟩
          have hxs2 : H2 a = some (.lst xs) := k2 a _ hxs fun z => by obtain ⟨tb0, e0⟩ := hPH; rw [z, e0] at hxs; cases hxs
          have rds2 : RDs X.K H2 (Nn A os as) ds xs := RDs.mv (fun b o e n => kp2 b o e fun z => n (nn_as _ z)) (fun _ z => .inl z) _ _ rds
          obtain ⟨its, rv, pl, hz2⟩ := I2.list (.inl (.inl hxs2))
          obtain ⟨bs, b1, b2, b3, b4, b5, b6⟩ := sort_rows (R := fun v x d => RelV x v ∧ ∃ as, Reads s2.heap v d as) rds2 rv ek fun d hd x v rxv rd => ⟨rxv, Dp.reads I2 _ _ _ (rd.dp (List.all_eq_true.mp hz.1.1 d hd)) rxv⟩
          have hlen : bs.length ≤ sizeLine := by rw [b4, ← rds2.len]; exact hz2
          show wpAny _ _ (call (.builtin "sorted") [.ref a] [(Str.ofString "key", .ref f)]) _ _ s2
          refine PySem.W.sorted_key_data (b := false) (fun b : V × PyData × PyData => b.2.2) pl.isList b1 (by rw [b5]; exact keysOk_alike hz.1.2) (by rw [b5]; exact keysOk_sortable hz.1.2) hlen (fun b hb => ?_) (PyProof.Rows.ksk_s1 _ _) (fun _ => PyProof.Rows.ksk_l1 _ _) (fun _ => PyProof.Rows.ksk_t1 _ _) (fun v b hR hb h tk kp => ?_) (fun out cc h' tk kp fr hD hol eo => ?_)
          · have hk := keysOk_flat hz.1.2 (show b.2.2 ∈ ks by rw [← b5]; exact List.mem_map.mpr ⟨b, hb, rfl⟩)
            have := hr.un
            omega
          · obtain ⟨rdb, stb, evb⟩ := b6 b hb
            have hk := keysOk_flat hz.1.2 (show b.2.2 ∈ ks by rw [← b5]; exact List.mem_map.mpr ⟨b, hb, rfl⟩)
            refine lam_key I2 L hf hc (hbind _ _ _ _ _ _) (by have := hr.dp; show X.A.depth < recursionLimit; omega) hN hi hl ok2 (fun j y dd w hj hy hw hd => ?_) evb rfl hk.1 hR.2 h tk kp
            have hcp := List.all_eq_true.mp hz.2 j (List.contains_iff_mem.mp (by
              have := capsOk_at hcaps hj hy
              simpa using this))
            unfold capOk at hcp
            rw [hw] at hcp
            dsimp only at hcp
            rw [hd] at hcp
            exact hcp
          · have ev := each_vals (h := s2.heap) (R := fun v x d => RelV x v ∧ ∃ as, Reads s2.heap v d as) (fun _ _ _ h => h.1) eo
            have nH : H2 (s2.heap.objs.size + 1) = none := I2.hok.fresh (Nat.le_succ _)
            have hperm := List.mergeSort_perm bs (dataLe false fun b : V × PyData × PyData => b.2.2)
            refine ⟨.ref _, upd H2 (s2.heap.objs.size + 1) (.lst ((bs.mergeSort (dataLe false fun b : V × PyData × PyData => b.2.2)).map (·.1))), I2.laid (t' := tk) kp (Nat.le_succ _) ⟨?_, out, cc, ev, hD⟩, rfl, q _ _ ((k1.trans kp2).trans (.upd nH)) (ok2.upd nH) ?_⟩
            · rw [List.length_map, hperm.length_eq]; exact hlen
            · rw [← sortK_rows b3]
              refine ⟨_, _, rfl, upd_same, ?_, k1.free (kp2.free nH (ok2.nas nH)) (ok2.nas nH), ok2.nn nH⟩
              refine RDs.mv (fun b o e _ => by rw [upd_ne (ne_of_none e nH)]; exact e) (fun _ z => .inl z) _ _ (rds_rows fun b hb => (b6 b (hperm.mem_iff.mp hb)).1)
        · cases ev
    · cases ev
end
end EV
end

section
set_option maxRecDepth 100000
set_option maxHeartbeats 4000000
namespace EV
open PySem PySem.Spec L2
open LamX (TabS Tabs ExtN CodeO TabB)
open PySem.W (EachIs dataLe AllAlike Sortable alike)

/-! ### sorted(xs), sorted(xs, reverse=b) -/
def sortOk (ks : List PyData) : Bool := (ks.all fun k => k.canLay0 && decide (k.depth ≤ 60)) && ((ks.all fun a => ks.all fun b => alike a b) && (ks.all isTupNE || ks.all isOther))
theorem sortOk_alike {ks : List PyData} (h : sortOk ks = true) : AllAlike ks := by
  unfold sortOk at h
  rw [Bool.and_eq_true, Bool.and_eq_true] at h
  exact fun d hd d' hd' => List.all_eq_true.mp (List.all_eq_true.mp h.2.1 d hd) d' hd'
theorem sortOk_sortable {ks : List PyData} (h : sortOk ks = true) : Sortable ks := by
  unfold sortOk at h
  rw [Bool.and_eq_true, Bool.and_eq_true, Bool.or_eq_true] at h
  rcases h.2.2 with h | h
  · refine .inl fun d hd => ?_
    have := List.all_eq_true.mp h d hd
    cases d with
    | tuple xs => cases xs with
      | nil => cases this
      | cons x r => exact ⟨x, r, rfl⟩
    | _ => cases this
  · refine .inr fun d hd => ?_
    have := List.all_eq_true.mp h d hd
    cases d <;> first | (cases this; done) | exact ⟨(fun e => by cases e), (fun xs e => by cases e)⟩
theorem sortOk_lay {ks : List PyData} (h : sortOk ks = true) {k : PyData} (m : k ∈ ks) : k.canLay0 = true ∧ k.depth ≤ 60 := by
  unfold sortOk at h
  rw [Bool.and_eq_true] at h
  have := List.all_eq_true.mp h.1 k m
  rw [Bool.and_eq_true, decide_eq_true_eq] at this
  exact this
def gSorted (b : Bool) : List PyData → Option SV
  | [.list ds] => if sortOk ds = true then some (.own (ds.mergeSort (dataLe b id))) else none
  | _ => none
theorem pair_rows {K : PySem.W.Frag} {H : Hp} {N : Addr → Prop} {R : Value → V → PyData → Prop} : ∀ {ds : List PyData} {xs : List V} {its : List Value}, RDs K H N ds xs → Vals xs its →
    (∀ d ∈ ds, ∀ x v, RelV x v → RD K H N d x → R v x d) → ∃ bs : List (V × PyData), EachIs (fun v b => R v b.1 b.2) its bs ∧ bs.map (·.1) = xs ∧ bs.map (·.2) = ds ∧ ∀ b ∈ bs, RD K H N b.2 b.1
  | [], xs, its, r, v, hR => by
    cases r; cases v
    exact ⟨[], .nil, rfl, rfl, fun b hb => by cases hb⟩
  | d :: ds, xs, its, ⟨x, t, ex, r1, r2⟩, v, hR => by
    subst ex
    cases v with
    | cons v1 v2 =>
      obtain ⟨bs, b1, b2, b3, b4⟩ := pair_rows r2 v2 fun d hd => hR d (List.mem_cons_of_mem _ hd)
      refine ⟨(x, d) :: bs, .cons (hR d List.mem_cons_self _ _ v1 r1) b1, by simp [b2], by simp [b3], fun b hb => ?_⟩
      rcases List.mem_cons.mp hb with z | z
      · subst z; exact r1
      · exact b4 b z
theorem pair_vals {R : Value → V → PyData → Prop} (hR : ∀ v x d, R v x d → RelV x v) : ∀ {vs : List Value} {bs : List (V × PyData)}, EachIs (fun v b => R v b.1 b.2) vs bs → Vals (bs.map (·.1)) vs
  | _, _, .nil => .nil
  | _, _, .cons h1 t => .cons (hR _ _ _ h1) (pair_vals hR t)
theorem pair_rds {K : PySem.W.Frag} {H : Hp} {N : Addr → Prop} : ∀ {bs : List (V × PyData)}, (∀ b ∈ bs, RD K H N b.2 b.1) → RDs K H N (bs.map (·.2)) (bs.map (·.1))
  | [], _ => rfl
  | b :: bs, h => ⟨b.1, bs.map (·.1), rfl, h b List.mem_cons_self, pair_rds fun c hc => h c (List.mem_cons_of_mem _ hc)⟩
theorem pair_sort {b : Bool} {bs : List (V × PyData)} : (bs.mergeSort (dataLe b (·.2))).map (·.2) = (bs.map (·.2)).mergeSort (dataLe b id) :=
  List.map_mergeSort (r := dataLe b fun b : V × PyData => b.2) (s := dataLe b (id : PyData → PyData)) (f := fun b : V × PyData => b.2) (l := bs) fun _ _ _ _ => rfl
section
variable {X : Cx} {pos p kpos : Pos} {e : Expr}
/-- the call, however it is written -/
theorem sort_fin {pins : List (Addr × Obj)} {s : Shared} {σ : L2.St} {H : Hp} {Q : VK} {N : Addr → Prop} {a : Addr} {xs : List V} {ds : List PyData} {b : Bool} (hu : X.A.units + 80 < cLine) (I : Inv X pins σ H s) (nf : ∀ p, H p = none → ¬ N p) (hxs : H a = some (.lst xs)) (rds : RDs X.K H N ds xs) (hz : sortOk ds = true)
    (q : ∀ x' H', Ext H H' → RG X.K H H' N x' (.own (ds.mergeSort (dataLe b id))) → Q x' H') (kw : List (Str × Value))
    (hcall : ∀ {vs : List Value} {bs : List (V × PyData)}, s.heap.IsList a vs.toArray → EachIs (fun v b => RelV b.1 v ∧ ∃ as, Reads s.heap v b.2 as) vs bs → EachIs (fun v b => ∃ as, Reads s.heap v b.2 as) vs bs → AllAlike (bs.map (·.2)) → Sortable (bs.map (·.2)) → bs.length ≤ sizeLine →
      (∀ b, b ∈ bs → X.A.units + 2 + b.2.depth < cLine) → (∀ out, out.length = bs.length → EachIs (fun v b => RelV b.1 v ∧ ∃ as, Reads s.heap v b.2 as) out (bs.mergeSort (dataLe b (·.2))) → EP X pins σ Q (.ref (s.heap.objs.size + 1)) { s with heap := PyProof.Rows.sortedAll s.heap vs (List.toArray out) }) →
      wpAny (model X.prog X.w) X.A (call (.builtin "sorted") [.ref a] kw) (EP X pins σ Q) X.xe s) :
    wpAny (model X.prog X.w) X.A (call (.builtin "sorted") [.ref a] kw) (EP X pins σ Q) X.xe s := by
  obtain ⟨its, rv, pl, hz2⟩ := I.list (.inl (.inl hxs))
  obtain ⟨bs, b1, b2, b3, b4⟩ := pair_rows (R := fun v x d => RelV x v ∧ ∃ as, Reads s.heap v d as) rds rv fun d hd x v rxv rd => ⟨rxv, Dp.reads I _ _ _ (rd.dp (sortOk_lay hz hd).1) rxv⟩
  have hlen : bs.length = ds.length := by rw [← b3, List.length_map]
  have hle : bs.length ≤ sizeLine := by rw [hlen, ← rds.len]; exact hz2
  refine hcall pl.isList b1 (b1.mono fun _ _ h => h.2) (by rw [b3]; exact sortOk_alike hz) (by rw [b3]; exact sortOk_sortable hz) hle (fun b hb => ?_) fun out ho eo => ?_
  · have := (sortOk_lay hz (show b.2 ∈ ds by rw [← b3]; exact List.mem_map.mpr ⟨b, hb, rfl⟩)).2
    omega
  · have hperm := List.mergeSort_perm bs (dataLe b fun b : V × PyData => b.2)
    have nH : H (s.heap.objs.size + 1) = none := I.hok.fresh (Nat.le_succ _)
    obtain ⟨ep, he'⟩ := PyProof.Rows.sortedAll_at s.heap its out.toArray
    have ev := pair_vals (R := fun v x d => RelV x v ∧ ∃ as, Reads s.heap v d as) (fun _ _ _ h => h.1) eo
    refine ⟨.ref _, upd H (s.heap.objs.size + 1) (.lst ((bs.mergeSort (dataLe b fun b : V × PyData => b.2)).map (·.1))), I.laid (t' := s.toks) (fun _ _ => PyProof.Rows.sortedAll_old) (Nat.le_succ _) ⟨?_, out, ep, ev, he'⟩, rfl, q _ _ (.one nH) ?_⟩
    · rw [List.length_map, hperm.length_eq]; exact hle
    · rw [← b3, ← pair_sort]
      exact RG.new nH (nf _ nH) (pair_rds fun b hb => b4 b (hperm.mem_iff.mp hb))
theorem b_sorted (hu : X.A.units + 80 < cLine) : CallR X (.builtin "sorted") (RC X.K (gSorted false)) := by
  intro pins s σ H vs us Q I r h
  obtain ⟨N, ds, w, nf, rd, eg, q⟩ := h
  unfold gSorted at eg
  split at eg
  · rename_i ds
    split at eg
    · rename_i hz
      cases eg
      cases rd with
      | cons rd r2 =>
        cases r2
        obtain ⟨u, rfl, ru⟩ := r.one
        obtain ⟨a, xs, rfl, hxs, rds⟩ := rd.lst
        cases ru
        exact sort_fin hu I nf hxs rds hz q [] fun h1 h2 h3 h4 h5 h6 h7 h8 => PySem.W.sorted_data (R := fun v (b : V × PyData) => RelV b.1 v ∧ ∃ as, Reads s.heap v b.2 as) (enc := fun b : V × PyData => b.2) h1 h2 h3 h4 h5 h6 h7 h8
    · cases eg
  · cases eg
/-- sorted(xs, reverse=b) -/
theorem de_sortR {b : Bool} {fx : FE} {jx} {cpos : Pos} (hu : X.A.units + 80 < cLine) (hm : X.mg "sorted" = none) (ha : DE T X e fx) (hg : Gl X "sorted" := by rfl)
    (he : backTo pos (starEach [e] X.env) = (false, eval e X.env) :: backTo pos (starEach [] X.env) := by rfl) (hpl : (backTo pos (starEach [e] X.env)).any (·.1) = false := by rfl)
    (hs : starEach [e] X.env = (false, eval e X.env) :: starEach [] X.env := by rfl) :
    DE T X (.Call (.Name "sorted" p) [e] [⟨some (Str.ofString "reverse"), .Constant (.bool b) jx cpos, kpos⟩] pos) (fCB (gSorted b) (fCons fx fNil)) := by
  refine PE.weak (pe_callBK (ks := [Str.ofString "reverse"]) (r := fun vs zs H Q => zs = [.bl b] ∧ RC X.K (gSorted b) vs H Q) (tk := L2.tCons (tC (.bl b)) L2.tNil) ?_ hg hm PyProof.Rows.boot_sorted (da_cons ha da_nil hs) (pk_cons pe_bl pk_nil) (by decide) (by decide) he hpl) fun σ H Q h => ?_
  · intro pins s σ H vs zs us ws Q I r rz h
    obtain ⟨rfl, N, ds, w, nf, rd, eg, q⟩ := h
    obtain ⟨w1, rfl, e1⟩ := rz.one
    obtain rfl : w1 = Value.bool b := e1
    unfold gSorted at eg
    split at eg
    · rename_i ds
      split at eg
      · rename_i hz
        cases eg
        cases rd with
        | cons rd r2 =>
          cases r2
          obtain ⟨u, rfl, ru⟩ := r.one
          obtain ⟨a, xs, rfl, hxs, rds⟩ := rd.lst
          cases ru
          exact sort_fin hu I nf hxs rds hz q _ fun h1 h2 h3 h4 h5 h6 h7 h8 => PySem.W.sorted_rev_data (R := fun v (b : V × PyData) => RelV b.1 v ∧ ∃ as, Reads s.heap v b.2 as) (enc := fun b : V × PyData => b.2) h1 h2 h3 h4 h5 h6 h7 h8
      · cases eg
    · cases eg
  · have z : simE X.K T (fCB (gSorted b) (fCons fx fNil)) σ H Q := h
    have y := cb_weak z
    obtain ⟨A, He, ase, ρ, st, os, as, ws, st', ok, ev, q⟩ := y
    exact ⟨A, He, ase, ρ, st, os, as, ws, st', ok, ev, fun xs H' k ok' r => ⟨rfl, q xs H' k ok' r⟩⟩
end
end EV
end

section
set_option maxRecDepth 100000
set_option maxHeartbeats 4000000
namespace EV
open PySem PySem.Spec L2
open LamX (TabS Tabs ExtN CodeO TabB)

/-! ### * in displays -/
def asSeq (st : Sto) (w : SV) : Option (List PyData) := match asD st w with
  | some (.list ds) => some ds
  | some (.tuple ds) => some ds
  | _ => none
def fStar (a : FE) (r : FA) : FA := fun ρ st => match a ρ st with
  | some (v, st1) => match asSeq st1 v with
    | some ds => match r ρ st1 with
      | some (vs, st2) => some (ds.map .dat ++ vs, st2)
      | none => none
    | none => none
  | none => none
theorem RVs.app {K : PySem.W.Frag} {H0 H : Hp} {N : Addr → Prop} {as : List Addr} {xs ys : List V} {ws us : List SV} (h : RVs K H0 H N as xs ws) (g : RVs K H0 H N as ys us) : RVs K H0 H N as (xs ++ ys) (ws ++ us) := by
  induction h with
  | nil => exact g
  | cons r _ ih => exact .cons r ih
theorem RDs.rvs {K : PySem.W.Frag} {H0 H : Hp} {N : Addr → Prop} {as : List Addr} : ∀ {ds : List PyData} {xs : List V}, RDs K H N ds xs → RVs K H0 H N as xs (ds.map .dat)
  | [], _, h => by cases h; exact .nil
  | d :: ds, _, ⟨x, r, e, h1, h2⟩ => by subst e; exact .cons h1 (RDs.rvs h2)
section
variable {X : Cx} {pos p p2 : Pos} {e e2 : Expr} {es : List Expr} {x : Str}
theorem da_star {fa : FE} {fr : FA} (ha : DE T X e fa) (hr : DA T X es fr) (hs : starEach (.Starred e p :: es) X.env = (true, eval e X.env) :: starEach es X.env := by rfl) : DA T X (.Starred e p :: es) (fStar fa fr) :=
  PA.weak (StX.pa_star ha hr hs) fun σ H Q h => by
    obtain ⟨A, He, ase, ρ, st, os, as, w, st', ok, ev, q⟩ := h
    unfold fStar at ev
    cases ea : fa ρ st with
    | none => rw [ea] at ev; cases ev
    | some r =>
      obtain ⟨v, st1⟩ := r
      rw [ea] at ev
      dsimp only at ev
      unfold asSeq at ev
      cases ed : asD st1 v with
      | none => rw [ed] at ev; cases ev
      | some d =>
        rw [ed] at ev
        cases d with
        | list ds =>
          dsimp only at ev
          cases er : fr ρ st1 with
          | none => rw [er] at ev; cases ev
          | some r =>
            obtain ⟨vs, st2⟩ := r
            rw [er] at ev; cases ev
            refine ⟨A, He, ase, ρ, st, os, as, v, st1, ok, ea, fun y H1 k1 ok1 r1 => ?_⟩
            obtain ⟨a, xs, rfl, hxs, rds⟩ := (RV.asD ok1 r1 ed).lst
            refine ⟨a, xs, rfl, .inr (.inl (.inl hxs)), A, He, ase, ρ, st1, os, as, vs, _, ok1, er, fun ys H2 k2 ok2 r2 => q _ H2 (k1.trans k2) ok2 (RVs.app (RDs.rvs ?_) (r2.from k1 nn_as))⟩
            exact RDs.mv (fun b o e n => k2 b o e fun z => n (nn_as _ z)) (fun _ z => .inl z) _ _ rds
        | tuple ds =>
          dsimp only at ev
          cases er : fr ρ st1 with
          | none => rw [er] at ev; cases ev
          | some r =>
            obtain ⟨vs, st2⟩ := r
            rw [er] at ev; cases ev
            refine ⟨A, He, ase, ρ, st, os, as, v, st1, ok, ea, fun y H1 k1 ok1 r1 => ?_⟩
            obtain ⟨a, xs, rfl, hxs, rds⟩ := (RV.asD ok1 r1 ed).tup
            refine ⟨a, xs, rfl, .inl hxs.sq, A, He, ase, ρ, st1, os, as, vs, _, ok1, er, fun ys H2 k2 ok2 r2 => q _ H2 (k1.trans k2) ok2 (RVs.app (RDs.rvs ?_) (r2.from k1 nn_as))⟩
            exact RDs.mv (fun b o e n => k2 b o e fun z => n (nn_as _ z)) (fun _ z => .inl z) _ _ rds
        | _ => cases ev

/-! ### str(int), str(text) -/
def gStr : List PyData → Option SV
  | [.int i] => if i.natAbs.log2 < 1920 then some (.dat (.str (toString i))) else none
  | [.str z] => some (.dat (.str z))
  | _ => none
theorem b_str : CallR X (.type "str") (RC X.K gStr) := by
  intro pins s σ H vs us Q I r h
  obtain ⟨N, ds, w, nf, rd, eg, q⟩ := h
  unfold gStr at eg
  split at eg
  · rename_i i
    split at eg
    · rename_i hz
      cases eg
      cases rd with
      | cons rd r2 =>
        cases r2
        cases rd.int
        exact call_str_int pins s σ H _ us Q I r ⟨i, rfl, hz, q _ H .refl .str⟩
    · cases eg
  · rename_i z
    cases eg
    cases rd with
    | cons rd r2 =>
      cases r2
      cases rd.str
      exact SkE.call_str_str pins s σ H _ us Q I r ⟨z, rfl, q _ H .refl .str⟩
  · cases eg
end

/-! ### tuple * int, once or of nothing -/
theorem tuple_mulS (l : Addr) (items : Array Value) (n : Nat) (dd : Option Addr) (sl : Array (Option Value)) (x : Int) (u : Tok) (c0 : (decide (x < -(2 ^ 63)) || decide (x ≥ 2 ^ 63)) = false) (c1 : (items.isEmpty || x == 1) = true) :
    Meets (Builtin.«tuple.__mul__» ⟨[.ref l, .int x u], []⟩) (fun _ R s => s.heap.get? l = some { cls := .type "tuple", dict := dd, data := .seq items n, slots := sl } ∧ R (.ok (.ret (Value.ref l))) s) :=
  .of_wp fun prog w A R s h => by
    obtain ⟨hp, g, d, tk, os⟩ := s
    obtain ⟨hl, h⟩ := h
    have f1 := AutoSeq1.idx_int
    wp_walk using wpAny_loadPart' hl
    repeat (first
      | (refine wpAny_ite_false (decide_eq_false (by rw [c0]; exact Bool.false_ne_true)) ?_; wp_walk using wpAny_loadPart' hl)
      | (refine wpAny_ite_true (decide_eq_true c1) ?_; wp_walk using wpAny_loadPart' hl))
    exact ⟨_, rfl, h⟩
def gMulX : PyData → PyData → Option SV
  | .tuple a, .int k => if a.isEmpty = true ∨ k = 1 then (if okI k = true then some (.dat (.tuple a)) else none) else gMul (.tuple a) (.int k)
  | d, e => gMul d e
section
variable {X : Cx}
theorem o_mulx : OpR X (binaryOp .Mult) (RO2 X.K gMulX) := by
  intro pins s σ H x y v u Q I rx ry ⟨N, d, e, w, nf, hd, he, hg, q⟩
  have old : gMul d e = some w → wpAny (model X.prog X.w) X.A (binaryOp .Mult v u) (EP X pins σ Q) X.xe s := fun hg => o_mul pins s σ H x y v u Q I rx ry ⟨N, d, e, w, nf, hd, he, hg, q⟩
  cases d with
  | tuple a => cases e with
    | int k =>
      have hg : (if a.isEmpty = true ∨ k = 1 then (if okI k = true then some (SV.dat (.tuple a)) else none) else gMul (.tuple a) (.int k)) = some w := hg
      split at hg
      · rename_i h1
        split at hg
        · rename_i hk
          have hk := okI_to hk
          cases hg
          obtain ⟨l, xs, rfl, qt, rds⟩ := hd.tup
          cases he.int
          cases rx
          obtain ⟨t, rfl⟩ := ry
          obtain ⟨its, r, ⟨⟨cls, dd, data, sl⟩, ho, hc, n, hd'⟩, hs⟩ := I.tuple qt.sq
          simp only at hc hd'
          subst hc hd'
          have hi : (its.toArray.isEmpty || k == 1) = true := by
            rcases h1 with z | z
            · have hn : its.length = 0 := by
                rw [← r.length, rds.len]
                rw [List.isEmpty_iff] at z
                rw [z]; rfl
              rw [List.eq_nil_of_length_eq_zero hn]; rfl
            · rw [z]; simp
          have c0 : (decide (k < -(2 ^ 63)) || decide (k ≥ 2 ^ 63)) = false := by
            rw [decide_eq_false (by omega), decide_eq_false (by omega)] <;> rfl
          refine wpAny_binaryOp_repeat_ref (T := "tuple") (U := "int") (by decide) ⟨_, ho, rfl⟩ (fun s' => typeIs_int s' k t) noFill_tuple_mul F.fills_int_mul F.slot_int_rmul repeat_tuple F.slot_int_index.lookup ?_
          refine call_meets F.slot_int_rmul (typeIs_int s k t) F.entry_int_rmul (F.args_int_rmul_2 _ _) (int_rmul_tuple k t l its.toArray n dd sl) ⟨ho, rfl, ⟨_, ho, rfl⟩, ?_⟩
          refine call_meets F.slot_tuple_mul ⟨_, ho, rfl⟩ F.entry_tuple_mul (F.args_tuple_mul_2 _ _) (tuple_mulS l its.toArray n dd sl k t c0 hi) ⟨ho, ?_⟩
          exact ⟨.ref l, H, I, rfl, q _ H .refl hd⟩
        · cases hg
      · exact old hg
    | _ => exact old hg
  | _ => exact old hg
end
end EV
end

section
set_option maxRecDepth 100000
set_option maxHeartbeats 4000000
namespace EV
open PySem PySem.Spec L2
open LamX (TabS Tabs ExtN CodeO TabB)
open PySem.W (EachIs dataLe AllAlike Sortable alike)
open PyProof.Rows

/-! ### ranges as values -/
abbrev FR := Fr → Sto → Option ((Int × Int) × Sto)
def rgOk (a b : Int) : Bool := okI a && (okI b && Nat.ble (b - a).toNat 16777216)
def simR (K : PySem.W.Frag) (T : List (Addr × Str)) (f : FR) : L2.St → Hp → (Int → Int → Hp → Prop) → Prop := fun σ H Q => ∃ A He ase ρ st os as r st', StOk ⟨K, A, He, ase, T⟩ σ H ρ st os as ∧ f ρ st = some (r, st') ∧
  ∀ H', Kp as H H' → StOk ⟨K, A, He, ase, T⟩ σ H' ρ st' os as → Q r.1 r.2 H'
def DR (T : List (Addr × Str)) (X : Cx) (e : Expr) (f : FR) : Prop := PRg X e (simR X.K T f)
def fR1 (a : FE) : FR := fun ρ st => match a ρ st with
  | some (.dat (.int n), st1) => some ((0, n), st1)
  | _ => none
def fR2 (a b : FE) : FR := fun ρ st => match a ρ st with
  | some (.dat (.int n), st1) => match b ρ st1 with
    | some (.dat (.int m), st2) => some ((n, m), st2)
    | _ => none
  | _ => none
def rgD (a b : Int) : List PyData := (List.range (b - a).toNat).map fun (i : Nat) => .int (a + (i : Int))
theorem rgD_rds {K : PySem.W.Frag} {H : Hp} {N : Addr → Prop} {a b : Int} : RDs K H N (rgD a b) (rgV a b) := by
  refine RDs.of_get (by simp [rgD, rgV]) fun i d x h1 h2 => ?_
  unfold rgD at h1
  unfold rgV at h2
  rw [List.getElem?_map] at h1 h2
  cases e : (List.range (b - a).toNat)[i]? with
  | none => rw [e] at h1; cases h1
  | some j => rw [e] at h1 h2; cases h1; cases h2; unfold RD; rfl
def fLstR (f : FR) : FE := fun ρ st => match f ρ st with
  | some ((a, b), st1) => if rgOk a b = true then some (.own (rgD a b), st1) else none
  | none => none
def fTupR (f : FR) : FE := fun ρ st => match f ρ st with
  | some ((a, b), st1) => if rgOk a b = true then some (.dat (.tuple (rgD a b)), st1) else none
  | none => none
section
variable {X : Cx} {pos p lpos kpos : Pos} {e e2 : Expr} {x : Str}
theorem dr_1 {fa : FE} (hm : X.mg "range" = none) (ha : DE T X e fa) (hg : Gl X "range" := by rfl) (na : starEach [e] X.env = (false, eval e X.env) :: starEach [] X.env := by rfl) : DR T X (.Call (.Name "range" p) [e] [] pos) (fR1 fa) := by
  intro pins s σ H Q I h
  refine prg_1 hg hm ha na pins s σ H Q I ?_
  obtain ⟨A, He, ase, ρ, st, os, as, r, st', ok, ev, q⟩ := h
  unfold fR1 at ev
  split at ev
  · rename_i n st1 ea
    cases ev
    exact ⟨A, He, ase, ρ, st, os, as, _, _, ok, ea, fun y H1 k1 ok1 r1 => ⟨n, r1, q H1 k1 ok1⟩⟩
  · cases ev
theorem dr_2 {fa fb : FE} (hm : X.mg "range" = none) (ha : DE T X e fa) (hb : DE T X e2 fb) (hg : Gl X "range" := by rfl) (na : starEach [e, e2] X.env = (false, eval e X.env) :: starEach [e2] X.env := by rfl)
    (nb : starEach [e2] X.env = (false, eval e2 X.env) :: starEach [] X.env := by rfl) (hp : (backTo pos (starEach [e2] X.env)).any (·.1) = false := by rfl) : DR T X (.Call (.Name "range" p) [e, e2] [] pos) (fR2 fa fb) := by
  intro pins s σ H Q I h
  refine prg_2 hg hm ha hb na nb hp pins s σ H Q I ?_
  obtain ⟨A, He, ase, ρ, st, os, as, r, st', ok, ev, q⟩ := h
  unfold fR2 at ev
  split at ev
  · rename_i n st1 ea
    split at ev
    · rename_i m st2 eb
      cases ev
      exact ⟨A, He, ase, ρ, st, os, as, _, _, ok, ea, fun y H1 k1 ok1 r1 => ⟨A, He, ase, ρ, st1, os, as, _, _, ok1, eb, fun z H2 k2 ok2 r2 => ⟨n, m, r1, r2, q H2 (k1.trans k2) ok2⟩⟩⟩
    · cases ev
  · cases ev
theorem rgOk_of {a b : Int} (h : rgOk a b = true) : RgOk a b := by
  unfold rgOk at h
  rw [Bool.and_eq_true, Bool.and_eq_true] at h
  have h1 := okI_to h.1
  have h2 := okI_to h.2.1
  have h3 := Nat.le_of_ble_eq_true h.2.2
  exact ⟨h1.1, h1.2, h2.1, h2.2, h3⟩
theorem de_listR {f : FR} (hc : X.calm = true) (hm : X.mg "list" = none) (he : DR T X e f) (hg : Gl X "list" := by rfl) (na : starEach [e] X.env = (false, eval e X.env) :: starEach [] X.env := by rfl) : DE T X (.Call (.Name "list" p) [e] [] pos) (fLstR f) :=
  PE.weak (pe_listRg hc hg hm he na) fun σ H Q h => by
    obtain ⟨A, He, ase, ρ, st, os, as, w, st', ok, ev, q⟩ := h
    unfold fLstR at ev
    split at ev
    · rename_i a b st1 ea
      split at ev
      · rename_i hz
        cases ev
        exact ⟨A, He, ase, ρ, st, os, as, _, _, ok, ea, fun H1 k1 ok1 => ⟨rgOk_of hz, fun t nt => q _ _ (k1.trans (.upd nt)) (ok1.upd nt) ((RG.new (K := X.K) nt (ok1.nn nt) rgD_rds).rv.from k1 nn_as)⟩⟩
      · cases ev
    · cases ev
theorem de_tupR {f : FR} (hc : X.calm = true) (hm : X.mg "tuple" = none) (he : DR T X e f) (hg : Gl X "tuple" := by rfl) (na : starEach [e] X.env = (false, eval e X.env) :: starEach [] X.env := by rfl) : DE T X (.Call (.Name "tuple" p) [e] [] pos) (fTupR f) :=
  PE.weak (pe_tupRg hc hg hm he na) fun σ H Q h => by
    obtain ⟨A, He, ase, ρ, st, os, as, w, st', ok, ev, q⟩ := h
    unfold fTupR at ev
    split at ev
    · rename_i a b st1 ea
      split at ev
      · rename_i hz
        cases ev
        exact ⟨A, He, ase, ρ, st, os, as, _, _, ok, ea, fun H1 k1 ok1 => ⟨rgOk_of hz, fun t nt => q _ _ (k1.trans (.upd nt)) (ok1.upd nt) ((RG.newT (K := X.K) nt (ok1.nn nt) rgD_rds).rv (as := as) (H0 := H1))⟩⟩
      · cases ev
    · cases ev
end

/-! ### sorted(range(..), key=lambda x: ..) -/
theorem sorted_key_range {β : Type} {prog : Program} {w : World} {A : Around} {E : Value → Shared → Prop} {s : Shared} {R : Value → β → Prop} {bs : List β} {r : Addr} {lo hi : Int} {t u v : Tok} {f : Addr} {Q : Value → Shared → Prop} (k : β → PyData)
    (hh : A.handled = none) (hr : IsRange s.heap r lo hi 1 t u v) (hz : RgOk lo hi) (hR : ∀ acc : Array Value, ItemsOf (fun i v => ∃ t, v = .int (lo + i * 1) t) acc (hi - lo).toNat → EachIs R acc.toList bs) (hal : AllAlike (bs.map k)) (hk : Sortable (bs.map k))
    (hu : ∀ x, x ∈ bs → A.units + 2 + (k x).depth < cLine)
    (turn : ∀ (v : Value) (x : β), R v x → x ∈ bs → ∀ (h : Heap) (tk : Nat), Kall s.heap h → wpAny (model prog w) A.in1.in1 (call (.ref f) [v]) (PySem.W.KeyPure (k x) { s with heap := h, toks := tk }) (fun _ _ => False) { s with heap := h, toks := tk })
    (h : ∀ (out : List Value) (c : Nat) (h1 h' : Heap) (tk : Nat), Kall s.heap h1 → Kall h1 h' → h'.get? h1.objs.size = some (PyProof.Rows.seqObj "list" out.toArray c) → EachIs R out (bs.mergeSort (dataLe false k)) → Q (.ref h1.objs.size) { s with heap := h', toks := tk }) :
    wpAny (model prog w) A (call (.builtin "sorted") [.ref r] [(Str.ofString "key", .ref f)]) Q E s := by
  obtain ⟨b1, b2, b3, b4, b5⟩ := hz
  refine PyProof.Rows.call_function_entry_kw PyProof.Rows.kind_sorted PyProof.Rows.plain_sorted PyProof.Rows.entry_sorted (PyProof.Rows.ksk_s1 _ _) ?_
  unfold Builtin.«sorted»
  refine wpAny_bind (m := checkCount "sorted" 1 1 _) (wpAny_pure ?_)
  refine wpAny_bind (L2.collect_range (n := (hi - lo).toNat) hh hr (small_one b1 b2 b3 b4) (rangeSize_nat lo hi) b5 fun h1 tk acc kp its => ?_)
  have e := hR acc its
  have hL : acc.toList.length ≤ sizeLine := by rw [Array.length_toList, its.1, sizeLine_eq]; omega
  refine wpAny_bind (wpAny_newList ?_ hL)
  have hat : (h1.push { cls := .type "list", data := .seq acc.toList.toArray }).get? h1.objs.size = some (PyProof.Rows.seqObj "list" acc.toList.toArray 0) := Heap.get?_push_size _ rfl
  have kpush : Kall h1 (h1.push { cls := .type "list", data := .seq acc.toList.toArray }) := fun b o e => Heap.get?_push_of_some _ e
  refine wpAny_bind (wpAny_holding (wpAny_call_entry_kw PyProof.Rows.slot_list_sort ⟨_, hat, rfl⟩ PyProof.Rows.entry_list_sort ?body (PyProof.Rows.ksk_l1 _ _)))
  case body =>
    show wpAny (model prog w) A.in1.in1 (Builtin.«list.sort» ⟨[.ref h1.objs.size], [(Str.ofString "key", .ref f)]⟩) _ _ _
    rw [PyProof.Rows.ksk_t1]
    have up : ∀ {g : Heap}, PySem.W.KeepsBut h1.objs.size (h1.push { cls := .type "list", data := .seq acc.toList.toArray }) g → Kall h1 g := fun {g} kb b o q => kb b o (Nat.ne_of_lt (Heap.lt_size q)) (kpush b o q)
    refine PySem.W.keyH_tree (kz := bs.map k) (vs := acc.toList) (s := { s with heap := h1.push { cls := .type "list", data := .seq acc.toList.toArray }, toks := tk }) hat (by rw [List.length_map]; exact e.length.symm) hL hal hk (PySem.W.bound_map (A := A.in1.in1) hu)
      (PySem.W.keyH_turns (s := { s with heap := h1.push { cls := .type "list", data := .seq acc.toList.toArray }, toks := tk }) e fun v x hR hx h tk kb => turn v x hR hx h tk (Kall.trans kp (up kb))) fun h' tk2 out c kb hD ko => ⟨_, rfl, wpAny_pure ⟨_, rfl, ?_⟩⟩
    exact h out c h1 h' tk2 kp (up kb) hD (PySem.W.keyedOut_each k ko e)
theorem rg_rows {i : Nat} {fb : FE} {ρ : Fr} {st : Sto} : ∀ {js : List Int} {ks : List PyData}, keysL i fb ρ st (js.map .int) = some ks → ∃ bs : List (V × PyData × PyData), bs.map (·.1) = js.map V.int ∧ bs.map (·.2) = (js.map PyData.int).zip ks ∧ bs.map (·.2.2) = ks ∧
    ∀ b ∈ bs, (∃ j : Int, b.1 = .int j ∧ b.2.1 = .int j) ∧ ∃ st2, fb (ρ.set i (.dat b.2.1)) st = some (.dat b.2.2, st2)
  | [], ks, e => by cases e; exact ⟨[], rfl, rfl, rfl, fun b hb => by cases hb⟩
  | j :: js, ks, e => by
    rw [List.map_cons] at e
    unfold keysL at e
    split at e
    · rename_i k st' ks' e1 e2
      cases e
      obtain ⟨bs, b2, b3, b5, b6⟩ := rg_rows e2
      refine ⟨(.int j, .int j, k) :: bs, by simp [b2], by simp [b3], by simp [b5], fun b hb => ?_⟩
      rcases List.mem_cons.mp hb with z | z
      · subst z; exact ⟨⟨j, rfl, rfl⟩, st', e1⟩
      · exact b6 b z
    · cases e
theorem rg_each : ∀ {bs : List (V × PyData × PyData)} {us : List Value}, Vals (bs.map (·.1)) us → (∀ b ∈ bs, ∃ j : Int, b.1 = .int j ∧ b.2.1 = .int j) → EachIs (fun v (b : V × PyData × PyData) => RelV b.1 v ∧ ∃ j : Int, b.1 = .int j ∧ b.2.1 = .int j) us bs
  | [], _, h, _ => by cases h; exact .nil
  | b :: bs, _, h, k => by
    cases h with
    | cons h1 h2 => exact .cons ⟨h1, k b List.mem_cons_self⟩ (rg_each h2 fun c hc => k c (List.mem_cons_of_mem _ hc))
def fSortKR (i : Nat) (caps : List Nat) (fx : FR) (fb : FE) : FE := fun ρ st => match fx ρ st with
  | some ((a, b), st1) => if rgOk a b = true then
      match keysL i fb ρ st1 (rgD a b) with
      | some ks => if keysOk ks = true ∧ caps.all (capOk ρ st1) = true then some (.own (sortK (rgD a b) ks), st1) else none
      | none => none
    else none
  | none => none
section
variable {X : Cx} {pos p lpos kpos : Pos} {e : Expr} {x : Str}
theorem de_sortKR {c P : Addr} {i : Nat} {caps : List Nat} {fx : FR} {fb : FE} {params : Arguments} {body : Expr} {scope : Scope} (hcalm : X.calm = true) (hm : X.mg "sorted" = none) (ha : DR T X e fx) (hl : DL scope X.N X.mg body fb) (hL : lam1B X.env.scope scope x = true) (TB : TabB X.base X.mg c P) (hcode : X.env.code = .ref c)
    (hmT : (P, X.env.qual ++ "<lambda>") ∈ T) (hu : ∀ p ∈ T, p.1 = P → p.2 = X.env.qual ++ "<lambda>") (hN : X.N.Nodup) (hcaps : capsOk X.N scope caps = true) (hr : Room 1 X.A) (hi : X.N[i]? = some x := by rfl) (hdef : defaultsOf params X.env = ([], []) := by rfl)
    (hbind : ∀ (q : Str) (cl : List (Str × Addr)) (pm cv ctv v : Value), bindArgs (PySem.W.kla_fn "<lambda>" q params body scope cl pm cv ctv) ⟨[v], []⟩ = pure [(x, v)] := by intros; rfl) (hg : Gl X "sorted" := by rfl)
    (he : backTo pos (starEach [e] X.env) = (false, eval e X.env) :: backTo pos (starEach [] X.env) := by rfl) (hpl : (backTo pos (starEach [e] X.env)).any (·.1) = false := by rfl) :
    DE T X (.Call (.Name "sorted" p) [e] [⟨some (Str.ofString "key"), .Lambda params body scope lpos, kpos⟩] pos) (fSortKR i caps fx fb) := by
  refine ⟨fun pins s σ H Q I h => ?_⟩
  obtain ⟨A, He, ase, ρ, st, os, as, w, st', ok, ev, q⟩ := h
  unfold fSortKR at ev
  split at ev
  · rename_i lo hi' st1 ea
    split at ev
    · rename_i hrg
      cases ek : keysL i fb ρ st1 (rgD lo hi') with
      | none => rw [ek] at ev; cases ev
      | some ks =>
        rw [ek] at ev
        dsimp only at ev
        split at ev
        · rename_i hz
          cases ev
          have L := lam1_by hL
          refine wpAny_Call_Name_kw (ld_blt I hg hm (PyProof.Rows.boot_sorted) ?_ (by decide) (by decide))
          refine PyProof.Rows.callWith_kw ?_ he hpl (by rfl) (by rfl)
          rw [he]
          refine Calls.spliced_cons (thn (ha pins s σ H (fun a b H1 => a = lo ∧ b = hi' ∧ Kp as H H1 ∧ StOk ⟨X.K, A, He, ase, T⟩ σ H1 ρ st' os as) I ⟨A, He, ase, ρ, st, os, as, _, _, ok, ea, fun H1 k1 ok1 => ⟨rfl, rfl, k1, ok1⟩⟩) fun u s1 ⟨r, a0, b0, t, u0, v, H1, eu, hrr, I1, e1, e2, k1, ok1⟩ => ?_)
          subst eu; subst e1; subst e2
          refine Calls.spliced_nil ?_
          refine wpAny_evalAll_cons (wpAny_bind (lam_mk I1 TB hcode hmT hu ok1.tab hdef (L.has I1.ok) fun f c' pm ctv H2 s2 I2 k2 t2 hf hc hkeep => wpAny_bind (wpAny_standAt (wpAny_pure (wpAny_evalAll_nil ?_)))))
          obtain ⟨ok2, kp2⟩ := ok1.tabs hmT k2 t2
          have hrP : r ≠ P := fun z => by
            obtain ⟨tb0, e0, _⟩ := ok1.tab _ hmT
            have g : s1.heap.get? P = some { cls := .none, data := .fields tb0 } := I1.hok P _ e0
            have hr1 := hrr
            rw [z] at hr1
            unfold IsRange at hr1
            rw [g] at hr1
            simp at hr1
          have hrr2 : IsRange s2.heap r a0 b0 1 t u0 v := hkeep r _ hrP hrr
          obtain ⟨bs, b2, b3, b5, b6⟩ : ∃ bs : List (V × PyData × PyData), bs.map (·.1) = rgV a0 b0 ∧ bs.map (·.2) = (rgD a0 b0).zip ks ∧ bs.map (·.2.2) = ks ∧ (∀ b ∈ bs, (∃ j : Int, b.1 = .int j ∧ b.2.1 = .int j) ∧ ∃ st2, fb (ρ.set i (.dat b.2.1)) st' = some (.dat b.2.2, st2)) := by
            have eD : rgD a0 b0 = ((List.range (b0 - a0).toNat).map fun (i : Nat) => a0 + (i : Int)).map PyData.int := by unfold rgD; rw [List.map_map]; rfl
            have eV : rgV a0 b0 = ((List.range (b0 - a0).toNat).map fun (i : Nat) => a0 + (i : Int)).map V.int := by unfold rgV; rw [List.map_map]; rfl
            rw [eD] at ek ⊢
            rw [eV]
            exact rg_rows ek
          show wpAny _ _ (call (.builtin "sorted") [.ref r] [(Str.ofString "key", .ref f)]) _ _ s2
          refine sorted_key_range (R := fun v (b : V × PyData × PyData) => RelV b.1 v ∧ ∃ j : Int, b.1 = .int j ∧ b.2.1 = .int j) (bs := bs) (fun b : V × PyData × PyData => b.2.2) (I2.ok.hd hcalm) hrr2 (rgOk_of hrg) (fun acc its => ?_) (by rw [b5]; exact keysOk_alike hz.1) (by rw [b5]; exact keysOk_sortable hz.1) (fun b hb => ?_) (fun v b hR hb h tk kp => ?_) (fun out cc h1 h' tk kp1 kp hD eo => ?_)
          · refine rg_each ?_ fun b hb => (b6 b hb).1
            rw [b2]; exact vals_rg its
          · have hk := keysOk_flat hz.1 (show b.2.2 ∈ ks by rw [← b5]; exact List.mem_map.mpr ⟨b, hb, rfl⟩)
            have := hr.un
            omega
          · obtain ⟨⟨j, j1, j2⟩, stb, evb⟩ := b6 b hb
            have hk := keysOk_flat hz.1 (show b.2.2 ∈ ks by rw [← b5]; exact List.mem_map.mpr ⟨b, hb, rfl⟩)
            have hrd : ∃ as, Reads s2.heap v b.2.1 as := by
              have r1 := hR.1
              rw [j1] at r1
              obtain ⟨t, rfl⟩ := r1
              rw [j2]
              exact ⟨_, .int _ _⟩
            refine lam_key I2 L hf hc (hbind _ _ _ _ _ _) (by have := hr.dp; show X.A.depth < recursionLimit; omega) hN hi hl ok2 (fun j y dd w hj hy hw hd => ?_) evb rfl hk.1 hrd h tk kp
            have hcp := List.all_eq_true.mp hz.2 j (List.contains_iff_mem.mp (by
              have := capsOk_at hcaps hj hy
              simpa using this))
            unfold capOk at hcp
            rw [hw] at hcp
            dsimp only at hcp
            rw [hd] at hcp
            exact hcp
          · have ev := each_vals (h := s2.heap) (R := fun v x d => RelV x v ∧ ∃ j : Int, x = .int j ∧ d = .int j) (fun _ _ _ h => h.1) eo
            have I3 : Inv X pins σ H2 { s2 with heap := h1, toks := tk } := I2.kept kp1
            have nH : H2 h1.objs.size = none := I3.hok.fresh (Nat.le_refl _)
            have hperm := List.mergeSort_perm bs (dataLe false fun b : V × PyData × PyData => b.2.2)
            have hlen : bs.length ≤ sizeLine := by
              have e1 : bs.length = (rgV a0 b0).length := by rw [← b2, List.length_map]
              rw [e1, rgV_length, sizeLine_eq]
              have := (rgOk_of hrg).2.2.2.2
              omega
            refine ⟨.ref _, upd H2 h1.objs.size (.lst ((bs.mergeSort (dataLe false fun b : V × PyData × PyData => b.2.2)).map (·.1))), I3.laid (t' := tk) kp (Nat.le_refl _) ⟨?_, out, cc, ev, hD⟩, rfl, q _ _ ((k1.trans kp2).trans (.upd nH)) (ok2.upd nH) ?_⟩
            · rw [List.length_map, hperm.length_eq]; exact hlen
            · rw [← sortK_rows b3]
              refine ⟨_, _, rfl, upd_same, ?_, k1.free (kp2.free nH (ok2.nas nH)) (ok2.nas nH), ok2.nn nH⟩
              refine rds_rows fun b hb => ?_
              obtain ⟨⟨j, j1, j2⟩, _⟩ := b6 b (hperm.mem_iff.mp hb)
              rw [j1, j2]; unfold RD; rfl
        · cases ev
    · cases ev
  · cases ev
end
end EV
end

section
set_option maxRecDepth 100000
set_option maxHeartbeats 4000000
namespace EV
open PySem PySem.Spec L2
open LamX (TabS Tabs ExtN CodeO TabB)

/-! ### the head's facts: defs, constants of any depth, tables of code objects (kept out of the fragment) -/
def isTabO (o : Obj) : Bool := match o.cls, o.data with
  | .none, .fields _ => true
  | .type n, _ => decide (n = "list")
  | _, _ => false
def frT (g : Addr → Option Obj) (as : List Addr) : PySem.W.Frag := as.filterMap fun a => match g a with
  | some o => if isTabO o = true then none else some (a, o)
  | none => none
theorem frT_at {g : Addr → Option Obj} {a : Addr} {o : Obj} : ∀ as : List Addr, (frT g as).lookup a = some o → g a = some o ∧ isTabO o = false
  | [], e => by cases e
  | b :: r, e => by
    unfold frT at e
    rw [List.filterMap_cons] at e
    cases hb : g b with
    | none => rw [hb] at e; exact frT_at r e
    | some ob =>
      rw [hb] at e
      dsimp only at e
      by_cases ht : isTabO ob = true
      · rw [if_pos ht] at e; exact frT_at r e
      · rw [if_neg ht] at e
        dsimp only at e
        rw [List.lookup_cons] at e
        cases q : (a == b) with
        | true =>
          rw [q] at e
          cases e
          rw [beq_iff_eq.mp q]
          exact ⟨hb, by simpa using ht⟩
        | false => rw [q] at e; exact frT_at r e
/-- a constant, at any depth of tuples -/
def conB (K : PySem.W.Frag) : PyData → Value → Bool
  | .none, v => match v with
    | .none => true
    | _ => false
  | .bool b, v => match v with
    | .bool c => b == c
    | _ => false
  | .int i, v => match v with
    | .int j _ => decide (i = j)
    | _ => false
  | .str x, v => match v with
    | .str y _ => decide (x = y)
    | _ => false
  | .tuple ds, v => match v with
    | .ref a => match K.lookup a with
      | some ⟨.type c, _, .seq its _, _⟩ => decide (c = "tuple") && (decide (its.size ≤ sizeLine) && conBs K ds its.toList)
      | _ => false
    | _ => false
  | _, _ => false
where
  conBs (K : PySem.W.Frag) : List PyData → List Value → Bool
  | [], [] => true
  | d :: ds, v :: vs => conB K d v && conBs K ds vs
  | _, _ => false
mutual
theorem conB_ok {K : PySem.W.Frag} : ∀ {d : PyData} {u : Value}, conB K d u = true → ∃ v, RelV v u ∧ ∀ (H : Hp) (N : Addr → Prop), RD K H N d v
  | .none, u, h => by
    cases u <;> first | exact ⟨.non, rfl, fun _ _ => by unfold RD; rfl⟩ | cases h
  | .bool b, u, h => by
    cases u with
    | bool c => exact ⟨.bl b, by have : b = c := (by simpa [conB] using h); subst this; rfl, fun _ _ => by unfold RD; rfl⟩
    | _ => cases h
  | .int i, u, h => by
    cases u with
    | int j t => exact ⟨.int i, by have : i = j := (by simpa [conB] using h); subst this; exact ⟨t, rfl⟩, fun _ _ => by unfold RD; rfl⟩
    | _ => cases h
  | .str i, u, h => by
    cases u with
    | str j t => exact ⟨.str i, by have : i = j := (by simpa [conB] using h); subst this; exact ⟨t, rfl⟩, fun _ _ => by unfold RD; rfl⟩
    | _ => cases h
  | .tuple ds, u, h => by
    cases u with
    | ref a =>
      unfold conB at h
      dsimp only at h
      split at h
      · rename_i c od its n sl q
        rw [Bool.and_eq_true, Bool.and_eq_true, decide_eq_true_eq, decide_eq_true_eq] at h
        obtain ⟨h1, h2, h3⟩ := h
        obtain ⟨vs, r, k⟩ := conBs_ok h3
        exact ⟨.ref a, rfl, fun H N => ⟨a, vs, rfl, .inr ⟨_, its, n, q, by rw [h1], rfl, h2, r⟩, k H N⟩⟩
      · cases h
    | _ => cases h
  | .list _, _, h => by cases h
  | .dict _, _, h => by cases h
theorem conBs_ok {K : PySem.W.Frag} : ∀ {ds : List PyData} {us : List Value}, conB.conBs K ds us = true → ∃ vs, Vals vs us ∧ ∀ (H : Hp) (N : Addr → Prop), RDs K H N ds vs
  | [], [], _ => ⟨[], .nil, fun _ _ => rfl⟩
  | [], _ :: _, h => by cases h
  | _ :: _, [], h => by cases h
  | d :: ds, u :: us, h => by
    unfold conB.conBs at h
    rw [Bool.and_eq_true] at h
    obtain ⟨v, r, k⟩ := conB_ok h.1
    obtain ⟨vs, rs, ks⟩ := conBs_ok h.2
    exact ⟨v :: vs, .cons r rs, fun H N => ⟨v, vs, rfl, k H N, ks H N⟩⟩
end
def conOk (K : PySem.W.Frag) (c : Str × PyData) : Bool := match PySem.W.nsIn K mainGlobals c.1 with
  | some (some u) => conB K c.2 u
  | _ => false
theorem conOk_v {K : PySem.W.Frag} {h : Heap} {mg : Str → Option Value} (X : K.In h) (G : h.Ns mainGlobals mg) {c : Str × PyData} (e : conOk K c = true) : ConV K mg c.1 c.2 := by
  unfold conOk at e
  cases q : PySem.W.nsIn K mainGlobals c.1 with
  | none => rw [q] at e; cases e
  | some o =>
    rw [q] at e
    cases o with
    | none => cases e
    | some u =>
      obtain ⟨v, r, k⟩ := conB_ok e
      exact ⟨u, v, PySem.W.mg_of X G q, r, k⟩
/-- the code object of the def x -/
def codeAd (K : PySem.W.Frag) (x : Str) : Addr := match codeOf K (He.ga K x) with
  | .ref c => c
  | _ => 0
/-- its table -/
def tabAd (g : Addr → Option Obj) (K : PySem.W.Frag) (x : Str) : Addr := match g (codeAd K x) with
  | some ⟨_, _, .fields vs, _⟩ => match (vs[11]? : Option Value) with
    | some (.ref P) => P
    | _ => 0
  | _ => 0
def hdB (o : Obj) (c P : Addr) : Bool := match o with
  | ⟨.type n, _, .fields vs, _⟩ => decide (n = "code") && (match (vs[11]? : Option Value), (vs.getD 11 .none : Value), (vs.getD 18 .none : Value), (vs.getD 7 .none : Value), (vs.getD 9 .none : Value), (vs.getD 10 .none : Value) with
    | some (.ref P1), .ref P2, .str _ _, .int _ _, .bool _, .int _ _ => decide (P1 = P) && (decide (P2 = P) && decide (c ≠ P))
    | _, _, _, _, _, _ => false)
  | _ => false
def emptyB (o : Obj) : Bool := match o with
  | ⟨.none, none, .fields a, sl⟩ => decide (a.size = 0) && decide (sl.size = 0)
  | _ => false
def lamOk (g : Addr → Option Obj) (K : PySem.W.Frag) (x : Str) : Bool := match codeOf K (He.ga K x), g (codeAd K x), g (tabAd g K x) with
  | .ref _, some oc, some ot => hdB oc (codeAd K x) (tabAd g K x) && emptyB ot
  | _, _, _ => false
theorem lamOk_v {g : Addr → Option Obj} {K : PySem.W.Frag} {h : Heap} {x : Str} (hg : ∀ a o, g a = some o → h.get? a = some o) (e : lamOk g K x = true) :
    codeOf K (He.ga K x) = .ref (codeAd K x) ∧ PySem.W.CodeHd h (codeAd K x) (tabAd g K x) ∧ h.get? (tabAd g K x) = some { cls := .none, data := .fields #[] } ∧ ∃ o, g (tabAd g K x) = some o ∧ isTabO o = true := by
  unfold lamOk at e
  split at e
  · rename_i c oc ot e1 e2 e3
    rw [Bool.and_eq_true] at e
    obtain ⟨h1, h2⟩ := e
    have ec : codeAd K x = c := by unfold codeAd; rw [e1]
    have et : ot = { cls := .none, data := .fields #[] } := by
      unfold emptyB at h2
      split at h2
      · rename_i a sl
        rw [Bool.and_eq_true, decide_eq_true_eq, decide_eq_true_eq] at h2
        have a1 := Array.eq_empty_of_size_eq_zero h2.1
        have a2 := Array.eq_empty_of_size_eq_zero h2.2
        rw [a1, a2]
      · cases h2
    refine ⟨by rw [e1, ec], ?_, by rw [← et]; exact hg _ _ e3, ot, e3, by rw [et]; rfl⟩
    unfold hdB at h1
    split at h1
    · rename_i n od vs sl
      rw [Bool.and_eq_true, decide_eq_true_eq] at h1
      obtain ⟨h3, h4⟩ := h1
      split at h4
      · rename_i P1 P2 file tf flags tg inF text tt f1 f2 f3 f4 f5 f6
        rw [Bool.and_eq_true, Bool.and_eq_true, decide_eq_true_eq, decide_eq_true_eq, decide_eq_true_eq] at h4
        obtain ⟨q1, q2, q3⟩ := h4
        exact ⟨_, vs, file, tf, flags, tg, inF, text, tt, hg _ _ e2, by rw [h3], rfl, by rw [← q1]; exact f1, by rw [f2, q2], f3, f4, f5, f6, q3⟩
      · cases h4
    · cases h1
  · cases e
end EV
end

section
set_option maxRecDepth 100000
set_option maxHeartbeats 4000000
namespace EV
open PySem PySem.Spec L2
open LamX (TabS Tabs ExtN CodeO TabB)
open PyProof.Rows

structure HS where
  fa : List He.Fa
  fn : List He.DefD
  cons : List (Str × PyData)
  lams : List Str
def obsE (n : Nat) (S : HS) (g : Addr → Option Obj) : He.AlD × Bool :=
  (He.obsD S.fa S.fn (frT g (He.asD g n)), S.cons.all (conOk (frT g (He.asD g n))) && (S.lams.all (lamOk g (frT g (He.asD g n))) && decide ((S.lams.map (tabAd g (frT g (He.asD g n)))).Nodup)))
/-- what the head's end tells -/
structure Says (S : HS) (h : Heap) (g : Addr → Option Obj) (K : PySem.W.Frag) : Prop where
  sub : ∀ a o, g a = some o → h.get? a = some o
  fr : ∀ a o, K.lookup a = some o → g a = some o ∧ isTabO o = false
  defs : He.SaysD S.fa S.fn K
  cons : S.cons.all (conOk K) = true
  lams : S.lams.all (lamOk g K) = true
  nd : (S.lams.map (tabAd g K)).Nodup
def hookE (n : Nat) (S : HS) : PySem.W.Hook where
  α := He.AlD × Bool
  obs := fun s => obsE n S s.heap.get?
  val := fun _ => (He.valD S.fn, true)
  says := fun _ h => ∃ g K, Says S h g K
  of := fun _ s e => by
    have e1 := congrArg Prod.fst e
    have e2 : (S.cons.all (conOk (frT s.heap.get? (He.asD s.heap.get? n))) && (S.lams.all (lamOk s.heap.get? (frT s.heap.get? (He.asD s.heap.get? n))) && decide ((S.lams.map (tabAd s.heap.get? (frT s.heap.get? (He.asD s.heap.get? n)))).Nodup))) = true := congrArg Prod.snd e
    rw [Bool.and_eq_true, Bool.and_eq_true, decide_eq_true_eq] at e2
    exact ⟨s.heap.get?, frT s.heap.get? (He.asD s.heap.get? n), fun _ _ e => e, fun a o q => frT_at _ q, e1, e2.1, e2.2.1, e2.2.2⟩
  keeps := fun _ h h' ⟨g, K, y⟩ k => ⟨g, K, fun a o e => k a o (y.sub a o e), y.fr, y.defs, y.cons, y.lams, y.nd⟩
theorem obsE_eq {n : Nat} {S : HS} {g : Addr → Option Obj} {s : Shared} (h : ∀ a, g a = s.heap.get? a) : obsE n S g = (hookE n S).obs s := by
  have e : g = s.heap.get? := funext h
  subst e
  rfl
theorem Says.kin {S : HS} {h : Heap} {g : Addr → Option Obj} {K : PySem.W.Frag} (y : Says S h g K) : K.In h := fun a o e => y.sub a o (y.fr a o e).1
/-- the tables -/
def tabT (S : HS) (g : Addr → Option Obj) (K : PySem.W.Frag) : List (Addr × Str) := S.lams.map fun x => (tabAd g K x, (x ++ ".<locals>.") ++ "<lambda>")
theorem Says.lam {S : HS} {h : Heap} {g : Addr → Option Obj} {K : PySem.W.Frag} (y : Says S h g K) {x : Str} (hx : x ∈ S.lams) :
    codeOf K (He.ga K x) = .ref (codeAd K x) ∧ PySem.W.CodeHd h (codeAd K x) (tabAd g K x) ∧ h.get? (tabAd g K x) = some { cls := .none, data := .fields #[] } ∧ K.lookup (tabAd g K x) = none := by
  obtain ⟨h1, h2, h3, o, h4, h5⟩ := lamOk_v y.sub (List.all_eq_true.mp y.lams x hx)
  refine ⟨h1, h2, h3, ?_⟩
  cases q : K.lookup (tabAd g K x) with
  | none => rfl
  | some u =>
    obtain ⟨q1, q2⟩ := y.fr _ _ q
    rw [h4] at q1; cases q1
    rw [h5] at q2; cases q2
theorem Says.uniq {S : HS} {h : Heap} {g : Addr → Option Obj} {K : PySem.W.Frag} (y : Says S h g K) {x : Str} (hx : x ∈ S.lams) : ∀ p ∈ tabT S g K, p.1 = tabAd g K x → p.2 = (x ++ ".<locals>.") ++ "<lambda>" := by
  intro p hp e
  obtain ⟨z, hz, rfl⟩ := List.mem_map.mp hp
  have e : tabAd g K z = tabAd g K x := e
  have : z = x := by
    have nd := y.nd
    obtain ⟨i, hi⟩ := List.mem_iff_getElem?.mp hz
    obtain ⟨j, hj⟩ := List.mem_iff_getElem?.mp hx
    have h1 : (S.lams.map (tabAd g K))[i]? = some (tabAd g K z) := by rw [List.getElem?_map, hi]; rfl
    have h2 : (S.lams.map (tabAd g K))[j]? = some (tabAd g K x) := by rw [List.getElem?_map, hj]; rfl
    have hij : i = j := (List.getElem?_inj (j := j) (List.getElem?_eq_some_iff.mp h1).1 nd).mp (h1.trans (by rw [e]; exact h2.symm))
    subst hij
    rw [hi] at hj
    exact Option.some.inj hj
  subst this
  rfl
/-- the heap that a law's call starts from: the script never changes, the tables are empty -/
def lawH (a : Addr) (o : Obj) (xs : List V) (Ts : List Addr) : Hp := fun b => if b = a then some (.frz o (.lst xs)) else if b ∈ Ts then some (.tbl #[]) else none
/-- the law called by its caller -/
theorem law_callG {P : Program} {w : World} {K : PySem.W.Frag} {mg mb : Str → Option Value} {k : Nat} {fa a : Addr} {Ts : List (Addr × Addr)} {fd : FuncData} {x : Str} {sp : Sp} {s1 : Shared} {us : List Value} {js : List Int}
    (kin : K.In s1.heap) (gl : s1.heap.Ns mainGlobals mg) (bl : s1.heap.Ns builtinsNs mb) (bl2 : ∀ y : Str, y ≠ "__name__" → mb y = bootBuiltins y) (lim : s1.heap.NoLimit) (gen0 : s1.gens = #[])
    (empt : ∀ p ∈ Ts, s1.heap.get? p.2 = some { cls := .none, data := .fields #[] }) (out : ∀ p ∈ Ts, K.lookup p.2 = none) (heads : ∀ p ∈ Ts, PySem.W.CodeHd s1.heap p.1 p.2)
    (bmain : ∃ (bm : Addr) (ob : Obj), mg "__builtins__" = some (.ref bm) ∧ bm ≠ builtinsNs ∧ s1.heap.get? bm = some ob ∧ ob.cls = .type "module" ∧ ob.dict = some builtinsNs ∧ ob.data = .plain)
    (hL : s1.heap.get? a = some { cls := .type "list", data := .seq us.toArray }) (hI : IntsAre us js) (hn : js.length ≤ sizeLine) (hr : Room k callerA) (nK : K.lookup a = none)
    (F : ∀ base : Heap, K.In base → base.Ns mainGlobals mg → (∀ p ∈ Ts, TabB base mg p.1 p.2) → FnG P w K mg base k fa fd [x] sp) (hbind : ∀ (s : Shared) (u : Value), BindsTo s fd ⟨[u], []⟩ [(x, u)])
    (hsp : a ∉ Ts.map (·.2) → sp [.ref a] (lawH a { cls := .type "list", data := .seq us.toArray } (js.map V.int) (Ts.map (·.2))) (fun v _ => v = .bl true) E0) :
    codeAny (model P w) callerA (.call (.ref fa) ⟨[.ref a], []⟩) (fun r s' => r = .ok (.ret (.bool true)) ∧ OldK s1.heap s'.heap ∧ s'.os = s1.os ∧ AllBare s'.gens) s1 := by
  have rv := vals_ints hI
  have isE : ∀ b ∈ Ts.map (·.2), s1.heap.get? b = some { cls := .none, data := .fields #[] } := fun b hb => by
    obtain ⟨p, hp, rfl⟩ := List.mem_map.mp hb
    exact empt p hp
  have aN : a ∉ Ts.map (·.2) := fun z => by
    have q := isE a z
    rw [hL] at q
    simp at q
  have spA := hsp aN
  revert spA
  generalize eH : lawH a { cls := .type "list", data := .seq us.toArray } (js.map V.int) (Ts.map (·.2)) = H0
  intro spA
  have at_a : H0 a = some (.frz { cls := .type "list", data := .seq us.toArray } (.lst (js.map V.int))) := by rw [← eH]; exact if_pos rfl
  have at_t : ∀ b ∈ Ts.map (·.2), H0 b = some (.tbl #[]) := fun b hb => by
    rw [← eH]
    exact (if_neg (show ¬ b = a from fun z => aN (z ▸ hb))).trans (if_pos hb)
  have at_n : ∀ b, b ≠ a → b ∉ Ts.map (·.2) → H0 b = none := fun b h1 h2 => by rw [← eH]; exact (if_neg h1).trans (if_neg h2)
  have cases3 : ∀ b, b = a ∨ b ∈ Ts.map (·.2) ∨ H0 b = none := fun b => by
    by_cases h1 : b = a
    · exact .inl h1
    · by_cases h2 : b ∈ Ts.map (·.2)
      · exact .inr (.inl h2)
      · exact .inr (.inr (at_n b h1 h2))
  have hok0 : HOk P w H0 s1.heap := fun b u e => by
    rcases cases3 b with z | z | z
    · subst z
      rw [at_a] at e; cases e
      exact ⟨hL, by rw [List.length_map]; exact hn, us, _, rv, hL⟩
    · rw [at_t b z] at e; cases e
      exact isE b z
    · rw [z] at e; cases e
  -- what is no list of the script and no table is not tracked
  have quiet : ∀ {b : Addr} {o : Obj}, s1.heap.get? b = some o → (∀ vs n, o.data ≠ .seq vs n) → o.data ≠ .fields #[] → H0 b = none := fun {b o} e h1 h2 => by
    rcases cases3 b with z | z | z
    · subst z; rw [hL] at e; cases e; exact absurd rfl (h1 _ _)
    · rw [isE b z] at e; cases e; exact absurd rfl h2
    · exact z
  have lowD : ∀ {b : Addr} {m : Str → Option Value}, s1.heap.Ns b m → (hidT s1.heap H0).Ns b m := fun {b m} ⟨o, es, ep, e, d, r⟩ =>
    ⟨o, es, ep, hidT_get e (quiet e (fun vs n z => by rw [d] at z; cases z) fun z => by rw [d] at z; cases z), d, r⟩
  have kin0 : K.In (hidT s1.heap H0) := fun b o e => hidT_get (kin b o e) (by
    rcases cases3 b with z | z | z
    · subst z; rw [nK] at e; cases e
    · obtain ⟨p, hp, rfl⟩ := List.mem_map.mp z
      rw [out p hp] at e; cases e
    · exact z)
  have md : L2.Mod K mg (hidT s1.heap H0) := ⟨kin0, lowD gl, ⟨mb, lowD bl, bl2⟩, let ⟨m, h1, h2⟩ := lim; ⟨m, lowD h1, h2⟩⟩
  have noG : ∀ {b : Addr} {o : Obj}, s1.heap.get? b = some o → (∀ es ep, o.data ≠ .dict es ep) → b ≠ mainGlobals := fun {b o} e hd z => by
    obtain ⟨o2, es, ep, e2, d2, _⟩ := gl
    rw [z, e2] at e; cases e
    exact hd _ _ d2
  have tabs0 : ∀ p ∈ Ts, TabB (hidT s1.heap H0) mg p.1 p.2 := fun p hp => by
    refine ⟨?_, ?_, fun z => noG (empt p hp) (fun _ _ q => by cases q) z.symm⟩
    · obtain ⟨o, vs, file, tf, flags, tg, inF, text, tt, g1, g2, g3, g4, rest⟩ := heads p hp
      exact ⟨o, vs, file, tf, flags, tg, inF, text, tt, hidT_get g1 (quiet g1 (fun _ _ z => by rw [g3] at z; cases z) fun z => by rw [g3] at z; cases z; simp at g4), g2, g3, g4, rest⟩
    · obtain ⟨bm, ob, q1, q2, q3, q4, q5, q6⟩ := bmain
      exact ⟨bm, ob, q1, q2, noG q3 (fun _ _ z => by rw [q6] at z; cases z), (fun z => by rw [z, empt p hp] at q3; cases q3; cases q6), hidT_get q3 (quiet q3 (fun _ _ z => by rw [q6] at z; cases z) fun z => by rw [q6] at z; cases z), q4, q5, q6⟩
  have ev0 : Env0 P w K mg (hidT s1.heap H0) callerA [] s1 H0 := ⟨rfl, md, fun b o e => of_hidT e, Nat.le_of_eq (hidT_size _ _), trivial, fun b hb => absurd (show b ∈ ([] : List Addr) from hb) (by simp), hok0, .of_eq gen0⟩
  refine codeAny_mono ((F _ kin0 (lowD gl) tabs0).run callerA [] s1 H0 ⟨[.ref a], []⟩ [.ref a] [.ref a] _ hr rfl ev0 (hbind s1 (.ref a)) (.cons rfl .nil) spA) fun r s2 fin => ?_
  cases r with
  | error e => exact False.elim fin
  | ok fl =>
    cases fl with
    | next => exact False.elim fin
    | brk => exact False.elim fin
    | cont => exact False.elim fin
    | ret u =>
      obtain ⟨v, H2, os, bare, un, hok2, rel, hv⟩ := fin
      have hv' : v = .bl true := hv
      subst hv'
      obtain rfl : u = Value.bool true := rel
      have stay : ∀ b o, b ∉ Ts.map (·.2) → s1.heap.get? b = some o → s2.heap.get? b = some o := fun b o nb e => by
        rcases cases3 b with z | z | z
        · subst z
          obtain ⟨h1, _⟩ := hok0 b _ at_a
          obtain ⟨h2, _⟩ := hok2 b _ (un.frzs b _ _ at_a)
          rw [e] at h1; cases h1
          exact h2
        · exact absurd z nb
        · exact un.keep b o e z (fun q => absurd (show b ∈ ([] : List Addr) from q) (by simp)) (by simp)
      have grew : ∀ p ∈ Ts, ∃ more : Array Value, s2.heap.get? p.2 = some { cls := .none, data := .fields more } := fun p hp => by
        obtain ⟨more, z⟩ := un.tbls p.2 #[] (at_t p.2 (List.mem_map.mpr ⟨p, hp, rfl⟩))
        exact ⟨_, hok2 p.2 _ z⟩
      refine ⟨rfl, ⟨fun b o e => ?_, fun b o e => ?_⟩, os, bare⟩
      · by_cases hb : b ∈ Ts.map (·.2)
        · obtain ⟨p, hp, rfl⟩ := List.mem_map.mp hb
          obtain ⟨more, hm⟩ := grew p hp
          rw [empt p hp] at e; cases e
          exact .inr (.inl ⟨((heads p hp).tab (empt p hp)).isCodeTable, rfl, #[], more, rfl, by rw [Array.empty_append]; exact hm⟩)
        · exact .inl (stay b o hb e)
      · by_cases hb : b ∈ Ts.map (·.2)
        · obtain ⟨p, hp, rfl⟩ := List.mem_map.mp hb
          obtain ⟨more, hm⟩ := grew p hp
          exact ⟨_, hm⟩
        · exact ⟨o, stay b o hb e⟩
theorem rds_ints {K : PySem.W.Frag} {H : Hp} {N : Addr → Prop} : ∀ js : List Int, RDs K H N (js.map PyData.int) (js.map V.int)
  | [] => rfl
  | j :: js => ⟨.int j, js.map V.int, rfl, by unfold RD; rfl, rds_ints js⟩
theorem sp_law {K : PySem.W.Frag} {T : List (Addr × Str)} {a : Addr} {o : Obj} {js : List Int} {g : FF} (hT : (T.map (·.1)).Nodup) (ha : a ∉ T.map (·.1)) (hg : g [.fz (js.map .int)] [] = some (.dat (.bool true), [])) :
    spF K T 1 g [.ref a] (lawH a o (js.map V.int) (T.map (·.1))) (fun v _ => v = .bl true) E0 := by
  refine ⟨fun _ => False, [], [.fz (js.map .int)], [], .dat (.bool true), [], rfl, rfl, (fun _ z => z.elim), by simpa using hT, fun p hp => ?_, ⟨by simp, fun n ds e => by cases e⟩, .cons ?_ .nil, hg, rfl, fun x H' _ _ _ rv => rv⟩
  · refine TabS.nil ?_
    have hm : p.1 ∈ T.map (·.1) := List.mem_map.mpr ⟨p, hp, rfl⟩
    exact (if_neg (show ¬ p.1 = a from fun z => ha (z ▸ hm))).trans (if_pos hm)
  · refine ⟨a, js.map V.int, rfl, ⟨.inr ⟨o, if_pos rfl⟩, fun z => ?_⟩, rds_ints js⟩
    rcases z with z | z
    · exact z
    · exact ha (by simpa using z)
def lawTs (S : HS) (g : Addr → Option Obj) (K : PySem.W.Frag) : List (Addr × Addr) := S.lams.map fun x => (codeAd K x, tabAd g K x)
/-- the law's row, from its def's promise and the plain law -/
theorem walk_ev {l : PySem.W.OpenLaw} {n k m : Nat} {q : Program} {loose : List Str} {XP : (Str → Option Value) → Heap → Prop} {S : HS} {d : DefRec} {x : Str} {flaw : FF}
    (hn : l.most = some n) (hn2 : n ≤ sizeLine) (hdf : d.params.defaults = []) (hr : Room k callerA)
    (F : ∀ (w : World) (mg : Str → Option Value) (fa : Addr) (h : Heap) (g : Addr → Option Obj) (K : PySem.W.Frag), Says S h g K → h.Ns mainGlobals mg → mg d.name = some (.ref fa) →
      ∃ fd : FuncData, (∀ (s : Shared) (u : Value), BindsTo s fd ⟨[u], []⟩ [(x, u)]) ∧ ∀ base : Heap, K.In base → base.Ns mainGlobals mg → (∀ p ∈ lawTs S g K, TabB base mg p.1 p.2) → FnG l.prog w K mg base k fa fd [x] (spF K (tabT S g K) 1 flaw))
    (plain : ∀ js : List Int, js.length ≤ n → (∀ z ∈ js, Builtin.Int.intBits z ≤ 1048576) → flaw [.fz (js.map .int)] [] = some (.dat (.bool true), [])) :
    PySem.W.WalkO q loose XP (hookE m S).says l.row.toRowW d [] (fun f vs => PySem.call f vs) := by
  refine Att.attach_callB hn hdf fun w s0 s1 mg mb fa o pm cd doc a us js G Y ho hd hcd hmg hobj hints hlen hbits hg => ?_
  obtain ⟨g, K, y⟩ := Y
  obtain ⟨fd, hb, hF⟩ := F w mg fa _ g K y G.T.g hmg
  have eT : (lawTs S g K).map (·.2) = S.lams.map (tabAd g K) := by unfold lawTs; rw [List.map_map]; rfl
  have eT2 : (tabT S g K).map (·.1) = S.lams.map (tabAd g K) := by unfold tabT; rw [List.map_map]; rfl
  have at_ : ∀ p ∈ lawTs S g K, ∃ z ∈ S.lams, p = (codeAd K z, tabAd g K z) := fun p hp => let ⟨z, hz, e⟩ := List.mem_map.mp hp; ⟨z, hz, e.symm⟩
  refine law_callG y.kin G.T.g G.T.b G.T.builtins G.T.nolimit hg (fun p hp => ?_) (fun p hp => ?_) (fun p hp => ?_) G.T.bmain hobj hints (Nat.le_trans hlen hn2) hr ?_ hF hb fun ha => ?_
  · obtain ⟨z, hz, rfl⟩ := at_ p hp; exact (y.lam hz).2.2.1
  · obtain ⟨z, hz, rfl⟩ := at_ p hp; exact (y.lam hz).2.2.2
  · obtain ⟨z, hz, rfl⟩ := at_ p hp; exact (y.lam hz).2.1
  · cases e : K.lookup a with
    | none => rfl
    | some ob =>
      obtain ⟨e1, e2⟩ := y.fr a ob e
      have e3 := y.sub a ob e1
      rw [hobj] at e3
      cases e3
      simp [isTabO] at e2
  · rw [eT, ← eT2]
    exact sp_law (by rw [eT2]; exact y.nd) (by rw [eT2, ← eT]; exact ha) (plain js hlen hbits)
end EV
end

section
set_option maxRecDepth 100000
set_option maxHeartbeats 4000000
namespace EV
open PySem PySem.Spec L2
open LamX (TabS Tabs ExtN CodeO TabB)

/-! ### further small rules -/
section
variable {X : Cx} {pos p p1 p2 p3 : Pos} {e : Expr} {x : Str}
def gRev : PyData → Option SV
  | .list ds => some (.own ds.reverse)
  | _ => none
theorem RDs.rev {K : PySem.W.Frag} {H : Hp} {N : Addr → Prop} : ∀ {ds : List PyData} {xs : List V}, RDs K H N ds xs → RDs K H N ds.reverse xs.reverse
  | [], _, h => by cases h; rfl
  | d :: ds, _, ⟨x, r, e, h1, h2⟩ => by
    subst e
    rw [List.reverse_cons, List.reverse_cons]
    exact h2.rev.app ⟨x, [], rfl, h1, rfl⟩
/-- xs[::-1] -/
theorem de_rev {k : Nat} {fa : FE} (ha : DE T X e fa) : DE T X (.Subscript e (.Slice none none (some (.UnaryOp .USub (.Constant (.int 1) k p1) p2)) p3) pos) (fOp1 gRev fa) :=
  PE.weak (pe_revL ha) fun σ H Q h => by
    obtain ⟨A, He, ase, ρ, st, os, as, v, st', ok, ev, q⟩ := op1_weak h
    refine ⟨A, He, ase, ρ, st, os, as, v, st', ok, ev, fun y H1 k1 ok1 r1 => ?_⟩
    obtain ⟨N, d, w, nf, rt, hg, q2⟩ := q y H1 k1 ok1 r1
    cases d with
    | list ds =>
      cases hg
      obtain ⟨a, xs, rfl, hx, rd⟩ := rt.lst
      exact ⟨a, xs, rfl, .inl (.inl hx), fun t nt => q2 _ _ (.one nt) (RG.new nt (nf t nt) rd.rev)⟩
    | _ => cases hg
/-- len(x) of a list that never changes -/
def fLenZ (i : Nat) : FE := fun ρ st => match gs ρ i with
  | .fz ds => some (.dat (.int ds.length), st)
  | _ => none
theorem de_lenZ {i : Nat} (hm : X.mg "len" = none) (hN : X.N[i]? = some x := by rfl) (hv : Vis X.env.scope x := by first | exact .inl rfl | exact .inr (.inl rfl) | exact .inr (.inr rfl)) (hg : Gl X "len" := by rfl) (hd : (x == ("__debug__" : Str)) = false := by decide) (hcd : (x == ("__classdict__" : Str)) = false := by decide)
    (hs : starEach [.Name x p2] X.env = (false, eval (.Name x p2) X.env) :: starEach [] X.env := by rfl) : DE T X (.Call (.Name "len" p) [.Name x p2] [] pos) (fLenZ i) :=
  PE.weak (pe_callB call_len hg hm (by decide +kernel) (pa_cons (pe_var hN hv hd hcd) pa_nil hs) (by decide) (by decide) hs rfl) fun σ H Q h => by
    obtain ⟨A, He, ase, ρ, st, os, as, w, st', ok, ev, q⟩ := h
    have s := ok.slot i
    unfold fLenZ at ev
    cases g : gs ρ i with
    | fz ds =>
      rw [g] at ev s
      cases ev
      obtain ⟨_, a, xs, e2, e3, r⟩ := s
      refine ⟨.ref a, gt_some e2, .ref a, xs.length, rfl, .inl ⟨xs, .inl e3.1, rfl⟩, ?_⟩
      exact q _ H .refl ok (by show RD X.K H (Nn A os as) (.int _) _; unfold RD; rw [r.len])
    | _ => rw [g] at ev; cases ev
end
section
variable {sc : Scope} {N : List Str} {mg : Str → Option Value} {pos : Pos} {x : Str}
theorem dl_conS {K : PySem.W.Frag} {z : Str} (c : ConV K mg x (.str z)) (hg : sc.names.lookup x = some .globalImplicit := by rfl) (hd : (x == ("__debug__" : Str)) = false := by decide) : DL sc N mg (.Name x pos) (fCon (.str z)) := by
  obtain ⟨u, v, e, r, k⟩ := c
  have hv : v = .str z := k (fun _ => none) (fun _ => False)
  subst hv
  obtain ⟨t, rfl⟩ := r
  exact dl_glob e (fun h => ⟨[], .str _ _⟩) hg hd
theorem dl_conI {K : PySem.W.Frag} {z : Int} (c : ConV K mg x (.int z)) (hg : sc.names.lookup x = some .globalImplicit := by rfl) (hd : (x == ("__debug__" : Str)) = false := by decide) : DL sc N mg (.Name x pos) (fCon (.int z)) := by
  obtain ⟨u, v, e, r, k⟩ := c
  have hv : v = .int z := k (fun _ => none) (fun _ => False)
  subst hv
  obtain ⟨t, rfl⟩ := r
  exact dl_glob e (fun h => ⟨[], .int _ _⟩) hg hd
end
theorem room80 {k : Nat} {A : Around} (r : Room k A) : A.units + 80 < cLine := by have := r.un; omega
section
variable {X : Cx} {pos p : Pos} {s : Stmt} {ss : List Stmt}
theorem dss_nox {F : FS} (h : DSs T X.nox ss F) : DSs T X ss F := PSs.nox h
end
end EV
end

section
set_option maxRecDepth 100000
set_option maxHeartbeats 4000000
namespace EV
open PySem PySem.Spec PySem.W L2
/-! ### max and min of a list or a tuple of any alike data -/
theorem depthAll_le {n : Nat} : ∀ {ds : List PyData}, (∀ d ∈ ds, d.depth ≤ n) → PyData.depthAll ds ≤ n
  | [], _ => by simp [PyData.depthAll]
  | d :: ds, h => by
    have h1 := h d List.mem_cons_self
    have h2 := depthAll_le (ds := ds) fun x hx => h x (List.mem_cons_of_mem _ hx)
    rw [PyData.depthAll]
    omega
theorem each_all {h : Heap} {R : Value → V × PyData → Prop} (hR : ∀ v b, R v b → ∃ as, Reads h v b.2 as) : ∀ {vs : List Value} {bs : List (V × PyData)}, EachIs R vs bs → ∃ as, ReadsAll h vs (bs.map (·.2)) as
  | _, _, .nil => ⟨[], .nil⟩
  | _, _, .cons h1 t => by
    obtain ⟨as, r⟩ := hR _ _ h1
    obtain ⟨bs, rs⟩ := each_all hR t
    exact ⟨_, .cons r rs⟩
theorem each_at {R : Value → V × PyData → Prop} : ∀ {vs : List Value} {bs : List (V × PyData)}, EachIs R vs bs → ∀ {i : Nat} {v : Value}, vs[i]? = some v → ∃ b, b ∈ bs ∧ R v b
  | _, _, .cons h1 t, 0, v, e => by
    simp at e
    subst e
    exact ⟨_, List.mem_cons_self, h1⟩
  | _, _, .cons h1 t, i + 1, v, e => by
    obtain ⟨b, m, r⟩ := each_at t (i := i) (by simpa using e)
    exact ⟨b, List.mem_cons_of_mem _ m, r⟩
def mmOk (ds : List PyData) : Bool := (ds.all fun k => k.canLay0 && decide (k.depth ≤ 60)) && ((ds.all fun a => ds.all fun b => alike a b) && ds.all fun k => match k with | .none => false | _ => true)
theorem mmOk_alike {ds : List PyData} (h : mmOk ds = true) : AlikeAll ds := by
  unfold mmOk at h
  rw [Bool.and_eq_true, Bool.and_eq_true] at h
  refine ⟨fun x hx y hy => List.all_eq_true.mp (List.all_eq_true.mp h.2.1 x hx) y hy, fun x hx e => ?_⟩
  have := List.all_eq_true.mp h.2.2 x hx
  subst e
  cases this
theorem mmOk_lay {ds : List PyData} (h : mmOk ds = true) {d : PyData} (hd : d ∈ ds) : d.canLay0 = true ∧ d.depth ≤ 60 := by
  unfold mmOk at h
  rw [Bool.and_eq_true] at h
  have := List.all_eq_true.mp h.1 d hd
  rw [Bool.and_eq_true, decide_eq_true_eq] at this
  exact this
def seqOfD : PyData → Option (List PyData)
  | .list ds => some ds
  | .tuple ds => some ds
  | _ => none
def gBest (f : PyData → List PyData → PyData) (d : PyData) : Option SV := match seqOfD d with
  | some (x :: xs) => if mmOk (x :: xs) = true then some (.dat (f x xs)) else none
  | _ => none
def gMaxU (ds : List PyData) : Option SV := match gMax ds with
  | some w => some w
  | none => match ds with
    | [d] => gBest maxD d
    | _ => none
def gMinU (ds : List PyData) : Option SV := match gMin ds with
  | some w => some w
  | none => match ds with
    | [d] => gBest minD d
    | _ => none
section
variable {X : Cx} {s : Shared} {pins : List (Addr × Obj)} {σ : L2.St} {H : Hp}
/-- the item that comes out stands for its datum -/
theorem best_item {N : Addr → Prop} {xs : List V} {ds : List PyData} {its : List Value} {i : Nat} {v : Value} {h' : Heap} {bs : List Addr} {m : PyData} (I : Inv X pins σ H s) (rds : RDs X.K H N ds xs) (rv : Vals xs its) (hz : ∀ d ∈ ds, d.canLay0 = true)
    (hi : its[i]? = some v) (hr : Reads h' v m bs) (hk : ∀ b o, s.heap.get? b = some o → h'.get? b = some o) : ∃ x, RelV x v ∧ RD X.K H N m x := by
  obtain ⟨ps, b1, b2, b3, b4⟩ := pair_rows (R := fun v x d => RelV x v ∧ ∃ as, Reads s.heap v d as) rds rv fun d hd x v rxv rd => ⟨rxv, Dp.reads I _ _ _ (rd.dp (hz d hd)) rxv⟩
  obtain ⟨b, mb, r1, as, r2⟩ := each_at b1 hi
  have hb : b.2 ∈ ds := by rw [← b3]; exact List.mem_map.mpr ⟨b, mb, rfl⟩
  have e : b.2 = m := (Reads.unique (reads_keeps hk r2) m bs hr).1
  exact ⟨b.1, r1, by rw [← e]; exact b4 b mb⟩
theorem all_reads {N : Addr → Prop} {xs : List V} {ds : List PyData} {its : List Value} (I : Inv X pins σ H s) (rds : RDs X.K H N ds xs) (rv : Vals xs its) (hz : ∀ d ∈ ds, d.canLay0 = true) : ∃ as, ReadsAll s.heap its ds as := by
  obtain ⟨ps, b1, b2, b3, b4⟩ := pair_rows (R := fun v x d => RelV x v ∧ ∃ as, Reads s.heap v d as) rds rv fun d hd x v rxv rd => ⟨rxv, Dp.reads I _ _ _ (rd.dp (hz d hd)) rxv⟩
  rw [← b3]
  exact each_all (fun _ _ h => h.2) b1
theorem b_maxU (hc : X.calm = true) (hu : X.A.units + 80 < cLine) : CallR X (.builtin "max") (RC X.K gMaxU) := by
  intro pins s σ H vs us Q I r h
  obtain ⟨N, ds, w, nf, rd, eg, q⟩ := h
  unfold gMaxU at eg
  split at eg
  · rename_i w' e
    cases eg
    exact b_max hc pins s σ H vs us Q I r ⟨N, ds, w, nf, rd, e, q⟩
  · split at eg
    · rename_i d _
      obtain ⟨x, rfl, rt⟩ := rts1 rd
      match d, eg, rt with
      | .list [], eg, rt => cases eg
      | .tuple [], eg, rt => cases eg
      | .list (y :: ys), eg, rt =>
        have eg' : (if mmOk (y :: ys) = true then some (SV.dat (maxD y ys)) else none) = some w := eg
        have hz : mmOk (y :: ys) = true := by
          by_cases z : mmOk (y :: ys) = true
          · exact z
          · rw [if_neg z] at eg'; cases eg'
        rw [if_pos hz] at eg'
        cases eg'
        obtain ⟨a, xs, rfl, hxs, rds⟩ := rt.lst
        obtain ⟨its, rv, pl, _⟩ := I.list (.inl (.inl hxs))
        rw [Vals.ref1 r]
        obtain ⟨as, ra⟩ := all_reads I rds rv fun d hd => (mmOk_lay hz hd).1
        have dp := depthAll_le (n := 60) fun d hd => (mmOk_lay hz hd).2
        refine max_list_data (I.ok.hd hc) pl.isList ra (mmOk_alike hz) (by omega) fun i v h' tk bs hi hr hk => ?_
        obtain ⟨z, rz, dz⟩ := best_item I rds rv (fun d hd => (mmOk_lay hz hd).1) (by simpa using hi) hr hk
        exact ⟨z, H, I.kept hk, rz, q _ H .refl dz⟩
      | .tuple (y :: ys), eg, rt =>
        have eg' : (if mmOk (y :: ys) = true then some (SV.dat (maxD y ys)) else none) = some w := eg
        have hz : mmOk (y :: ys) = true := by
          by_cases z : mmOk (y :: ys) = true
          · exact z
          · rw [if_neg z] at eg'; cases eg'
        rw [if_pos hz] at eg'
        cases eg'
        obtain ⟨a, xs, rfl, h1, rds⟩ := rt.tup
        obtain ⟨its, rv, pl, _⟩ := I.tuple h1.sq
        rw [Vals.ref1 r]
        obtain ⟨as, ra⟩ := all_reads I rds rv fun d hd => (mmOk_lay hz hd).1
        have dp := depthAll_le (n := 60) fun d hd => (mmOk_lay hz hd).2
        refine max_tuple_data (I.ok.hd hc) pl ra (mmOk_alike hz) (by omega) fun i v h' tk bs hi hr hk => ?_
        obtain ⟨z, rz, dz⟩ := best_item I rds rv (fun d hd => (mmOk_lay hz hd).1) (by simpa using hi) hr hk
        exact ⟨z, H, I.kept hk, rz, q _ H .refl dz⟩
    · cases eg
theorem b_minU (hc : X.calm = true) (hu : X.A.units + 80 < cLine) : CallR X (.builtin "min") (RC X.K gMinU) := by
  intro pins s σ H vs us Q I r h
  obtain ⟨N, ds, w, nf, rd, eg, q⟩ := h
  unfold gMinU at eg
  split at eg
  · rename_i w' e
    cases eg
    exact b_min hc pins s σ H vs us Q I r ⟨N, ds, w, nf, rd, e, q⟩
  · split at eg
    · rename_i d _
      obtain ⟨x, rfl, rt⟩ := rts1 rd
      match d, eg, rt with
      | .list [], eg, rt => cases eg
      | .tuple [], eg, rt => cases eg
      | .list (y :: ys), eg, rt =>
        have eg' : (if mmOk (y :: ys) = true then some (SV.dat (minD y ys)) else none) = some w := eg
        have hz : mmOk (y :: ys) = true := by
          by_cases z : mmOk (y :: ys) = true
          · exact z
          · rw [if_neg z] at eg'; cases eg'
        rw [if_pos hz] at eg'
        cases eg'
        obtain ⟨a, xs, rfl, hxs, rds⟩ := rt.lst
        obtain ⟨its, rv, pl, _⟩ := I.list (.inl (.inl hxs))
        rw [Vals.ref1 r]
        obtain ⟨as, ra⟩ := all_reads I rds rv fun d hd => (mmOk_lay hz hd).1
        have dp := depthAll_le (n := 60) fun d hd => (mmOk_lay hz hd).2
        refine min_list_data (I.ok.hd hc) pl.isList ra (mmOk_alike hz) (by omega) fun i v h' tk bs hi hr hk => ?_
        obtain ⟨z, rz, dz⟩ := best_item I rds rv (fun d hd => (mmOk_lay hz hd).1) (by simpa using hi) hr hk
        exact ⟨z, H, I.kept hk, rz, q _ H .refl dz⟩
      | .tuple (y :: ys), eg, rt =>
        have eg' : (if mmOk (y :: ys) = true then some (SV.dat (minD y ys)) else none) = some w := eg
        have hz : mmOk (y :: ys) = true := by
          by_cases z : mmOk (y :: ys) = true
          · exact z
          · rw [if_neg z] at eg'; cases eg'
        rw [if_pos hz] at eg'
        cases eg'
        obtain ⟨a, xs, rfl, h1, rds⟩ := rt.tup
        obtain ⟨its, rv, pl, _⟩ := I.tuple h1.sq
        rw [Vals.ref1 r]
        obtain ⟨as, ra⟩ := all_reads I rds rv fun d hd => (mmOk_lay hz hd).1
        have dp := depthAll_le (n := 60) fun d hd => (mmOk_lay hz hd).2
        refine min_tuple_data (I.ok.hd hc) pl ra (mmOk_alike hz) (by omega) fun i v h' tk bs hi hr hk => ?_
        obtain ⟨z, rz, dz⟩ := best_item I rds rv (fun d hd => (mmOk_lay hz hd).1) (by simpa using hi) hr hk
        exact ⟨z, H, I.kept hk, rz, q _ H .refl dz⟩
    · cases eg
end
end EV
end

section
set_option maxRecDepth 100000
set_option maxHeartbeats 4000000
namespace Q
open PySem PySem.Spec PyProof.Rows L2 EV
noncomputable def e__law_cells : FS := (fRet (fLstR (fR1 (fCB gMax (fCons (fCon (.int 1)) (fCons (fCB gMin (fCons (fVar 1) (fCons (fLenZ 0) fNil))) fNil))))))
noncomputable def g__law_cells : FF := fnOf 2 2 e__law_cells

noncomputable def e__law_pot : FS := (fSeq (fSet 2 (fIte (fTst (fOp2 gLt (fVar 1) (fLenZ 0))) (fIxZ 0 (fVar 1)) (fOp2 gAdd (fOp2 gAdd (fOp2 gMod (fCB gSum (fCons (fSlZ 0 fNo (fPart (fCon (.int 1)))) fNil)) (fCon (.int 1000667))) (fOp2 gMulX (fCon (.int 4289)) (fVar 1))) (fCon (.int 641)))))
    (fSeq (fSet 3 (fOp2 gMulX (fOp2 gMod (fCB gInt (fCons (fCB gAbs (fCons (fVar 2) fNil)) fNil)) (fOp2 gPow (fOp2 gPow (fCon (.int 10)) (fCon (.int 60))) (fCon (.int 5)))) (fCB gInt (fCons (fOp2 gGe (fCB gAbs (fCons (fVar 2) fNil)) (fOp2 gPow (fCon (.int 10)) (fCon (.int 18)))) fNil))))
    (fSeq (fSet 4 (fOp2 gMod (fCB gInt (fCons (fVar 2) fNil)) (fCon (.int 2305843009213693951))))
    (fRet (fLst (fCons (fVar 3) (fCons (fOp2 gMod (fCB gInt (fCons (fOp2 gAdd (fOp2 gAdd (fOp2 gMulX (fVar 4) (fCon (.int 35141))) (fOp2 gMulX (fOp2 gMulX (fCon (.int 8219)) (fVar 1)) (fVar 1))) (fCon (.int 1289))) fNil)) (fCon (.int 2305843009213693921))) (fCons (fCon (.int 0)) fNil))))))))
noncomputable def g__law_pot : FF := fnOf 2 5 e__law_pot

noncomputable def e__law_take : FS := (fSeq (fIf (fTst (fOp2 gGt (fOp2 gIx (fVar 0) (fCon (.int 0))) (fCon (.int 0)))) (fSeq (fSet 2 (fOp2 gMod (fCB gInt (fCons (fOp2 gIx (fVar 0) (fCon (.int 0))) fNil)) (fVar 1)))
    (fSeq (fAsg (gsSub 0 (fCon (.int 0))) (fOp2 gFdiv (fOp2 gIx (fVar 0) (fCon (.int 0))) (fVar 1)))
    (fRet (fVar 2)))) fNx)
    (fSeq (fAsg (gsSub 0 (fCon (.int 2))) (fOp2 gAdd (fOp2 gIx (fVar 0) (fCon (.int 2))) (fCon (.int 1))))
    (fSeq (fSet 3 (fOp2 gIx (fLst (fCons (fCon (.int 2147480527)) (fCons (fCon (.int 2147480509)) (fCons (fCon (.int 2147480491)) (fCons (fCon (.int 2147480471)) (fCons (fCon (.int 2147480467)) fNil)))))) (fOp2 gMod (fCB gInt (fCons (fOp2 gIx (fVar 0) (fCon (.int 2))) fNil)) (fCon (.int 5)))))
    (fSeq (fSet 4 (fOp2 gMod (fCB gInt (fCons (fOp2 gPow (fCB gInt (fCons (fOp2 gAdd (fOp2 gAdd (fOp2 gIx (fVar 0) (fCon (.int 1))) (fOp2 gMulX (fOp2 gMulX (fCon (.int 41017)) (fOp2 gIx (fVar 0) (fCon (.int 2)))) (fOp2 gIx (fVar 0) (fCon (.int 2))))) (fCon (.int 2399))) fNil)) (fCon (.int 3))) fNil)) (fVar 3)))
    (fSeq (fSet 4 (fOp2 gMod (fCB gInt (fCons (fOp2 gMulX (fVar 4) (fOp2 gAdd (fOp2 gMod (fCB gInt (fCons (fVar 4) fNil)) (fCon (.int 7351))) (fOp2 gMulX (fCon (.int 367)) (fOp2 gIx (fVar 0) (fCon (.int 2)))))) fNil)) (fCon (.int 2305843009213693907))))
    (fRet (fOp2 gMod (fCB gInt (fCons (fOp2 gFdiv (fVar 4) (fCon (.int 149))) fNil)) (fVar 1))))))))
noncomputable def g__law_take : FF := fnOf 2 5 e__law_take

noncomputable def e__law_of : FS := (fRet (fOp2 gIx (fVar 1) (fCall g__law_take (fCons (fVar 0) (fCons (fCB gLen (fCons (fVar 1) fNil)) fNil)))))
noncomputable def g__law_of : FF := fnOf 2 2 e__law_of

noncomputable def e__law_sharing : FS := (fRet (fTup (fCons (fCall g__law_of (fCons (fVar 0) (fCons (fLst (fCons (fCon (.int 0)) (fCons (fCon (.int 0)) (fCons (fCon (.int 0)) (fCons (fCon (.int 1)) (fCons (fCon (.int 2)) (fCons (fCon (.int 3)) (fCons (fCon (.int 9)) fNil)))))))) fNil))) (fCons (fCall g__law_of (fCons (fVar 0) (fCons (fLst (fCons (fCon (.str "none")) (fCons (fCon (.str "none")) (fCons (fCon (.str "parts")) fNil)))) fNil))) (fCons (fCall g__law_of (fCons (fVar 0) (fCons (fLst (fCons (fCon (.str "time")) (fCons (fCon (.str "late")) (fCons (fCon (.str "size")) (fCons (fCon (.str "even")) fNil))))) fNil))) fNil)))))
noncomputable def g__law_sharing : FF := fnOf 1 1 e__law_sharing

noncomputable def e__law_even : FS := (fSeq (fSetO 2 (fOp2 gMulX (fLst (fCons (fCon (.int 0)) fNil)) (fCB gLen (fCons (fVar 0) fNil))))
    (fSeq (fWhile (fAndT (fTst (fOp2 gGt (fVar 1) (fCon (.int 0)))) (fTst (fOp2 gNe (fVar 2) (fCB gList (fCons (fVar 0) fNil))))) (fSeq (fSet 3 (fComp [5, 6] (fEnum true (fVar 0)) (tTup 2 (tCons (tName 5) (tCons (tName 6) tNil))) (fTst (fOp2 gGt (fVar 6) (fOp2 gIx (fVar 2) (fVar 5)))) (fVar 5)))
    (fSeq (fSet 4 (fCB gMin (fCons (fOp2 gAdd (fLst (fCons (fOp2 gFdiv (fVar 1) (fCB gLen (fCons (fVar 3) fNil))) fNil)) (fComp [5] (fItS true (fVar 3)) (tName 5) fYes (fOp2 gSub (fOp2 gIx (fVar 0) (fVar 5)) (fOp2 gIx (fVar 2) (fVar 5))))) fNil)))
    (fFor (fItS false (fIte (fTst (fOp2 gGt (fVar 4) (fCon (.int 0)))) (fVar 3) (fSl (fVar 3) fNo (fPart (fVar 1))))) (tName 5) (fSeq (fAsg (gsSub 2 (fVar 5)) (fOp2 gAdd (fOp2 gIx (fVar 2) (fVar 5)) (fCB gMax (fCons (fCon (.int 1)) (fCons (fVar 4) fNil)))))
    (fSet 1 (fOp2 gSub (fVar 1) (fCB gMax (fCons (fCon (.int 1)) (fCons (fVar 4) fNil))))))))))
    (fRetO 2)))
noncomputable def g__law_even : FF := fnOf 2 7 e__law_even

noncomputable def e__law_passes : FS := (fSeq (fAsg (gsTup 3 (gsCons (gsName 3) (gsCons (gsName 4) (gsCons (gsName 5) gsNil)))) (fVar 0))
    (fSeq (fAsg (gsTup 2 (gsCons (gsName 2) (gsCons (gsName 6) gsNil))) (fTup (fCons (fCB gMin (fCons (fVar 2) (fCons (fCB gSum (fCons (fVar 1) fNil)) fNil))) (fCons (fCB gList (fCons (fVar 1) fNil)) fNil))))
    (fSeq (fSetO 7 (fLst fNil))
    (fSeq (fFor (fRange1 (fCon (.int 3))) (tName 8) (fSeq (fSetO 9 (fOp2 gMulX (fLst (fCons (fCon (.int 0)) fNil)) (fCB gLen (fCons (fVar 6) fNil))))
    (fSeq (fIf (fAndT (fTst (fOp2 gEq (fVar 8) (fCon (.int 0)))) (fTst (fOp2 gNe (fVar 6) (fLst fNil)))) (fAsg (gsSub 9 (fCon (.int 0))) (fCB gMin (fCons (fVar 3) (fCons (fOp2 gIx (fVar 6) (fCon (.int 0))) (fCons (fVar 2) fNil))))) (fIf (fAndT (fTst (fOp2 gEq (fVar 8) (fCon (.int 1)))) (fAndT (fTst (fOp2 gEq (fVar 4) (fCon (.str "parts")))) (fTst (fOp2 gGt (fCB gSum (fCons (fVar 6) fNil)) (fCon (.int 0)))))) (fSetO 9 (fComp [11] (fItS true (fVar 6)) (tName 11) fYes (fOp2 gFdiv (fOp2 gMulX (fVar 2) (fVar 11)) (fCB gSum (fCons (fVar 6) fNil))))) (fIf (fAndT (fTst (fOp2 gEq (fVar 8) (fCon (.int 2)))) (fTst (fOp2 gEq (fVar 5) (fCon (.str "even"))))) (fSetO 9 (fCall g__law_even (fCons (fVar 6) (fCons (fVar 2) fNil)))) (fIf (fTst (fOp2 gEq (fVar 8) (fCon (.int 2)))) (fSeq (fSet 10 (fIte (fTst (fOp2 gEq (fVar 5) (fCon (.str "size")))) (fSortKR 12 [1] (fR1 (fCB gLen (fCons (fVar 1) fNil))) (fTup (fCons (fOp1 gNeg (fOp2 gIxI (fVar 1) (fVar 12))) (fCons (fVar 12) fNil)))) (fLstR (fR1 (fCB gLen (fCons (fVar 1) fNil))))))
    (fSeq (fSet 11 (fVar 2))
    (fFor (fItS false (fIte (fTst (fOp2 gEq (fVar 5) (fCon (.str "late")))) (fOp1 gRev (fVar 10)) (fVar 10))) (tName 12) (fSeq (fAsg (gsSub 9 (fVar 12)) (fCB gMin (fCons (fOp2 gIx (fVar 6) (fVar 12)) (fCons (fVar 11) fNil))))
    (fSet 11 (fOp2 gSub (fVar 11) (fOp2 gIx (fVar 9) (fVar 12)))))))) fNx))))
    (fSeq (fFrz 9 (fApp 7 (fVar 9)))
    (fAsg (gsTup 2 (gsCons (gsName 6) (gsCons (gsName 2) gsNil))) (fTup (fCons (fComp [11, 13] (fZip true (fVar 6) (fVar 9)) (tTup 2 (tCons (tName 11) (tCons (tName 13) tNil))) fYes (fOp2 gSub (fVar 11) (fVar 13))) (fCons (fOp2 gSub (fVar 2) (fCB gSum (fCons (fVar 9) fNil))) fNil))))))))
    (fRetO 7)))))
noncomputable def g__law_passes : FF := fnOf 3 14 e__law_passes

noncomputable def e_is_word : FS := (fRet (fAnd (fIsi "str" (fVar 0)) (fOp2 gIn (fVar 0) (fVar 1))))
noncomputable def g_is_word : FF := fnOf 2 2 e_is_word

noncomputable def e_is_tuple_of : FS := (fRet (fAnd (fIsi "tuple" (fVar 0)) (fOp2 gEq (fCB gLen (fCons (fVar 0) fNil)) (fVar 1))))
noncomputable def g_is_tuple_of : FF := fnOf 2 2 e_is_tuple_of

noncomputable def e_is_integer : FS := (fRet (fAnd (fIsi "int" (fVar 0)) (fNot (fIsi "bool" (fVar 0)))))
noncomputable def g_is_integer : FF := fnOf 1 1 e_is_integer

noncomputable def e_is_between : FS := (fRet (fAnd (fCall g_is_integer (fCons (fVar 0) fNil)) (fChain gLe gLe (fVar 1) (fVar 0) (fVar 2))))
noncomputable def g_is_between : FF := fnOf 3 3 e_is_between

noncomputable def e_is_sharing_6126 : FS := (fSeq (fIf (fOrT (fNotT (fTst (fCall g_is_tuple_of (fCons (fVar 0) (fCons (fCon (.int 3)) fNil))))) (fNotT (fTst (fCall g_is_between (fCons (fOp2 gIx (fVar 0) (fCon (.int 0))) (fCons (fCon (.int 0)) (fCons (fCon (.int 9)) fNil))))))) (fRet (fCon (.bool false))) fNx)
    (fRet (fAnd (fCall g_is_word (fCons (fOp2 gIx (fVar 0) (fCon (.int 1))) (fCons (fTup (fCons (fCon (.str "none")) (fCons (fCon (.str "parts")) fNil))) fNil))) (fCall g_is_word (fCons (fOp2 gIx (fVar 0) (fCon (.int 2))) (fCons (fCon (.tuple [(.str "time"), (.str "late"), (.str "size"), (.str "even")])) fNil))))))
noncomputable def g_is_sharing_6126 : FF := fnOf 1 1 e_is_sharing_6126

noncomputable def e_check_sharing_aa47 : FS := (fIf (fNotT (fTst (fCall g_is_sharing_6126 (fCons (fVar 0) fNil)))) fNever fNx)
noncomputable def g_check_sharing_aa47 : FF := fnOf 1 1 e_check_sharing_aa47

noncomputable def e_are_between : FS := (fRet (fAnd (fIsi "tuple" (fVar 0)) (fCB gAll (fCons (fComp [3] (fItS true (fVar 0)) (tName 3) fYes (fCall g_is_between (fCons (fVar 3) (fCons (fVar 1) (fCons (fVar 2) fNil))))) fNil))))
noncomputable def g_are_between : FF := fnOf 3 4 e_are_between

noncomputable def e_check_sizes : FS := (fIf (fOrT (fNotT (fTst (fCall g_are_between (fCons (fVar 0) (fCons (fCon (.int 1)) (fCons (fCon (.int 1000000)) fNil)))))) (fTst (fOp2 gGt (fCB gLen (fCons (fVar 0) fNil)) (fCon (.int 40))))) fNever fNx)
noncomputable def g_check_sizes : FF := fnOf 1 1 e_check_sizes

noncomputable def e_check_shared_f9d6 : FS := (fSeq (fExpr (fCall g_check_sharing_aa47 (fCons (fVar 0) fNil)))
    (fSeq (fExpr (fCall g_check_sizes (fCons (fVar 1) fNil)))
    (fIf (fNotT (fTst (fCall g_is_between (fCons (fVar 2) (fCons (fCon (.int 0)) (fCons (fCon (.int 1000000000)) fNil)))))) fNever fNx)))
noncomputable def g_check_shared_f9d6 : FF := fnOf 3 3 e_check_shared_f9d6

noncomputable def e_by_first : FS := (fSeq (fIf (fTst (fOp2 gEq (fVar 1) (fTup fNil))) (fRet (fLst fNil)) fNx)
    (fRet (fOp2 gAdd (fLst (fCons (fCB gMin (fCons (fVar 0) (fCons (fOp2 gIx (fVar 1) (fCon (.int 0))) (fCons (fVar 2) fNil)))) fNil)) (fOp2 gMulX (fLst (fCons (fCon (.int 0)) fNil)) (fOp2 gSub (fCB gLen (fCons (fVar 1) fNil)) (fCon (.int 1)))))))
noncomputable def g_by_first : FF := fnOf 3 3 e_by_first

noncomputable def e_by_parts : FS := (fSeq (fSet 2 (fCB gSum (fCons (fVar 0) fNil)))
    (fRet (fIte (fTst (fOp2 gGt (fVar 2) (fCon (.int 0)))) (fComp [3] (fItS true (fVar 0)) (tName 3) fYes (fOp2 gFdiv (fOp2 gMulX (fVar 1) (fVar 3)) (fVar 2))) (fOp2 gMulX (fLst (fCons (fCon (.int 0)) fNil)) (fCB gLen (fCons (fVar 0) fNil))))))
noncomputable def g_by_parts : FF := fnOf 2 4 e_by_parts

noncomputable def e_sequence_of : FS := (fSeq (fSet 2 (fLstR (fR1 (fCB gLen (fCons (fVar 1) fNil)))))
    (fSeq (fIf (fTst (fOp2 gEq (fVar 0) (fCon (.str "late")))) (fRet (fOp1 gRev (fVar 2))) fNx)
    (fRet (fIte (fTst (fOp2 gEq (fVar 0) (fCon (.str "size")))) (fSortK 3 [1] (fVar 2) (fTup (fCons (fOp2 gSubI (fCon (.int 0)) (fOp2 gIxI (fVar 1) (fVar 3))) (fCons (fVar 3) fNil)))) (fVar 2)))))
noncomputable def g_sequence_of : FF := fnOf 2 4 e_sequence_of

noncomputable def e_full_rounds : FS := (fSeq (fPar 2 3 (fCons (fCon (.int 0)) (fCons (fCB gMax (fCons (fLst (fCons (fCon (.int 0)) (fStar (fVar 0) fNil))) fNil)) fNil)))
    (fSeq (fWhile (fTst (fOp2 gLt (fVar 2) (fVar 3))) (fSeq (fSet 4 (fOp2 gFdiv (fOp2 gAdd (fOp2 gAdd (fVar 2) (fVar 3)) (fCon (.int 1))) (fCon (.int 2))))
    (fIf (fTst (fOp2 gLe (fCB gSum (fCons (fComp [5] (fItS true (fVar 0)) (tName 5) fYes (fCB gMin (fCons (fVar 5) (fCons (fVar 4) fNil)))) fNil)) (fVar 1))) (fSet 2 (fVar 4)) (fSet 3 (fOp2 gSub (fVar 4) (fCon (.int 1)))))))
    (fRet (fVar 2))))
noncomputable def g_full_rounds : FF := fnOf 2 6 e_full_rounds

noncomputable def e_by_turns : FS := (fSeq (fSet 2 (fCall g_full_rounds (fCons (fVar 0) (fCons (fVar 1) fNil))))
    (fSeq (fSetO 3 (fComp [6] (fItS true (fVar 0)) (tName 6) fYes (fCB gMin (fCons (fVar 6) (fCons (fVar 2) fNil)))))
    (fSeq (fSet 4 (fOp2 gSub (fVar 1) (fCB gSum (fCons (fVar 3) fNil))))
    (fSeq (fFor (fEnum false (fVar 0)) (tTup 2 (tCons (tName 5) (tCons (tName 6) tNil))) (fIf (fAndT (fTst (fOp2 gGt (fVar 4) (fCon (.int 0)))) (fTst (fOp2 gGt (fVar 6) (fOp2 gIx (fVar 3) (fVar 5))))) (fAsg (gsTup 2 (gsCons (gsSub 3 (fVar 5)) (gsCons (gsName 4) gsNil))) (fTup (fCons (fOp2 gAdd (fOp2 gIx (fVar 3) (fVar 5)) (fCon (.int 1))) (fCons (fOp2 gSub (fVar 4) (fCon (.int 1))) fNil)))) fNx))
    (fRetO 3)))))
noncomputable def g_by_turns : FF := fnOf 2 7 e_by_turns

noncomputable def e_by_rest : FS := (fSeq (fIf (fTst (fOp2 gEq (fVar 0) (fCon (.str "even")))) (fRet (fCall g_by_turns (fCons (fVar 2) (fCons (fVar 3) fNil)))) fNx)
    (fSeq (fSetO 4 (fOp2 gMulX (fLst (fCons (fCon (.int 0)) fNil)) (fCB gLen (fCons (fVar 2) fNil))))
    (fSeq (fFor (fItS false (fCall g_sequence_of (fCons (fVar 0) (fCons (fVar 1) fNil)))) (tName 5) (fSeq (fAsg (gsSub 4 (fVar 5)) (fCB gMin (fCons (fOp2 gIx (fVar 2) (fVar 5)) (fCons (fVar 3) fNil))))
    (fSet 3 (fOp2 gSub (fVar 3) (fOp2 gIx (fVar 4) (fVar 5))))))
    (fRetO 4))))
noncomputable def g_by_rest : FF := fnOf 4 6 e_by_rest

noncomputable def e_rows_of : FS := (fSeq (fAsg (gsTup 3 (gsCons (gsName 3) (gsCons (gsName 4) (gsCons (gsName 5) gsNil)))) (fVar 0))
    (fSeq (fSet 2 (fCB gMin (fCons (fVar 2) (fCons (fCB gSum (fCons (fVar 1) fNil)) fNil))))
    (fSeq (fSet 6 (fCall g_by_first (fCons (fVar 3) (fCons (fVar 1) (fCons (fVar 2) fNil)))))
    (fSeq (fSet 7 (fComp [9, 10] (fZip true (fVar 1) (fVar 6)) (tTup 2 (tCons (tName 9) (tCons (tName 10) tNil))) fYes (fOp2 gSub (fVar 9) (fVar 10))))
    (fSeq (fSet 2 (fOp2 gSub (fVar 2) (fCB gSum (fCons (fVar 6) fNil))))
    (fSeq (fSet 8 (fIte (fTst (fOp2 gEq (fVar 4) (fCon (.str "parts")))) (fCall g_by_parts (fCons (fVar 7) (fCons (fVar 2) fNil))) (fOp2 gMulX (fLst (fCons (fCon (.int 0)) fNil)) (fCB gLen (fCons (fVar 7) fNil)))))
    (fSeq (fSet 7 (fComp [11, 10] (fZip true (fVar 7) (fVar 8)) (tTup 2 (tCons (tName 11) (tCons (tName 10) tNil))) fYes (fOp2 gSub (fVar 11) (fVar 10))))
    (fRet (fTup (fCons (fVar 6) (fCons (fVar 8) (fCons (fCall g_by_rest (fCons (fVar 5) (fCons (fVar 1) (fCons (fVar 7) (fCons (fOp2 gSub (fVar 2) (fCB gSum (fCons (fVar 8) fNil))) fNil))))) fNil))))))))))))
noncomputable def g_rows_of : FF := fnOf 3 12 e_rows_of

noncomputable def e_shared : FS := (fSeq (fAsg (gsTup 3 (gsCons (gsName 3) (gsCons (gsName 4) (gsCons (gsName 5) gsNil)))) (fCall g_rows_of (fCons (fVar 0) (fCons (fVar 1) (fCons (fVar 2) fNil)))))
    (fRet (fComp [6, 7, 8] (fZip3 true (fVar 3) (fVar 4) (fVar 5)) (tTup 3 (tCons (tName 6) (tCons (tName 7) (tCons (tName 8) tNil)))) fYes (fOp2 gAdd (fOp2 gAdd (fVar 6) (fVar 7)) (fVar 8)))))
noncomputable def g_shared : FF := fnOf 3 9 e_shared

noncomputable def e_share_of_5abc : FS := (fSeq (fExpr (fCall g_check_shared_f9d6 (fCons (fVar 0) (fCons (fVar 1) (fCons (fVar 2) fNil)))))
    (fRet (fCB gTuple (fCons (fCall g_shared (fCons (fVar 0) (fCons (fVar 1) (fCons (fVar 2) fNil)))) fNil))))
noncomputable def g_share_of_5abc : FF := fnOf 3 3 e_share_of_5abc

noncomputable def e__law_shared : FS := (fSeq (fSet 3 (fCall g__law_passes (fCons (fVar 0) (fCons (fVar 1) (fCons (fVar 2) fNil)))))
    (fRet (fComp [4, 5, 6] (fZip3 true (fOp2 gIx (fVar 3) (fCon (.int 0))) (fOp2 gIx (fVar 3) (fCon (.int 1))) (fOp2 gIx (fVar 3) (fCon (.int 2)))) (tTup 3 (tCons (tName 4) (tCons (tName 5) (tCons (tName 6) tNil)))) fYes (fOp2 gAdd (fOp2 gAdd (fVar 4) (fVar 5)) (fVar 6)))))
noncomputable def g__law_shared : FF := fnOf 3 7 e__law_shared

noncomputable def e_share_rows : FS := (fSeq (fExpr (fCall g_check_shared_f9d6 (fCons (fVar 0) (fCons (fVar 1) (fCons (fVar 2) fNil)))))
    (fRet (fCB gTuple (fCons (fComp [3] (fItS true (fCall g_rows_of (fCons (fVar 0) (fCons (fVar 1) (fCons (fVar 2) fNil))))) (tName 3) fYes (fCB gTuple (fCons (fVar 3) fNil))) fNil))))
noncomputable def g_share_rows : FF := fnOf 3 4 e_share_rows

noncomputable def e__law_right_06fe : FS := (fSeq (fAsg (gsTup 2 (gsCons (gsName 1) (gsCons (gsName 2) gsNil))) (fTup (fCons (fCall g__law_sharing (fCons (fVar 0) fNil)) (fCons (fCall g__law_of (fCons (fVar 0) (fCons (fLst (fCons (fCon (.int 3)) (fCons (fCon (.int 9)) (fCons (fCon (.int 1000)) (fCons (fOp2 gPow (fCon (.int 10)) (fCon (.int 6))) fNil))))) fNil))) fNil))))
    (fSeq (fSet 3 (fCall g__law_of (fCons (fVar 0) (fCons (fLst (fCons (fCall g__law_take (fCons (fVar 0) (fCons (fCon (.int 6)) fNil))) (fCons (fCall g__law_take (fCons (fVar 0) (fCons (fCon (.int 6)) fNil))) (fCons (fCall g__law_take (fCons (fVar 0) (fCons (fCon (.int 41)) fNil))) fNil)))) fNil))))
    (fSeq (fSet 4 (fCB gTuple (fCons (fComp [13] (fRange1 (fVar 3)) (tName 13) fYes (fOp2 gAdd (fCon (.int 1)) (fCall g__law_take (fCons (fVar 0) (fCons (fVar 2) fNil))))) fNil)))
    (fSeq (fSet 5 (fCB gSum (fCons (fVar 4) fNil)))
    (fSeq (fSet 6 (fLst (fCons (fCon (.int 0)) (fCons (fCon (.int 1)) (fCons (fVar 5) (fCons (fOp2 gAdd (fVar 5) (fCon (.int 1))) (fCons (fOp2 gPow (fCon (.int 10)) (fCon (.int 9))) (fCons (fCall g__law_take (fCons (fVar 0) (fCons (fOp2 gAdd (fVar 5) (fCon (.int 2))) fNil))) (fCons (fCall g__law_take (fCons (fVar 0) (fCons (fOp2 gAdd (fVar 5) (fCon (.int 2))) fNil))) (fCons (fOp2 gFdiv (fVar 5) (fCon (.int 2))) (fCons (fCB gMax (fCons (fCon (.int 0)) (fCons (fOp2 gSub (fVar 5) (fCon (.int 1))) fNil))) fNil)))))))))))
    (fSeq (fFor (fItS false (fVar 6)) (tName 7) (fSeq (fSet 8 (fCall g__law_passes (fCons (fVar 1) (fCons (fVar 4) (fCons (fVar 7) fNil)))))
    (fSeq (fSet 9 (fCB gTuple (fCons (fCall g__law_shared (fCons (fVar 1) (fCons (fVar 4) (fCons (fVar 7) fNil)))) fNil)))
    (fSeq (fIf (fOrT (fTst (fOp2 gNe (fCB gRepr (fCons (fCall g_share_of_5abc (fCons (fVar 1) (fCons (fVar 4) (fCons (fVar 7) fNil)))) fNil)) (fCB gRepr (fCons (fVar 9) fNil)))) (fTst (fOp2 gNe (fCB gRepr (fCons (fCall g_share_rows (fCons (fVar 1) (fCons (fVar 4) (fCons (fVar 7) fNil)))) fNil)) (fCB gRepr (fCons (fCB gTuple (fCons (fComp [14] (fItS true (fVar 8)) (tName 14) fYes (fCB gTuple (fCons (fVar 14) fNil))) fNil)) fNil))))) (fRet (fCon (.bool false))) fNx)
    (fSeq (fIf (fOrT (fTst (fOp2 gNe (fCB gSum (fCons (fVar 9) fNil)) (fCB gMin (fCons (fVar 5) (fCons (fVar 7) fNil))))) (fNotT (fTst (fCB gAll (fCons (fComp [15, 16] (fZip true (fVar 9) (fVar 4)) (tTup 2 (tCons (tName 15) (tCons (tName 16) tNil))) fYes (fChain gLe gLe (fCon (.int 0)) (fVar 15) (fVar 16))) fNil))))) (fRet (fCon (.bool false))) fNx)
    (fSeq (fSet 10 (fCall g_share_of_5abc (fCons (fTup (fCons (fCon (.int 0)) (fCons (fCon (.str "none")) (fCons (fCon (.str "time")) fNil)))) (fCons (fVar 4) (fCons (fVar 7) fNil)))))
    (fSeq (fSet 11 (fComp [15, 16] (fZip true (fVar 10) (fVar 4)) (tTup 2 (tCons (tName 15) (tCons (tName 16) tNil))) fYes (fOp2 gEq (fVar 15) (fVar 16))))
    (fSeq (fIf (fTst (fCB gAny (fCons (fComp [17] (fRange1 (fVar 3)) (tName 17) fYes (fAnd (fOp2 gGt (fOp2 gIx (fVar 10) (fVar 17)) (fCon (.int 0))) (fNot (fCB gAll (fCons (fSl (fVar 11) fNo (fPart (fVar 17))) fNil))))) fNil))) (fRet (fCon (.bool false))) fNx)
    (fSeq (fSet 10 (fCall g_share_of_5abc (fCons (fTup (fCons (fCon (.int 0)) (fCons (fCon (.str "none")) (fCons (fCon (.str "even")) fNil)))) (fCons (fVar 4) (fCons (fVar 7) fNil)))))
    (fSeq (fSet 12 (fComp [15, 16] (fZip true (fVar 10) (fVar 4)) (tTup 2 (tCons (tName 15) (tCons (tName 16) tNil))) (fTst (fOp2 gLt (fVar 15) (fVar 16))) (fVar 15)))
    (fIf (fOrT (fTst (fOp2 gNe (fVar 12) (fCB (gSorted true) (fCons (fVar 12) fNil)))) (fOrT (fAndT (fTst (fOp2 gNe (fVar 12) (fLst fNil))) (fTst (fOp2 gGt (fOp2 gIx (fVar 12) (fCon (.int 0))) (fOp2 gAdd (fOp2 gIx (fVar 12) (fOp1 gNeg (fCon (.int 1)))) (fCon (.int 1)))))) (fTst (fCB gAny (fCons (fComp [15] (fItS true (fVar 10)) (tName 15) fYes (fOp2 gGt (fVar 15) (fIte (fTst (fOp2 gNe (fVar 12) (fLst fNil))) (fOp2 gAdd (fOp2 gIx (fVar 12) (fCon (.int 0))) (fCon (.int 1))) (fVar 15)))) fNil))))) (fRet (fCon (.bool false))) fNx)))))))))))
    (fSeq (fSet 7 (fCall g__law_take (fCons (fVar 0) (fCons (fOp2 gAdd (fVar 5) (fCon (.int 1))) fNil))))
    (fSeq (fIf (fAndT (fTst (fOp2 gEq (fOp2 gIx (fVar 1) (fCon (.int 1))) (fCon (.str "none")))) (fNotT (fTst (fCB gAll (fCons (fComp [18, 19] (fZip true (fCall g_share_of_5abc (fCons (fVar 1) (fCons (fVar 4) (fCons (fVar 7) fNil)))) (fCall g_share_of_5abc (fCons (fVar 1) (fCons (fVar 4) (fCons (fOp2 gAdd (fVar 7) (fCon (.int 1))) fNil))))) (tTup 2 (tCons (tName 18) (tCons (tName 19) tNil))) fYes (fOp2 gLe (fVar 18) (fVar 19))) fNil))))) (fRet (fCon (.bool false))) fNx)
    (fRet (fAnd (fOp2 gEq (fCall g_share_of_5abc (fCons (fVar 1) (fCons (fTup fNil) (fCons (fVar 7) fNil)))) (fTup fNil)) (fOp2 gEq (fCall g_share_rows (fCons (fVar 1) (fCons (fTup fNil) (fCons (fVar 7) fNil)))) (fTup (fCons (fTup fNil) (fCons (fTup fNil) (fCons (fTup fNil) fNil)))))))))))))))
noncomputable def g__law_right_06fe : FF := fnOf 1 20 e__law_right_06fe

noncomputable def e_law_7264 : FS := (fSeq (fFor (fItS false (fCall g__law_cells (fCons (fVar 0) (fCons (fCon (.int 3)) fNil)))) (tName 1) (fSeq (fSetR 2 (fCall g__law_pot (fCons (fVar 0) (fCons (fVar 1) fNil))))
    (fIf (fNotT (fTst (fCB gAll (fCons (fComp [3] (fRange1 (fCon (.int 7))) (tName 3) fYes (fCall g__law_right_06fe (fCons (fVar 2) fNil))) fNil)))) (fRet (fCon (.bool false))) fNx)))
    (fRet (fCon (.bool true))))
noncomputable def g_law_7264 : FF := fnOf 1 4 e_law_7264

noncomputable def e__law_crowd : FS := (fSeq (fAsg (gsTup 2 (gsCons (gsName 2) (gsCons (gsName 3) gsNil))) (fTup (fCons (fCall g__law_of (fCons (fVar 0) (fCons (fLst (fCons (fCon (.int 4)) (fCons (fCon (.int 9)) (fCons (fCon (.int 50)) fNil)))) fNil))) (fCons (fIte (fTst (fVar 1)) (fCon (.int 1)) (fCall g__law_of (fCons (fVar 0) (fCons (fLst (fCons (fCon (.int 1)) (fCons (fCon (.int 3)) (fCons (fCon (.int 1000)) fNil)))) fNil)))) fNil))))
    (fSeq (fSet 4 (fCall g__law_of (fCons (fVar 0) (fCons (fLst (fCons (fCall g__law_take (fCons (fVar 0) (fCons (fCon (.int 7)) fNil))) (fCons (fCall g__law_take (fCons (fVar 0) (fCons (fCon (.int 9)) fNil))) (fCons (fIte (fNotT (fTst (fVar 1))) (fCall g__law_take (fCons (fVar 0) (fCons (fCon (.int 41)) fNil))) (fCall g__law_take (fCons (fVar 0) (fCons (fCon (.int 9)) fNil)))) fNil)))) fNil))))
    (fRet (fCB gTuple (fCons (fComp [5] (fRange1 (fVar 4)) (tName 5) fYes (fTup (fCons (fCall g__law_of (fCons (fVar 0) (fCons (fLst (fCons (fCon (.str "buy")) (fCons (fCon (.str "sell")) fNil))) fNil))) (fCons (fOp2 gAdd (fCon (.int 1)) (fCall g__law_take (fCons (fVar 0) (fCons (fVar 2) fNil)))) (fCons (fOp2 gAdd (fCon (.int 1)) (fCall g__law_take (fCons (fVar 0) (fCons (fVar 3) fNil)))) fNil))))) fNil)))))
noncomputable def g__law_crowd : FF := fnOf 2 6 e__law_crowd

noncomputable def e__law_sequence : FS := (fSeq (fSet 2 (fComp [3, 4] (fEnum true (fVar 0)) (tTup 2 (tCons (tName 3) (tCons (tName 4) tNil))) (fTst (fOp2 gEq (fOp2 gIx (fVar 4) (fCon (.int 0))) (fVar 1))) (fVar 3)))
    (fRet (fSortK 3 [0, 1] (fVar 2) (fTup (fCons (fIte (fTst (fOp2 gEqI (fVar 1) (fCon (.str "buy")))) (fOp1 gNeg (fOp2 gIxI (fOp2 gIxI (fVar 0) (fVar 3)) (fCon (.int 1)))) (fOp2 gIxI (fOp2 gIxI (fVar 0) (fVar 3)) (fCon (.int 1)))) (fCons (fVar 3) fNil))))))
noncomputable def g__law_sequence : FF := fnOf 2 5 e__law_sequence

noncomputable def e__law_honest : FS := (fSeq (fPar 1 2 (fCons (fCall g__law_sequence (fCons (fVar 0) (fCons (fCon (.str "buy")) fNil))) (fCons (fCall g__law_sequence (fCons (fVar 0) (fCons (fCon (.str "sell")) fNil))) fNil)))
    (fSeq (fSet 3 (fCB gLen (fCons (fComp [7, 8] (fZip true (fVar 1) (fVar 2)) (tTup 2 (tCons (tName 7) (tCons (tName 8) tNil))) (fTst (fOp2 gGe (fOp2 gIx (fOp2 gIx (fVar 0) (fVar 7)) (fCon (.int 1))) (fOp2 gIx (fOp2 gIx (fVar 0) (fVar 8)) (fCon (.int 1))))) (fCon (.int 1))) fNil)))
    (fSeq (fIf (fTst (fOp2 gEq (fVar 3) (fCon (.int 0)))) (fRet (fTup (fCons (fTup fNil) (fCons (fTup fNil) (fCons (fCon (.int 0)) (fCons (fCon (.int 0)) fNil)))))) fNx)
    (fSeq (fPar 4 5 (fCons (fOp2 gIx (fOp2 gIx (fVar 0) (fOp2 gIx (fVar 1) (fOp2 gSub (fVar 3) (fCon (.int 1))))) (fCon (.int 1))) (fCons (fOp2 gIx (fOp2 gIx (fVar 0) (fOp2 gIx (fVar 2) (fOp2 gSub (fVar 3) (fCon (.int 1))))) (fCon (.int 1))) fNil)))
    (fSeq (fIf (fTst (fOp2 gLt (fVar 3) (fCB gMin (fCons (fCB gLen (fCons (fVar 1) fNil)) (fCons (fCB gLen (fCons (fVar 2) fNil)) fNil))))) (fSeq (fSet 6 (fOp2 gAdd (fOp2 gIx (fOp2 gIx (fVar 0) (fOp2 gIx (fVar 1) (fVar 3))) (fCon (.int 1))) (fOp2 gIx (fOp2 gIx (fVar 0) (fOp2 gIx (fVar 2) (fVar 3))) (fCon (.int 1)))))
    (fIf (fTst (fChain gLe gLe (fOp2 gMulX (fCon (.int 2)) (fVar 5)) (fVar 6) (fOp2 gMulX (fCon (.int 2)) (fVar 4)))) (fRet (fTup (fCons (fCB gTuple (fCons (fCB (gSorted false) (fCons (fSl (fVar 1) fNo (fPart (fVar 3))) fNil)) fNil)) (fCons (fCB gTuple (fCons (fCB (gSorted false) (fCons (fSl (fVar 2) fNo (fPart (fVar 3))) fNil)) fNil)) (fCons (fVar 6) (fCons (fVar 6) fNil)))))) fNx)) fNx)
    (fSeq (fIf (fTst (fOp2 gEq (fVar 3) (fCon (.int 1)))) (fRet (fTup (fCons (fTup fNil) (fCons (fTup fNil) (fCons (fCon (.int 0)) (fCons (fCon (.int 0)) fNil)))))) fNx)
    (fRet (fTup (fCons (fCB gTuple (fCons (fCB (gSorted false) (fCons (fSl (fVar 1) fNo (fPart (fOp2 gSub (fVar 3) (fCon (.int 1))))) fNil)) fNil)) (fCons (fCB gTuple (fCons (fCB (gSorted false) (fCons (fSl (fVar 2) fNo (fPart (fOp2 gSub (fVar 3) (fCon (.int 1))))) fNil)) fNil)) (fCons (fOp2 gMulX (fCon (.int 2)) (fVar 4)) (fCons (fOp2 gMulX (fCon (.int 2)) (fVar 5)) fNil))))))))))))
noncomputable def g__law_honest : FF := fnOf 1 9 e__law_honest

noncomputable def e_is_bid_fc57 : FS := (fSeq (fIf (fOrT (fNotT (fTst (fCall g_is_tuple_of (fCons (fVar 0) (fCons (fCon (.int 3)) fNil))))) (fOrT (fNotT (fTst (fCall g_is_word (fCons (fOp2 gIx (fVar 0) (fCon (.int 0))) (fCons (fCon (.tuple [(.str "buy"), (.str "sell")])) fNil))))) (fNotT (fTst (fCall g_is_between (fCons (fOp2 gIx (fVar 0) (fCon (.int 1))) (fCons (fCon (.int 1)) (fCons (fCon (.int 50)) fNil)))))))) (fRet (fCon (.bool false))) fNx)
    (fRet (fCall g_is_between (fCons (fOp2 gIx (fVar 0) (fCon (.int 2))) (fCons (fCon (.int 1)) (fCons (fCon (.int 1000)) fNil))))))
noncomputable def g_is_bid_fc57 : FF := fnOf 1 1 e_is_bid_fc57

noncomputable def e_is_crowd_e08a : FS := (fRet (fAnd (fIsi "tuple" (fVar 0)) (fAnd (fOp2 gLe (fCB gLen (fCons (fVar 0) fNil)) (fCon (.int 40))) (fCB gAll (fCons (fComp [1] (fItS true (fVar 0)) (tName 1) fYes (fCall g_is_bid_fc57 (fCons (fVar 1) fNil))) fNil)))))
noncomputable def g_is_crowd_e08a : FF := fnOf 1 2 e_is_crowd_e08a

noncomputable def e_check_crowd_cdc6 : FS := (fIf (fNotT (fTst (fCall g_is_crowd_e08a (fCons (fVar 0) fNil)))) fNever fNx)
noncomputable def g_check_crowd_cdc6 : FF := fnOf 1 1 e_check_crowd_cdc6

noncomputable def e_check_single_03cf : FS := (fSeq (fExpr (fCall g_check_crowd_cdc6 (fCons (fVar 0) fNil)))
    (fFor (fEnum false (fVar 0)) (tTup 2 (tCons (tName 1) (tCons (tName 2) tNil))) (fIf (fTst (fOp2 gNe (fOp2 gIx (fVar 2) (fCon (.int 2))) (fCon (.int 1)))) fNever fNx)))
noncomputable def g_check_single_03cf : FF := fnOf 1 3 e_check_single_03cf

noncomputable def e_check_bid_8058 : FS := (fSeq (fExpr (fCall g_check_single_03cf (fCons (fVar 0) fNil)))
    (fIf (fNotT (fTst (fCall g_is_between (fCons (fVar 1) (fCons (fCon (.int 0)) (fCons (fOp2 gSub (fCB gLen (fCons (fVar 0) fNil)) (fCon (.int 1))) fNil)))))) fNever fNx))
noncomputable def g_check_bid_8058 : FF := fnOf 2 2 e_check_bid_8058

noncomputable def e_fitting_many : FS := (fSeq (fSet 3 (fCon (.int 0)))
    (fSeq (fWhile (fAndT (fTst (fOp2 gLt (fVar 3) (fCB gMin (fCons (fCB gLen (fCons (fVar 1) fNil)) (fCons (fCB gLen (fCons (fVar 2) fNil)) fNil))))) (fTst (fOp2 gGe (fOp2 gIx (fOp2 gIx (fVar 0) (fOp2 gIx (fVar 1) (fVar 3))) (fCon (.int 1))) (fOp2 gIx (fOp2 gIx (fVar 0) (fOp2 gIx (fVar 2) (fVar 3))) (fCon (.int 1)))))) (fSet 3 (fOp2 gAdd (fVar 3) (fCon (.int 1)))))
    (fRet (fVar 3))))
noncomputable def g_fitting_many : FF := fnOf 3 4 e_fitting_many

noncomputable def e_between : FS := (fSeq (fIf (fOrT (fTst (fOp2 gGe (fVar 3) (fCB gLen (fCons (fVar 1) fNil)))) (fTst (fOp2 gGe (fVar 3) (fCB gLen (fCons (fVar 2) fNil))))) (fRet (fCon .none)) fNx)
    (fRet (fOp2 gAdd (fOp2 gIx (fOp2 gIx (fVar 0) (fOp2 gIx (fVar 1) (fVar 3))) (fCon (.int 1))) (fOp2 gIx (fOp2 gIx (fVar 0) (fOp2 gIx (fVar 2) (fVar 3))) (fCon (.int 1))))))
noncomputable def g_between : FF := fnOf 4 4 e_between

noncomputable def e_in_sequence : FS := (fSeq (fSet 2 (fComp [3, 4] (fEnum true (fVar 0)) (tTup 2 (tCons (tName 3) (tCons (tName 4) tNil))) (fTst (fOp2 gEq (fOp2 gIx (fVar 4) (fCon (.int 0))) (fVar 1))) (fVar 3)))
    (fRet (fSortK 3 [0, 1] (fVar 2) (fTup (fCons (fIte (fTst (fOp2 gEqI (fVar 1) (fCon (.str "buy")))) (fOp2 gSubI (fCon (.int 0)) (fOp2 gIxI (fOp2 gIxI (fVar 0) (fVar 3)) (fCon (.int 1)))) (fOp2 gIxI (fOp2 gIxI (fVar 0) (fVar 3)) (fCon (.int 1)))) (fCons (fVar 3) fNil))))))
noncomputable def g_in_sequence : FF := fnOf 2 5 e_in_sequence

noncomputable def e_honest_of : FS := (fSeq (fPar 1 2 (fCons (fCall g_in_sequence (fCons (fVar 0) (fCons (fCon (.str "buy")) fNil))) (fCons (fCall g_in_sequence (fCons (fVar 0) (fCons (fCon (.str "sell")) fNil))) fNil)))
    (fSeq (fSet 3 (fCall g_fitting_many (fCons (fVar 0) (fCons (fVar 1) (fCons (fVar 2) fNil)))))
    (fSeq (fIf (fTst (fOp2 gEq (fVar 3) (fCon (.int 0)))) (fRet (fTup (fCons (fTup fNil) (fCons (fTup fNil) (fCons (fCon (.int 0)) (fCons (fCon (.int 0)) fNil)))))) fNx)
    (fSeq (fPar 4 5 (fCons (fOp2 gIx (fOp2 gIx (fVar 0) (fOp2 gIx (fVar 1) (fOp2 gSub (fVar 3) (fCon (.int 1))))) (fCon (.int 1))) (fCons (fOp2 gIx (fOp2 gIx (fVar 0) (fOp2 gIx (fVar 2) (fOp2 gSub (fVar 3) (fCon (.int 1))))) (fCon (.int 1))) fNil)))
    (fSeq (fSet 6 (fCall g_between (fCons (fVar 0) (fCons (fVar 1) (fCons (fVar 2) (fCons (fVar 3) fNil))))))
    (fSeq (fIf (fAndT (fTst (fOp2 gIsNot (fVar 6) (fCon .none))) (fTst (fChain gLe gLe (fOp2 gMulX (fCon (.int 2)) (fVar 5)) (fVar 6) (fOp2 gMulX (fCon (.int 2)) (fVar 4))))) (fRet (fTup (fCons (fCB gTuple (fCons (fCB (gSorted false) (fCons (fSl (fVar 1) fNo (fPart (fVar 3))) fNil)) fNil)) (fCons (fCB gTuple (fCons (fCB (gSorted false) (fCons (fSl (fVar 2) fNo (fPart (fVar 3))) fNil)) fNil)) (fCons (fVar 6) (fCons (fVar 6) fNil)))))) fNx)
    (fSeq (fIf (fTst (fOp2 gEq (fVar 3) (fCon (.int 1)))) (fRet (fTup (fCons (fTup fNil) (fCons (fTup fNil) (fCons (fCon (.int 0)) (fCons (fCon (.int 0)) fNil)))))) fNx)
    (fRet (fTup (fCons (fCB gTuple (fCons (fCB (gSorted false) (fCons (fSl (fVar 1) fNo (fPart (fOp2 gSub (fVar 3) (fCon (.int 1))))) fNil)) fNil)) (fCons (fCB gTuple (fCons (fCB (gSorted false) (fCons (fSl (fVar 2) fNo (fPart (fOp2 gSub (fVar 3) (fCon (.int 1))))) fNil)) fNil)) (fCons (fOp2 gMulX (fCon (.int 2)) (fVar 4)) (fCons (fOp2 gMulX (fCon (.int 2)) (fVar 5)) fNil)))))))))))))
noncomputable def g_honest_of : FF := fnOf 1 7 e_honest_of

noncomputable def e_honest_gain : FS := (fSeq (fAsg (gsTup 3 (gsCons (gsName 3) (gsCons (gsName 4) (gsCons (gsName 5) gsNil)))) (fOp2 gIx (fVar 0) (fVar 1)))
    (fSeq (fSet 6 (fTup (fStar (fSl (fVar 0) fNo (fPart (fVar 1))) (fCons (fTup (fCons (fVar 3) (fCons (fVar 2) (fCons (fVar 5) fNil)))) (fStar (fSl (fVar 0) (fPart (fOp2 gAdd (fVar 1) (fCon (.int 1)))) fNo) fNil)))))
    (fSeq (fAsg (gsTup 4 (gsCons (gsName 7) (gsCons (gsName 8) (gsCons (gsName 9) (gsCons (gsName 10) gsNil))))) (fCall g_honest_of (fCons (fVar 6) fNil)))
    (fSeq (fIf (fTst (fOp2 gEq (fVar 3) (fCon (.str "buy")))) (fRet (fIte (fTst (fOp2 gIn (fVar 1) (fVar 7))) (fOp2 gSub (fOp2 gMulX (fCon (.int 2)) (fVar 4)) (fVar 9)) (fCon (.int 0)))) fNx)
    (fRet (fIte (fTst (fOp2 gIn (fVar 1) (fVar 8))) (fOp2 gSub (fVar 10) (fOp2 gMulX (fCon (.int 2)) (fVar 4))) (fCon (.int 0))))))))
noncomputable def g_honest_gain : FF := fnOf 3 11 e_honest_gain

noncomputable def e_gains_by_30bb : FS := (fSeq (fExpr (fCall g_check_bid_8058 (fCons (fVar 0) (fCons (fVar 1) fNil))))
    (fRet (fCB gTuple (fCons (fComp [2] (fRange2 (fCon (.int 1)) (fOp2 gAdd (fCon (.int 50)) (fCon (.int 1)))) (tName 2) fYes (fCall g_honest_gain (fCons (fVar 0) (fCons (fVar 1) (fCons (fVar 2) fNil))))) fNil))))
noncomputable def g_gains_by_30bb : FF := fnOf 2 3 e_gains_by_30bb

noncomputable def e_honest_told_4abf : FS := (fSeq (fExpr (fCall g_check_single_03cf (fCons (fVar 0) fNil)))
    (fRet (fCall g_honest_of (fCons (fVar 0) fNil))))
noncomputable def g_honest_told_4abf : FF := fnOf 1 1 e_honest_told_4abf

noncomputable def e_left_over_bf0b : FS := (fSeq (fExpr (fCall g_check_single_03cf (fCons (fVar 0) fNil)))
    (fSeq (fAsg (gsTup 4 (gsCons (gsName 1) (gsCons (gsName 2) (gsCons (gsName 3) (gsCons (gsName 4) gsNil))))) (fCall g_honest_of (fCons (fVar 0) fNil)))
    (fRet (fOp2 gMulX (fCB gLen (fCons (fVar 1) fNil)) (fOp2 gSub (fVar 3) (fVar 4))))))
noncomputable def g_left_over_bf0b : FF := fnOf 1 5 e_left_over_bf0b

noncomputable def e__law_right_1f64 : FS := (fSeq (fSet 1 (fCall g__law_crowd (fCons (fVar 0) (fCons (fCon (.bool true)) fNil))))
    (fSeq (fSet 1 (fIte (fTst (fOp2 gLt (fCB gLen (fCons (fVar 1) fNil)) (fCon (.int 11)))) (fOp2 gMulX (fVar 1) (fCall g__law_of (fCons (fVar 0) (fCons (fLst (fCons (fCon (.int 1)) (fCons (fCon (.int 1)) (fCons (fCon (.int 1)) (fCons (fCon (.int 4)) fNil))))) fNil)))) (fVar 1)))
    (fSeq (fAsg (gsTup 4 (gsCons (gsName 2) (gsCons (gsName 3) (gsCons (gsName 4) (gsCons (gsName 5) gsNil))))) (fCall g__law_honest (fCons (fVar 1) fNil)))
    (fSeq (fIf (fOrT (fTst (fOp2 gNe (fCB gRepr (fCons (fCall g_honest_told_4abf (fCons (fVar 1) fNil)) fNil)) (fCB gRepr (fCons (fTup (fCons (fVar 2) (fCons (fVar 3) (fCons (fVar 4) (fCons (fVar 5) fNil))))) fNil)))) (fOrT (fTst (fOp2 gNe (fCB gRepr (fCons (fCall g_left_over_bf0b (fCons (fVar 1) fNil)) fNil)) (fCB gRepr (fCons (fOp2 gMulX (fCB gLen (fCons (fVar 2) fNil)) (fOp2 gSub (fVar 4) (fVar 5))) fNil)))) (fTst (fOp2 gLt (fVar 4) (fVar 5))))) (fRet (fCon (.bool false))) fNx)
    (fSeq (fIf (fOrT (fTst (fOp2 gNe (fCB gLen (fCons (fVar 2) fNil)) (fCB gLen (fCons (fVar 3) fNil)))) (fOrT (fTst (fCB gAny (fCons (fComp [6] (fItS true (fVar 2)) (tName 6) fYes (fOp2 gLt (fOp2 gMulX (fCon (.int 2)) (fOp2 gIx (fOp2 gIx (fVar 1) (fVar 6)) (fCon (.int 1)))) (fVar 4))) fNil))) (fTst (fCB gAny (fCons (fComp [6] (fItS true (fVar 3)) (tName 6) fYes (fOp2 gGt (fOp2 gMulX (fCon (.int 2)) (fOp2 gIx (fOp2 gIx (fVar 1) (fVar 6)) (fCon (.int 1)))) (fVar 5))) fNil))))) (fRet (fCon (.bool false))) fNx)
    (fSeq (fFor (fItS false (fIte (fTst (fOp2 gNe (fVar 1) (fTup fNil))) (fComp [15] (fRange1 (fCon (.int 2))) (tName 15) fYes (fCall g__law_take (fCons (fVar 0) (fCons (fCB gLen (fCons (fVar 1) fNil)) fNil)))) (fLst fNil))) (tName 6) (fSeq (fAsg (gsTup 3 (gsCons (gsName 7) (gsCons (gsName 8) (gsCons (gsName 9) gsNil)))) (fOp2 gIx (fVar 1) (fVar 6)))
    (fSeq (fSetO 10 (fLst fNil))
    (fSeq (fFor (fRange2 (fCon (.int 1)) (fCon (.int 51))) (tName 11) (fSeq (fSet 12 (fCall g__law_honest (fCons (fOp2 gAdd (fOp2 gAdd (fSl (fVar 1) fNo (fPart (fVar 6))) (fTup (fCons (fTup (fCons (fVar 7) (fCons (fVar 11) (fCons (fCon (.int 1)) fNil)))) fNil))) (fSl (fVar 1) (fPart (fOp2 gAdd (fVar 6) (fCon (.int 1)))) fNo)) fNil)))
    (fSeq (fSet 13 (fIte (fTst (fOp2 gEq (fVar 7) (fCon (.str "buy")))) (fOp2 gSub (fOp2 gMulX (fCon (.int 2)) (fVar 8)) (fOp2 gIx (fVar 12) (fCon (.int 2)))) (fOp2 gSub (fOp2 gIx (fVar 12) (fCon (.int 3))) (fOp2 gMulX (fCon (.int 2)) (fVar 8)))))
    (fApp 10 (fIte (fTst (fOp2 gIn (fVar 6) (fOp2 gAdd (fOp2 gIx (fVar 12) (fCon (.int 0))) (fOp2 gIx (fVar 12) (fCon (.int 1)))))) (fVar 13) (fCon (.int 0)))))))
    (fSeq (fSet 14 (fCall g_gains_by_30bb (fCons (fVar 1) (fCons (fVar 6) fNil))))
    (fIf (fOrT (fTst (fOp2 gNe (fCB gRepr (fCons (fVar 14) fNil)) (fCB gRepr (fCons (fCB gTuple (fCons (fVar 10) fNil)) fNil)))) (fOrT (fTst (fOp2 gNe (fCB gMaxU (fCons (fVar 14) fNil)) (fOp2 gIx (fVar 14) (fOp2 gSub (fVar 8) (fCon (.int 1)))))) (fTst (fOp2 gLt (fOp2 gIx (fVar 14) (fOp2 gSub (fVar 8) (fCon (.int 1)))) (fCon (.int 0)))))) (fRet (fCon (.bool false))) fNx))))))
    (fRet (fCon (.bool true)))))))))
noncomputable def g__law_right_1f64 : FF := fnOf 1 16 e__law_right_1f64

noncomputable def e_law_700c : FS := (fSeq (fFor (fItS false (fCall g__law_cells (fCons (fVar 0) (fCons (fCon (.int 3)) fNil)))) (tName 1) (fSeq (fSetR 2 (fCall g__law_pot (fCons (fVar 0) (fCons (fVar 1) fNil))))
    (fIf (fNotT (fTst (fCB gAll (fCons (fComp [3] (fRange1 (fCon (.int 6))) (tName 3) fYes (fCall g__law_right_1f64 (fCons (fVar 2) fNil))) fNil)))) (fRet (fCon (.bool false))) fNx)))
    (fRet (fCon (.bool true))))
noncomputable def g_law_700c : FF := fnOf 1 4 e_law_700c

end Q
end

section
set_option maxRecDepth 100000
set_option maxHeartbeats 4000000
namespace Lk26
open PySem PySem.Spec PyProof.Rows L2 EV
open LamX (TabB)
def top (i : Nat) : Stmt := PySem.Challenge.pw_justthosetrades_k26_whole_honest_calls.main.body.getD i (.Pass ⟨0, 0, 0, 0⟩)
/-! what the head tells -/
structure Fx (K : PySem.W.Frag) (mg : Str → Option Value) (base : Heap) (T : List (Addr × Str)) : Type where
  fd__law_cells : FuncData
  F__law_cells : FunD K "_law_cells" "_law_cells" (defArgs (top 36)) (defBody (top 36)) (defScope (top 36)) [] [] (He.ga K "_law_cells") fd__law_cells
  m__law_cells : mg "_law_cells" = some (.ref (He.ga K "_law_cells"))
  fd__law_pot : FuncData
  F__law_pot : FunD K "_law_pot" "_law_pot" (defArgs (top 33)) (defBody (top 33)) (defScope (top 33)) [] [] (He.ga K "_law_pot") fd__law_pot
  m__law_pot : mg "_law_pot" = some (.ref (He.ga K "_law_pot"))
  fd__law_take : FuncData
  F__law_take : FunD K "_law_take" "_law_take" (defArgs (top 34)) (defBody (top 34)) (defScope (top 34)) [] [] (He.ga K "_law_take") fd__law_take
  m__law_take : mg "_law_take" = some (.ref (He.ga K "_law_take"))
  fd__law_of : FuncData
  F__law_of : FunD K "_law_of" "_law_of" (defArgs (top 35)) (defBody (top 35)) (defScope (top 35)) [] [] (He.ga K "_law_of") fd__law_of
  m__law_of : mg "_law_of" = some (.ref (He.ga K "_law_of"))
  fd__law_crowd : FuncData
  F__law_crowd : FunD K "_law_crowd" "_law_crowd" (defArgs (top 37)) (defBody (top 37)) (defScope (top 37)) [] [] (He.ga K "_law_crowd") fd__law_crowd
  m__law_crowd : mg "_law_crowd" = some (.ref (He.ga K "_law_crowd"))
  fd__law_sequence : FuncData
  F__law_sequence : FunD K "_law_sequence" "_law_sequence" (defArgs (top 38)) (defBody (top 38)) (defScope (top 38)) [] [] (He.ga K "_law_sequence") fd__law_sequence
  m__law_sequence : mg "_law_sequence" = some (.ref (He.ga K "_law_sequence"))
  fd__law_honest : FuncData
  F__law_honest : FunD K "_law_honest" "_law_honest" (defArgs (top 39)) (defBody (top 39)) (defScope (top 39)) [] [] (He.ga K "_law_honest") fd__law_honest
  m__law_honest : mg "_law_honest" = some (.ref (He.ga K "_law_honest"))
  fd_is_integer : FuncData
  F_is_integer : FunD K "is_integer" "is_integer" (defArgs (top 6)) (defBody (top 6)) (defScope (top 6)) [] [] (He.ga K "is_integer") fd_is_integer
  m_is_integer : mg "is_integer" = some (.ref (He.ga K "is_integer"))
  fd_is_between : FuncData
  F_is_between : FunD K "is_between" "is_between" (defArgs (top 7)) (defBody (top 7)) (defScope (top 7)) [] [] (He.ga K "is_between") fd_is_between
  m_is_between : mg "is_between" = some (.ref (He.ga K "is_between"))
  fd_is_tuple_of : FuncData
  F_is_tuple_of : FunD K "is_tuple_of" "is_tuple_of" (defArgs (top 9)) (defBody (top 9)) (defScope (top 9)) [] [] (He.ga K "is_tuple_of") fd_is_tuple_of
  m_is_tuple_of : mg "is_tuple_of" = some (.ref (He.ga K "is_tuple_of"))
  fd_is_word : FuncData
  F_is_word : FunD K "is_word" "is_word" (defArgs (top 8)) (defBody (top 8)) (defScope (top 8)) [] [] (He.ga K "is_word") fd_is_word
  m_is_word : mg "is_word" = some (.ref (He.ga K "is_word"))
  fd_is_bid : FuncData
  F_is_bid : FunD K "is_bid" "is_bid" (defArgs (top 18)) (defBody (top 18)) (defScope (top 18)) [] [] (He.ga K "is_bid") fd_is_bid
  m_is_bid : mg "is_bid" = some (.ref (He.ga K "is_bid"))
  fd_is_crowd : FuncData
  F_is_crowd : FunD K "is_crowd" "is_crowd" (defArgs (top 19)) (defBody (top 19)) (defScope (top 19)) [] [] (He.ga K "is_crowd") fd_is_crowd
  m_is_crowd : mg "is_crowd" = some (.ref (He.ga K "is_crowd"))
  fd_check_crowd : FuncData
  F_check_crowd : FunD K "check_crowd" "check_crowd" (defArgs (top 20)) (defBody (top 20)) (defScope (top 20)) [] [] (He.ga K "check_crowd") fd_check_crowd
  m_check_crowd : mg "check_crowd" = some (.ref (He.ga K "check_crowd"))
  fd_check_single : FuncData
  F_check_single : FunD K "check_single" "check_single" (defArgs (top 23)) (defBody (top 23)) (defScope (top 23)) [] [] (He.ga K "check_single") fd_check_single
  m_check_single : mg "check_single" = some (.ref (He.ga K "check_single"))
  fd_check_bid : FuncData
  F_check_bid : FunD K "check_bid" "check_bid" (defArgs (top 24)) (defBody (top 24)) (defScope (top 24)) [] [] (He.ga K "check_bid") fd_check_bid
  m_check_bid : mg "check_bid" = some (.ref (He.ga K "check_bid"))
  fd_fitting_many : FuncData
  F_fitting_many : FunD K "fitting_many" "fitting_many" (defArgs (top 25)) (defBody (top 25)) (defScope (top 25)) [] [] (He.ga K "fitting_many") fd_fitting_many
  m_fitting_many : mg "fitting_many" = some (.ref (He.ga K "fitting_many"))
  fd_between : FuncData
  F_between : FunD K "between" "between" (defArgs (top 26)) (defBody (top 26)) (defScope (top 26)) [] [] (He.ga K "between") fd_between
  m_between : mg "between" = some (.ref (He.ga K "between"))
  fd_in_sequence : FuncData
  F_in_sequence : FunD K "in_sequence" "in_sequence" (defArgs (top 21)) (defBody (top 21)) (defScope (top 21)) [] [] (He.ga K "in_sequence") fd_in_sequence
  m_in_sequence : mg "in_sequence" = some (.ref (He.ga K "in_sequence"))
  fd_honest_of : FuncData
  F_honest_of : FunD K "honest_of" "honest_of" (defArgs (top 27)) (defBody (top 27)) (defScope (top 27)) [] [] (He.ga K "honest_of") fd_honest_of
  m_honest_of : mg "honest_of" = some (.ref (He.ga K "honest_of"))
  fd_honest_gain : FuncData
  F_honest_gain : FunD K "honest_gain" "honest_gain" (defArgs (top 29)) (defBody (top 29)) (defScope (top 29)) [] [] (He.ga K "honest_gain") fd_honest_gain
  m_honest_gain : mg "honest_gain" = some (.ref (He.ga K "honest_gain"))
  fd_gains_by : FuncData
  F_gains_by : FunD K "gains_by" "gains_by" (defArgs (top 30)) (defBody (top 30)) (defScope (top 30)) [] [] (He.ga K "gains_by") fd_gains_by
  m_gains_by : mg "gains_by" = some (.ref (He.ga K "gains_by"))
  fd_honest_told : FuncData
  F_honest_told : FunD K "honest_told" "honest_told" (defArgs (top 28)) (defBody (top 28)) (defScope (top 28)) [] [] (He.ga K "honest_told") fd_honest_told
  m_honest_told : mg "honest_told" = some (.ref (He.ga K "honest_told"))
  fd_left_over : FuncData
  F_left_over : FunD K "left_over" "left_over" (defArgs (top 31)) (defBody (top 31)) (defScope (top 31)) [] [] (He.ga K "left_over") fd_left_over
  m_left_over : mg "left_over" = some (.ref (He.ga K "left_over"))
  fd__law_right : FuncData
  F__law_right : FunD K "_law_right" "_law_right" (defArgs (top 40)) (defBody (top 40)) (defScope (top 40)) [] [] (He.ga K "_law_right") fd__law_right
  m__law_right : mg "_law_right" = some (.ref (He.ga K "_law_right"))
  fd_law : FuncData
  F_law : FunD K "law" "law" (defArgs (top 41)) (defBody (top 41)) (defScope (top 41)) [] [] (He.ga K "law") fd_law
  m_law : mg "law" = some (.ref (He.ga K "law"))
  n_abs : mg "abs" = none
  n_all : mg "all" = none
  n_any : mg "any" = none
  n_bool : mg "bool" = none
  n_enumerate : mg "enumerate" = none
  n_int : mg "int" = none
  n_isinstance : mg "isinstance" = none
  n_len : mg "len" = none
  n_list : mg "list" = none
  n_max : mg "max" = none
  n_min : mg "min" = none
  n_range : mg "range" = none
  n_repr : mg "repr" = none
  n_sorted : mg "sorted" = none
  n_str : mg "str" = none
  n_sum : mg "sum" = none
  n_tuple : mg "tuple" = none
  n_zip : mg "zip" = none
  c_BUY : ConV K mg "BUY" (.str "buy")
  c_MOST_BIDS : ConV K mg "MOST_BIDS" (.int 40)
  c_MOST_LOTS : ConV K mg "MOST_LOTS" (.int 1000)
  c_MOST_PRICES : ConV K mg "MOST_PRICES" (.int 50)
  c_SELL : ConV K mg "SELL" (.str "sell")
  c_SIDES : ConV K mg "SIDES" (.tuple [(.str "buy"), (.str "sell")])
  c_THREE : ConV K mg "THREE" (.int 3)
  ca__law_sequence : Addr
  pa__law_sequence : Addr
  cd__law_sequence : codeOf K (He.ga K "_law_sequence") = .ref ca__law_sequence
  TB__law_sequence : TabB base mg ca__law_sequence pa__law_sequence
  T__law_sequence : (pa__law_sequence, (("_law_sequence" : Str) ++ ".<locals>.") ++ "<lambda>") ∈ T
  U__law_sequence : ∀ p ∈ T, p.1 = pa__law_sequence → p.2 = (("_law_sequence" : Str) ++ ".<locals>.") ++ "<lambda>"
  ca_in_sequence : Addr
  pa_in_sequence : Addr
  cd_in_sequence : codeOf K (He.ga K "in_sequence") = .ref ca_in_sequence
  TB_in_sequence : TabB base mg ca_in_sequence pa_in_sequence
  T_in_sequence : (pa_in_sequence, (("in_sequence" : Str) ++ ".<locals>.") ++ "<lambda>") ∈ T
  U_in_sequence : ∀ p ∈ T, p.1 = pa_in_sequence → p.2 = (("in_sequence" : Str) ++ ".<locals>.") ++ "<lambda>"
section
variable {P : Program} {w : World} {K : PySem.W.Frag} {mg : Str → Option Value} {base : Heap} {T : List (Addr × Str)}
abbrev N__law_cells : List Str := ["script", "most"]
theorem sc__law_cells : FnScope ["script", "most"] ["script", "most"] (defScope (top 36)) := ⟨rfl, rfl, rfl, by decide +kernel, rfl, by decide +kernel, by decide +kernel⟩
theorem b__law_cells (C : Fx K mg base T) : Binds K C.fd__law_cells ["script", "most"] [] := C.F__law_cells.bindsN fun _ _ _ _ _ _ us hl => match us, hl with | [_, _], _ => rfl
theorem ok__law_cells (C : Fx K mg base T) : FnG P w K mg base 2 (He.ga K "_law_cells") C.fd__law_cells ["script", "most"] (spF K T 2 Q.g__law_cells) :=
  FunD.ev (k := 1) C.F__law_cells sc__law_cells rfl rfl (by decide) fun A outer s H hr hg => dss_nox (X := cxOf CX0 P w K mg base ["script", "most"] "_law_cells" (defScope (top 36)) (He.ga K "_law_cells") (codeOf K (He.ga K "_law_cells")) A outer s H E0) (F := Q.e__law_cells)
   (dss_one (ds_ret (de_listR rfl C.n_list (dr_1 C.n_range (de_cb (b_max rfl) C.n_max (da_cons de_int (da_cons (de_cb (b_min rfl) C.n_min (da_cons de_var (da_cons (de_lenZ C.n_len) da_nil))) da_nil)))))))

abbrev N__law_pot : List Str := ["script", "place", "cell", "own", "small"]
theorem sc__law_pot : FnScope ["script", "place", "cell", "own", "small"] ["script", "place"] (defScope (top 33)) := ⟨rfl, rfl, rfl, by decide +kernel, rfl, by decide +kernel, by decide +kernel⟩
theorem b__law_pot (C : Fx K mg base T) : Binds K C.fd__law_pot ["script", "place"] [] := C.F__law_pot.bindsN fun _ _ _ _ _ _ us hl => match us, hl with | [_, _], _ => rfl
theorem ok__law_pot (C : Fx K mg base T) : FnG P w K mg base 2 (He.ga K "_law_pot") C.fd__law_pot ["script", "place"] (spF K T 2 Q.g__law_pot) :=
  FunD.ev (k := 1) C.F__law_pot sc__law_pot rfl rfl (by decide) fun A outer s H hr hg => dss_nox (X := cxOf CX0 P w K mg base ["script", "place", "cell", "own", "small"] "_law_pot" (defScope (top 33)) (He.ga K "_law_pot") (codeOf K (He.ga K "_law_pot")) A outer s H E0) (F := Q.e__law_pot)
   (dss_cons (ds_set (i := 2) (de_ite (dt_cmp o_lt de_var (de_lenZ C.n_len)) (de_ixZ de_var) (de_op o_add (de_op o_add (de_op o_mod (de_cb (b_sum rfl) C.n_sum (da_cons (de_slZ do_no (do_part de_int)) da_nil)) de_int) (de_op o_mulx de_int de_var)) de_int)) sc__law_pot.nd)
    (dss_cons (ds_set (i := 3) (de_op o_mulx (de_op o_mod (de_ct b_int C.n_int (da_cons (de_cb b_abs C.n_abs (da_cons de_var da_nil)) da_nil)) (de_op o_pow (de_op o_pow de_int de_int) de_int)) (de_ct b_int C.n_int (da_cons (de_cmp o_ge (de_cb b_abs C.n_abs (da_cons de_var da_nil)) (de_op o_pow de_int de_int)) da_nil))) sc__law_pot.nd)
    (dss_cons (ds_set (i := 4) (de_op o_mod (de_ct b_int C.n_int (da_cons de_var da_nil)) de_int) sc__law_pot.nd)
    (dss_one (ds_ret (de_lst (da_cons de_var (da_cons (de_op o_mod (de_ct b_int C.n_int (da_cons (de_op o_add (de_op o_add (de_op o_mulx de_var de_int) (de_op o_mulx (de_op o_mulx de_int de_var) de_var)) de_int) da_nil)) de_int) (da_cons de_int da_nil)))))))))

abbrev N__law_take : List Str := ["pot", "upto", "digit", "prime", "blend"]
theorem sc__law_take : FnScope ["pot", "upto", "digit", "prime", "blend"] ["pot", "upto"] (defScope (top 34)) := ⟨rfl, rfl, rfl, by decide +kernel, rfl, by decide +kernel, by decide +kernel⟩
theorem b__law_take (C : Fx K mg base T) : Binds K C.fd__law_take ["pot", "upto"] [] := C.F__law_take.bindsN fun _ _ _ _ _ _ us hl => match us, hl with | [_, _], _ => rfl
theorem ok__law_take (C : Fx K mg base T) : FnG P w K mg base 2 (He.ga K "_law_take") C.fd__law_take ["pot", "upto"] (spF K T 2 Q.g__law_take) :=
  FunD.ev (k := 1) C.F__law_take sc__law_take rfl rfl (by decide) fun A outer s H hr hg => dss_nox (X := cxOf CX0 P w K mg base ["pot", "upto", "digit", "prime", "blend"] "_law_take" (defScope (top 34)) (He.ga K "_law_take") (codeOf K (He.ga K "_law_take")) A outer s H E0) (F := Q.e__law_take)
   (dss_cons (ds_if (dt_cmp o_gt (de_ix de_var de_int) de_int) (dss_cons (ds_set (i := 2) (de_op o_mod (de_ct b_int C.n_int (da_cons (de_ix de_var de_int) da_nil)) de_var) sc__law_take.nd)
    (dss_cons (ds_asg (de_op o_fdiv (de_ix de_var de_int) de_var) (dg_sub (i := 0) de_int))
    (dss_one (ds_ret de_var)))) dss_nil)
    (dss_cons (ds_asg (de_op o_add (de_ix de_var de_int) de_int) (dg_sub (i := 0) de_int))
    (dss_cons (ds_set (i := 3) (de_ix (de_lst (da_cons de_int (da_cons de_int (da_cons de_int (da_cons de_int (da_cons de_int da_nil)))))) (de_op o_mod (de_ct b_int C.n_int (da_cons (de_ix de_var de_int) da_nil)) de_int)) sc__law_take.nd)
    (dss_cons (ds_set (i := 4) (de_op o_mod (de_ct b_int C.n_int (da_cons (de_op o_pow (de_ct b_int C.n_int (da_cons (de_op o_add (de_op o_add (de_ix de_var de_int) (de_op o_mulx (de_op o_mulx de_int (de_ix de_var de_int)) (de_ix de_var de_int))) de_int) da_nil)) de_int) da_nil)) de_var) sc__law_take.nd)
    (dss_cons (ds_set (i := 4) (de_op o_mod (de_ct b_int C.n_int (da_cons (de_op o_mulx de_var (de_op o_add (de_op o_mod (de_ct b_int C.n_int (da_cons de_var da_nil)) de_int) (de_op o_mulx de_int (de_ix de_var de_int)))) da_nil)) de_int) sc__law_take.nd)
    (dss_one (ds_ret (de_op o_mod (de_ct b_int C.n_int (da_cons (de_op o_fdiv de_var de_int) da_nil)) de_var))))))))

abbrev N__law_of : List Str := ["pot", "some"]
theorem sc__law_of : FnScope ["pot", "some"] ["pot", "some"] (defScope (top 35)) := ⟨rfl, rfl, rfl, by decide +kernel, rfl, by decide +kernel, by decide +kernel⟩
theorem b__law_of (C : Fx K mg base T) : Binds K C.fd__law_of ["pot", "some"] [] := C.F__law_of.bindsN fun _ _ _ _ _ _ us hl => match us, hl with | [_, _], _ => rfl
theorem ok__law_of (C : Fx K mg base T) : FnG P w K mg base 3 (He.ga K "_law_of") C.fd__law_of ["pot", "some"] (spF K T 2 Q.g__law_of) :=
  FunD.ev (k := 2) C.F__law_of sc__law_of rfl rfl (by decide) fun A outer s H hr hg => dss_nox (X := cxOf CX0 P w K mg base ["pot", "some"] "_law_of" (defScope (top 35)) (He.ga K "_law_of") (codeOf K (He.ga K "_law_of")) A outer s H E0) (F := Q.e__law_of)
   (dss_one (ds_ret (de_ix de_var (de_call (ok__law_take C) (b__law_take C) C.m__law_take C.F__law_take.kp (hr.mono (show 2 ≤ 2 by decide)) hg (fun _ _ _ _ h => fnOf_len h) (da_cons de_var (da_cons (de_cb b_len C.n_len (da_cons de_var da_nil)) da_nil))))))

abbrev N__law_crowd : List Str := ["pot", "single", "top", "lots", "many", "place"]
theorem sc__law_crowd : FnScope ["pot", "single", "top", "lots", "many", "place"] ["pot", "single"] (defScope (top 37)) := ⟨rfl, rfl, rfl, by decide +kernel, rfl, by decide +kernel, by decide +kernel⟩
theorem b__law_crowd (C : Fx K mg base T) : Binds K C.fd__law_crowd ["pot", "single"] [] := C.F__law_crowd.bindsN fun _ _ _ _ _ _ us hl => match us, hl with | [_, _], _ => rfl
theorem ok__law_crowd (C : Fx K mg base T) : FnG P w K mg base 4 (He.ga K "_law_crowd") C.fd__law_crowd ["pot", "single"] (spF K T 2 Q.g__law_crowd) :=
  FunD.ev (k := 3) C.F__law_crowd sc__law_crowd rfl rfl (by decide) fun A outer s H hr hg => dss_nox (X := cxOf CX0 P w K mg base ["pot", "single", "top", "lots", "many", "place"] "_law_crowd" (defScope (top 37)) (He.ga K "_law_crowd") (codeOf K (He.ga K "_law_crowd")) A outer s H E0) (F := Q.e__law_crowd)
   (dss_cons (ds_asg (de_tup (da_cons (de_call (ok__law_of C) (b__law_of C) C.m__law_of C.F__law_of.kp (hr.mono (show 3 ≤ 3 by decide)) hg (fun _ _ _ _ h => fnOf_len h) (da_cons de_var (da_cons (de_lst (da_cons de_int (da_cons de_int (da_cons de_int da_nil)))) da_nil))) (da_cons (de_ite (dt_val de_var) de_int (de_call (ok__law_of C) (b__law_of C) C.m__law_of C.F__law_of.kp (hr.mono (show 3 ≤ 3 by decide)) hg (fun _ _ _ _ h => fnOf_len h) (da_cons de_var (da_cons (de_lst (da_cons de_int (da_cons de_int (da_cons de_int da_nil)))) da_nil)))) da_nil))) (dg_tup rfl (dgs_cons (dg_name (i := 2) sc__law_crowd.nd) (dgs_cons (dg_name (i := 3) sc__law_crowd.nd) dgs_nil))))
    (dss_cons (ds_set (i := 4) (de_call (ok__law_of C) (b__law_of C) C.m__law_of C.F__law_of.kp (hr.mono (show 3 ≤ 3 by decide)) hg (fun _ _ _ _ h => fnOf_len h) (da_cons de_var (da_cons (de_lst (da_cons (de_call (ok__law_take C) (b__law_take C) C.m__law_take C.F__law_take.kp (hr.mono (show 2 ≤ 3 by decide)) hg (fun _ _ _ _ h => fnOf_len h) (da_cons de_var (da_cons de_int da_nil))) (da_cons (de_call (ok__law_take C) (b__law_take C) C.m__law_take C.F__law_take.kp (hr.mono (show 2 ≤ 3 by decide)) hg (fun _ _ _ _ h => fnOf_len h) (da_cons de_var (da_cons de_int da_nil))) (da_cons (de_ite (dt_not (dt_val de_var)) (de_call (ok__law_take C) (b__law_take C) C.m__law_take C.F__law_take.kp (hr.mono (show 2 ≤ 3 by decide)) hg (fun _ _ _ _ h => fnOf_len h) (da_cons de_var (da_cons de_int da_nil))) (de_call (ok__law_take C) (b__law_take C) C.m__law_take C.F__law_take.kp (hr.mono (show 2 ≤ 3 by decide)) hg (fun _ _ _ _ h => fnOf_len h) (da_cons de_var (da_cons de_int da_nil)))) da_nil)))) da_nil))) sc__law_crowd.nd)
    (dss_one (ds_ret (de_ct b_tuple C.n_tuple (da_cons (de_comp (own := [("place", 5)]) sg_name rfl sc__law_crowd.nd (di_range1 C.n_range de_var) (blkOk_by (N := N__law_crowd) (sc := defScope (top 37)) (own := [("place", 5)]) (by decide +kernel)) (fun _ _ _ _ _ => (pg_name sc__law_crowd.nd rfl (by first | exact .inl rfl | exact .inr rfl))) (fun _ _ _ _ _ => dts_nil) (fun _ _ _ _ _ => (de_tup (da_cons (de_call (ok__law_of C) (b__law_of C) C.m__law_of C.F__law_of.kp (hr.mono (show 3 ≤ 3 by decide)) hg (fun _ _ _ _ h => fnOf_len h) (da_cons de_var (da_cons (de_lst (da_cons de_str (da_cons de_str da_nil))) da_nil))) (da_cons (de_op o_add de_int (de_call (ok__law_take C) (b__law_take C) C.m__law_take C.F__law_take.kp (hr.mono (show 2 ≤ 3 by decide)) hg (fun _ _ _ _ h => fnOf_len h) (da_cons de_var (da_cons de_var da_nil)))) (da_cons (de_op o_add de_int (de_call (ok__law_take C) (b__law_take C) C.m__law_take C.F__law_take.kp (hr.mono (show 2 ≤ 3 by decide)) hg (fun _ _ _ _ h => fnOf_len h) (da_cons de_var (da_cons de_var da_nil)))) da_nil)))))) da_nil))))))

abbrev N__law_sequence : List Str := ["crowd", "side", "places", "place", "bid"]
theorem sc__law_sequence : FnScope ["crowd", "side", "places", "place", "bid"] ["crowd", "side"] (defScope (top 38)) := ⟨rfl, rfl, rfl, by decide +kernel, rfl, by decide +kernel, by decide +kernel⟩
theorem b__law_sequence (C : Fx K mg base T) : Binds K C.fd__law_sequence ["crowd", "side"] [] := C.F__law_sequence.bindsN fun _ _ _ _ _ _ us hl => match us, hl with | [_, _], _ => rfl
theorem ok__law_sequence (C : Fx K mg base T) : FnG P w K mg base 2 (He.ga K "_law_sequence") C.fd__law_sequence ["crowd", "side"] (spF K T 2 Q.g__law_sequence) :=
  FunD.ev (k := 1) C.F__law_sequence sc__law_sequence rfl rfl (by decide) fun A outer s H hr hg => dss_nox (X := cxOf CX0 P w K mg base ["crowd", "side", "places", "place", "bid"] "_law_sequence" (defScope (top 38)) (He.ga K "_law_sequence") (codeOf K (He.ga K "_law_sequence")) A outer s H E0) (F := Q.e__law_sequence)
   (dss_cons (ds_setc (i := 2) (own := [("place", 3), ("bid", 4)]) (sg_tup (sgs_cons sg_name (sgs_cons sg_name sgs_nil))) rfl sc__law_sequence.nd rfl rfl rfl (di_enum C.n_enumerate de_var) (blkOk_by (N := N__law_sequence) (sc := defScope (top 38)) (own := [("place", 3), ("bid", 4)]) (by decide +kernel)) (fun _ _ _ _ _ => (pg_tup rfl (pgs_cons (pg_name sc__law_sequence.nd rfl (by first | exact .inl rfl | exact .inr rfl)) (pgs_cons (pg_name sc__law_sequence.nd rfl (by first | exact .inl rfl | exact .inr rfl)) pgs_nil)))) (fun _ _ _ _ _ => (dts_one (dt_cmp (o_eq hr.units) (de_ix de_var de_int) de_var))) (fun _ _ _ _ _ => de_var))
    (dss_one (ds_ret (de_sortK C.n_sorted de_var (dl_pair (dl_ite (dlt_eq dl_var dl_str) (dl_neg (dl_ix (dl_ix dl_var dl_var) dl_int)) (dl_ix (dl_ix dl_var dl_var) dl_int)) dl_var) (by decide +kernel : lam1B (defScope (top 38)) _ "place" = true) C.TB__law_sequence C.cd__law_sequence C.T__law_sequence C.U__law_sequence sc__law_sequence.nd (by decide +kernel : capsOk N__law_sequence _ [0, 1] = true) (hr.mono (show 1 ≤ 1 by decide))))))

abbrev N__law_honest : List Str := ["crowd", "buys", "sells", "many", "dear", "cheap", "mean", "buy", "sell"]
theorem sc__law_honest : FnScope ["crowd", "buys", "sells", "many", "dear", "cheap", "mean", "buy", "sell"] ["crowd"] (defScope (top 39)) := ⟨rfl, rfl, rfl, by decide +kernel, rfl, by decide +kernel, by decide +kernel⟩
theorem b__law_honest (C : Fx K mg base T) : Binds K C.fd__law_honest ["crowd"] [] := C.F__law_honest.bindsN fun _ _ _ _ _ _ us hl => match us, hl with | [_], _ => rfl
theorem ok__law_honest (C : Fx K mg base T) : FnG P w K mg base 3 (He.ga K "_law_honest") C.fd__law_honest ["crowd"] (spF K T 1 Q.g__law_honest) :=
  FunD.ev (k := 2) C.F__law_honest sc__law_honest rfl rfl (by decide) fun A outer s H hr hg => dss_nox (X := cxOf CX0 P w K mg base ["crowd", "buys", "sells", "many", "dear", "cheap", "mean", "buy", "sell"] "_law_honest" (defScope (top 39)) (He.ga K "_law_honest") (codeOf K (He.ga K "_law_honest")) A outer s H E0) (F := Q.e__law_honest)
   (dss_cons (ds_par (i := 1) (j := 2) rfl sc__law_honest.nd (da_cons (de_call (ok__law_sequence C) (b__law_sequence C) C.m__law_sequence C.F__law_sequence.kp (hr.mono (show 2 ≤ 2 by decide)) hg (fun _ _ _ _ h => fnOf_len h) (da_cons de_var (da_cons de_str da_nil))) (da_cons (de_call (ok__law_sequence C) (b__law_sequence C) C.m__law_sequence C.F__law_sequence.kp (hr.mono (show 2 ≤ 2 by decide)) hg (fun _ _ _ _ h => fnOf_len h) (da_cons de_var (da_cons de_str da_nil))) da_nil)) rfl)
    (dss_cons (ds_set (i := 3) (de_cb b_len C.n_len (da_cons (de_comp (own := [("buy", 7), ("sell", 8)]) (sg_tup (sgs_cons sg_name (sgs_cons sg_name sgs_nil))) rfl sc__law_honest.nd (di_zip C.n_zip de_var de_var) (blkOk_by (N := N__law_honest) (sc := defScope (top 39)) (own := [("buy", 7), ("sell", 8)]) (by decide +kernel)) (fun _ _ _ _ _ => (pg_tup rfl (pgs_cons (pg_name sc__law_honest.nd rfl (by first | exact .inl rfl | exact .inr rfl)) (pgs_cons (pg_name sc__law_honest.nd rfl (by first | exact .inl rfl | exact .inr rfl)) pgs_nil)))) (fun _ _ _ _ _ => (dts_one (dt_cmp o_ge (de_ix (de_ix de_var de_var) de_int) (de_ix (de_ix de_var de_var) de_int)))) (fun _ _ _ _ _ => de_int)) da_nil)) sc__law_honest.nd)
    (dss_cons (ds_if (dt_cmp (o_eq hr.units) de_var de_int) (dss_one (ds_ret (de_tup (da_cons (de_tup da_nil) (da_cons (de_tup da_nil) (da_cons de_int (da_cons de_int da_nil))))))) dss_nil)
    (dss_cons (ds_par (i := 4) (j := 5) rfl sc__law_honest.nd (da_cons (de_ix (de_ix de_var (de_ix de_var (de_op o_sub de_var de_int))) de_int) (da_cons (de_ix (de_ix de_var (de_ix de_var (de_op o_sub de_var de_int))) de_int) da_nil)) rfl)
    (dss_cons (ds_if (dt_cmp o_lt de_var (de_cb (b_min rfl) C.n_min (da_cons (de_cb b_len C.n_len (da_cons de_var da_nil)) (da_cons (de_cb b_len C.n_len (da_cons de_var da_nil)) da_nil)))) (dss_cons (ds_set (i := 6) (de_op o_add (de_ix (de_ix de_var (de_ix de_var de_var)) de_int) (de_ix (de_ix de_var (de_ix de_var de_var)) de_int)) sc__law_honest.nd)
    (dss_one (ds_if (dt_chain o_le o_le (de_op o_mulx de_int de_var) de_var (de_op o_mulx de_int de_var)) (dss_one (ds_ret (de_tup (da_cons (de_ct b_tuple C.n_tuple (da_cons (de_cb (b_sorted (room80 hr)) C.n_sorted (da_cons (de_sl de_var do_no (do_part de_var)) da_nil)) da_nil)) (da_cons (de_ct b_tuple C.n_tuple (da_cons (de_cb (b_sorted (room80 hr)) C.n_sorted (da_cons (de_sl de_var do_no (do_part de_var)) da_nil)) da_nil)) (da_cons de_var (da_cons de_var da_nil))))))) dss_nil))) dss_nil)
    (dss_cons (ds_if (dt_cmp (o_eq hr.units) de_var de_int) (dss_one (ds_ret (de_tup (da_cons (de_tup da_nil) (da_cons (de_tup da_nil) (da_cons de_int (da_cons de_int da_nil))))))) dss_nil)
    (dss_one (ds_ret (de_tup (da_cons (de_ct b_tuple C.n_tuple (da_cons (de_cb (b_sorted (room80 hr)) C.n_sorted (da_cons (de_sl de_var do_no (do_part (de_op o_sub de_var de_int))) da_nil)) da_nil)) (da_cons (de_ct b_tuple C.n_tuple (da_cons (de_cb (b_sorted (room80 hr)) C.n_sorted (da_cons (de_sl de_var do_no (do_part (de_op o_sub de_var de_int))) da_nil)) da_nil)) (da_cons (de_op o_mulx de_int de_var) (da_cons (de_op o_mulx de_int de_var) da_nil)))))))))))))

abbrev N_is_integer : List Str := ["value"]
theorem sc_is_integer : FnScope ["value"] ["value"] (defScope (top 6)) := ⟨rfl, rfl, rfl, by decide +kernel, rfl, by decide +kernel, by decide +kernel⟩
theorem b_is_integer (C : Fx K mg base T) : Binds K C.fd_is_integer ["value"] [] := C.F_is_integer.bindsN fun _ _ _ _ _ _ us hl => match us, hl with | [_], _ => rfl
theorem ok_is_integer (C : Fx K mg base T) : FnG P w K mg base 2 (He.ga K "is_integer") C.fd_is_integer ["value"] (spF K T 1 Q.g_is_integer) :=
  FunD.ev (k := 1) C.F_is_integer sc_is_integer rfl rfl (by decide) fun A outer s H hr hg => dss_nox (X := cxOf CX0 P w K mg base ["value"] "is_integer" (defScope (top 6)) (He.ga K "is_integer") (codeOf K (He.ga K "is_integer")) A outer s H E0) (F := Q.e_is_integer)
   (dss_one (ds_ret (de_and (de_isi (by decide +kernel) C.n_isinstance de_var C.n_int) (de_one (de_not (de_isi (by decide +kernel) C.n_isinstance de_var C.n_bool))))))

abbrev N_is_between : List Str := ["value", "low", "high"]
theorem sc_is_between : FnScope ["value", "low", "high"] ["value", "low", "high"] (defScope (top 7)) := ⟨rfl, rfl, rfl, by decide +kernel, rfl, by decide +kernel, by decide +kernel⟩
theorem b_is_between (C : Fx K mg base T) : Binds K C.fd_is_between ["value", "low", "high"] [] := C.F_is_between.bindsN fun _ _ _ _ _ _ us hl => match us, hl with | [_, _, _], _ => rfl
theorem ok_is_between (C : Fx K mg base T) : FnG P w K mg base 3 (He.ga K "is_between") C.fd_is_between ["value", "low", "high"] (spF K T 3 Q.g_is_between) :=
  FunD.ev (k := 2) C.F_is_between sc_is_between rfl rfl (by decide) fun A outer s H hr hg => dss_nox (X := cxOf CX0 P w K mg base ["value", "low", "high"] "is_between" (defScope (top 7)) (He.ga K "is_between") (codeOf K (He.ga K "is_between")) A outer s H E0) (F := Q.e_is_between)
   (dss_one (ds_ret (de_and (de_call (ok_is_integer C) (b_is_integer C) C.m_is_integer C.F_is_integer.kp (hr.mono (show 2 ≤ 2 by decide)) hg (fun _ _ _ _ h => fnOf_len h) (da_cons de_var da_nil)) (de_one (de_chain o_le o_le de_var de_var de_var)))))

abbrev N_is_tuple_of : List Str := ["value", "many"]
theorem sc_is_tuple_of : FnScope ["value", "many"] ["value", "many"] (defScope (top 9)) := ⟨rfl, rfl, rfl, by decide +kernel, rfl, by decide +kernel, by decide +kernel⟩
theorem b_is_tuple_of (C : Fx K mg base T) : Binds K C.fd_is_tuple_of ["value", "many"] [] := C.F_is_tuple_of.bindsN fun _ _ _ _ _ _ us hl => match us, hl with | [_, _], _ => rfl
theorem ok_is_tuple_of (C : Fx K mg base T) : FnG P w K mg base 2 (He.ga K "is_tuple_of") C.fd_is_tuple_of ["value", "many"] (spF K T 2 Q.g_is_tuple_of) :=
  FunD.ev (k := 1) C.F_is_tuple_of sc_is_tuple_of rfl rfl (by decide) fun A outer s H hr hg => dss_nox (X := cxOf CX0 P w K mg base ["value", "many"] "is_tuple_of" (defScope (top 9)) (He.ga K "is_tuple_of") (codeOf K (He.ga K "is_tuple_of")) A outer s H E0) (F := Q.e_is_tuple_of)
   (dss_one (ds_ret (de_and (de_isi (by decide +kernel) C.n_isinstance de_var C.n_tuple) (de_one (de_cmp (o_eq hr.units) (de_cb b_len C.n_len (da_cons de_var da_nil)) de_var)))))

abbrev N_is_word : List Str := ["value", "words"]
theorem sc_is_word : FnScope ["value", "words"] ["value", "words"] (defScope (top 8)) := ⟨rfl, rfl, rfl, by decide +kernel, rfl, by decide +kernel, by decide +kernel⟩
theorem b_is_word (C : Fx K mg base T) : Binds K C.fd_is_word ["value", "words"] [] := C.F_is_word.bindsN fun _ _ _ _ _ _ us hl => match us, hl with | [_, _], _ => rfl
theorem ok_is_word (C : Fx K mg base T) : FnG P w K mg base 2 (He.ga K "is_word") C.fd_is_word ["value", "words"] (spF K T 2 Q.g_is_word) :=
  FunD.ev (k := 1) C.F_is_word sc_is_word rfl rfl (by decide) fun A outer s H hr hg => dss_nox (X := cxOf CX0 P w K mg base ["value", "words"] "is_word" (defScope (top 8)) (He.ga K "is_word") (codeOf K (He.ga K "is_word")) A outer s H E0) (F := Q.e_is_word)
   (dss_one (ds_ret (de_and (de_isi (by decide +kernel) C.n_isinstance de_var C.n_str) (de_one (de_cmp o_in de_var de_var)))))

abbrev N_is_bid : List Str := ["value"]
theorem sc_is_bid : FnScope ["value"] ["value"] (defScope (top 18)) := ⟨rfl, rfl, rfl, by decide +kernel, rfl, by decide +kernel, by decide +kernel⟩
theorem b_is_bid (C : Fx K mg base T) : Binds K C.fd_is_bid ["value"] [] := C.F_is_bid.bindsN fun _ _ _ _ _ _ us hl => match us, hl with | [_], _ => rfl
theorem ok_is_bid (C : Fx K mg base T) : FnG P w K mg base 4 (He.ga K "is_bid") C.fd_is_bid ["value"] (spF K T 1 Q.g_is_bid_fc57) :=
  FunD.ev (k := 3) C.F_is_bid sc_is_bid rfl rfl (by decide) fun A outer s H hr hg => dss_nox (X := cxOf CX0 P w K mg base ["value"] "is_bid" (defScope (top 18)) (He.ga K "is_bid") (codeOf K (He.ga K "is_bid")) A outer s H E0) (F := Q.e_is_bid_fc57)
   (dss_cons (ds_if (DW.pt (dw_or (dt_not (dt_val (de_call (ok_is_tuple_of C) (b_is_tuple_of C) C.m_is_tuple_of C.F_is_tuple_of.kp (hr.mono (show 2 ≤ 3 by decide)) hg (fun _ _ _ _ h => fnOf_len h) (da_cons de_var (da_cons (de_glob C.c_THREE) da_nil))))) (dw_or (dt_not (dt_val (de_call (ok_is_word C) (b_is_word C) C.m_is_word C.F_is_word.kp (hr.mono (show 2 ≤ 3 by decide)) hg (fun _ _ _ _ h => fnOf_len h) (da_cons (de_ix de_var de_int) (da_cons (de_glob C.c_SIDES) da_nil))))) (dw_or1 (dt_not (dt_val (de_call (ok_is_between C) (b_is_between C) C.m_is_between C.F_is_between.kp (hr.mono (show 3 ≤ 3 by decide)) hg (fun _ _ _ _ h => fnOf_len h) (da_cons (de_ix de_var de_int) (da_cons de_int (da_cons (de_glob C.c_MOST_PRICES) da_nil)))))))))) (dss_one (ds_ret de_bl)) dss_nil)
    (dss_one (ds_ret (de_call (ok_is_between C) (b_is_between C) C.m_is_between C.F_is_between.kp (hr.mono (show 3 ≤ 3 by decide)) hg (fun _ _ _ _ h => fnOf_len h) (da_cons (de_ix de_var de_int) (da_cons de_int (da_cons (de_glob C.c_MOST_LOTS) da_nil)))))))

abbrev N_is_crowd : List Str := ["value", "bid"]
theorem sc_is_crowd : FnScope ["value", "bid"] ["value"] (defScope (top 19)) := ⟨rfl, rfl, rfl, by decide +kernel, rfl, by decide +kernel, by decide +kernel⟩
theorem b_is_crowd (C : Fx K mg base T) : Binds K C.fd_is_crowd ["value"] [] := C.F_is_crowd.bindsN fun _ _ _ _ _ _ us hl => match us, hl with | [_], _ => rfl
theorem ok_is_crowd (C : Fx K mg base T) : FnG P w K mg base 5 (He.ga K "is_crowd") C.fd_is_crowd ["value"] (spF K T 1 Q.g_is_crowd_e08a) :=
  FunD.ev (k := 4) C.F_is_crowd sc_is_crowd rfl rfl (by decide) fun A outer s H hr hg => dss_nox (X := cxOf CX0 P w K mg base ["value", "bid"] "is_crowd" (defScope (top 19)) (He.ga K "is_crowd") (codeOf K (He.ga K "is_crowd")) A outer s H E0) (F := Q.e_is_crowd_e08a)
   (dss_one (ds_ret (de_and (de_isi (by decide +kernel) C.n_isinstance de_var C.n_tuple) (de_and (de_cmp o_le (de_cb b_len C.n_len (da_cons de_var da_nil)) (de_glob C.c_MOST_BIDS)) (de_one (de_cb (b_all rfl) C.n_all (da_cons (de_comp (own := [("bid", 1)]) sg_name rfl sc_is_crowd.nd (di_seq de_var) (blkOk_by (N := N_is_crowd) (sc := defScope (top 19)) (own := [("bid", 1)]) (by decide +kernel)) (fun _ _ _ _ _ => (pg_name sc_is_crowd.nd rfl (by first | exact .inl rfl | exact .inr rfl))) (fun _ _ _ _ _ => dts_nil) (fun _ _ _ _ _ => (de_call (ok_is_bid C) (b_is_bid C) C.m_is_bid C.F_is_bid.kp (hr.mono (show 4 ≤ 4 by decide)) hg (fun _ _ _ _ h => fnOf_len h) (da_cons de_var da_nil)))) da_nil)))))))

abbrev N_check_crowd : List Str := ["crowd"]
theorem sc_check_crowd : FnScope ["crowd"] ["crowd"] (defScope (top 20)) := ⟨rfl, rfl, rfl, by decide +kernel, rfl, by decide +kernel, by decide +kernel⟩
theorem b_check_crowd (C : Fx K mg base T) : Binds K C.fd_check_crowd ["crowd"] [] := C.F_check_crowd.bindsN fun _ _ _ _ _ _ us hl => match us, hl with | [_], _ => rfl
theorem ok_check_crowd (C : Fx K mg base T) : FnG P w K mg base 6 (He.ga K "check_crowd") C.fd_check_crowd ["crowd"] (spF K T 1 Q.g_check_crowd_cdc6) :=
  FunD.ev (k := 5) C.F_check_crowd sc_check_crowd rfl rfl (by decide) fun A outer s H hr hg => dss_nox (X := cxOf CX0 P w K mg base ["crowd"] "check_crowd" (defScope (top 20)) (He.ga K "check_crowd") (codeOf K (He.ga K "check_crowd")) A outer s H E0) (F := Q.e_check_crowd_cdc6)
   (dss_one (ds_if (dt_not (dt_val (de_call (ok_is_crowd C) (b_is_crowd C) C.m_is_crowd C.F_is_crowd.kp (hr.mono (show 5 ≤ 5 by decide)) hg (fun _ _ _ _ h => fnOf_len h) (da_cons de_var da_nil)))) (dss_one ds_never) dss_nil))

abbrev N_check_single : List Str := ["crowd", "place", "bid"]
theorem sc_check_single : FnScope ["crowd", "place", "bid"] ["crowd"] (defScope (top 23)) := ⟨rfl, rfl, rfl, by decide +kernel, rfl, by decide +kernel, by decide +kernel⟩
theorem b_check_single (C : Fx K mg base T) : Binds K C.fd_check_single ["crowd"] [] := C.F_check_single.bindsN fun _ _ _ _ _ _ us hl => match us, hl with | [_], _ => rfl
theorem ok_check_single (C : Fx K mg base T) : FnG P w K mg base 7 (He.ga K "check_single") C.fd_check_single ["crowd"] (spF K T 1 Q.g_check_single_03cf) :=
  FunD.ev (k := 6) C.F_check_single sc_check_single rfl rfl (by decide) fun A outer s H hr hg => dss_nox (X := cxOf CX0 P w K mg base ["crowd", "place", "bid"] "check_single" (defScope (top 23)) (He.ga K "check_single") (codeOf K (He.ga K "check_single")) A outer s H E0) (F := Q.e_check_single_03cf)
   (dss_cons (ds_expr (de_call (ok_check_crowd C) (b_check_crowd C) C.m_check_crowd C.F_check_crowd.kp (hr.mono (show 6 ≤ 6 by decide)) hg (fun _ _ _ _ h => fnOf_len h) (da_cons de_var da_nil)))
    (dss_one (ds_for (vs := [1, 2]) PassesOwn.never rfl (di_enum C.n_enumerate de_var) (pg_tup rfl (pgs_cons (pg_name sc_check_single.nd rfl (by first | exact .inl rfl | exact .inr rfl)) (pgs_cons (pg_name sc_check_single.nd rfl (by first | exact .inl rfl | exact .inr rfl)) pgs_nil))) (sg_tup (sgs_cons sg_name (sgs_cons sg_name sgs_nil))) (dss_one (ds_if (dt_cmp (o_ne hr.units) (de_ix de_var de_int) de_int) (dss_one ds_never) dss_nil)))))

abbrev N_check_bid : List Str := ["crowd", "place"]
theorem sc_check_bid : FnScope ["crowd", "place"] ["crowd", "place"] (defScope (top 24)) := ⟨rfl, rfl, rfl, by decide +kernel, rfl, by decide +kernel, by decide +kernel⟩
theorem b_check_bid (C : Fx K mg base T) : Binds K C.fd_check_bid ["crowd", "place"] [] := C.F_check_bid.bindsN fun _ _ _ _ _ _ us hl => match us, hl with | [_, _], _ => rfl
theorem ok_check_bid (C : Fx K mg base T) : FnG P w K mg base 8 (He.ga K "check_bid") C.fd_check_bid ["crowd", "place"] (spF K T 2 Q.g_check_bid_8058) :=
  FunD.ev (k := 7) C.F_check_bid sc_check_bid rfl rfl (by decide) fun A outer s H hr hg => dss_nox (X := cxOf CX0 P w K mg base ["crowd", "place"] "check_bid" (defScope (top 24)) (He.ga K "check_bid") (codeOf K (He.ga K "check_bid")) A outer s H E0) (F := Q.e_check_bid_8058)
   (dss_cons (ds_expr (de_call (ok_check_single C) (b_check_single C) C.m_check_single C.F_check_single.kp (hr.mono (show 7 ≤ 7 by decide)) hg (fun _ _ _ _ h => fnOf_len h) (da_cons de_var da_nil)))
    (dss_one (ds_if (dt_not (dt_val (de_call (ok_is_between C) (b_is_between C) C.m_is_between C.F_is_between.kp (hr.mono (show 3 ≤ 7 by decide)) hg (fun _ _ _ _ h => fnOf_len h) (da_cons de_var (da_cons de_int (da_cons (de_op o_sub (de_cb b_len C.n_len (da_cons de_var da_nil)) de_int) da_nil)))))) (dss_one ds_never) dss_nil)))

abbrev N_fitting_many : List Str := ["crowd", "buys", "sells", "many"]
theorem sc_fitting_many : FnScope ["crowd", "buys", "sells", "many"] ["crowd", "buys", "sells"] (defScope (top 25)) := ⟨rfl, rfl, rfl, by decide +kernel, rfl, by decide +kernel, by decide +kernel⟩
theorem b_fitting_many (C : Fx K mg base T) : Binds K C.fd_fitting_many ["crowd", "buys", "sells"] [] := C.F_fitting_many.bindsN fun _ _ _ _ _ _ us hl => match us, hl with | [_, _, _], _ => rfl
theorem ok_fitting_many (C : Fx K mg base T) : FnG P w K mg base 2 (He.ga K "fitting_many") C.fd_fitting_many ["crowd", "buys", "sells"] (spF K T 3 Q.g_fitting_many) :=
  FunD.ev (k := 1) C.F_fitting_many sc_fitting_many rfl rfl (by decide) fun A outer s H hr hg => dss_nox (X := cxOf CX0 P w K mg base ["crowd", "buys", "sells", "many"] "fitting_many" (defScope (top 25)) (He.ga K "fitting_many") (codeOf K (He.ga K "fitting_many")) A outer s H E0) (F := Q.e_fitting_many)
   (dss_cons (ds_set (i := 3) de_int sc_fitting_many.nd)
    (dss_cons (ds_while PassesOwn.never (DW.pt (dw_and (dt_cmp o_lt de_var (de_cb (b_min rfl) C.n_min (da_cons (de_cb b_len C.n_len (da_cons de_var da_nil)) (da_cons (de_cb b_len C.n_len (da_cons de_var da_nil)) da_nil)))) (dw_and1 (dt_cmp o_ge (de_ix (de_ix de_var (de_ix de_var de_var)) de_int) (de_ix (de_ix de_var (de_ix de_var de_var)) de_int))))) (dss_one (ds_set (i := 3) (de_op o_add de_var de_int) sc_fitting_many.nd)))
    (dss_one (ds_ret de_var))))

abbrev N_between : List Str := ["crowd", "buys", "sells", "many"]
theorem sc_between : FnScope ["crowd", "buys", "sells", "many"] ["crowd", "buys", "sells", "many"] (defScope (top 26)) := ⟨rfl, rfl, rfl, by decide +kernel, rfl, by decide +kernel, by decide +kernel⟩
theorem b_between (C : Fx K mg base T) : Binds K C.fd_between ["crowd", "buys", "sells", "many"] [] := C.F_between.bindsN fun _ _ _ _ _ _ us hl => match us, hl with | [_, _, _, _], _ => rfl
theorem ok_between (C : Fx K mg base T) : FnG P w K mg base 2 (He.ga K "between") C.fd_between ["crowd", "buys", "sells", "many"] (spF K T 4 Q.g_between) :=
  FunD.ev (k := 1) C.F_between sc_between rfl rfl (by decide) fun A outer s H hr hg => dss_nox (X := cxOf CX0 P w K mg base ["crowd", "buys", "sells", "many"] "between" (defScope (top 26)) (He.ga K "between") (codeOf K (He.ga K "between")) A outer s H E0) (F := Q.e_between)
   (dss_cons (ds_if (DW.pt (dw_or (dt_cmp o_ge de_var (de_cb b_len C.n_len (da_cons de_var da_nil))) (dw_or1 (dt_cmp o_ge de_var (de_cb b_len C.n_len (da_cons de_var da_nil)))))) (dss_one (ds_ret de_non)) dss_nil)
    (dss_one (ds_ret (de_op o_add (de_ix (de_ix de_var (de_ix de_var de_var)) de_int) (de_ix (de_ix de_var (de_ix de_var de_var)) de_int)))))

abbrev N_in_sequence : List Str := ["crowd", "side", "places", "place", "bid"]
theorem sc_in_sequence : FnScope ["crowd", "side", "places", "place", "bid"] ["crowd", "side"] (defScope (top 21)) := ⟨rfl, rfl, rfl, by decide +kernel, rfl, by decide +kernel, by decide +kernel⟩
theorem b_in_sequence (C : Fx K mg base T) : Binds K C.fd_in_sequence ["crowd", "side"] [] := C.F_in_sequence.bindsN fun _ _ _ _ _ _ us hl => match us, hl with | [_, _], _ => rfl
theorem ok_in_sequence (C : Fx K mg base T) : FnG P w K mg base 2 (He.ga K "in_sequence") C.fd_in_sequence ["crowd", "side"] (spF K T 2 Q.g_in_sequence) :=
  FunD.ev (k := 1) C.F_in_sequence sc_in_sequence rfl rfl (by decide) fun A outer s H hr hg => dss_nox (X := cxOf CX0 P w K mg base ["crowd", "side", "places", "place", "bid"] "in_sequence" (defScope (top 21)) (He.ga K "in_sequence") (codeOf K (He.ga K "in_sequence")) A outer s H E0) (F := Q.e_in_sequence)
   (dss_cons (ds_setc (i := 2) (own := [("place", 3), ("bid", 4)]) (sg_tup (sgs_cons sg_name (sgs_cons sg_name sgs_nil))) rfl sc_in_sequence.nd rfl rfl rfl (di_enum C.n_enumerate de_var) (blkOk_by (N := N_in_sequence) (sc := defScope (top 21)) (own := [("place", 3), ("bid", 4)]) (by decide +kernel)) (fun _ _ _ _ _ => (pg_tup rfl (pgs_cons (pg_name sc_in_sequence.nd rfl (by first | exact .inl rfl | exact .inr rfl)) (pgs_cons (pg_name sc_in_sequence.nd rfl (by first | exact .inl rfl | exact .inr rfl)) pgs_nil)))) (fun _ _ _ _ _ => (dts_one (dt_cmp (o_eq hr.units) (de_ix de_var de_int) de_var))) (fun _ _ _ _ _ => de_var))
    (dss_one (ds_ret (de_sortK C.n_sorted de_var (dl_pair (dl_ite (dlt_eq dl_var (dl_conS C.c_BUY)) (dl_sub dl_int (dl_ix (dl_ix dl_var dl_var) dl_int)) (dl_ix (dl_ix dl_var dl_var) dl_int)) dl_var) (by decide +kernel : lam1B (defScope (top 21)) _ "place" = true) C.TB_in_sequence C.cd_in_sequence C.T_in_sequence C.U_in_sequence sc_in_sequence.nd (by decide +kernel : capsOk N_in_sequence _ [0, 1] = true) (hr.mono (show 1 ≤ 1 by decide))))))

abbrev N_honest_of : List Str := ["crowd", "buys", "sells", "many", "dear", "cheap", "price"]
theorem sc_honest_of : FnScope ["crowd", "buys", "sells", "many", "dear", "cheap", "price"] ["crowd"] (defScope (top 27)) := ⟨rfl, rfl, rfl, by decide +kernel, rfl, by decide +kernel, by decide +kernel⟩
theorem b_honest_of (C : Fx K mg base T) : Binds K C.fd_honest_of ["crowd"] [] := C.F_honest_of.bindsN fun _ _ _ _ _ _ us hl => match us, hl with | [_], _ => rfl
theorem ok_honest_of (C : Fx K mg base T) : FnG P w K mg base 3 (He.ga K "honest_of") C.fd_honest_of ["crowd"] (spF K T 1 Q.g_honest_of) :=
  FunD.ev (k := 2) C.F_honest_of sc_honest_of rfl rfl (by decide) fun A outer s H hr hg => dss_nox (X := cxOf CX0 P w K mg base ["crowd", "buys", "sells", "many", "dear", "cheap", "price"] "honest_of" (defScope (top 27)) (He.ga K "honest_of") (codeOf K (He.ga K "honest_of")) A outer s H E0) (F := Q.e_honest_of)
   (dss_cons (ds_par (i := 1) (j := 2) rfl sc_honest_of.nd (da_cons (de_call (ok_in_sequence C) (b_in_sequence C) C.m_in_sequence C.F_in_sequence.kp (hr.mono (show 2 ≤ 2 by decide)) hg (fun _ _ _ _ h => fnOf_len h) (da_cons de_var (da_cons (de_glob C.c_BUY) da_nil))) (da_cons (de_call (ok_in_sequence C) (b_in_sequence C) C.m_in_sequence C.F_in_sequence.kp (hr.mono (show 2 ≤ 2 by decide)) hg (fun _ _ _ _ h => fnOf_len h) (da_cons de_var (da_cons (de_glob C.c_SELL) da_nil))) da_nil)) rfl)
    (dss_cons (ds_set (i := 3) (de_call (ok_fitting_many C) (b_fitting_many C) C.m_fitting_many C.F_fitting_many.kp (hr.mono (show 2 ≤ 2 by decide)) hg (fun _ _ _ _ h => fnOf_len h) (da_cons de_var (da_cons de_var (da_cons de_var da_nil)))) sc_honest_of.nd)
    (dss_cons (ds_if (dt_cmp (o_eq hr.units) de_var de_int) (dss_one (ds_ret (de_tup (da_cons (de_tup da_nil) (da_cons (de_tup da_nil) (da_cons de_int (da_cons de_int da_nil))))))) dss_nil)
    (dss_cons (ds_par (i := 4) (j := 5) rfl sc_honest_of.nd (da_cons (de_ix (de_ix de_var (de_ix de_var (de_op o_sub de_var de_int))) de_int) (da_cons (de_ix (de_ix de_var (de_ix de_var (de_op o_sub de_var de_int))) de_int) da_nil)) rfl)
    (dss_cons (ds_set (i := 6) (de_call (ok_between C) (b_between C) C.m_between C.F_between.kp (hr.mono (show 2 ≤ 2 by decide)) hg (fun _ _ _ _ h => fnOf_len h) (da_cons de_var (da_cons de_var (da_cons de_var (da_cons de_var da_nil))))) sc_honest_of.nd)
    (dss_cons (ds_if (DW.pt (dw_and (dt_cmp o_isnot de_var de_non) (dw_and1 (dt_chain o_le o_le (de_op o_mulx de_int de_var) de_var (de_op o_mulx de_int de_var))))) (dss_one (ds_ret (de_tup (da_cons (de_ct b_tuple C.n_tuple (da_cons (de_cb (b_sorted (room80 hr)) C.n_sorted (da_cons (de_sl de_var do_no (do_part de_var)) da_nil)) da_nil)) (da_cons (de_ct b_tuple C.n_tuple (da_cons (de_cb (b_sorted (room80 hr)) C.n_sorted (da_cons (de_sl de_var do_no (do_part de_var)) da_nil)) da_nil)) (da_cons de_var (da_cons de_var da_nil))))))) dss_nil)
    (dss_cons (ds_if (dt_cmp (o_eq hr.units) de_var de_int) (dss_one (ds_ret (de_tup (da_cons (de_tup da_nil) (da_cons (de_tup da_nil) (da_cons de_int (da_cons de_int da_nil))))))) dss_nil)
    (dss_one (ds_ret (de_tup (da_cons (de_ct b_tuple C.n_tuple (da_cons (de_cb (b_sorted (room80 hr)) C.n_sorted (da_cons (de_sl de_var do_no (do_part (de_op o_sub de_var de_int))) da_nil)) da_nil)) (da_cons (de_ct b_tuple C.n_tuple (da_cons (de_cb (b_sorted (room80 hr)) C.n_sorted (da_cons (de_sl de_var do_no (do_part (de_op o_sub de_var de_int))) da_nil)) da_nil)) (da_cons (de_op o_mulx de_int de_var) (da_cons (de_op o_mulx de_int de_var) da_nil))))))))))))))

abbrev N_honest_gain : List Str := ["crowd", "place", "limit", "side", "own", "lots", "told", "buys", "sells", "pays", "gets"]
theorem sc_honest_gain : FnScope ["crowd", "place", "limit", "side", "own", "lots", "told", "buys", "sells", "pays", "gets"] ["crowd", "place", "limit"] (defScope (top 29)) := ⟨rfl, rfl, rfl, by decide +kernel, rfl, by decide +kernel, by decide +kernel⟩
theorem b_honest_gain (C : Fx K mg base T) : Binds K C.fd_honest_gain ["crowd", "place", "limit"] [] := C.F_honest_gain.bindsN fun _ _ _ _ _ _ us hl => match us, hl with | [_, _, _], _ => rfl
theorem ok_honest_gain (C : Fx K mg base T) : FnG P w K mg base 4 (He.ga K "honest_gain") C.fd_honest_gain ["crowd", "place", "limit"] (spF K T 3 Q.g_honest_gain) :=
  FunD.ev (k := 3) C.F_honest_gain sc_honest_gain rfl rfl (by decide) fun A outer s H hr hg => dss_nox (X := cxOf CX0 P w K mg base ["crowd", "place", "limit", "side", "own", "lots", "told", "buys", "sells", "pays", "gets"] "honest_gain" (defScope (top 29)) (He.ga K "honest_gain") (codeOf K (He.ga K "honest_gain")) A outer s H E0) (F := Q.e_honest_gain)
   (dss_cons (ds_asg (de_ix de_var de_var) (dg_tup rfl (dgs_cons (dg_name (i := 3) sc_honest_gain.nd) (dgs_cons (dg_name (i := 4) sc_honest_gain.nd) (dgs_cons (dg_name (i := 5) sc_honest_gain.nd) dgs_nil)))))
    (dss_cons (ds_set (i := 6) (de_tup (da_star (de_sl de_var do_no (do_part de_var)) (da_cons (de_tup (da_cons de_var (da_cons de_var (da_cons de_var da_nil)))) (da_star (de_sl de_var (do_part (de_op o_add de_var de_int)) do_no) da_nil)))) sc_honest_gain.nd)
    (dss_cons (ds_asg (de_call (ok_honest_of C) (b_honest_of C) C.m_honest_of C.F_honest_of.kp (hr.mono (show 3 ≤ 3 by decide)) hg (fun _ _ _ _ h => fnOf_len h) (da_cons de_var da_nil)) (dg_tup rfl (dgs_cons (dg_name (i := 7) sc_honest_gain.nd) (dgs_cons (dg_name (i := 8) sc_honest_gain.nd) (dgs_cons (dg_name (i := 9) sc_honest_gain.nd) (dgs_cons (dg_name (i := 10) sc_honest_gain.nd) dgs_nil))))))
    (dss_cons (ds_if (dt_cmp (o_eq hr.units) de_var (de_glob C.c_BUY)) (dss_one (ds_ret (de_ite (dt_cmp o_in de_var de_var) (de_op o_sub (de_op o_mulx de_int de_var) de_var) de_int))) dss_nil)
    (dss_one (ds_ret (de_ite (dt_cmp o_in de_var de_var) (de_op o_sub de_var (de_op o_mulx de_int de_var)) de_int)))))))

abbrev N_gains_by : List Str := ["crowd", "place", "limit"]
theorem sc_gains_by : FnScope ["crowd", "place", "limit"] ["crowd", "place"] (defScope (top 30)) := ⟨rfl, rfl, rfl, by decide +kernel, rfl, by decide +kernel, by decide +kernel⟩
theorem b_gains_by (C : Fx K mg base T) : Binds K C.fd_gains_by ["crowd", "place"] [] := C.F_gains_by.bindsN fun _ _ _ _ _ _ us hl => match us, hl with | [_, _], _ => rfl
theorem ok_gains_by (C : Fx K mg base T) : FnG P w K mg base 9 (He.ga K "gains_by") C.fd_gains_by ["crowd", "place"] (spF K T 2 Q.g_gains_by_30bb) :=
  FunD.ev (k := 8) C.F_gains_by sc_gains_by rfl rfl (by decide) fun A outer s H hr hg => dss_nox (X := cxOf CX0 P w K mg base ["crowd", "place", "limit"] "gains_by" (defScope (top 30)) (He.ga K "gains_by") (codeOf K (He.ga K "gains_by")) A outer s H E0) (F := Q.e_gains_by_30bb)
   (dss_cons (ds_expr (de_call (ok_check_bid C) (b_check_bid C) C.m_check_bid C.F_check_bid.kp (hr.mono (show 8 ≤ 8 by decide)) hg (fun _ _ _ _ h => fnOf_len h) (da_cons de_var (da_cons de_var da_nil))))
    (dss_one (ds_ret (de_ct b_tuple C.n_tuple (da_cons (de_comp (own := [("limit", 2)]) sg_name rfl sc_gains_by.nd (di_range2 C.n_range de_int (de_op o_add (de_glob C.c_MOST_PRICES) de_int)) (blkOk_by (N := N_gains_by) (sc := defScope (top 30)) (own := [("limit", 2)]) (by decide +kernel)) (fun _ _ _ _ _ => (pg_name sc_gains_by.nd rfl (by first | exact .inl rfl | exact .inr rfl))) (fun _ _ _ _ _ => dts_nil) (fun _ _ _ _ _ => (de_call (ok_honest_gain C) (b_honest_gain C) C.m_honest_gain C.F_honest_gain.kp (hr.mono (show 4 ≤ 8 by decide)) hg (fun _ _ _ _ h => fnOf_len h) (da_cons de_var (da_cons de_var (da_cons de_var da_nil)))))) da_nil)))))

abbrev N_honest_told : List Str := ["crowd"]
theorem sc_honest_told : FnScope ["crowd"] ["crowd"] (defScope (top 28)) := ⟨rfl, rfl, rfl, by decide +kernel, rfl, by decide +kernel, by decide +kernel⟩
theorem b_honest_told (C : Fx K mg base T) : Binds K C.fd_honest_told ["crowd"] [] := C.F_honest_told.bindsN fun _ _ _ _ _ _ us hl => match us, hl with | [_], _ => rfl
theorem ok_honest_told (C : Fx K mg base T) : FnG P w K mg base 8 (He.ga K "honest_told") C.fd_honest_told ["crowd"] (spF K T 1 Q.g_honest_told_4abf) :=
  FunD.ev (k := 7) C.F_honest_told sc_honest_told rfl rfl (by decide) fun A outer s H hr hg => dss_nox (X := cxOf CX0 P w K mg base ["crowd"] "honest_told" (defScope (top 28)) (He.ga K "honest_told") (codeOf K (He.ga K "honest_told")) A outer s H E0) (F := Q.e_honest_told_4abf)
   (dss_cons (ds_expr (de_call (ok_check_single C) (b_check_single C) C.m_check_single C.F_check_single.kp (hr.mono (show 7 ≤ 7 by decide)) hg (fun _ _ _ _ h => fnOf_len h) (da_cons de_var da_nil)))
    (dss_one (ds_ret (de_call (ok_honest_of C) (b_honest_of C) C.m_honest_of C.F_honest_of.kp (hr.mono (show 3 ≤ 7 by decide)) hg (fun _ _ _ _ h => fnOf_len h) (da_cons de_var da_nil)))))

abbrev N_left_over : List Str := ["crowd", "buys", "sells", "pays", "gets"]
theorem sc_left_over : FnScope ["crowd", "buys", "sells", "pays", "gets"] ["crowd"] (defScope (top 31)) := ⟨rfl, rfl, rfl, by decide +kernel, rfl, by decide +kernel, by decide +kernel⟩
theorem b_left_over (C : Fx K mg base T) : Binds K C.fd_left_over ["crowd"] [] := C.F_left_over.bindsN fun _ _ _ _ _ _ us hl => match us, hl with | [_], _ => rfl
theorem ok_left_over (C : Fx K mg base T) : FnG P w K mg base 8 (He.ga K "left_over") C.fd_left_over ["crowd"] (spF K T 1 Q.g_left_over_bf0b) :=
  FunD.ev (k := 7) C.F_left_over sc_left_over rfl rfl (by decide) fun A outer s H hr hg => dss_nox (X := cxOf CX0 P w K mg base ["crowd", "buys", "sells", "pays", "gets"] "left_over" (defScope (top 31)) (He.ga K "left_over") (codeOf K (He.ga K "left_over")) A outer s H E0) (F := Q.e_left_over_bf0b)
   (dss_cons (ds_expr (de_call (ok_check_single C) (b_check_single C) C.m_check_single C.F_check_single.kp (hr.mono (show 7 ≤ 7 by decide)) hg (fun _ _ _ _ h => fnOf_len h) (da_cons de_var da_nil)))
    (dss_cons (ds_asg (de_call (ok_honest_of C) (b_honest_of C) C.m_honest_of C.F_honest_of.kp (hr.mono (show 3 ≤ 7 by decide)) hg (fun _ _ _ _ h => fnOf_len h) (da_cons de_var da_nil)) (dg_tup rfl (dgs_cons (dg_name (i := 1) sc_left_over.nd) (dgs_cons (dg_name (i := 2) sc_left_over.nd) (dgs_cons (dg_name (i := 3) sc_left_over.nd) (dgs_cons (dg_name (i := 4) sc_left_over.nd) dgs_nil))))))
    (dss_one (ds_ret (de_op o_mulx (de_cb b_len C.n_len (da_cons de_var da_nil)) (de_op o_sub de_var de_var))))))

abbrev N__law_right : List Str := ["pot", "crowd", "buys", "sells", "pays", "gets", "place", "side", "own", "lots", "due", "limit", "its", "gain", "told", "lap"]
theorem sc__law_right : FnScope ["pot", "crowd", "buys", "sells", "pays", "gets", "place", "side", "own", "lots", "due", "limit", "its", "gain", "told", "lap"] ["pot"] (defScope (top 40)) := ⟨rfl, rfl, rfl, by decide +kernel, rfl, by decide +kernel, by decide +kernel⟩
theorem b__law_right (C : Fx K mg base T) : Binds K C.fd__law_right ["pot"] [] := C.F__law_right.bindsN fun _ _ _ _ _ _ us hl => match us, hl with | [_], _ => rfl
theorem ok__law_right (C : Fx K mg base T) : FnG P w K mg base 10 (He.ga K "_law_right") C.fd__law_right ["pot"] (spF K T 1 Q.g__law_right_1f64) :=
  FunD.ev (k := 9) C.F__law_right sc__law_right rfl rfl (by decide) fun A outer s H hr hg => dss_nox (X := cxOf CX0 P w K mg base ["pot", "crowd", "buys", "sells", "pays", "gets", "place", "side", "own", "lots", "due", "limit", "its", "gain", "told", "lap"] "_law_right" (defScope (top 40)) (He.ga K "_law_right") (codeOf K (He.ga K "_law_right")) A outer s H E0) (F := Q.e__law_right_1f64)
   (dss_cons (ds_set (i := 1) (de_call (ok__law_crowd C) (b__law_crowd C) C.m__law_crowd C.F__law_crowd.kp (hr.mono (show 4 ≤ 9 by decide)) hg (fun _ _ _ _ h => fnOf_len h) (da_cons de_var (da_cons de_bl da_nil))) sc__law_right.nd)
    (dss_cons (ds_set (i := 1) (de_ite (dt_cmp o_lt (de_cb b_len C.n_len (da_cons de_var da_nil)) de_int) (de_op o_mulx de_var (de_call (ok__law_of C) (b__law_of C) C.m__law_of C.F__law_of.kp (hr.mono (show 3 ≤ 9 by decide)) hg (fun _ _ _ _ h => fnOf_len h) (da_cons de_var (da_cons (de_lst (da_cons de_int (da_cons de_int (da_cons de_int (da_cons de_int da_nil))))) da_nil)))) de_var) sc__law_right.nd)
    (dss_cons (ds_asg (de_call (ok__law_honest C) (b__law_honest C) C.m__law_honest C.F__law_honest.kp (hr.mono (show 3 ≤ 9 by decide)) hg (fun _ _ _ _ h => fnOf_len h) (da_cons de_var da_nil)) (dg_tup rfl (dgs_cons (dg_name (i := 2) sc__law_right.nd) (dgs_cons (dg_name (i := 3) sc__law_right.nd) (dgs_cons (dg_name (i := 4) sc__law_right.nd) (dgs_cons (dg_name (i := 5) sc__law_right.nd) dgs_nil))))))
    (dss_cons (ds_if (DW.pt (dw_or (dt_cmp (o_ne hr.units) (de_cb (b_repr hg (room80 hr)) C.n_repr (da_cons (de_call (ok_honest_told C) (b_honest_told C) C.m_honest_told C.F_honest_told.kp (hr.mono (show 8 ≤ 9 by decide)) hg (fun _ _ _ _ h => fnOf_len h) (da_cons de_var da_nil)) da_nil)) (de_cb (b_repr hg (room80 hr)) C.n_repr (da_cons (de_tup (da_cons de_var (da_cons de_var (da_cons de_var (da_cons de_var da_nil))))) da_nil))) (dw_or (dt_cmp (o_ne hr.units) (de_cb (b_repr hg (room80 hr)) C.n_repr (da_cons (de_call (ok_left_over C) (b_left_over C) C.m_left_over C.F_left_over.kp (hr.mono (show 8 ≤ 9 by decide)) hg (fun _ _ _ _ h => fnOf_len h) (da_cons de_var da_nil)) da_nil)) (de_cb (b_repr hg (room80 hr)) C.n_repr (da_cons (de_op o_mulx (de_cb b_len C.n_len (da_cons de_var da_nil)) (de_op o_sub de_var de_var)) da_nil))) (dw_or1 (dt_cmp o_lt de_var de_var))))) (dss_one (ds_ret de_bl)) dss_nil)
    (dss_cons (ds_if (DW.pt (dw_or (dt_cmp (o_ne hr.units) (de_cb b_len C.n_len (da_cons de_var da_nil)) (de_cb b_len C.n_len (da_cons de_var da_nil))) (dw_or (dt_val (de_cb (b_any rfl) C.n_any (da_cons (de_comp (own := [("place", 6)]) sg_name rfl sc__law_right.nd (di_seq de_var) (blkOk_by (N := N__law_right) (sc := defScope (top 40)) (own := [("place", 6)]) (by decide +kernel)) (fun _ _ _ _ _ => (pg_name sc__law_right.nd rfl (by first | exact .inl rfl | exact .inr rfl))) (fun _ _ _ _ _ => dts_nil) (fun _ _ _ _ _ => (de_cmp o_lt (de_op o_mulx de_int (de_ix (de_ix de_var de_var) de_int)) de_var))) da_nil))) (dw_or1 (dt_val (de_cb (b_any rfl) C.n_any (da_cons (de_comp (own := [("place", 6)]) sg_name rfl sc__law_right.nd (di_seq de_var) (blkOk_by (N := N__law_right) (sc := defScope (top 40)) (own := [("place", 6)]) (by decide +kernel)) (fun _ _ _ _ _ => (pg_name sc__law_right.nd rfl (by first | exact .inl rfl | exact .inr rfl))) (fun _ _ _ _ _ => dts_nil) (fun _ _ _ _ _ => (de_cmp o_gt (de_op o_mulx de_int (de_ix (de_ix de_var de_var) de_int)) de_var))) da_nil))))))) (dss_one (ds_ret de_bl)) dss_nil)
    (dss_cons (ds_for (vs := [6]) PassesOwn.never rfl (di_seq (de_ite (dt_cmp (o_ne hr.units) de_var (de_tup da_nil)) (de_comp (own := [("lap", 15)]) sg_name rfl sc__law_right.nd (di_range1 C.n_range de_int) (blkOk_by (N := N__law_right) (sc := defScope (top 40)) (own := [("lap", 15)]) (by decide +kernel)) (fun _ _ _ _ _ => (pg_name sc__law_right.nd rfl (by first | exact .inl rfl | exact .inr rfl))) (fun _ _ _ _ _ => dts_nil) (fun _ _ _ _ _ => (de_call (ok__law_take C) (b__law_take C) C.m__law_take C.F__law_take.kp (hr.mono (show 2 ≤ 9 by decide)) hg (fun _ _ _ _ h => fnOf_len h) (da_cons de_var (da_cons (de_cb b_len C.n_len (da_cons de_var da_nil)) da_nil))))) (de_lst da_nil))) (pg_name sc__law_right.nd rfl (by first | exact .inl rfl | exact .inr rfl)) sg_name (dss_cons (ds_asg (de_ix de_var de_var) (dg_tup rfl (dgs_cons (dg_name (i := 7) sc__law_right.nd) (dgs_cons (dg_name (i := 8) sc__law_right.nd) (dgs_cons (dg_name (i := 9) sc__law_right.nd) dgs_nil)))))
    (dss_cons (ds_setO (i := 10) (de_lst da_nil) sc__law_right.nd)
    (dss_cons (ds_for (vs := [11]) PassesOwn.never rfl (di_range2 C.n_range de_int de_int) (pg_name sc__law_right.nd rfl (by first | exact .inl rfl | exact .inr rfl)) sg_name (dss_cons (ds_set (i := 12) (de_call (ok__law_honest C) (b__law_honest C) C.m__law_honest C.F__law_honest.kp (hr.mono (show 3 ≤ 9 by decide)) hg (fun _ _ _ _ h => fnOf_len h) (da_cons (de_op o_add (de_op o_add (de_sl de_var do_no (do_part de_var)) (de_tup (da_cons (de_tup (da_cons de_var (da_cons de_var (da_cons de_int da_nil)))) da_nil))) (de_sl de_var (do_part (de_op o_add de_var de_int)) do_no)) da_nil)) sc__law_right.nd)
    (dss_cons (ds_set (i := 13) (de_ite (dt_cmp (o_eq hr.units) de_var de_str) (de_op o_sub (de_op o_mulx de_int de_var) (de_ix de_var de_int)) (de_op o_sub (de_ix de_var de_int) (de_op o_mulx de_int de_var))) sc__law_right.nd)
    (dss_one (ds_app (de_ite (dt_cmp o_in de_var (de_op o_add (de_ix de_var de_int) (de_ix de_var de_int))) de_var de_int))))))
    (dss_cons (ds_set (i := 14) (de_call (ok_gains_by C) (b_gains_by C) C.m_gains_by C.F_gains_by.kp (hr.mono (show 9 ≤ 9 by decide)) hg (fun _ _ _ _ h => fnOf_len h) (da_cons de_var (da_cons de_var da_nil))) sc__law_right.nd)
    (dss_one (ds_if (DW.pt (dw_or (dt_cmp (o_ne hr.units) (de_cb (b_repr hg (room80 hr)) C.n_repr (da_cons de_var da_nil)) (de_cb (b_repr hg (room80 hr)) C.n_repr (da_cons (de_ct b_tuple C.n_tuple (da_cons de_var da_nil)) da_nil))) (dw_or (dt_cmp (o_ne hr.units) (de_cb (b_maxU rfl (room80 hr)) C.n_max (da_cons de_var da_nil)) (de_ix de_var (de_op o_sub de_var de_int))) (dw_or1 (dt_cmp o_lt (de_ix de_var (de_op o_sub de_var de_int)) de_int))))) (dss_one (ds_ret de_bl)) dss_nil)))))))
    (dss_one (ds_ret de_bl))))))))

abbrev N_law : List Str := ["script", "place", "pot", "lap"]
theorem sc_law : FnScope ["script", "place", "pot", "lap"] ["script"] (defScope (top 41)) := ⟨rfl, rfl, rfl, by decide +kernel, rfl, by decide +kernel, by decide +kernel⟩
theorem b_law (C : Fx K mg base T) : Binds K C.fd_law ["script"] [] := C.F_law.bindsN fun _ _ _ _ _ _ us hl => match us, hl with | [_], _ => rfl
theorem ok_law (C : Fx K mg base T) : FnG P w K mg base 11 (He.ga K "law") C.fd_law ["script"] (spF K T 1 Q.g_law_700c) :=
  FunD.ev (k := 10) C.F_law sc_law rfl rfl (by decide) fun A outer s H hr hg => dss_nox (X := cxOf CX0 P w K mg base ["script", "place", "pot", "lap"] "law" (defScope (top 41)) (He.ga K "law") (codeOf K (He.ga K "law")) A outer s H E0) (F := Q.e_law_700c)
   (dss_cons (ds_for (vs := [1]) PassesOwn.never rfl (di_seq (de_call (ok__law_cells C) (b__law_cells C) C.m__law_cells C.F__law_cells.kp (hr.mono (show 2 ≤ 10 by decide)) hg (fun _ _ _ _ h => fnOf_len h) (da_cons de_var (da_cons de_int da_nil)))) (pg_name sc_law.nd rfl (by first | exact .inl rfl | exact .inr rfl)) sg_name (dss_cons (ds_setR (i := 2) (de_call (ok__law_pot C) (b__law_pot C) C.m__law_pot C.F__law_pot.kp (hr.mono (show 2 ≤ 10 by decide)) hg (fun _ _ _ _ h => fnOf_len h) (da_cons de_var (da_cons de_var da_nil))) sc_law.nd)
    (dss_one (ds_if (dt_not (dt_val (de_cb (b_all rfl) C.n_all (da_cons (de_comp (own := [("lap", 3)]) sg_name rfl sc_law.nd (di_range1 C.n_range de_int) (blkOk_by (N := N_law) (sc := defScope (top 41)) (own := [("lap", 3)]) (by decide +kernel)) (fun _ _ _ _ _ => (pg_name sc_law.nd rfl (by first | exact .inl rfl | exact .inr rfl))) (fun _ _ _ _ _ => dts_nil) (fun _ _ _ _ _ => (de_call (ok__law_right C) (b__law_right C) C.m__law_right C.F__law_right.kp (hr.mono (show 10 ≤ 10 by decide)) hg (fun _ _ _ _ h => fnOf_len h) (da_cons de_var da_nil)))) da_nil)))) (dss_one (ds_ret de_bl)) dss_nil))))
    (dss_one (ds_ret de_bl)))

end
end Lk26
end

section
set_option maxRecDepth 100000
set_option maxHeartbeats 4000000
namespace EV
open PySem PySem.Spec L2
/-! ### the evaluators' equations, for simp -/
section
variable {ρ : Fr} {st : Sto}
@[simp] theorem gs_z (w : SV) (ρ : Fr) : gs (w :: ρ) 0 = w := id rfl
@[simp] theorem gs_s (w : SV) (ρ : Fr) (i : Nat) : gs (w :: ρ) (i + 1) = gs ρ i := id rfl
@[simp] theorem atI_lit {α : Type} (ds : List α) (n : Nat) : atI ds (no_index (OfNat.ofNat n) : Int) = ds[(OfNat.ofNat n : Nat)]? := by
  show atI ds (n : Int) = ds[n]?
  unfold atI ixN
  by_cases h : n < ds.length
  · simp [h]
  · simp [h]
@[simp] theorem atI_nat {α : Type} (ds : List α) (n : Nat) : atI ds (n : Int) = ds[n]? := atI_lit ds n
@[simp] theorem atI_neg1 {α : Type} (ds : List α) : atI ds (-1) = ds.getLast? := by
  unfold atI ixN
  cases ds with
  | nil => rfl
  | cons d r =>
    rw [if_neg (by decide), if_pos (by simp; omega)]
    have e : (-1 + ((d :: r).length : Int)).toNat = r.length := by simp; omega
    show (d :: r)[(-1 + ((d :: r).length : Int)).toNat]? = _
    rw [e, List.getLast?_eq_getElem?]
    simp
@[simp] theorem take_set {α : Type} (st : List α) (m : Nat) (x : α) : List.take st.length (st.set m x) = st.set m x := List.take_of_length_le (by simp)
@[simp] theorem ixN_lit (m n : Nat) : ixN m (no_index (OfNat.ofNat n) : Int) = if (OfNat.ofNat n : Nat) < m then some (OfNat.ofNat n) else none := by
  show ixN m (n : Int) = if n < m then some n else none
  unfold ixN
  by_cases h : n < m <;> simp [h]
@[simp] theorem ixN_nat (m n : Nat) : ixN m (n : Int) = if n < m then some n else none := ixN_lit m n
@[simp] theorem q_var (i : Nat) : fVar i ρ st = (match gs ρ i with | .dat d => some (.dat d, st) | .own ds => some (.pk ds, st) | .ref n => some (.ref n, st) | .fz ds => some (.fz ds, st) | _ => none) := id rfl
@[simp] theorem q_con (d : PyData) : fCon d ρ st = some (.dat d, st) := id rfl
@[simp] theorem q_op1 (g : PyData → Option SV) (a : FE) : fOp1 g a ρ st = (match a ρ st with | some (v, st1) => (match asD st1 v with | some d => (g d).map fun w => (w, st1) | none => none) | none => none) := id rfl
@[simp] theorem q_op2 (g : PyData → PyData → Option SV) (a b : FE) : fOp2 g a b ρ st = (match a ρ st with | some (v, st1) => (match b ρ st1 with | some (u, st2) => (match asD st2 v, asD st2 u with | some d, some e => (g d e).map fun w => (w, st2) | _, _ => none) | none => none) | none => none) := id rfl
@[simp] theorem q_tst (a : FE) : fTst a ρ st = (match a ρ st with | some (v, st1) => (asB v).map fun b => (b, st1) | none => none) := id rfl
@[simp] theorem q_ite (c : FT) (a b : FE) : fIte c a b ρ st = (match c ρ st with | some (true, st1) => a ρ st1 | some (false, st1) => b ρ st1 | none => none) := by unfold fIte; rfl
@[simp] theorem q_nil : fNil ρ st = some ([], st) := id rfl
@[simp] theorem q_cons (a : FE) (r : FA) : fCons a r ρ st = (match a ρ st with | some (v, st1) => (match r ρ st1 with | some (vs, st2) => some (v :: vs, st2) | none => none) | none => none) := id rfl
@[simp] theorem q_tup (a : FA) : fTup a ρ st = (match a ρ st with | some (vs, st1) => (match escDs vs with | some ds => if ds.length ≤ sizeLine then some (.dat (.tuple ds), st1) else none | none => none) | none => none) := id rfl
@[simp] theorem q_lst (a : FA) : fLst a ρ st = (match a ρ st with | some (vs, st1) => (match escDs vs with | some ds => if ds.length ≤ sizeLine then some (.own ds, st1) else none | none => none) | none => none) := id rfl
@[simp] theorem q_cb (g : List PyData → Option SV) (a : FA) : fCB g a ρ st = (match a ρ st with | some (ws, st1) => (match asDs st1 ws with | some ds => (g ds).map fun w => (w, st1) | none => none) | none => none) := id rfl
@[simp] theorem q_call (g : FF) (a : FA) : fCall g a ρ st = (match a ρ st with | some (ws, st1) => (match argsOf ws with | some vs => (match g vs st1 with | some (w, st2) => if retOk w = true ∧ st2.length = st1.length then some (w, st2) else none | none => none) | none => none) | none => none) := id rfl
@[simp] theorem q_seq (a b : FS) : fSeq a b ρ st = (match a ρ st with | some (.nx ρ1, st1) => b ρ1 st1 | some (fl, st1) => some (fl, st1) | none => none) := id rfl
@[simp] theorem q_if (c : FT) (a b : FS) : fIf c a b ρ st = (match c ρ st with | some (true, st1) => a ρ st1 | some (false, st1) => b ρ st1 | none => none) := id rfl
@[simp] theorem q_ret (a : FE) : fRet a ρ st = (match a ρ st with | some (w, st1) => if retOk w = true then some (.ret w, st1) else none | none => none) := id rfl
@[simp] theorem q_set (i : Nat) (a : FE) : fSet i a ρ st = (match a ρ st with | some (w, st1) => (bindOf w).map fun u => (.nx (ρ.set i u), st1) | none => none) := id rfl
@[simp] theorem q_asg (g : TgS) (a : FE) : fAsg g a ρ st = (match a ρ st with | some (w, st1) => (match escD w with | some d => (g d ρ st1).map fun r => (.nx r.1, r.2) | none => none) | none => none) := id rfl
@[simp] theorem q_par (i j : Nat) (a : FA) : fPar i j a ρ st = (match a ρ st with | some ([v, w], st1) => (match bindOf v, bindOf w with | some v', some w' => some (.nx ((ρ.set i v').set j w'), st1) | _, _ => none) | _ => none) := id rfl
@[simp] theorem q_gname (i : Nat) (d : PyData) : gsName i d ρ st = some (ρ.set i (.dat d), st) := id rfl
@[simp] theorem q_nx : fNx ρ st = some (.nx ρ, st) := id rfl
@[simp] theorem q_asD_dat (d : PyData) : asD st (.dat d) = some d := id rfl
@[simp] theorem q_asD_own (d : List PyData) : asD st (.own d) = some (.list d) := id rfl
@[simp] theorem q_asD_pk (d : List PyData) : asD st (.pk d) = some (.list d) := id rfl
@[simp] theorem q_asD_ref (n : Nat) : asD st (.ref n) = (st[n]?).map .list := id rfl
@[simp] theorem q_escD_dat (d : PyData) : escD (.dat d) = some d := id rfl
@[simp] theorem q_escD_own (d : List PyData) : escD (.own d) = some (.list d) := id rfl
@[simp] theorem q_escDs_nil : escDs [] = some [] := id rfl
@[simp] theorem q_escDs_cons (w : SV) (ws : List SV) : escDs (w :: ws) = (match escD w, escDs ws with | some d, some ds => some (d :: ds) | _, _ => none) := id rfl
@[simp] theorem q_asDs_nil : asDs st [] = some [] := id rfl
@[simp] theorem q_asDs_cons (w : SV) (ws : List SV) : asDs st (w :: ws) = (match asD st w, asDs st ws with | some d, some ds => some (d :: ds) | _, _ => none) := id rfl
@[simp] theorem q_args_nil : argsOf [] = some [] := id rfl
@[simp] theorem q_args_cons (w : SV) (ws : List SV) : argsOf (w :: ws) = (match argOf w, argsOf ws with | some d, some ds => some (d :: ds) | _, _ => none) := id rfl
@[simp] theorem q_arg_dat (d : PyData) : argOf (.dat d) = some (.dat d) := id rfl
@[simp] theorem q_arg_own (d : List PyData) : argOf (.own d) = some (.dat (.list d)) := id rfl
@[simp] theorem q_arg_ref (n : Nat) : argOf (.ref n) = some (.ref n) := id rfl
@[simp] theorem q_arg_fz (d : List PyData) : argOf (.fz d) = some (.fz d) := id rfl
@[simp] theorem q_ret_dat (d : PyData) : retOk (.dat d) = true := id rfl
@[simp] theorem q_ret_own (d : List PyData) : retOk (.own d) = true := id rfl
@[simp] theorem q_bind_dat (d : PyData) : bindOf (.dat d) = some (.dat d) := id rfl
@[simp] theorem q_bind_own (d : List PyData) : bindOf (.own d) = some (.dat (.list d)) := id rfl
@[simp] theorem q_bind_ref (n : Nat) : bindOf (.ref n) = some (.ref n) := id rfl
@[simp] theorem q_asB (b : Bool) : asB (.dat (.bool b)) = some b := id rfl
@[simp] theorem dB_eq (b : Bool) : dB b = .dat (.bool b) := id rfl
@[simp] theorem q_gGt (i j : Int) : gGt (.int i) (.int j) = some (dB (decide (j < i))) := id rfl
@[simp] theorem q_gLt (i j : Int) : gLt (.int i) (.int j) = some (dB (decide (i < j))) := id rfl
@[simp] theorem q_gGe (i j : Int) : gGe (.int i) (.int j) = some (dB (decide (j ≤ i))) := id rfl
@[simp] theorem q_gLe (i j : Int) : gLe (.int i) (.int j) = some (dB (decide (i ≤ j))) := id rfl
@[simp] theorem q_gEq (i j : Int) : gEq (.int i) (.int j) = some (dB (decide (i = j))) := id rfl
@[simp] theorem q_gNe (i j : Int) : gNe (.int i) (.int j) = some (dB (!decide (i = j))) := id rfl
@[simp] theorem q_gEqS (i j : Str) : gEq (.str i) (.str j) = some (dB (decide (i = j))) := id rfl
@[simp] theorem q_gNeS (i j : Str) : gNe (.str i) (.str j) = some (dB (!decide (i = j))) := id rfl
@[simp] theorem q_gAdd (i j : Int) : gAdd (.int i) (.int j) = some (.dat (.int (i + j))) := id rfl
@[simp] theorem q_gSub (i j : Int) : gSub (.int i) (.int j) = some (.dat (.int (i - j))) := id rfl
@[simp] theorem q_gNeg (i : Int) : gNeg (.int i) = some (.dat (.int (-i))) := id rfl
@[simp] theorem q_gIxL (ds : List PyData) (i : Int) : gIx (.list ds) (.int i) = (atI ds i).map .dat := id rfl
@[simp] theorem q_gIxT (ds : List PyData) (i : Int) : gIx (.tuple ds) (.int i) = (atI ds i).map .dat := id rfl
@[simp] theorem q_gMod (i j : Int) : gMod (.int i) (.int j) = if 0 < j then some (.dat (.int (i % j))) else none := id rfl
@[simp] theorem q_gFdiv (i j : Int) : gFdiv (.int i) (.int j) = if 0 < j ∧ j.natAbs.log2 < 9000 then some (.dat (.int (i / j))) else none := id rfl
theorem q_gPow (i j : Int) : gPow (.int i) (.int j) = if 0 ≤ j ∧ Nat.ble (Builtin.Int.intBits i * j.toNat) 134217728 = true then some (.dat (.int (i ^ j.toNat))) else none := rfl
theorem q_gMulX (i j : Int) : gMulX (.int i) (.int j) = if i.natAbs.log2 + j.natAbs.log2 < 1000000 then some (.dat (.int (i * j))) else none := rfl
@[simp] theorem q_gInt (i : Int) : gInt [.int i] = some (.dat (.int i)) := id rfl
@[simp] theorem q_gIntB (b : Bool) : gInt [.bool b] = some (.dat (.int (if b then 1 else 0))) := id rfl
@[simp] theorem q_gLenL (ds : List PyData) : gLen [.list ds] = some (.dat (.int ds.length)) := id rfl
@[simp] theorem q_gLenT (ds : List PyData) : gLen [.tuple ds] = some (.dat (.int ds.length)) := id rfl
@[simp] theorem q_sub (i : Nat) (idx : FE) (d : PyData) : gsSub i idx d ρ st = (match idx ρ st with | some (.dat (.int k), st1) => (match gs ρ i with | .own ds => (ixN ds.length k).map fun j => (ρ.set i (.own (ds.set j d)), st1) | .ref n => (match st1[n]? with | some ds => (ixN ds.length k).map fun j => (ρ, st1.set n (ds.set j d)) | none => none) | _ => none) | _ => none) := id rfl
end
/-! bounds told by a power of two -/
theorem log2_lt {i : Int} {n : Nat} (h : i.natAbs < 2 ^ n) (hn : 0 < n) : i.natAbs.log2 < n := by
  by_cases h0 : i.natAbs = 0
  · rw [h0]; simpa using hn
  · exact (Nat.log2_lt h0).mpr h
theorem mulx_ok {i j : Int} (h1 : i.natAbs < 2 ^ 200) (h2 : j.natAbs < 2 ^ 200) : gMulX (.int i) (.int j) = some (.dat (.int (i * j))) := by
  have a := log2_lt h1 (by decide)
  have b := log2_lt h2 (by decide)
  rw [q_gMulX, if_pos (by omega)]
theorem bits_le {i : Int} {n : Nat} (h : i.natAbs < 2 ^ n) (hn : 0 < n) : Builtin.Int.intBits i ≤ n := by
  unfold Builtin.Int.intBits
  have := log2_lt h hn
  split <;> omega
theorem pow3_ok {i : Int} (h1 : i.natAbs < 2 ^ 200) : gPow (.int i) (.int 3) = some (.dat (.int (i ^ 3))) := by
  have a := bits_le h1 (by decide)
  rw [q_gPow, if_pos ⟨by decide, Nat.ble_eq_true_of_le (by show Builtin.Int.intBits i * 3 ≤ _; omega)⟩]
  rfl
end EV
namespace EV
open PySem PySem.Spec L2
/-! comprehensions, fors -/
theorem compL_pure {tg : TgF} {cs : FT} {el : FE} {ρ : Fr} {st : Sto} (p : PyData → Bool) (f : PyData → PyData) : ∀ {ds : List PyData}, (∀ d ∈ ds, ∃ ρ1, tg ρ d = some ρ1 ∧ cs ρ1 st = some (p d, st) ∧ (p d = true → ∃ w, el ρ1 st = some (w, st) ∧ escD w = some (f d))) →
    compL tg cs el ρ ds st = some ((ds.filter p).map f, st)
  | [], _ => rfl
  | d :: ds, h => by
    obtain ⟨ρ1, h1, h2, h3⟩ := h d List.mem_cons_self
    have ih := compL_pure (tg := tg) (cs := cs) (el := el) (ρ := ρ) (st := st) p f fun d hd => h d (List.mem_cons_of_mem _ hd)
    unfold compL
    rw [h1]
    dsimp only
    rw [h2]
    cases hp : p d with
    | false => dsimp only; rw [ih, List.filter_cons_of_neg (by simp [hp])]
    | true =>
      obtain ⟨w, h4, h5⟩ := h3 hp
      dsimp only
      rw [h4]
      dsimp only
      rw [h5]
      dsimp only
      rw [ih, List.filter_cons_of_pos (by simp [hp])]
      rfl
theorem compL_map {tg : TgF} {el : FE} {ρ : Fr} {st : Sto} (f : PyData → PyData) {ds : List PyData} (h : ∀ d ∈ ds, ∃ ρ1, tg ρ d = some ρ1 ∧ ∃ w, el ρ1 st = some (w, st) ∧ escD w = some (f d)) : compL tg fYes el ρ ds st = some (ds.map f, st) := by
  have := compL_pure (cs := fYes) (st := st) (tg := tg) (el := el) (ρ := ρ) (fun _ => true) f (ds := ds) fun d hd => let ⟨ρ1, a, b⟩ := h d hd; ⟨ρ1, a, rfl, fun _ => b⟩
  rw [this, List.filter_eq_self.mpr (by simp)]
/-- with a store that moves -/
theorem compL_st {tg : TgF} {el : FE} {ρ : Fr} (N : Nat) (Iv : Nat → Sto → Prop) (P : PyData → PyData → Prop) : ∀ {ds : List PyData} {n : Nat} {st : Sto}, Iv n st → n + ds.length ≤ N →
    (∀ d ∈ ds, ∀ n st, n < N → Iv n st → ∃ ρ1, tg ρ d = some ρ1 ∧ ∃ w e st', el ρ1 st = some (w, st') ∧ escD w = some e ∧ P d e ∧ Iv (n + 1) st') →
    ∃ out st', compL tg fYes el ρ ds st = some (out, st') ∧ out.length = ds.length ∧ (∀ (i : Nat) (d e : PyData), ds[i]? = some d → out[i]? = some e → P d e) ∧ Iv (n + ds.length) st'
  | [], n, st, hi, _, _ => ⟨[], st, rfl, rfl, fun i d e h => by simp at h, hi⟩
  | d :: ds, n, st, hi, hN, h => by
    rw [List.length_cons] at hN
    obtain ⟨ρ1, h1, w, e, st1, h2, h3, h4, h5⟩ := h d List.mem_cons_self n st (by omega) hi
    obtain ⟨out, st', g1, g2, g3, g4⟩ := compL_st N Iv P (ds := ds) h5 (by omega) fun d hd => h d (List.mem_cons_of_mem _ hd)
    refine ⟨e :: out, st', ?_, by simp [g2], fun i d' e' a b => ?_, ?_⟩
    · unfold compL
      rw [h1]
      dsimp only [fYes]
      rw [h2]
      dsimp only
      rw [h3]
      dsimp only
      rw [g1]; rfl
    · cases i with
      | zero => simp at a b; subst a; subst b; exact h4
      | succ i => exact g3 i d' e' (by simpa using a) (by simpa using b)
    · rw [List.length_cons, show n + (ds.length + 1) = n + 1 + ds.length by omega]; exact g4
/-- the items alone -/
theorem out_all {ds out : List PyData} {P : PyData → PyData → Prop} {Q : PyData → Prop} (hl : out.length = ds.length) (h : ∀ (i : Nat) (d e : PyData), ds[i]? = some d → out[i]? = some e → P d e) (k : ∀ d e, P d e → Q e) : ∀ e ∈ out, Q e := by
  intro e he
  obtain ⟨i, hi⟩ := List.mem_iff_getElem?.mp he
  have h1 := (List.getElem?_eq_some_iff.mp hi).1
  exact k _ _ (h i ds[i] e (List.getElem?_eq_getElem (by omega)) hi)
end EV
namespace Q
open PySem PySem.Spec PyProof.Rows L2 EV
def Pot (s : List PyData) (n : Nat) : Prop := ∃ a b c : Int, s = [.int a, .int b, .int c] ∧ (0 ≤ a ∧ a < 2 ^ 1024) ∧ (0 ≤ b ∧ b < 2305843009213693951) ∧ (0 ≤ c ∧ c ≤ n)
/-- the store: of length l, flat, a pot at m after at most n draws -/
structure Sm (m n l : Nat) (st : Sto) : Prop where
  len : st.length = l
  flat : stFlat st = true
  pot : ∃ s, st[m]? = some s ∧ Pot s n
theorem stFlat_set {st : Sto} {m : Nat} {s : List PyData} (h : stFlat st = true) (hs : flatDs s = true) : stFlat (st.set m s) = true := by
  unfold stFlat at *
  rw [List.all_eq_true] at *
  intro x hx
  rcases List.mem_or_eq_of_mem_set hx with z | z
  · exact h x z
  · rw [z]; exact hs
theorem Pot.flat {s : List PyData} {n : Nat} (h : Pot s n) : flatDs s = true := by obtain ⟨a, b, c, rfl, _⟩ := h; rfl
theorem Sm.upd {m n n' l : Nat} {st : Sto} {s : List PyData} (h : Sm m n l st) (p : Pot s n') : Sm m n' l (st.set m s) := by
  obtain ⟨t, e, _⟩ := h.pot
  exact ⟨by simp [h.len], stFlat_set h.flat p.flat, s, List.getElem?_set_self (List.getElem?_eq_some_iff.mp e).1, p⟩
theorem Sm.mono {m n n' l : Nat} {st : Sto} (h : Sm m n l st) (k : n ≤ n') : Sm m n' l st := by
  obtain ⟨s, e, a, b, c, e2, h1, h2, h3⟩ := h.pot
  exact ⟨h.len, h.flat, s, e, a, b, c, e2, h1, h2, h3.1, by omega⟩
/-- a draw below u -/
theorem take0 {st : Sto} {m n : Nat} {s : List PyData} {u : Int} (h : st[m]? = some s) (p : Pot s n) (hn : n < 2 ^ 40) (hu : 1 ≤ u) (hu2 : u < 2 ^ 64) :
    ∃ d s', g__law_take [.ref m, .dat (.int u)] st = some (.dat (.int d), st.set m s') ∧ (0 ≤ d ∧ d < u) ∧ Pot s' (n + 1) := by
  obtain ⟨a, b, c, rfl, ⟨a0, a1⟩, ⟨b0, b1⟩, ⟨c0, c1⟩⟩ := p
  have hl : u.natAbs.log2 < 64 := log2_lt (by omega) (by decide)
  have hm := (List.getElem?_eq_some_iff.mp h).1
  have u0 : 0 < u := by omega
  by_cases ha : 0 < a
  · refine ⟨a % u, [.int (a / u), .int b, .int c], ?_, ⟨Int.emod_nonneg _ (by omega), Int.emod_lt_of_pos _ u0⟩, a / u, b, c, rfl, ⟨Int.ediv_nonneg a0 (by omega), ?_⟩, ⟨b0, b1⟩, ⟨c0, by omega⟩⟩
    · unfold g__law_take fnOf e__law_take
      simp [frame, h, ha, u0, show u.natAbs.log2 < 9000 by omega]
    · exact Int.lt_of_le_of_lt (Int.ediv_le_self _ a0) a1
  · have hc : c + 1 ≤ 2 ^ 40 := by omega
    have hc5 : (c + 1) % 5 = 0 ∨ (c + 1) % 5 = 1 ∨ (c + 1) % 5 = 2 ∨ (c + 1) % 5 = 3 ∨ (c + 1) % 5 = 4 := by omega
    obtain ⟨pr, hpr, p0, p1⟩ : ∃ pr : Int, atI [PyData.int 2147480527, .int 2147480509, .int 2147480491, .int 2147480471, .int 2147480467] ((c + 1) % 5) = some (.int pr) ∧ 0 < pr ∧ pr < 2 ^ 31 := by
      rcases hc5 with e | e | e | e | e <;> (rw [e]; exact ⟨_, rfl, by decide, by decide⟩)
    have hs : ∀ x, (st.set m x)[m]? = some x := fun x => List.getElem?_set_self hm
    have c2 : 0 ≤ (c + 1) * (c + 1) ∧ (c + 1) * (c + 1) ≤ 2 ^ 40 * 2 ^ 40 := ⟨Int.mul_nonneg (by omega) (by omega), Int.mul_le_mul hc hc (by omega) (by decide)⟩
    have e2 : 41017 * (c + 1) * (c + 1) = 41017 * ((c + 1) * (c + 1)) := Int.mul_assoc ..
    have m1 : gMulX (.int 41017) (.int (c + 1)) = _ := mulx_ok (by decide) (by omega)
    have m2 : gMulX (.int (41017 * (c + 1))) (.int (c + 1)) = _ := mulx_ok (by omega) (by omega)
    have m3 : gPow (.int (b + 41017 * (c + 1) * (c + 1) + 2399)) (.int 3) = _ := pow3_ok (by rw [e2]; omega)
    generalize hB : (b + 41017 * (c + 1) * (c + 1) + 2399) ^ 3 % pr = B at *
    have B0 : 0 ≤ B ∧ B < 2 ^ 31 := by rw [← hB]; exact ⟨Int.emod_nonneg _ (by omega), Int.lt_trans (Int.emod_lt_of_pos _ p0) p1⟩
    have m4 : gMulX (.int 367) (.int (c + 1)) = _ := mulx_ok (by decide) (by omega)
    have m5 : gMulX (.int B) (.int (B % 7351 + 367 * (c + 1))) = _ := mulx_ok (by omega) (by omega)
    generalize hZ : B * (B % 7351 + 367 * (c + 1)) % 2305843009213693907 = Z at *
    have Z0 : 0 ≤ Z := by rw [← hZ]; exact Int.emod_nonneg _ (by decide)
    refine ⟨Z / 149 % u, [.int a, .int b, .int (c + 1)], ?_, ⟨Int.emod_nonneg _ (by omega), Int.emod_lt_of_pos _ u0⟩, a, b, c + 1, rfl, ⟨a0, a1⟩, ⟨b0, b1⟩, ⟨by omega, by omega⟩⟩
    unfold g__law_take fnOf e__law_take
    simp [frame, h, ha, u0, hs, hpr, p0, sizeLine_eq, m1, m2, m3, m4, m5, hB, hZ, show Nat.log2 149 < 9000 by decide]
theorem take_ok {st : Sto} {m n l : Nat} {u : Int} (h : Sm m n l st) (hn : n < 2 ^ 40) (hu : 1 ≤ u) (hu2 : u < 2 ^ 64) :
    ∃ (d : Int) (st' : Sto), g__law_take [.ref m, .dat (.int u)] st = some (.dat (.int d), st') ∧ (0 ≤ d ∧ d < u) ∧ Sm m (n + 1) l st' := by
  obtain ⟨s, e, p⟩ := h.pot
  obtain ⟨d, s', h1, h2, h3⟩ := take0 e p hn hu hu2
  exact ⟨d, _, h1, h2, h.upd h3⟩
/-- one of some -/
theorem of_ok {st : Sto} {m n l : Nat} {ds : List PyData} (h : Sm m n l st) (hn : n < 2 ^ 40) (h1 : 1 ≤ ds.length) (h2 : ds.length < 2 ^ 64) :
    ∃ (x : PyData) (st' : Sto), g__law_of [.ref m, .dat (.list ds)] st = some (.dat x, st') ∧ x ∈ ds ∧ Sm m (n + 1) l st' := by
  obtain ⟨d, st', e, ⟨d0, d1⟩, h'⟩ := take_ok (u := ds.length) h hn (by omega) (by omega)
  have hd : d.toNat < ds.length := by omega
  have ed : d = (d.toNat : Int) := by omega
  have hl : st'.length = st.length := by rw [h'.len, h.len]
  refine ⟨ds[d.toNat], st', ?_, List.getElem_mem _, h'⟩
  have ea : atI ds d = some ds[d.toNat] := by
    have z := atI_nat ds d.toNat
    rw [← ed] at z
    rw [z]; simp [hd]
  unfold g__law_of fnOf e__law_of
  simp [frame, e, hl, ea]
  rw [← hl, List.take_length]
end Q
end

section
set_option maxRecDepth 100000
set_option maxHeartbeats 4000000
set_option exponentiation.threshold 4000
namespace EV
open PySem PySem.Spec L2
section
variable {ρ : Fr} {st : Sto}
theorem sIx_nat (n d k : Nat) : HT.sIx n d (some (k : Int)) = min k n := by
  unfold HT.sIx
  simp only
  split <;> omega
theorem cut_to (ds : List PyData) (k : Nat) : cutD ds none (some (k : Int)) = ds.take k := by
  unfold cutD
  rw [sIx_nat]
  simp only [HT.sIx, List.drop_zero, Nat.sub_zero]
  rw [List.take_eq_take_iff]; omega
theorem cut_from (ds : List PyData) (k : Nat) : cutD ds (some (k : Int)) none = ds.drop k := by
  unfold cutD
  rw [sIx_nat]
  simp only [HT.sIx]
  rw [List.take_of_length_le (by simp)]
  by_cases h : k ≤ ds.length
  · rw [Nat.min_eq_left h]
  · rw [Nat.min_eq_right (by omega), List.drop_length, List.drop_eq_nil_of_le (by omega)]
theorem cut_all (ds : List PyData) : cutD ds none none = ds := by
  unfold cutD
  simp [HT.sIx]
@[simp] theorem q_gSum (js : List Int) : gSum [.list (js.map PyData.int)] = some (.dat (.int js.sum)) := by show (intsOf (js.map PyData.int)).map _ = _; rw [intsOf_map]; rfl
@[simp] theorem q_gSumT (js : List Int) : gSum [.tuple (js.map PyData.int)] = some (.dat (.int js.sum)) := by show (intsOf (js.map PyData.int)).map _ = _; rw [intsOf_map]; rfl
@[simp] theorem q_gAbs (i : Int) : gAbs [.int i] = some (.dat (.int i.natAbs)) := id rfl
@[simp] theorem q_gMax2 (i j : Int) : gMax [.int i, .int j] = some (.dat (.int (max i j))) := id rfl
@[simp] theorem q_gMin2 (i j : Int) : gMin [.int i, .int j] = some (.dat (.int (min i j))) := id rfl
@[simp] theorem q_gMin3 (i j k : Int) : gMin [.int i, .int j, .int k] = some (.dat (.int (min (min i j) k))) := id rfl
@[simp] theorem q_gAll (bs : List Bool) : gAll [.list (bs.map PyData.bool)] = some (dB (bs.all id)) := by show (boolsOf (bs.map PyData.bool)).map _ = _; rw [boolsOf_map]; rfl
@[simp] theorem q_gAny (bs : List Bool) : gAny [.list (bs.map PyData.bool)] = some (dB (bs.any id)) := by show (boolsOf (bs.map PyData.bool)).map _ = _; rw [boolsOf_map]; rfl
@[simp] theorem q_no : fNo ρ st = some (none, st) := id rfl
@[simp] theorem q_ixz (i : Nat) (b : FE) : fIxZ i b ρ st = (match gs ρ i with | .fz ds => (match b ρ st with | some (u, st1) => (match asD st1 u with | some (.int j) => (atI ds j).map fun d => (.dat d, st1) | _ => none) | none => none) | _ => none) := id rfl
@[simp] theorem q_slz (i : Nat) (lo hi : FO) : fSlZ i lo hi ρ st = (match gs ρ i with | .fz ds => (match lo ρ st with | some (l, st2) => (match hi ρ st2 with | some (h, st3) => some (.own (cutD ds l h), st3) | none => none) | none => none) | _ => none) := id rfl
@[simp] theorem q_lenz (i : Nat) : fLenZ i ρ st = (match gs ρ i with | .fz ds => some (.dat (.int ds.length), st) | _ => none) := id rfl
@[simp] theorem q_part (a : FE) : fPart a ρ st = (match a ρ st with | some (v, st1) => (match asD st1 v with | some (.int i) => some (some i, st1) | _ => none) | none => none) := id rfl
@[simp] theorem q_its (pk : Bool) (a : FE) : fItS pk a ρ st = (match a ρ st with | some (w, st1) => (match itOf pk w with | some (_, ds) => some (ds, st1) | none => none) | none => none) := id rfl
@[simp] theorem q_it_l (pk : Bool) (ds : List PyData) : itOf pk (.dat (.list ds)) = some (true, ds) := id rfl
@[simp] theorem q_it_t (pk : Bool) (ds : List PyData) : itOf pk (.dat (.tuple ds)) = some (false, ds) := id rfl
@[simp] theorem q_it_o (pk : Bool) (ds : List PyData) : itOf pk (.own ds) = some (true, ds) := id rfl
@[simp] theorem q_it_p (ds : List PyData) : itOf true (.pk ds) = some (true, ds) := id rfl
theorem rgB_of {j : Int} (h : 0 ≤ j) (h2 : j < 1000000000000) : okI j = true := okI_of (by omega) (by omega)
@[simp] theorem q_rg1 (a : FE) : fRange1 a ρ st = (match a ρ st with | some (w, st1) => (match asD st1 w with | some (.int j) => if okI j = true then some (rangeD 0 j.toNat, st1) else none | _ => none) | none => none) := id rfl
@[simp] theorem q_lstr (f : FR) : fLstR f ρ st = (match f ρ st with | some ((a, b), st1) => if rgOk a b = true then some (.own (rgD a b), st1) else none | none => none) := id rfl
@[simp] theorem q_r1 (a : FE) : fR1 a ρ st = (match a ρ st with | some (.dat (.int n), st1) => some ((0, n), st1) | _ => none) := id rfl
@[simp] theorem q_for (it : FI) (tg : TgF) (b : FS) : fFor it tg b ρ st = (match it ρ st with | some (ds, st1) => forL tg b ds ρ st1 | none => none) := id rfl
@[simp] theorem q_not (a : FT) : fNotT a ρ st = (match a ρ st with | some (b, st1) => some (!b, st1) | none => none) := by unfold fNotT; rfl
def fnEnd (st : Sto) : Option (Fl × Sto) → Option (SV × Sto)
  | some (.nx _, st') => some (.dat .none, st'.take st.length)
  | some (.ret w, st') => if retOk w = true then some (w, st'.take st.length) else none
  | _ => none
theorem fnOf_at {np n : Nat} {F : FS} {ws : List SV} {st : Sto} (h : ws.length = np) : fnOf np n F ws st = fnEnd st (F (frame n ws) st) := by
  unfold fnOf
  rw [if_pos h]
  cases F (frame n ws) st with
  | none => rfl
  | some r => obtain ⟨fl, s⟩ := r; cases fl <;> rfl
@[simp] theorem fnEnd_nx (st st' : Sto) (ρ : Fr) : fnEnd st (some (.nx ρ, st')) = some (.dat .none, st'.take st.length) := id rfl
@[simp] theorem fnEnd_ret (st st' : Sto) (d : PyData) : fnEnd st (some (.ret (.dat d), st')) = some (.dat d, st'.take st.length) := id rfl
@[simp] theorem fnEnd_own (st st' : Sto) (d : List PyData) : fnEnd st (some (.ret (.own d), st')) = some (.own d, st'.take st.length) := id rfl
end
end EV
namespace Q
open PySem PySem.Spec PyProof.Rows L2 EV
theorem p300 : gPow (.int (10 ^ 60)) (.int 5) = some (.dat (.int ((10 ^ 60) ^ 5))) := by
  have a := bits_le (i := 10 ^ 60) (n := 200) (by decide) (by decide)
  rw [q_gPow, if_pos ⟨by decide, Nat.ble_eq_true_of_le (by show Builtin.Int.intBits (10 ^ 60) * 5 ≤ _; omega)⟩]; rfl
theorem p60 : gPow (.int 10) (.int 60) = some (.dat (.int (10 ^ 60))) := by
  have a := bits_le (i := 10) (n := 4) (by decide) (by decide)
  rw [q_gPow, if_pos ⟨by decide, Nat.ble_eq_true_of_le (by show Builtin.Int.intBits 10 * 60 ≤ _; omega)⟩]; rfl
theorem p18 : gPow (.int 10) (.int 18) = some (.dat (.int (10 ^ 18))) := by
  have a := bits_le (i := 10) (n := 4) (by decide) (by decide)
  rw [q_gPow, if_pos ⟨by decide, Nat.ble_eq_true_of_le (by show Builtin.Int.intBits 10 * 18 ≤ _; omega)⟩]; rfl
/-- a pot -/
theorem pot_ok {st : Sto} (js : List Int) (pl : Nat) (hp : pl < 1000) : ∃ s, g__law_pot [.fz (js.map .int), .dat (.int pl)] st = some (.own s, st) ∧ Pot s 0 := by
  obtain ⟨cell, hc⟩ : ∃ cell : Int, (fIte (fTst (fOp2 gLt (fVar 1) (fLenZ 0))) (fIxZ 0 (fVar 1)) (fOp2 gAdd (fOp2 gAdd (fOp2 gMod (fCB gSum (fCons (fSlZ 0 fNo (fPart (fCon (.int 1)))) fNil)) (fCon (.int 1000667))) (fOp2 gMulX (fCon (.int 4289)) (fVar 1))) (fCon (.int 641)))) [.fz (js.map .int), .dat (.int pl), .non, .non, .non] st = some (.dat (.int cell), st) := by
    by_cases h : pl < js.length
    · exact ⟨js[pl], by simp [h]⟩
    · have m : gMulX (.int 4289) (.int pl) = _ := mulx_ok (by decide) (by omega)
      have cut : cutD (js.map PyData.int) none (some 1) = (js.map PyData.int).take 1 := cut_to _ 1
      have sm : gSum [.list ((js.map PyData.int).take 1)] = some (.dat (.int (js.take 1).sum)) := by rw [← List.map_take]; exact q_gSum _
      exact ⟨_, by simp [h, m, cut, sm]; rfl⟩
  generalize hA : (cell.natAbs : Int) % (10 ^ 60) ^ 5 = A
  have A1 : A < (10 ^ 60) ^ 5 := by rw [← hA]; exact Int.emod_lt_of_pos _ (by decide)
  have A0 : 0 ≤ A := by rw [← hA]; exact Int.emod_nonneg _ (by decide)
  have A2 : ((10 : Int) ^ 60) ^ 5 < 2 ^ 1024 := by decide
  generalize hB : cell % 2305843009213693951 = B
  have B1 : B < 2305843009213693951 := by rw [← hB]; exact Int.emod_lt_of_pos _ (by decide)
  have B0 : 0 ≤ B := by rw [← hB]; exact Int.emod_nonneg _ (by decide)
  have m1 : gMulX (.int B) (.int 35141) = _ := mulx_ok (by omega) (by decide)
  have m2 : gMulX (.int 8219) (.int pl) = _ := mulx_ok (by decide) (by omega)
  have m3 : gMulX (.int (8219 * pl)) (.int pl) = _ := mulx_ok (by omega) (by omega)
  have lA : A.natAbs.log2 < 1024 := log2_lt (by omega) (by decide)
  have m4 : ∀ (p : Prop) [Decidable p], gMulX (.int A) (.int (if p then 1 else 0)) = some (.dat (.int (A * (if p then 1 else 0)))) := fun p _ => by
    split
    · exact (by rw [q_gMulX, if_pos (by have : (1 : Int).natAbs.log2 = 0 := by decide
                                        omega)])
    · exact (by rw [q_gMulX, if_pos (by have : (0 : Int).natAbs.log2 = 0 := by decide
                                        omega)])
  refine ⟨[.int (A * (if 10 ^ 18 ≤ (cell.natAbs : Int) then 1 else 0)), .int ((B * 35141 + 8219 * pl * pl + 1289) % 2305843009213693921), .int 0], ?_, _, _, 0, rfl, ?_, ⟨Int.emod_nonneg _ (by decide), Int.lt_trans (Int.emod_lt_of_pos _ (by decide)) (by decide)⟩, by decide⟩
  · have hf : frame 5 [.fz (js.map .int), .dat (.int pl)] = [.fz (js.map .int), .dat (.int pl), .non, .non, .non] := rfl
    unfold g__law_pot e__law_pot
    rw [fnOf_at (by rfl), hf]
    simp only [q_seq, q_set]
    rw [hc]
    have p300' := p300
    have p60' := p60
    have p18' := p18
    generalize (10 : Int) ^ 60 = t60 at *
    generalize t60 ^ 5 = t300 at *
    generalize (10 : Int) ^ 18 = t18 at *
    have t0 : 0 < t300 := by omega
    simp [p300', p60', p18', hA, hB, m1, m2, m3, m4, sizeLine_eq, t0]
  · split
    · rw [Int.mul_one]
      exact ⟨A0, Int.lt_trans A1 A2⟩
    · simp
/-- the cells of a script: at most `most` -/
theorem cells_ok {st : Sto} (js : List Int) (most : Nat) (h1 : 1 ≤ most) (h2 : most < 1000) (h3 : js.length < 1000) : ∃ k : Nat, k ≤ most ∧ g__law_cells [.fz (js.map .int), .dat (.int most)] st = some (.own (rgD 0 k), st) := by
  refine ⟨max 1 (min most js.length), by omega, ?_⟩
  unfold g__law_cells e__law_cells
  rw [fnOf_at (by rfl)]
  have e : max (1 : Int) (min (most : Int) js.length) = ((max 1 (min most js.length) : Nat) : Int) := by omega
  have r : rgOk 0 ((max 1 (min most js.length) : Nat) : Int) = true := by
    unfold rgOk
    rw [okI_of (by omega) (by omega), okI_of (by omega) (by omega), Nat.ble_eq_true_of_le (by omega)]; rfl
  simp [frame, e, r]
theorem allTrue {out : List PyData} (h : ∀ e ∈ out, e = .bool true) : gAll [.list out] = some (.dat (.bool true)) := by
  have e : out = (List.replicate out.length true).map PyData.bool := by
    rw [List.map_replicate]
    exact List.eq_replicate_of_mem h
  rw [e, q_gAll]
  simp
/-- a law of laps -/
noncomputable def lawF (right : FF) (most laps : Int) : FS := (fSeq (fFor (fItS false (fCall g__law_cells (fCons (fVar 0) (fCons (fCon (.int most)) fNil)))) (tName 1) (fSeq (fSetR 2 (fCall g__law_pot (fCons (fVar 0) (fCons (fVar 1) fNil))))
    (fIf (fNotT (fTst (fCB gAll (fCons (fComp [3] (fRange1 (fCon (.int laps))) (tName 3) fYes (fCall right (fCons (fVar 2) fNil))) fNil)))) (fRet (fCon (.bool false))) fNx)))
    (fRet (fCon (.bool true))))
theorem law_body {right : FF} {laps D : Nat} (hl : laps < 1000) (hD : laps * D < 2 ^ 30)
    (hr : ∀ (m c l : Nat) (st : Sto), c < 2 ^ 30 → Sm m c l st → ∃ st', right [.ref m] st = some (.dat (.bool true), st') ∧ Sm m (c + D) l st') (js : List Int) (pl : Nat) (hp : pl < 1000) (w2 : SV) (w3 : SV) (st : Sto) (hst : stFlat st = true)
    (hw : refsIn st.length [.fz (js.map .int), .dat (.int pl), w2, w3] = true) (h3 : noOwn w3 = true) :
    ∃ st' l, (fSeq (fSetR 2 (fCall g__law_pot (fCons (fVar 0) (fCons (fVar 1) fNil)))) (fIf (fNotT (fTst (fCB gAll (fCons (fComp [3] (fRange1 (fCon (.int laps))) (tName 3) fYes (fCall right (fCons (fVar 2) fNil))) fNil)))) (fRet (fCon (.bool false))) fNx))
      [.fz (js.map .int), .dat (.int pl), w2, w3] st = some (.nx [.fz (js.map .int), .dat (.int pl), .ref st.length, w3], st') ∧ stFlat st' = true ∧ st'.length = st.length + 1 ∧ l = st'.length := by
  obtain ⟨s, e1, p⟩ := pot_ok (st := st) js pl hp
  have sm0 : Sm st.length 0 (st.length + 1) (st ++ [s]) := ⟨by simp, by
    unfold stFlat at *
    rw [List.all_append, hst]
    simp [p.flat], s, by simp, p⟩
  have nx : (fSetR 2 (fCall g__law_pot (fCons (fVar 0) (fCons (fVar 1) fNil)))) [.fz (js.map .int), .dat (.int pl), w2, w3] st = some (.nx [.fz (js.map .int), .dat (.int pl), .ref st.length, w3], st ++ [s]) := by
    unfold fSetR
    have : (fCall g__law_pot (fCons (fVar 0) (fCons (fVar 1) fNil))) [.fz (js.map .int), .dat (.int pl), w2, w3] st = some (.own s, st) := by simp [e1]
    rw [this]
    dsimp only
    rw [if_pos ⟨⟨by simp, p.flat⟩, hst, hw⟩]
    rfl
  obtain ⟨out, st', g1, g2, g3, g4⟩ := compL_st (tg := tName 3) (el := fCall right (fCons (fVar 2) fNil)) (ρ := [.fz (js.map .int), .dat (.int pl), .ref st.length, .non]) laps (fun i st' => Sm st.length (i * D) (st.length + 1) st') (fun _ e => e = .bool true) (ds := rangeD 0 laps) (n := 0) (st := st ++ [s])
    (by simpa using sm0) (by simp [rangeD]) (fun d hd n st1 hn hi => by
      obtain ⟨st2, e2, h2⟩ := hr st.length (n * D) (st.length + 1) st1 (Nat.lt_of_le_of_lt (Nat.mul_le_mul_right D (Nat.le_of_lt hn)) hD) hi
      refine ⟨_, rfl, .dat (.bool true), _, st2, ?_, rfl, rfl, by rw [Nat.add_mul, Nat.one_mul]; exact h2⟩
      simp [e2, h2.len, hi.len])
  · have ht : gAll [.list out] = _ := allTrue (out_all g2 g3 fun _ _ h => h)
    have hle : out.length ≤ sizeLine := by rw [g2, sizeLine_eq]; simp [rangeD]; omega
    have hle2 : (rangeD 0 laps).length ≤ sizeLine := by rw [sizeLine_eq]; simp [rangeD]; omega
    refine ⟨st', _, ?_, g4.flat, by rw [g4.len], rfl⟩
    have eI : fRange1 (fCon (.int laps)) [.fz (js.map .int), .dat (.int pl), .ref st.length, w3] (st ++ [s]) = some (rangeD 0 laps, st ++ [s]) := by
      rw [q_rg1, q_con]
      dsimp only
      rw [q_asD_dat]
      dsimp only
      rw [if_pos (rgB_of (by omega) (by omega))]
      rfl
    have eC : fComp [3] (fRange1 (fCon (.int laps))) (tName 3) fYes (fCall right (fCons (fVar 2) fNil)) [.fz (js.map .int), .dat (.int pl), .ref st.length, w3] (st ++ [s]) = some (.own out, st') := by
      unfold fComp
      rw [if_pos (by simp [h3]), eI]
      dsimp only
      rw [if_pos hle2]
      have : wipeF [.fz (js.map .int), .dat (.int pl), .ref st.length, w3] [3] = [.fz (js.map .int), .dat (.int pl), .ref st.length, .non] := rfl
      rw [this, g1]
      rfl
    rw [q_seq, nx]
    simp [eC, ht]
theorem law_ok {right : FF} {laps D most : Nat} (h1 : 1 ≤ most) (h2 : most < 1000) (hl : laps < 1000) (hD : laps * D < 2 ^ 30)
    (hr : ∀ (m c l : Nat) (st : Sto), c < 2 ^ 30 → Sm m c l st → ∃ st', right [.ref m] st = some (.dat (.bool true), st') ∧ Sm m (c + D) l st') (js : List Int) (hj : js.length < 1000) : fnOf 1 4 (lawF right most laps) [.fz (js.map .int)] [] = some (.dat (.bool true), []) := by
  obtain ⟨k, hk, ec⟩ := cells_ok (st := []) js most h1 h2 hj
  have loop : ∀ (n i : Nat) (w1 w2 : SV) (st : Sto), i + n ≤ 1000 → stFlat st = true → refsIn st.length [.fz (js.map .int), .dat (.int (0 : Nat)), w2, .non] = true →
      ∃ ρ' st', forL (tName 1) (fSeq (fSetR 2 (fCall g__law_pot (fCons (fVar 0) (fCons (fVar 1) fNil)))) (fIf (fNotT (fTst (fCB gAll (fCons (fComp [3] (fRange1 (fCon (.int laps))) (tName 3) fYes (fCall right (fCons (fVar 2) fNil))) fNil)))) (fRet (fCon (.bool false))) fNx))
        ((List.range' i n).map fun (j : Nat) => .int (j : Int)) [.fz (js.map .int), w1, w2, .non] st = some (.nx ρ', st') := by
    intro n
    induction n with
    | zero => intro i w1 w2 st _ _ _; exact ⟨_, _, rfl⟩
    | succ n ih =>
      intro i w1 w2 st hi hst hw
      have hw' : refsIn st.length [.fz (js.map .int), .dat (.int i), w2, .non] = true := hw
      obtain ⟨st', l, b1, b2, b3, b4⟩ := law_body hl hD hr js i (by omega) w2 .non st hst hw' rfl
      rw [List.range'_succ, List.map_cons]
      unfold forL
      simp only [tName, List.set_cons_succ, List.set_cons_zero]
      rw [b1]
      dsimp only
      exact ih (i + 1) _ _ st' (by omega) b2 (by simp [refsIn, b3])
  have er : rgD 0 (k : Int) = (List.range' 0 k).map fun (j : Nat) => .int (j : Int) := by
    unfold rgD
    rw [List.range_eq_range']
    simp
  obtain ⟨ρ', st', e⟩ := loop k 0 .non .non [] (by omega) rfl rfl
  rw [fnOf_at (by rfl)]
  unfold lawF
  rw [q_seq, q_for]
  have ei : (fItS false (fCall g__law_cells (fCons (fVar 0) (fCons (fCon (.int most)) fNil)))) (frame 4 [.fz (js.map .int)]) [] = some (rgD 0 k, []) := by simp [frame, ec]
  rw [ei, er]
  dsimp only
  rw [show frame 4 [.fz (js.map .int)] = [.fz (js.map .int), .non, .non, .non] from rfl, e]
  simp
end Q
end

section
set_option maxRecDepth 100000
set_option maxHeartbeats 4000000
namespace EV
open PySem PySem.Spec L2
section
variable {ρ : Fr} {st : Sto}
@[simp] theorem q_and (a b : FE) : fAnd a b ρ st = (match a ρ st with | some (v, st1) => (match asB v with | some true => b ρ st1 | some false => some (dB false, st1) | none => none) | none => none) := id rfl
@[simp] theorem q_or (a b : FE) : fOr a b ρ st = (match a ρ st with | some (v, st1) => (match asB v with | some true => some (dB true, st1) | some false => b ρ st1 | none => none) | none => none) := id rfl
@[simp] theorem q_notE (a : FE) : fNot a ρ st = (match a ρ st with | some (v, st1) => (match asB v with | some k => some (dB (!k), st1) | none => none) | none => none) := id rfl
@[simp] theorem q_andT (a b : FT) : fAndT a b ρ st = (match a ρ st with | some (true, st1) => b ρ st1 | some (false, st1) => some (false, st1) | none => none) := by unfold fAndT; rfl
@[simp] theorem q_orT (a b : FT) : fOrT a b ρ st = (match a ρ st with | some (true, st1) => some (true, st1) | some (false, st1) => b ρ st1 | none => none) := by unfold fOrT; rfl
@[simp] theorem q_isi (t : String) (a : FE) : fIsi t a ρ st = (match a ρ st with | some (w, st1) => (asD st1 w).map fun d => (.dat (.bool (isT (kindD d) t)), st1) | none => none) := id rfl
@[simp] theorem q_chain (g g' : PyData → PyData → Option SV) (a b c : FE) : fChain g g' a b c ρ st = (match a ρ st with | some (v, st1) => (match b ρ st1 with | some (u, st2) => (match asD st2 v, asD st2 u with | some d, some e => (match g d e with | some w => (match asB w with | some true => (match c ρ st2 with | some (t, st3) => (match asD st3 u, asD st3 t with | some d', some f => (g' d' f).map fun w => (w, st3) | _, _ => none) | none => none) | some false => some (dB false, st2) | none => none) | none => none) | _, _ => none) | none => none) | none => none) := id rfl
@[simp] theorem q_expr (a : FE) : fExpr a ρ st = (match a ρ st with | some (_, st1) => some (.nx ρ, st1) | none => none) := id rfl
@[simp] theorem wipe_nil (ρ : Fr) : wipeF ρ [] = ρ := id rfl
@[simp] theorem wipe_cons (ρ : Fr) (v : Nat) (vs : List Nat) : wipeF ρ (v :: vs) = (wipeF ρ vs).set v .non := id rfl
@[simp] theorem gAll_map {α : Type} (p : α → Bool) (xs : List α) : gAll [.list (xs.map (PyData.bool ∘ p))] = some (.dat (.bool (xs.all p))) := by
  rw [← List.map_map, q_gAll]
  simp
@[simp] theorem gAll_mapf {α : Type} (p : α → Bool) (xs : List α) : gAll [.list (xs.map fun x => PyData.bool (p x))] = some (.dat (.bool (xs.all p))) := gAll_map p xs
@[simp] theorem gAny_map {α : Type} (p : α → Bool) (xs : List α) : gAny [.list (xs.map (PyData.bool ∘ p))] = some (.dat (.bool (xs.any p))) := by
  rw [← List.map_map, q_gAny]
  simp
@[simp] theorem gAny_mapf {α : Type} (p : α → Bool) (xs : List α) : gAny [.list (xs.map fun x => PyData.bool (p x))] = some (.dat (.bool (xs.any p))) := gAny_map p xs
@[simp] theorem k_none : kindD .none = "NoneType" := id rfl
@[simp] theorem k_bool (b : Bool) : kindD (.bool b) = "bool" := id rfl
@[simp] theorem k_int (i : Int) : kindD (.int i) = "int" := id rfl
@[simp] theorem k_str (i : Str) : kindD (.str i) = "str" := id rfl
@[simp] theorem k_list (i : List PyData) : kindD (.list i) = "list" := id rfl
@[simp] theorem k_tuple (i : List PyData) : kindD (.tuple i) = "tuple" := id rfl
@[simp] theorem k_dict (i : List (PyData × PyData)) : kindD (.dict i) = "dict" := id rfl
/-! comprehensions over lists that stand for something -/
theorem compL_enc {α : Type} {tg : TgF} {cs : FT} {el : FE} (enc : α → PyData) (p : α → Bool) (f : α → PyData) : ∀ {xs : List α}, (∀ x ∈ xs, ∃ ρ1, tg ρ (enc x) = some ρ1 ∧ cs ρ1 st = some (p x, st) ∧ (p x = true → ∃ w, el ρ1 st = some (w, st) ∧ escD w = some (f x))) →
    compL tg cs el ρ (xs.map enc) st = some ((xs.filter p).map f, st)
  | [], _ => rfl
  | d :: ds, h => by
    obtain ⟨ρ1, h1, h2, h3⟩ := h d List.mem_cons_self
    have ih := compL_enc (tg := tg) (cs := cs) (el := el) enc p f (xs := ds) fun d hd => h d (List.mem_cons_of_mem _ hd)
    rw [List.map_cons]
    unfold compL
    rw [h1]
    dsimp only
    rw [h2]
    cases hp : p d with
    | false => dsimp only; rw [ih, List.filter_cons_of_neg (by simp [hp])]
    | true =>
      obtain ⟨w, h4, h5⟩ := h3 hp
      dsimp only
      rw [h4]
      dsimp only
      rw [h5]
      dsimp only
      rw [ih, List.filter_cons_of_pos (by simp [hp])]
      rfl
theorem compL_encm {α : Type} {tg : TgF} {el : FE} (enc : α → PyData) (f : α → PyData) {xs : List α} (h : ∀ x ∈ xs, ∃ ρ1, tg ρ (enc x) = some ρ1 ∧ ∃ w, el ρ1 st = some (w, st) ∧ escD w = some (f x)) : compL tg fYes el ρ (xs.map enc) st = some (xs.map f, st) := by
  have := compL_enc (cs := fYes) (st := st) (tg := tg) (el := el) (ρ := ρ) enc (fun _ => true) f (xs := xs) fun d hd => let ⟨ρ1, a, b⟩ := h d hd; ⟨ρ1, a, rfl, fun _ => b⟩
  rw [this, List.filter_eq_self.mpr (by simp)]
theorem fComp_at {own : List Nat} {it : FI} {tg : TgF} {cs : FT} {el : FE} {ds out : List PyData} {st1 st2 : Sto} (h1 : own.all (fun i => noOwn (gs ρ i)) = true) (h2 : it ρ st = some (ds, st1)) (h3 : ds.length ≤ sizeLine) (h4 : compL tg cs el (wipeF ρ own) ds st1 = some (out, st2)) :
    fComp own it tg cs el ρ st = some (.own out, st2) := by
  unfold fComp
  rw [if_pos h1, h2]
  dsimp only
  rw [if_pos h3, h4]
  rfl
/-! fors -/
theorem forL_fold {α σ : Type} {tg : TgF} {b : FS} (enc : α → PyData) (R : σ → Fr → Sto → Prop) (step : σ → α → σ) : ∀ {xs : List α} {s : σ} {ρ : Fr} {st : Sto}, R s ρ st →
    (∀ x ∈ xs, ∀ s ρ st, R s ρ st → ∃ ρ1, tg ρ (enc x) = some ρ1 ∧ ∃ ρ2 st2, b ρ1 st = some (.nx ρ2, st2) ∧ R (step s x) ρ2 st2) →
    ∃ ρ' st', forL tg b (xs.map enc) ρ st = some (.nx ρ', st') ∧ R (xs.foldl step s) ρ' st'
  | [], s, ρ, st, r, _ => ⟨ρ, st, rfl, r⟩
  | x :: xs, s, ρ, st, r, h => by
    obtain ⟨ρ1, h1, ρ2, st2, h2, h3⟩ := h x List.mem_cons_self s ρ st r
    obtain ⟨ρ', st', h4, h5⟩ := forL_fold enc R step h3 fun y hy => h y (List.mem_cons_of_mem _ hy)
    refine ⟨ρ', st', ?_, h5⟩
    rw [List.map_cons]
    unfold forL
    rw [h1]
    dsimp only
    rw [h2]
    exact h4
/-! whiles -/
theorem whileL_step {σ : Type} {c : FT} {b : FS} (R : σ → Fr → Sto → Prop) (cond : σ → Bool) (step : σ → σ) (μ : σ → Nat) (hμ : ∀ s, cond s = true → μ (step s) < μ s)
    (hc : ∀ s ρ st, R s ρ st → ∃ st1, c ρ st = some (cond s, st1) ∧ (cond s = true → ∃ ρ2 st2, b ρ st1 = some (.nx ρ2, st2) ∧ R (step s) ρ2 st2) ∧ (cond s = false → R s ρ st1)) :
    ∀ (n : Nat) (s : σ) (ρ : Fr) (st : Sto), μ s < n → R s ρ st → ∃ s' ρ' st' k, fWhile c b ρ st = some (.nx ρ', st') ∧ R s' ρ' st' ∧ cond s' = false ∧ s' = (Nat.repeat step k s) ∧ ∀ j < k, cond (Nat.repeat step j s) = true := by
  intro n
  have key : ∀ (n : Nat) (s : σ) (ρ : Fr) (st : Sto), μ s < n → R s ρ st → ∃ s' ρ' st' k m, whileL c b m ρ st = some (.nx ρ', st') ∧ R s' ρ' st' ∧ cond s' = false ∧ s' = (Nat.repeat step k s) ∧ ∀ j < k, cond (Nat.repeat step j s) = true := by
    intro n
    induction n with
    | zero => intro s ρ st h; omega
    | succ n ih =>
      intro s ρ st h r
      obtain ⟨st1, e1, e2, e3⟩ := hc s ρ st r
      cases hs : cond s with
      | false => exact ⟨s, ρ, st1, 0, 1, by unfold whileL; rw [e1, hs], e3 hs, hs, rfl, fun j hj => by omega⟩
      | true =>
        obtain ⟨ρ2, st2, e4, e5⟩ := e2 hs
        obtain ⟨s', ρ', st', k, m, f1, f2, f3, f4, f5⟩ := ih (step s) ρ2 st2 (by have := hμ s hs; omega) e5
        have rp : ∀ j, Nat.repeat step j (step s) = Nat.repeat step (j + 1) s := by
          intro j
          induction j with
          | zero => rfl
          | succ j ihj => show step (Nat.repeat step j (step s)) = step (Nat.repeat step (j + 1) s); rw [ihj]
        refine ⟨s', ρ', st', k + 1, m + 1, ?_, f2, f3, by rw [f4, rp], fun j hj => ?_⟩
        · unfold whileL; rw [e1, hs]; dsimp only; rw [e4]; exact f1
        · cases j with
          | zero => exact hs
          | succ j => rw [← rp]; exact f5 j (by omega)
  intro s ρ st h r
  obtain ⟨s', ρ', st', k, m, f1, f2⟩ := key n s ρ st h r
  exact ⟨s', ρ', st', k, fWhile_of f1, f2⟩
/-! zip, enumerate -/
theorem zipD_enc {α β : Type} (e1 : α → PyData) (e2 : β → PyData) (a : List α) (b : List β) : zipD (a.map e1) (b.map e2) = (a.zip b).map fun p => .tuple [e1 p.1, e2 p.2] := by
  unfold zipD
  rw [List.zipWith_map, List.zip, List.map_zipWith]
theorem zipD3_enc {α β γ : Type} (e1 : α → PyData) (e2 : β → PyData) (e3 : γ → PyData) (a : List α) (b : List β) (c : List γ) : zipD3 (a.map e1) (b.map e2) (c.map e3) = ((a.zip b).zip c).map fun p => .tuple [e1 p.1.1, e2 p.1.2, e3 p.2] := by
  unfold zipD3
  rw [zipD_enc, List.zipWith_map, show ((a.zip b).zip c) = List.zipWith Prod.mk (a.zip b) c from rfl, List.map_zipWith]
  rfl
theorem enumD_enc {α : Type} (e : α → PyData) (xs : List α) : enumD (xs.map e) = xs.zipIdx.map fun p => .tuple [.int (p.2 : Nat), e p.1] := by
  unfold enumD
  apply List.ext_getElem?
  intro i
  simp [List.getElem?_mapIdx, List.getElem?_zipIdx]
  cases xs[i]? <;> simp
end
end EV
namespace Q
open PySem PySem.Spec PyProof.Rows L2 EV
/-! words -/
section
variable {st : Sto}
theorem is_integer_int (i : Int) : g_is_integer [.dat (.int i)] st = some (.dat (.bool true), st) := by
  unfold g_is_integer e_is_integer
  rw [fnOf_at (by rfl)]
  simp [frame, isT]
theorem is_between_int (i lo hi : Int) : g_is_between [.dat (.int i), .dat (.int lo), .dat (.int hi)] st = some (.dat (.bool (decide (lo ≤ i) && decide (i ≤ hi))), st) := by
  unfold g_is_between e_is_between
  rw [fnOf_at (by rfl)]
  by_cases h : lo ≤ i <;> simp [frame, is_integer_int, h]
theorem gIn_str (x : Str) (ws : List Str) : gIn (.str x) (.tuple (ws.map .str)) = some (.dat (.bool (ws.contains x))) := by
  have h : (ws.map PyData.str).all flat0 = true := by simp [flat0]
  show (if flat0 (.str x) = true ∧ (ws.map PyData.str).all flat0 = true then some (dB ((ws.map PyData.str).any fun y => PyData.eqv y (.str x))) else none) = _
  rw [if_pos ⟨rfl, h⟩]
  have e : (ws.map PyData.str).any (fun y => PyData.eqv y (.str x)) = ws.contains x := by
    rw [List.any_map, List.contains_eq_any_beq]
    congr 1
    funext y
    simp [PyData.eqv, Bool.beq_comm]
  rw [e]; rfl
theorem is_word_str (x : Str) (ws : List Str) : g_is_word [.dat (.str x), .dat (.tuple (ws.map .str))] st = some (.dat (.bool (ws.contains x)), st) := by
  unfold g_is_word e_is_word
  rw [fnOf_at (by rfl)]
  have := gIn_str x ws
  simp [frame, isT, this]
theorem is_tuple_of_tup (ds : List PyData) (n : Int) : g_is_tuple_of [.dat (.tuple ds), .dat (.int n)] st = some (.dat (.bool (decide ((ds.length : Int) = n))), st) := by
  unfold g_is_tuple_of e_is_tuple_of
  rw [fnOf_at (by rfl)]
  simp [frame, isT]
theorem are_between_ints (js : List Int) (lo hi : Int) (hl : js.length ≤ sizeLine) : g_are_between [.dat (.tuple (js.map .int)), .dat (.int lo), .dat (.int hi)] st = some (.dat (.bool (js.all fun i => decide (lo ≤ i) && decide (i ≤ hi))), st) := by
  unfold g_are_between e_are_between
  rw [fnOf_at (by rfl)]
  have c : fComp [3] (fItS true (fVar 0)) (tName 3) fYes (fCall g_is_between (fCons (fVar 3) (fCons (fVar 1) (fCons (fVar 2) fNil)))) [.dat (.tuple (js.map .int)), .dat (.int lo), .dat (.int hi), .non] st = some (.own ((js.map fun i => decide (lo ≤ i) && decide (i ≤ hi)).map .bool), st) := by
    refine fComp_at (ds := js.map .int) (st1 := st) rfl (by simp) (by simpa using hl) ?_
    rw [List.map_map]
    exact compL_encm PyData.int (fun i => .bool (decide (lo ≤ i) && decide (i ≤ hi))) fun x _ => ⟨_, rfl, .dat (.bool (decide (lo ≤ x) && decide (x ≤ hi))), by simp [is_between_int], rfl⟩
  simp [frame, isT, c]
end
end Q
end

section
set_option maxRecDepth 100000
set_option maxHeartbeats 4000000
namespace EV
open PySem PySem.Spec L2
abbrev zs (js : List Int) : List PyData := js.map PyData.int
theorem canLay_ints : ∀ js : List Int, PyData.canLayAll0 (zs js) = true
  | [] => by simp [PyData.canLayAll0]
  | j :: js => by
    show PyData.canLayAll0 (.int j :: zs js) = true
    simp [PyData.canLayAll0, PyData.canLay0, canLay_ints js]
theorem depth_ints' : ∀ js : List Int, PyData.depthAll (zs js) = 0
  | [] => by simp [PyData.depthAll]
  | j :: js => by
    show PyData.depthAll (.int j :: zs js) = 0
    simp [PyData.depthAll, PyData.depth, depth_ints' js]
theorem shaped_tup (js : List Int) : SeqAt.shaped (.tuple (zs js)) = true := by simp [SeqAt.shaped, PyData.canLay0, canLay_ints, PyData.depth, depth_ints']
theorem shaped_lst (js : List Int) : SeqAt.shaped (.list (zs js)) = true := by simp [SeqAt.shaped, PyData.canLay0, canLay_ints, PyData.depth, depth_ints']
theorem eqv_ints : ∀ a b : List Int, PyData.eqvAll (zs a) (zs b) = decide (a = b)
  | [], [] => by simp [PyData.eqvAll]
  | [], b :: bs => by simp [PyData.eqvAll]
  | a :: as, [] => by simp [PyData.eqvAll]
  | a :: as, b :: bs => by
    show PyData.eqvAll (.int a :: zs as) (.int b :: zs bs) = _
    simp only [PyData.eqvAll, PyData.eqv, eqv_ints as bs, List.cons.injEq]
    by_cases h1 : a = b <;> by_cases h2 : as = bs <;> simp [h1, h2]
theorem gEq_tup (a b : List Int) : gEq (.tuple (zs a)) (.tuple (zs b)) = some (.dat (.bool (decide (a = b)))) := by
  show (if SeqAt.shaped (.tuple (zs a)) = true ∧ SeqAt.shaped (.tuple (zs b)) = true then some (dB (PyData.eqv (.tuple (zs a)) (.tuple (zs b)))) else none) = _
  rw [if_pos ⟨shaped_tup a, shaped_tup b⟩]
  simp [PyData.eqv, eqv_ints]
theorem gNe_lst (a b : List Int) : gNe (.list (zs a)) (.list (zs b)) = some (.dat (.bool (!decide (a = b)))) := by
  show (if SeqAt.shaped (.list (zs a)) = true ∧ SeqAt.shaped (.list (zs b)) = true then some (dB (!PyData.eqv (.list (zs a)) (.list (zs b)))) else none) = _
  rw [if_pos ⟨shaped_lst a, shaped_lst b⟩]
  simp [PyData.eqv, eqv_ints]
theorem zeros_ok {k : Int} (h : 0 ≤ k) (h2 : k ≤ 1000000) : gMulX (.list [.int 0]) (.int k) = some (.own (zs (List.replicate k.toNat 0))) := by
  show (if okI k = true ∧ [PyData.int 0].length * k.toNat ≤ sizeLine then some (SV.own (List.replicate k.toNat [PyData.int 0]).flatten) else none) = _
  rw [if_pos ⟨okI_of (by omega) (by omega), by rw [sizeLine_eq]; simp; omega⟩]
  congr 2
  induction k.toNat with
  | zero => rfl
  | succ n ih => rw [List.replicate_succ, List.flatten_cons, ih]; rfl
section
variable {ρ : Fr} {st : Sto}
theorem compZ {tg : TgF} {el : FE} (f : Int → Int) {js : List Int} (h : ∀ x ∈ js, ∃ ρ1, tg ρ (.int x) = some ρ1 ∧ el ρ1 st = some (.dat (.int (f x)), st)) : compL tg fYes el ρ (zs js) st = some (zs (js.map f), st) := by
  have := compL_encm (tg := tg) (el := el) (ρ := ρ) (st := st) PyData.int (fun x => .int (f x)) (xs := js) fun x hx => let ⟨ρ1, a, b⟩ := h x hx; ⟨ρ1, a, _, b, rfl⟩
  rw [this]
  simp
theorem compZ2 {tg : TgF} {el : FE} (f : Int → Int → Int) {as bs : List Int} (h : ∀ p ∈ as.zip bs, ∃ ρ1, tg ρ (.tuple [.int p.1, .int p.2]) = some ρ1 ∧ el ρ1 st = some (.dat (.int (f p.1 p.2)), st)) : compL tg fYes el ρ (zipD (zs as) (zs bs)) st = some (zs (List.zipWith f as bs), st) := by
  rw [zipD_enc]
  have := compL_encm (tg := tg) (el := el) (ρ := ρ) (st := st) (fun p : Int × Int => .tuple [.int p.1, .int p.2]) (fun p => .int (f p.1 p.2)) (xs := as.zip bs) fun x hx => let ⟨ρ1, a, b⟩ := h x hx; ⟨ρ1, a, _, b, rfl⟩
  rw [this, zs, List.map_zipWith, List.zip, List.map_zipWith]
theorem compZ3 {tg : TgF} {el : FE} (f : Int → Int → Int → Int) {as bs cs : List Int} (h : ∀ p ∈ (as.zip bs).zip cs, ∃ ρ1, tg ρ (.tuple [.int p.1.1, .int p.1.2, .int p.2]) = some ρ1 ∧ el ρ1 st = some (.dat (.int (f p.1.1 p.1.2 p.2)), st)) :
    compL tg fYes el ρ (zipD3 (zs as) (zs bs) (zs cs)) st = some (zs (((as.zip bs).zip cs).map fun p => f p.1.1 p.1.2 p.2), st) := by
  rw [zipD3_enc]
  have := compL_encm (tg := tg) (el := el) (ρ := ρ) (st := st) (fun p : (Int × Int) × Int => .tuple [.int p.1.1, .int p.1.2, .int p.2]) (fun p => .int (f p.1.1 p.1.2 p.2)) (xs := (as.zip bs).zip cs) fun x hx => let ⟨ρ1, a, b⟩ := h x hx; ⟨ρ1, a, _, b, rfl⟩
  rw [this]
  simp
end
end EV
namespace Q
open PySem PySem.Spec PyProof.Rows L2 EV
section
variable {st : Sto}
def byFirst (first : Int) (sizes : List Int) (amount : Int) : List Int := match sizes with
  | [] => []
  | s :: r => min (min first s) amount :: List.replicate r.length 0
theorem by_first_ok (f a : Int) (sizes : List Int) (hl : sizes.length ≤ 1000) : g_by_first [.dat (.int f), .dat (.tuple (zs sizes)), .dat (.int a)] st = some (.own (zs (byFirst f sizes a)), st) := by
  unfold g_by_first e_by_first
  rw [fnOf_at (by rfl)]
  have e := gEq_tup sizes []
  cases sizes with
  | nil => simp [frame, sizeLine_eq] at e ⊢; simp [e, byFirst]
  | cons s r =>
    rw [List.length_cons] at hl
    have z := zeros_ok (k := ((r.length : Int) + 1) - 1) (by omega) (by omega)
    simp at e z
    simp [frame, sizeLine_eq, e, z, gAdd, byFirst, show 1 + r.length ≤ 16777216 by omega]
/-- sizes and what is left of them: not many, not great -/
def Sz (js : List Int) : Prop := js.length ≤ 1000 ∧ ∀ j ∈ js, 0 ≤ j ∧ j ≤ 1000000
theorem sum_le : ∀ {js : List Int}, (∀ j ∈ js, 0 ≤ j ∧ j ≤ 1000000) → 0 ≤ js.sum ∧ js.sum ≤ 1000000 * js.length
  | [], _ => by simp
  | j :: js, h => by
    have h1 := h j List.mem_cons_self
    have h2 := sum_le (js := js) fun x hx => h x (List.mem_cons_of_mem _ hx)
    rw [List.sum_cons, List.length_cons]
    omega
theorem Sz.sum {js : List Int} (h : Sz js) : 0 ≤ js.sum ∧ js.sum ≤ 1000000000 := by
  have := sum_le h.2
  have := h.1
  omega
def byParts (lefts : List Int) (amount : Int) : List Int := if 0 < lefts.sum then lefts.map fun l => amount * l / lefts.sum else List.replicate lefts.length 0
theorem by_parts_ok (a : Int) (lefts : List Int) (h : Sz lefts) (ha : 0 ≤ a ∧ a ≤ 1000000000) : g_by_parts [.dat (.list (zs lefts)), .dat (.int a)] st = some (.own (zs (byParts lefts a)), st) := by
  unfold g_by_parts e_by_parts
  rw [fnOf_at (by rfl)]
  obtain ⟨s0, s1⟩ := h.sum
  have hl : lefts.length ≤ 16777216 := by have := h.1; omega
  by_cases hw : 0 < lefts.sum
  · have lw : lefts.sum.natAbs.log2 < 9000 := by have := log2_lt (i := lefts.sum) (n := 64) (by omega) (by decide); omega
    have c : fComp [3] (fItS true (fVar 0)) (tName 3) fYes (fOp2 gFdiv (fOp2 gMulX (fVar 1) (fVar 3)) (fVar 2)) [.dat (.list (zs lefts)), .dat (.int a), .dat (.int lefts.sum), .non] st = some (.own (zs (byParts lefts a)), st) := by
      refine fComp_at (ds := zs lefts) (st1 := st) rfl (by simp) (by rw [sizeLine_eq]; simpa using hl) ?_
      unfold byParts
      rw [if_pos hw]
      refine compZ _ fun x hx => ⟨_, rfl, ?_⟩
      have hx' := h.2 x hx
      have m : gMulX (.int a) (.int x) = _ := mulx_ok (by omega) (by omega)
      simp [m, hw, lw]
    simp [frame, hw, c]
  · have z := zeros_ok (k := lefts.length) (by omega) (by have := h.1; omega)
    simp at z
    simp [frame, hw, sizeLine_eq, z, byParts]
/-! the order of those who wait -/
theorem rgD_nat (n : Nat) : rgD 0 (n : Int) = zs ((List.range n).map fun (i : Nat) => (i : Int)) := by
  unfold rgD
  simp
def idx (n : Nat) : List Int := (List.range n).map fun (i : Nat) => (i : Int)
/-- the places by size, the greatest first, then by place -/
def bySize (sizes : List Int) : List Int := (idx sizes.length).mergeSort fun p q => decide (-(sizes.getD p.toNat 0) < -(sizes.getD q.toNat 0) ∨ (-(sizes.getD p.toNat 0) = -(sizes.getD q.toNat 0) ∧ p ≤ q))
def seqOf (rest : Str) (sizes : List Int) : List Int := if rest = "late" then (idx sizes.length).reverse else if rest = "size" then bySize sizes else idx sizes.length
theorem keysL_enc {α : Type} {i : Nat} {fb : FE} {ρ : Fr} {st : Sto} (enc key : α → PyData) : ∀ {xs : List α}, (∀ x ∈ xs, ∃ st', fb (ρ.set i (.dat (enc x))) st = some (.dat (key x), st')) → keysL i fb ρ st (xs.map enc) = some (xs.map key)
  | [], _ => rfl
  | x :: xs, h => by
    obtain ⟨st', e⟩ := h x List.mem_cons_self
    rw [List.map_cons]
    unfold keysL
    rw [e, keysL_enc enc key fun y hy => h y (List.mem_cons_of_mem _ hy)]
    rfl
/-- sorted by a pair of ints -/
theorem sortK_ii {α : Type} (enc : α → PyData) (a b : α → Int) (xs : List α) : sortK (xs.map enc) (xs.map fun x => .tuple [.int (a x), .int (b x)]) = (xs.mergeSort fun p q => decide (a p < a q ∨ (a p = a q ∧ b p ≤ b q))).map enc := by
  unfold sortK
  have e : (xs.map enc).zip (xs.map fun x => PyData.tuple [.int (a x), .int (b x)]) = xs.map fun x => (enc x, PyData.tuple [.int (a x), .int (b x)]) := by
    induction xs with
    | nil => rfl
    | cons x xs ih => simp [ih]
  rw [e]
  have m := List.map_mergeSort (r := fun p q : α => decide (a p < a q ∨ (a p = a q ∧ b p ≤ b q))) (s := PySem.W.dataLe false (Prod.snd : PyData × PyData → PyData)) (f := fun x => (enc x, PyData.tuple [.int (a x), .int (b x)])) (l := xs) (fun x _ y _ => by
    have z := congrFun (congrFun (PySem.W.dataLe_ii (β := α) a b) x) y
    exact z.symm)
  rw [← m, List.map_map]
  rfl
theorem alike_ii (a b c d : Int) : PySem.W.alike (.tuple [.int a, .int b]) (.tuple [.int c, .int d]) = true := by simp [PySem.W.alike, PySem.W.alikeAll]
theorem depth_ii (a b : Int) : (PyData.tuple [.int a, .int b]).depth ≤ 60 := by simp [PyData.depth, PyData.depthAll]
theorem keys_ii {α : Type} (a b : α → Int) (xs : List α) : keysOk (xs.map fun x => .tuple [.int (a x), .int (b x)]) = true := by
  unfold keysOk
  rw [Bool.and_eq_true, Bool.and_eq_true, Bool.or_eq_true, List.all_eq_true, List.all_eq_true]
  refine ⟨fun k hk => ?_, fun k hk => ?_, .inl (List.all_eq_true.mpr fun k hk => ?_)⟩
  · obtain ⟨x, _, rfl⟩ := List.mem_map.mp hk
    rw [Bool.and_eq_true, decide_eq_true_eq]
    exact ⟨rfl, depth_ii _ _⟩
  · obtain ⟨x, _, rfl⟩ := List.mem_map.mp hk
    refine List.all_eq_true.mpr fun k2 hk2 => ?_
    obtain ⟨y, _, rfl⟩ := List.mem_map.mp hk2
    exact alike_ii _ _ _ _
  · obtain ⟨x, _, rfl⟩ := List.mem_map.mp hk
    rfl
theorem mem_idx {n : Nat} {x : Int} (h : x ∈ idx n) : ∃ i : Nat, x = i ∧ i < n := by
  unfold idx at h
  obtain ⟨i, hi, rfl⟩ := List.mem_map.mp h
  exact ⟨i, rfl, List.mem_range.mp hi⟩
theorem ixI_nat (js : List Int) (i : Nat) (h : i < js.length) (h2 : js.length ≤ 1000) : gIxI (.tuple (zs js)) (.int (i : Int)) = some (.dat (.int (js.getD i 0))) := by
  simp only [gIxI]
  rw [if_pos (okI_of (by omega) (by omega)), EV.atI_nat]
  simp [h]
/-- the sort's own reading -/
theorem size_sort {ρ : Fr} {sizes : List Int} (h : Sz sizes) (i j : Nat) (fk : FE) (fx : FE) (hx : fx ρ st = some (.dat (.list (zs (idx sizes.length))), st)) (hs : gs ρ i = .dat (.tuple (zs sizes))) (hij : i ≠ j) (hj : j < ρ.length)
    (hk : ∀ x : Nat, x < sizes.length → fk (ρ.set j (.dat (.int x))) st = some (.dat (.tuple [.int (-(sizes.getD x 0)), .int x]), st)) :
    fSortK j [i] fx fk ρ st = some (.own (zs (bySize sizes)), st) := by
  have ek : keysL j fk ρ st (zs (idx sizes.length)) = some ((idx sizes.length).map fun p => .tuple [.int (-(sizes.getD p.toNat 0)), .int p]) :=
    keysL_enc PyData.int (fun p => .tuple [.int (-(sizes.getD p.toNat 0)), .int p]) fun x hx => by
      obtain ⟨n, rfl, hn⟩ := mem_idx hx
      exact ⟨st, by simpa using hk n hn⟩
  have e1 : (zs (idx sizes.length)).all (·.canLay0) = true := by simp [PyData.canLay0]
  have e2 := keys_ii (fun p : Int => -(sizes.getD p.toNat 0)) (fun p => p) (idx sizes.length)
  have e3 : capOk ρ st i = true := by
    unfold capOk
    have : fVar i ρ st = some (.dat (.tuple (zs sizes)), st) := by rw [q_var, hs]
    rw [this]
    simp [PyData.canLay0, canLay_ints]
  unfold fSortK
  rw [hx]
  dsimp only
  rw [q_asD_dat]
  dsimp only
  rw [ek]
  dsimp only
  rw [if_pos ⟨⟨e1, e2⟩, by simp [e3]⟩]
  rw [sortK_ii PyData.int (fun p : Int => -(sizes.getD p.toNat 0)) (fun p => p)]
  rfl
theorem t_late (sizes : List Int) (r : rgOk 0 (sizes.length : Int) = true) : fnOf 2 4 e_sequence_of [.dat (.str "late"), .dat (.tuple (zs sizes))] st = some (.own (zs (seqOf "late" sizes)), st) := by
  unfold e_sequence_of
  rw [fnOf_at (by rfl)]
  simp [frame, r, gRev, rgD_nat, seqOf, idx]
theorem t_other (rest : Str) (sizes : List Int) (h1 : ¬ rest = "late") (h2 : ¬ rest = "size") (r : rgOk 0 (sizes.length : Int) = true) : fnOf 2 4 e_sequence_of [.dat (.str rest), .dat (.tuple (zs sizes))] st = some (.dat (.list (zs (seqOf rest sizes))), st) := by
  unfold e_sequence_of
  rw [fnOf_at (by rfl)]
  simp [frame, r, rgD_nat, seqOf, idx, h1, h2]
theorem t_key (sizes : List Int) (hl : sizes.length ≤ 1000) (x : Nat) (hx : x < sizes.length) : (fTup (fCons (fOp2 gSubI (fCon (.int 0)) (fOp2 gIxI (fVar 1) (fVar 3))) (fCons (fVar 3) fNil))) ([.dat (.str "size"), .dat (.tuple (zs sizes)), .dat (.list (zs (idx sizes.length))), .dat (.int x)]) st = some (.dat (.tuple [.int (-(sizes.getD x 0)), .int x]), st) := by
  have e := ixI_nat sizes x hx hl
  have z : ∀ y : Int, gSubI (.int 0) (.int y) = some (.dat (.int (-y))) := fun y => by simp [gSubI]
  simp [e, z, sizeLine_eq]
theorem sequence_of_ok (rest : Str) (sizes : List Int) (h : Sz sizes) : ∃ w, g_sequence_of [.dat (.str rest), .dat (.tuple (zs sizes))] st = some (w, st) ∧ itOf false w = some (true, zs (seqOf rest sizes)) ∧ retOk w = true := by
  have hl := h.1
  have r : rgOk 0 (sizes.length : Int) = true := by
    unfold rgOk
    rw [okI_of (by omega) (by omega), okI_of (by omega) (by omega), Nat.ble_eq_true_of_le (by omega)]; rfl
  by_cases h1 : rest = "late"
  · subst h1
    exact ⟨_, t_late sizes r, rfl, rfl⟩
  · by_cases h2 : rest = "size"
    · subst h2
      refine ⟨.own (zs (seqOf "size" sizes)), ?_, rfl, rfl⟩
      have es := size_sort (st := st) (ρ := [.dat (.str "size"), .dat (.tuple (zs sizes)), .dat (.list (zs (idx sizes.length))), .non]) h 1 3 (fTup (fCons (fOp2 gSubI (fCon (.int 0)) (fOp2 gIxI (fVar 1) (fVar 3))) (fCons (fVar 3) fNil))) (fVar 2) (by simp) rfl (by decide) (by simp) fun x hx => t_key sizes hl x hx
      have er : rgD 0 (sizes.length : Int) = zs (idx sizes.length) := rgD_nat _
      unfold g_sequence_of e_sequence_of
      rw [fnOf_at (by rfl)]
      simp only [zs] at er es
      simp [frame, r, er, h1, es, seqOf]
    · exact ⟨_, t_other rest sizes h1 h2 r, rfl, rfl⟩
end
end Q
end

section
set_option maxRecDepth 100000
set_option maxHeartbeats 4000000
namespace EV
open PySem PySem.Spec L2
section
variable {ρ : Fr} {st : Sto}
@[simp] theorem gSum_map {α : Type} (f : α → Int) (xs : List α) : gSum [.list (xs.map (PyData.int ∘ f))] = some (.dat (.int (xs.map f).sum)) := by rw [← List.map_map]; exact q_gSum _
@[simp] theorem gSum_mapT {α : Type} (f : α → Int) (xs : List α) : gSum [.tuple (xs.map (PyData.int ∘ f))] = some (.dat (.int (xs.map f).sum)) := by rw [← List.map_map]; exact q_gSumT _
@[simp] theorem q_star (a : FE) (r : FA) : fStar a r ρ st = (match a ρ st with | some (v, st1) => (match asSeq st1 v with | some ds => (match r ρ st1 with | some (vs, st2) => some (ds.map .dat ++ vs, st2) | none => none) | none => none) | none => none) := id rfl
@[simp] theorem q_seq_l (ds : List PyData) : asSeq st (.dat (.list ds)) = some ds := id rfl
@[simp] theorem q_seq_t (ds : List PyData) : asSeq st (.dat (.tuple ds)) = some ds := id rfl
@[simp] theorem q_seq_o (ds : List PyData) : asSeq st (.own ds) = some ds := id rfl
theorem escDs_dat : ∀ ds : List PyData, escDs (ds.map .dat) = some ds
  | [] => rfl
  | d :: ds => by rw [List.map_cons, q_escDs_cons, escDs_dat ds]; rfl
end
end EV
namespace Q
open PySem PySem.Spec PyProof.Rows L2 EV
section
variable {st : Sto}
/-- what all take where nobody takes more than r -/
def lvl (lefts : List Int) (r : Int) : Int := (lefts.map fun l => min l r).sum
theorem lvl_mono : ∀ (lefts : List Int) {r s : Int}, r ≤ s → lvl lefts r ≤ lvl lefts s
  | [], _, _, _ => by simp [lvl]
  | l :: ls, r, s, h => by
    have ih := lvl_mono ls h
    unfold lvl at *
    simp only [List.map_cons, List.sum_cons]
    omega
theorem lvl_zero : ∀ {lefts : List Int}, (∀ j ∈ lefts, 0 ≤ j) → lvl lefts 0 = 0
  | [], _ => by simp [lvl]
  | l :: ls, h => by
    have ih := lvl_zero (lefts := ls) fun j hj => h j (List.mem_cons_of_mem _ hj)
    have h0 := h l List.mem_cons_self
    unfold lvl at *
    simp only [List.map_cons, List.sum_cons, ih]
    omega
/-- the rounds that can be given in full -/
structure IsLevel (lefts : List Int) (a L : Int) : Prop where
  nn : 0 ≤ L
  le : lvl lefts L ≤ a
  top : (∀ j ∈ lefts, j ≤ L) ∨ a < lvl lefts (L + 1)
theorem mins_ok (js : List Int) (r : Int) (i j : Nat) (ρ : Fr) (hi : gs ρ i = .dat (.list (zs js))) (hj : j < ρ.length) (hij : i ≠ j) (hl : js.length ≤ 1000) (fr : FE) (k : Nat) (hk : gs ρ k = .dat (.int r)) (hkj : k ≠ j) (hn : noOwn (gs ρ j) = true) :
    fComp [j] (fItS true (fVar i)) (tName j) fYes (fCB gMin (fCons (fVar j) (fCons (fVar k) fNil))) ρ st = some (.own (zs (js.map fun l => min l r)), st) := by
  refine fComp_at (ds := zs js) (st1 := st) (by simp [hn]) (by simp [hi]) (by rw [sizeLine_eq]; simp; omega) ?_
  refine compZ _ fun x hx => ⟨_, rfl, ?_⟩
  have e1 : gs ((wipeF ρ [j]).set j (.dat (.int x))) j = .dat (.int x) := gs_set_same (by simp [wipeF]; exact hj)
  have e2 : gs ((wipeF ρ [j]).set j (.dat (.int x))) k = .dat (.int r) := by rw [gs_set_ne hkj]; simp only [wipe_cons, wipe_nil]; rw [gs_set_ne hkj, hk]
  simp only [q_cb, q_cons, q_var, q_nil]
  rw [e1]
  dsimp only
  rw [e2]
  simp
theorem full_rounds_ok (lefts : List Int) (a : Int) (h : Sz lefts) (ha : 0 ≤ a ∧ a ≤ 1000000000) : ∃ L, g_full_rounds [.dat (.list (zs lefts)), .dat (.int a)] st = some (.dat (.int L), st) ∧ IsLevel lefts a L := by
  unfold g_full_rounds e_full_rounds
  rw [fnOf_at (by rfl)]
  have hl := h.1
  obtain ⟨m1, m2⟩ := maxL_spec lefts 0
  have hmax : gMax [.list (.int 0 :: zs lefts)] = some (.dat (.int (maxL 0 lefts))) := by
    show (match intsOf (zs (0 :: lefts)) with | some (i :: r) => some (SV.dat (.int (maxL i r))) | _ => none) = _
    rw [intsOf_map]
  have hM : 0 ≤ maxL 0 lefts := m2 0 List.mem_cons_self
  have hM2 : maxL 0 lefts ≤ 1000000 := by
    rcases List.mem_cons.mp m1 with e | e
    · omega
    · exact (h.2 _ e).2
  -- the loop
  obtain ⟨s', ρ', st', k, f1, f2, f3, _⟩ := whileL_step (σ := Int × Int) (c := fTst (fOp2 gLt (fVar 2) (fVar 3))) (b := (fSeq (fSet 4 (fOp2 gFdiv (fOp2 gAdd (fOp2 gAdd (fVar 2) (fVar 3)) (fCon (.int 1))) (fCon (.int 2))))
    (fIf (fTst (fOp2 gLe (fCB gSum (fCons (fComp [5] (fItS true (fVar 0)) (tName 5) fYes (fCB gMin (fCons (fVar 5) (fCons (fVar 4) fNil)))) fNil)) (fVar 1))) (fSet 2 (fVar 4)) (fSet 3 (fOp2 gSub (fVar 4) (fCon (.int 1)))))))
    (fun s ρ st2 => st2 = st ∧ (∃ w4 : SV, noOwn w4 = true ∧ ρ = [.dat (.list (zs lefts)), .dat (.int a), .dat (.int s.1), .dat (.int s.2), w4, .non]) ∧ (0 ≤ s.1 ∧ s.1 ≤ s.2 ∧ s.2 ≤ maxL 0 lefts) ∧ lvl lefts s.1 ≤ a ∧ (s.2 = maxL 0 lefts ∨ a < lvl lefts (s.2 + 1)))
    (fun s => decide (s.1 < s.2)) (fun s => if lvl lefts ((s.1 + s.2 + 1) / 2) ≤ a then ((s.1 + s.2 + 1) / 2, s.2) else (s.1, (s.1 + s.2 + 1) / 2 - 1)) (fun s => (s.2 - s.1).toNat)
    (fun s hs => by
      have hs := of_decide_eq_true hs
      split <;> (dsimp only; omega))
    (fun s ρ st2 hR => by
      obtain ⟨rfl, ⟨w4, hw4, rfl⟩, ⟨i1, i2, i3⟩, i4, i5⟩ := hR
      refine ⟨st2, by simp, fun hs => ?_, fun _ => ⟨rfl, ⟨w4, hw4, rfl⟩, ⟨i1, i2, i3⟩, i4, i5⟩⟩
      have hs := of_decide_eq_true hs
      have c := mins_ok (st := st2) lefts ((s.1 + s.2 + 1) / 2) 0 5 [.dat (.list (zs lefts)), .dat (.int a), .dat (.int s.1), .dat (.int s.2), .dat (.int ((s.1 + s.2 + 1) / 2)), .non] rfl (by simp) (by decide) hl (fVar 0) 4 rfl (by decide) rfl
      have l2 : Nat.log2 2 < 9000 := by decide
      by_cases hc : lvl lefts ((s.1 + s.2 + 1) / 2) ≤ a
      · rw [if_pos hc]
        refine ⟨[.dat (.list (zs lefts)), .dat (.int a), .dat (.int ((s.1 + s.2 + 1) / 2)), .dat (.int s.2), .dat (.int ((s.1 + s.2 + 1) / 2)), .non], st2, ?_, rfl, ⟨_, rfl, rfl⟩, ⟨by dsimp only; omega, by dsimp only; omega, i3⟩, hc, i5⟩
        unfold lvl at hc
        simp [l2, c, hc]
      · rw [if_neg hc]
        refine ⟨[.dat (.list (zs lefts)), .dat (.int a), .dat (.int s.1), .dat (.int ((s.1 + s.2 + 1) / 2 - 1)), .dat (.int ((s.1 + s.2 + 1) / 2)), .non], st2, ?_, rfl, ⟨_, rfl, rfl⟩, ⟨i1, by dsimp only; omega, by dsimp only; omega⟩, i4, .inr (by dsimp only; rw [Int.sub_add_cancel]; omega)⟩
        unfold lvl at hc
        simp [l2, c, hc])
    ((maxL 0 lefts).toNat + 1) (0, maxL 0 lefts) [.dat (.list (zs lefts)), .dat (.int a), .dat (.int 0), .dat (.int (maxL 0 lefts)), .non, .non] st (by dsimp only; omega)
    ⟨rfl, ⟨.non, rfl, rfl⟩, ⟨Int.le_refl _, hM, Int.le_refl _⟩, by rw [lvl_zero fun j hj => (h.2 j hj).1]; exact ha.1, .inl rfl⟩
  obtain ⟨rfl, ⟨w4, hw4, rfl⟩, ⟨i1, i2, i3⟩, i4, i5⟩ := f2
  have hs := of_decide_eq_false f3
  refine ⟨s'.1, ?_, i1, i4, ?_⟩
  · have ed := escDs_dat (zs lefts)
    simp only [zs, List.map_map] at ed hmax
    simp [frame, ed, hmax, f1, sizeLine_eq, show lefts.length + 1 ≤ 16777216 by omega]
  · have e : s'.1 = s'.2 := by omega
    rw [e]
    rcases i5 with i5 | i5
    · exact .inl fun j hj => by rw [i5]; exact m2 j (List.mem_cons_of_mem _ hj)
    · exact .inr i5
end
end Q
end

section
set_option maxRecDepth 100000
set_option maxHeartbeats 4000000
namespace EV
open PySem PySem.Spec L2
section
variable {ρ : Fr} {st : Sto}
@[simp] theorem q_enum (pk : Bool) (a : FE) : fEnum pk a ρ st = (match a ρ st with | some (w, st1) => (match itOf pk w with | some (_, ds) => if ds.length + 2 ≤ sizeLine then some (enumD ds, st1) else none | none => none) | none => none) := id rfl
@[simp] theorem q_zip (pk : Bool) (a b : FE) : fZip pk a b ρ st = (match a ρ st with | some (w, st1) => (match b ρ st1 with | some (u, st2) => (match itOf pk w, itOf pk u with | some (_, ds), some (_, es) => some (zipD ds es, st2) | _, _ => none) | none => none) | none => none) := id rfl
@[simp] theorem q_seto (i : Nat) (a : FE) : fSetO i a ρ st = (match a ρ st with | some (.own ds, st1) => if (i < ρ.length ∧ flatDs ds = true) ∧ stFlat st1 = true then some (.nx (ρ.set i (.own ds)), st1) else none | _ => none) := by unfold fSetO; rfl
@[simp] theorem q_reto (i : Nat) : fRetO i ρ st = (match gs ρ i with | .own ds => some (.ret (.own ds), st) | .dat d => some (.ret (.dat d), st) | _ => none) := by unfold fRetO; rfl
@[simp] theorem q_gsnil (ds : List PyData) : gsNil ds ρ st = (match ds with | [] => some (ρ, st) | _ => none) := id rfl
@[simp] theorem q_gscons (t : TgS) (r : TgSs) (d : PyData) (ds : List PyData) : gsCons t r (d :: ds) ρ st = (match t d ρ st with | some (ρ1, st1) => r ds ρ1 st1 | none => none) := id rfl
@[simp] theorem q_gstup (n : Nat) (r : TgSs) (ds : List PyData) : gsTup n r (.tuple ds) ρ st = if ds.length = n then r ds ρ st else none := id rfl
theorem flat_ints : ∀ js : List Int, flatDs (zs js) = true
  | [] => rfl
  | j :: js => by show (flatD (.int j) && flatDs (zs js)) = true; rw [flat_ints js]; rfl
end
end EV
namespace Q
open PySem PySem.Spec PyProof.Rows L2 EV
section
variable {st : Sto}
def giveStep (s : List Int × Int) (p : Int × Nat) : List Int × Int := if 0 < s.2 ∧ s.1.getD p.2 0 < p.1 then (s.1.set p.2 (s.1.getD p.2 0 + 1), s.2 - 1) else s
def byTurns (lefts : List Int) (a L : Int) : List Int := (lefts.zipIdx.foldl giveStep (lefts.map fun l => min l L, a - lvl lefts L)).1
theorem by_turns_ok (lefts : List Int) (a : Int) (h : Sz lefts) (ha : 0 ≤ a ∧ a ≤ 1000000000) (hst : stFlat st = true) : ∃ L, IsLevel lefts a L ∧ g_by_turns [.dat (.list (zs lefts)), .dat (.int a)] st = some (.own (zs (byTurns lefts a L)), st) := by
  obtain ⟨L, eL, lv⟩ := full_rounds_ok (st := st) lefts a h ha
  refine ⟨L, lv, ?_⟩
  have hl := h.1
  have c := mins_ok (st := st) lefts L 0 6 [.dat (.list (zs lefts)), .dat (.int a), .dat (.int L), .non, .non, .non, .non] rfl (by simp) (by decide) hl (fVar 0) 2 rfl (by decide) rfl
  obtain ⟨ρ', st', f1, f2⟩ := forL_fold (σ := List Int × Int) (tg := tTup 2 (tCons (tName 5) (tCons (tName 6) tNil))) (b := (fIf (fAndT (fTst (fOp2 gGt (fVar 4) (fCon (.int 0)))) (fTst (fOp2 gGt (fVar 6) (fOp2 gIx (fVar 3) (fVar 5))))) (fAsg (gsTup 2 (gsCons (gsSub 3 (fVar 5)) (gsCons (gsName 4) gsNil))) (fTup (fCons (fOp2 gAdd (fOp2 gIx (fVar 3) (fVar 5)) (fCon (.int 1))) (fCons (fOp2 gSub (fVar 4) (fCon (.int 1))) fNil)))) fNx))
    (fun p : Int × Nat => PyData.tuple [.int (p.2 : Nat), .int p.1]) (fun s ρ st2 => st2 = st ∧ s.1.length = lefts.length ∧ ∃ w5 w6 : SV, ρ = [.dat (.list (zs lefts)), .dat (.int a), .dat (.int L), .own (zs s.1), .dat (.int s.2), w5, w6])
    giveStep (xs := lefts.zipIdx) (s := (lefts.map fun l => min l L, a - lvl lefts L)) (ρ := [.dat (.list (zs lefts)), .dat (.int a), .dat (.int L), .own (zs (lefts.map fun l => min l L)), .dat (.int (a - lvl lefts L)), .non, .non]) (st := st)
    ⟨rfl, by simp, .non, .non, rfl⟩ (fun p hp s ρ st2 hR => by
      obtain ⟨rfl, hs, w5, w6, rfl⟩ := hR
      obtain ⟨l, i⟩ := p
      have hi : i < lefts.length := (List.mem_zipIdx hp).2.1 |> fun z => by simpa using z
      have hi2 : i < s.1.length := by omega
      refine ⟨[.dat (.list (zs lefts)), .dat (.int a), .dat (.int L), .own (zs s.1), .dat (.int s.2), .dat (.int i), .dat (.int l)], by rfl, ?_⟩
      by_cases h1 : 0 < s.2
      · by_cases h2 : s.1.getD i 0 < l
        · have h2' : s.1[i] < l := by simpa [hi2] using h2
          refine ⟨[.dat (.list (zs lefts)), .dat (.int a), .dat (.int L), .own (zs (giveStep s (l, i)).1), .dat (.int (giveStep s (l, i)).2), .dat (.int i), .dat (.int l)], st2, ?_, rfl, ?_, _, _, rfl⟩
          · unfold giveStep
            rw [if_pos ⟨h1, h2⟩]
            simp [h1, hi2, h2', sizeLine_eq]
          · unfold giveStep
            rw [if_pos ⟨h1, h2⟩]
            simpa using hs
        · have h2' : ¬ s.1[i] < l := by simpa [hi2] using h2
          refine ⟨[.dat (.list (zs lefts)), .dat (.int a), .dat (.int L), .own (zs s.1), .dat (.int s.2), .dat (.int i), .dat (.int l)], st2, by simp [h1, hi2, h2'], rfl, ?_, .dat (.int i), .dat (.int l), ?_⟩
          · unfold giveStep; rw [if_neg (fun z => h2 z.2)]; exact hs
          · unfold giveStep; rw [if_neg (fun z => h2 z.2)]
      · refine ⟨[.dat (.list (zs lefts)), .dat (.int a), .dat (.int L), .own (zs s.1), .dat (.int s.2), .dat (.int i), .dat (.int l)], st2, by simp [h1], rfl, ?_, .dat (.int i), .dat (.int l), ?_⟩
        · unfold giveStep; rw [if_neg (fun z => h1 z.1)]; exact hs
        · unfold giveStep; rw [if_neg (fun z => h1 z.1)])
  obtain ⟨rfl, hs, w5, w6, rfl⟩ := f2
  have en : enumD (zs lefts) = lefts.zipIdx.map fun p : Int × Nat => PyData.tuple [.int (p.2 : Nat), .int p.1] := enumD_enc _ _
  unfold g_by_turns e_by_turns
  rw [fnOf_at (by rfl)]
  have fl := flat_ints (lefts.map fun l => min l L)
  have sm : (lefts.map fun l => min l L).sum = lvl lefts L := rfl
  simp only [zs, List.map_map] at fl c en f1
  simp [frame, eL, c, fl, hst, sm, en, f1, sizeLine_eq, show lefts.length + 2 ≤ 16777216 by omega, byTurns]
theorem mem_seq {rest : Str} {sizes : List Int} {p : Int} (h : p ∈ seqOf rest sizes) : ∃ i : Nat, p = i ∧ i < sizes.length := by
  unfold seqOf at h
  split at h
  · exact mem_idx (List.mem_reverse.mp h)
  · split at h
    · exact mem_idx ((List.mergeSort_perm _ _).mem_iff.mp h)
    · exact mem_idx h
def fillStep (lefts : List Int) (s : List Int × Int) (p : Int) : List Int × Int := (s.1.set p.toNat (min (lefts.getD p.toNat 0) s.2), s.2 - min (lefts.getD p.toNat 0) s.2)
def byFill (rest : Str) (sizes lefts : List Int) (a : Int) : List Int := ((seqOf rest sizes).foldl (fillStep lefts) (List.replicate lefts.length 0, a)).1
theorem by_fill_ok (rest : Str) (sizes lefts : List Int) (a : Int) (h : Sz sizes) (hl : lefts.length = sizes.length) (he : ¬ rest = "even") (hst : stFlat st = true) :
    g_by_rest [.dat (.str rest), .dat (.tuple (zs sizes)), .dat (.list (zs lefts)), .dat (.int a)] st = some (.own (zs (byFill rest sizes lefts a)), st) := by
  obtain ⟨w, ew, iw, rw'⟩ := sequence_of_ok (st := st) rest sizes h
  have hn := h.1
  have z := zeros_ok (k := lefts.length) (by omega) (by omega)
  have fl := flat_ints (List.replicate lefts.length 0)
  obtain ⟨ρ', st', f1, f2⟩ := forL_fold (σ := List Int × Int) (tg := tName 5) (b := (fSeq (fAsg (gsSub 4 (fVar 5)) (fCB gMin (fCons (fOp2 gIx (fVar 2) (fVar 5)) (fCons (fVar 3) fNil))))
    (fSet 3 (fOp2 gSub (fVar 3) (fOp2 gIx (fVar 4) (fVar 5))))))
    PyData.int (fun s ρ st2 => st2 = st ∧ s.1.length = lefts.length ∧ ∃ w5 : SV, ρ = [.dat (.str rest), .dat (.tuple (zs sizes)), .dat (.list (zs lefts)), .dat (.int s.2), .own (zs s.1), w5])
    (fillStep lefts) (xs := seqOf rest sizes) (s := (List.replicate lefts.length 0, a)) (ρ := [.dat (.str rest), .dat (.tuple (zs sizes)), .dat (.list (zs lefts)), .dat (.int a), .own (zs (List.replicate lefts.length 0)), .non]) (st := st)
    ⟨rfl, by simp, .non, rfl⟩ (fun p hp s ρ st2 hR => by
      obtain ⟨rfl, hs, w5, rfl⟩ := hR
      obtain ⟨i, rfl, hi⟩ := mem_seq hp
      have hi2 : i < s.1.length := by omega
      have hi3 : i < lefts.length := by omega
      refine ⟨[.dat (.str rest), .dat (.tuple (zs sizes)), .dat (.list (zs lefts)), .dat (.int s.2), .own (zs s.1), .dat (.int i)], by rfl, [.dat (.str rest), .dat (.tuple (zs sizes)), .dat (.list (zs lefts)), .dat (.int (fillStep lefts s i).2), .own (zs (fillStep lefts s i).1), .dat (.int i)], st2, ?_, rfl, by unfold fillStep; simpa using hs, _, rfl⟩
      unfold fillStep
      simp [hi2, hi3])
  obtain ⟨rfl, hs, w5, rfl⟩ := f2
  unfold g_by_rest e_by_rest
  rw [fnOf_at (by rfl)]
  simp only [zs, List.map_replicate] at z fl f1
  simp [frame, he, z, fl, hst, ew, rw', iw, f1, byFill, sizeLine_eq]
end
end Q
end

section
set_option maxRecDepth 100000
set_option maxHeartbeats 4000000
namespace Q
open PySem PySem.Spec PyProof.Rows L2 EV
/-- xs item by item between nothing and ys -/
inductive Under : List Int → List Int → Prop where
  | nil : Under [] []
  | cons {x y : Int} {xs ys : List Int} : 0 ≤ x → x ≤ y → Under xs ys → Under (x :: xs) (y :: ys)
theorem Under.len {xs ys : List Int} (h : Under xs ys) : xs.length = ys.length := by
  induction h with
  | nil => rfl
  | cons _ _ _ ih => simp [ih]
theorem Under.sum {xs ys : List Int} (h : Under xs ys) : 0 ≤ xs.sum ∧ xs.sum ≤ ys.sum := by
  induction h with
  | nil => simp
  | cons _ _ _ ih => simp only [List.sum_cons]; omega
theorem Under.sz {xs ys : List Int} (h : Under xs ys) (s : Sz ys) : Sz xs := by
  refine ⟨by rw [h.len]; exact s.1, ?_⟩
  have := s.2
  clear s
  induction h with
  | nil => intro j hj; cases hj
  | cons h1 h2 _ ih =>
    intro j hj
    rcases List.mem_cons.mp hj with e | e
    · have := this _ List.mem_cons_self; omega
    · exact ih (fun k hk => this k (List.mem_cons_of_mem _ hk)) j e
def left (ys xs : List Int) : List Int := List.zipWith (fun y x => y - x) ys xs
theorem Under.left {xs ys : List Int} (h : Under xs ys) : Under (left ys xs) ys ∧ (Q.left ys xs).sum = ys.sum - xs.sum := by
  induction h with
  | nil => exact ⟨.nil, rfl⟩
  | cons h1 h2 _ ih =>
    refine ⟨.cons (by dsimp only; omega) (by dsimp only; omega) ih.1, ?_⟩
    unfold Q.left at ih ⊢
    simp only [List.zipWith_cons_cons, List.sum_cons, ih.2]
    omega
theorem under_zero : ∀ {ys : List Int}, (∀ j ∈ ys, 0 ≤ j) → Under (List.replicate ys.length 0) ys
  | [], _ => .nil
  | y :: ys, h => .cons (Int.le_refl _) (h y List.mem_cons_self) (under_zero fun j hj => h j (List.mem_cons_of_mem _ hj))
theorem sum_zero (n : Nat) : (List.replicate n (0 : Int)).sum = 0 := by
  induction n with
  | zero => rfl
  | succ n ih => rw [List.replicate_succ, List.sum_cons, ih]; rfl
theorem byFirst_under {f a : Int} (hf : 0 ≤ f) (ha : 0 ≤ a) : ∀ {sizes : List Int}, (∀ j ∈ sizes, 0 ≤ j) → Under (byFirst f sizes a) sizes ∧ (byFirst f sizes a).sum ≤ a
  | [], _ => ⟨.nil, ha⟩
  | s :: r, h => by
    have hs := h s List.mem_cons_self
    refine ⟨.cons (by omega) (by omega) (under_zero fun j hj => h j (List.mem_cons_of_mem _ hj)), ?_⟩
    unfold byFirst
    simp only [List.sum_cons, sum_zero]
    omega
theorem parts_under {a S : Int} (hS : 0 < S) (ha : 0 ≤ a) (haS : a ≤ S) : ∀ {ls : List Int}, (∀ j ∈ ls, 0 ≤ j) → Under (ls.map fun l => a * l / S) ls ∧ (ls.map fun l => a * l / S).sum * S ≤ a * ls.sum
  | [], _ => ⟨.nil, by simp⟩
  | l :: ls, h => by
    have hl := h l List.mem_cons_self
    obtain ⟨h1, h2⟩ := parts_under hS ha haS (ls := ls) fun j hj => h j (List.mem_cons_of_mem _ hj)
    have h0 : 0 ≤ a * l := Int.mul_nonneg ha hl
    have h3 : a * l ≤ l * S := by rw [Int.mul_comm l S]; exact Int.mul_le_mul_of_nonneg_right haS hl
    refine ⟨.cons (Int.ediv_nonneg h0 (by omega)) (Int.ediv_le_of_le_mul hS h3) h1, ?_⟩
    simp only [List.map_cons, List.sum_cons]
    rw [Int.add_mul, Int.mul_add]
    have h4 : a * l / S * S ≤ a * l := Int.ediv_mul_le _ (by omega)
    omega
theorem byParts_under {a : Int} {lefts : List Int} (ha : 0 ≤ a) (haS : a ≤ lefts.sum) (h : ∀ j ∈ lefts, 0 ≤ j) : Under (byParts lefts a) lefts ∧ (byParts lefts a).sum ≤ a := by
  unfold byParts
  split
  · rename_i hS
    obtain ⟨h1, h2⟩ := parts_under hS ha haS h
    exact ⟨h1, Int.le_of_mul_le_mul_right h2 hS⟩
  · exact ⟨under_zero h, by rw [sum_zero]; exact ha⟩
section
variable {st : Sto}
/-- what is left behind the first, and behind the parts -/
def left1 (f : Int) (sizes : List Int) (a : Int) : List Int := left sizes (byFirst f sizes (min a sizes.sum))
def am1 (f : Int) (sizes : List Int) (a : Int) : Int := min a sizes.sum - (byFirst f sizes (min a sizes.sum)).sum
def parts (f : Int) (word : Str) (sizes : List Int) (a : Int) : List Int := if word = "parts" then byParts (left1 f sizes a) (am1 f sizes a) else List.replicate (left1 f sizes a).length 0
def left2 (f : Int) (word : Str) (sizes : List Int) (a : Int) : List Int := left (left1 f sizes a) (parts f word sizes a)
def am2 (f : Int) (word : Str) (sizes : List Int) (a : Int) : Int := am1 f sizes a - (parts f word sizes a).sum
structure Rows (f : Int) (word : Str) (sizes : List Int) (a : Int) : Prop where
  u1 : Under (byFirst f sizes (min a sizes.sum)) sizes
  s1 : Sz (left1 f sizes a)
  a1 : 0 ≤ am1 f sizes a ∧ am1 f sizes a ≤ (left1 f sizes a).sum
  u2 : Under (parts f word sizes a) (left1 f sizes a)
  s2 : Sz (left2 f word sizes a)
  a2 : 0 ≤ am2 f word sizes a ∧ am2 f word sizes a ≤ (left2 f word sizes a).sum
  l1 : (left1 f sizes a).length = sizes.length
  l2 : (left2 f word sizes a).length = sizes.length
  t1 : (left1 f sizes a).sum = sizes.sum - (byFirst f sizes (min a sizes.sum)).sum
  t2 : (left2 f word sizes a).sum = (left1 f sizes a).sum - (parts f word sizes a).sum
theorem rows_facts {f a : Int} {word : Str} {sizes : List Int} (hf : 0 ≤ f) (h : Sz sizes) (ha : 0 ≤ a) : Rows f word sizes a := by
  have h0 : ∀ j ∈ sizes, 0 ≤ j := fun j hj => (h.2 j hj).1
  have hs := h.sum
  obtain ⟨u1, b1⟩ := byFirst_under (f := f) (a := min a sizes.sum) hf (by omega) h0
  obtain ⟨v1, t1⟩ := u1.left
  have s1 : Sz (left1 f sizes a) := v1.sz h
  have n1 : ∀ j ∈ left1 f sizes a, 0 ≤ j := fun j hj => (s1.2 j hj).1
  have t1' : (left1 f sizes a).sum = sizes.sum - (byFirst f sizes (min a sizes.sum)).sum := t1
  have a1 : 0 ≤ am1 f sizes a ∧ am1 f sizes a ≤ (left1 f sizes a).sum := by unfold am1; omega
  have u2 : Under (parts f word sizes a) (left1 f sizes a) ∧ (parts f word sizes a).sum ≤ am1 f sizes a := by
    unfold parts
    split
    · exact byParts_under a1.1 a1.2 n1
    · exact ⟨under_zero n1, by rw [sum_zero]; exact a1.1⟩
  obtain ⟨v2, t2⟩ := u2.1.left
  have t2' : (left2 f word sizes a).sum = (left1 f sizes a).sum - (parts f word sizes a).sum := t2
  refine ⟨u1, s1, a1, u2.1, v2.sz s1, ?_, v1.len, ?_, t1', t2'⟩
  · have := u2.2
    unfold am2
    omega
  · have e : (left2 f word sizes a).length = (left1 f sizes a).length := v2.len
    rw [e]; exact v1.len
theorem rest_ok (rest : Str) (sizes lefts : List Int) (a : Int) (h : Sz sizes) (h2 : Sz lefts) (hl : lefts.length = sizes.length) (ha : 0 ≤ a ∧ a ≤ 1000000000) (hst : stFlat st = true) :
    ∃ out, g_by_rest [.dat (.str rest), .dat (.tuple (zs sizes)), .dat (.list (zs lefts)), .dat (.int a)] st = some (.own (zs out), st) ∧ if rest = "even" then ∃ L, IsLevel lefts a L ∧ out = byTurns lefts a L else out = byFill rest sizes lefts a := by
  by_cases he : rest = "even"
  · subst he
    obtain ⟨L, lv, e⟩ := by_turns_ok (st := st) lefts a h2 ha hst
    refine ⟨byTurns lefts a L, ?_, by rw [if_pos rfl]; exact ⟨L, lv, rfl⟩⟩
    unfold g_by_rest e_by_rest
    rw [fnOf_at (by rfl)]
    simp only [zs] at e
    simp [frame, e]
  · exact ⟨_, by_fill_ok rest sizes lefts a h hl he hst, by rw [if_neg he]⟩
end
end Q
end

section
set_option maxRecDepth 100000
set_option maxHeartbeats 4000000
namespace Q
open PySem PySem.Spec PyProof.Rows L2 EV
section
variable {st : Sto}
theorem zsub_ok {ρ : Fr} (ys xs : List Int) (i j u v : Nat) (fx : FE) (hi : fx ρ st = some (.dat (.list (zs ys)), st) ∨ fx ρ st = some (.dat (.tuple (zs ys)), st)) (hj : gs ρ j = .dat (.list (zs xs))) (hu : u < ρ.length) (hv : v < ρ.length) (huv : u ≠ v) (hl : ys.length ≤ 1000) (nu : noOwn (gs ρ u) = true) (nv : noOwn (gs ρ v) = true) :
    fComp [u, v] (fZip true fx (fVar j)) (tTup 2 (tCons (tName u) (tCons (tName v) tNil))) fYes (fOp2 gSub (fVar u) (fVar v)) ρ st = some (.own (zs (left ys xs)), st) := by
  refine fComp_at (ds := zipD (zs ys) (zs xs)) (st1 := st) (by simp [nu, nv]) (by rcases hi with e | e <;> simp [e, hj]) (by rw [sizeLine_eq, zipD_len]; simp; omega) ?_
  unfold left
  refine compZ2 (fun y x => y - x) fun p hp => ⟨_, rfl, ?_⟩
  have e1 : gs ((((wipeF ρ [u, v]).set u (.dat (.int p.1))).set v (.dat (.int p.2)))) u = .dat (.int p.1) := by rw [gs_set_ne huv]; exact gs_set_same (by simp [wipeF]; exact hu)
  have e2 : gs ((((wipeF ρ [u, v]).set u (.dat (.int p.1))).set v (.dat (.int p.2)))) v = .dat (.int p.2) := gs_set_same (by simp [wipeF]; exact hv)
  simp only [q_op2, q_var]
  rw [e1]
  dsimp only
  rw [e2]
  simp
theorem rows_of_ok (f a : Int) (word rest : Str) (sizes : List Int) (hf : 0 ≤ f) (h : Sz sizes) (ha : 0 ≤ a) (hst : stFlat st = true) :
    ∃ out, g_rows_of [.dat (.tuple [.int f, .str word, .str rest]), .dat (.tuple (zs sizes)), .dat (.int a)] st = some (.dat (.tuple [.list (zs (byFirst f sizes (min a sizes.sum))), .list (zs (parts f word sizes a)), .list (zs out)]), st) ∧
      if rest = "even" then ∃ L, IsLevel (left2 f word sizes a) (am2 f word sizes a) L ∧ out = byTurns (left2 f word sizes a) (am2 f word sizes a) L else out = byFill rest sizes (left2 f word sizes a) (am2 f word sizes a) := by
  have R := rows_facts (word := word) hf h ha
  have hs := h.sum
  have b2 : am2 f word sizes a ≤ 1000000000 := by have := R.a2.2; have := R.s2.sum; omega
  obtain ⟨out, eo, ho⟩ := rest_ok (st := st) rest sizes (left2 f word sizes a) (am2 f word sizes a) h R.s2 R.l2 ⟨R.a2.1, b2⟩ hst
  refine ⟨out, ?_, ho⟩
  have ef := by_first_ok (st := st) f (min a sizes.sum) sizes h.1
  have hl := h.1
  have hl1 : (left1 f sizes a).length ≤ 1000 := by rw [R.l1]; exact hl
  have c1 := zsub_ok (st := st) (ρ := [.dat (.tuple [.int f, .str word, .str rest]), .dat (.tuple (zs sizes)), .dat (.int (min a sizes.sum)), .dat (.int f), .dat (.str word), .dat (.str rest), .dat (.list (zs (byFirst f sizes (min a sizes.sum)))), .non, .non, .non, .non, .non]) sizes (byFirst f sizes (min a sizes.sum)) 1 6 9 10 (fVar 1) (.inr (by simp)) rfl (by simp) (by simp) (by decide) hl rfl rfl
  have b1 : am1 f sizes a ≤ 1000000000 := by have := R.a1.2; have := R.s1.sum; omega
  have ep : word = "parts" → g_by_parts [.dat (.list (zs (left1 f sizes a))), .dat (.int (am1 f sizes a))] st = some (.own (zs (parts f word sizes a)), st) := fun hw => by
    have e := by_parts_ok (st := st) (am1 f sizes a) (left1 f sizes a) R.s1 ⟨R.a1.1, b1⟩
    unfold parts
    rw [if_pos hw]; exact e
  have ez : ¬ word = "parts" → gMulX (.list [.int 0]) (.int (left1 f sizes a).length) = some (.own (zs (parts f word sizes a))) := fun hw => by
    have z := zeros_ok (k := (left1 f sizes a).length) (by omega) (by omega)
    unfold parts
    rw [if_neg hw]; simpa using z
  have c2 := zsub_ok (st := st) (ρ := [.dat (.tuple [.int f, .str word, .str rest]), .dat (.tuple (zs sizes)), .dat (.int (am1 f sizes a)), .dat (.int f), .dat (.str word), .dat (.str rest), .dat (.list (zs (byFirst f sizes (min a sizes.sum)))), .dat (.list (zs (left1 f sizes a))), .dat (.list (zs (parts f word sizes a))), .non, .non, .non]) (left1 f sizes a) (parts f word sizes a) 7 8 11 10 (fVar 7) (.inl (by simp)) rfl (by simp) (by simp) (by decide) hl1 rfl rfl
  have q1 : min a sizes.sum - (byFirst f sizes (min a sizes.sum)).sum = am1 f sizes a := rfl
  have q2 : am1 f sizes a - (parts f word sizes a).sum = am2 f word sizes a := rfl
  have q3 : left sizes (byFirst f sizes (min a sizes.sum)) = left1 f sizes a := rfl
  have q4 : left (left1 f sizes a) (parts f word sizes a) = left2 f word sizes a := rfl
  rw [q3] at c1
  rw [q4] at c2
  generalize byFirst f sizes (min a sizes.sum) = F1 at *
  generalize parts f word sizes a = F2 at *
  unfold g_rows_of e_rows_of
  rw [fnOf_at (by rfl)]
  by_cases hw : word = "parts"
  · have ep := ep hw
    subst hw
    simp [frame, ef, c1, q1, ep, c2, q2, eo, sizeLine_eq]
  · have ez := ez hw
    simp [frame, ef, c1, q1, hw, ez, c2, q2, eo, sizeLine_eq]
end
end Q
end

section
set_option maxRecDepth 100000
set_option maxHeartbeats 4000000
namespace Q
open PySem PySem.Spec PyProof.Rows L2 EV
/-- the words of a sharing -/
def Word (w : Str) : Prop := w = "none" ∨ w = "parts"
def Rest (w : Str) : Prop := w = "time" ∨ w = "late" ∨ w = "size" ∨ w = "even"
section
variable {st : Sto}
theorem is_sharing_ok (f : Int) (word rest : Str) (hf : 0 ≤ f ∧ f ≤ 9) (hw : Word word) (hr : Rest rest) : g_is_sharing_6126 [.dat (.tuple [.int f, .str word, .str rest])] st = some (.dat (.bool true), st) := by
  have e1 := is_tuple_of_tup (st := st) [.int f, .str word, .str rest] 3
  have e2 := is_between_int (st := st) f 0 9
  have e3 := is_word_str (st := st) word ["none", "parts"]
  have e4 := is_word_str (st := st) rest ["time", "late", "size", "even"]
  have w1 : (["none", "parts"] : List Str).contains word = true := by rcases hw with rfl | rfl <;> decide
  have w2 : (["time", "late", "size", "even"] : List Str).contains rest = true := by rcases hr with rfl | rfl | rfl | rfl <;> decide
  rw [w1] at e3
  rw [w2] at e4
  simp only [List.map_cons, List.map_nil] at e3 e4
  simp at e1 e2
  unfold g_is_sharing_6126 e_is_sharing_6126
  rw [fnOf_at (by rfl)]
  simp [frame, e1, e2, e3, e4, hf, sizeLine_eq]
theorem check_sharing_ok (f : Int) (word rest : Str) (hf : 0 ≤ f ∧ f ≤ 9) (hw : Word word) (hr : Rest rest) : g_check_sharing_aa47 [.dat (.tuple [.int f, .str word, .str rest])] st = some (.dat .none, st) := by
  have e := is_sharing_ok (st := st) f word rest hf hw hr
  unfold g_check_sharing_aa47 e_check_sharing_aa47
  rw [fnOf_at (by rfl)]
  simp [frame, e]
/-- sizes as they may be told -/
def Sizes (js : List Int) : Prop := js.length ≤ 40 ∧ ∀ j ∈ js, 1 ≤ j ∧ j ≤ 1000000
theorem Sizes.sz {js : List Int} (h : Sizes js) : Sz js := ⟨by have := h.1; omega, fun j hj => by have := h.2 j hj; omega⟩
theorem check_sizes_ok (js : List Int) (h : Sizes js) : g_check_sizes [.dat (.tuple (zs js))] st = some (.dat .none, st) := by
  have hl := h.1
  have e := are_between_ints (st := st) js 1 1000000 (by rw [sizeLine_eq]; omega)
  have w : (js.all fun i => decide (1 ≤ i) && decide (i ≤ 1000000)) = true := List.all_eq_true.mpr fun j hj => by have := h.2 j hj; simp [this]
  rw [w] at e
  unfold g_check_sizes e_check_sizes
  rw [fnOf_at (by rfl)]
  simp only [zs]
  simp [frame, e, show ¬ (40 : Int) < js.length by omega]
theorem check_shared_ok (f : Int) (word rest : Str) (hf : 0 ≤ f ∧ f ≤ 9) (hw : Word word) (hr : Rest rest) (js : List Int) (h : Sizes js) (a : Int) (ha : 0 ≤ a ∧ a ≤ 1000000000) :
    g_check_shared_f9d6 [.dat (.tuple [.int f, .str word, .str rest]), .dat (.tuple (zs js)), .dat (.int a)] st = some (.dat .none, st) := by
  have e1 := check_sharing_ok (st := st) f word rest hf hw hr
  have e2 := check_sizes_ok (st := st) js h
  have e3 := is_between_int (st := st) a 0 1000000000
  simp only [zs] at e2
  unfold g_check_shared_f9d6 e_check_shared_f9d6
  rw [fnOf_at (by rfl)]
  simp [frame, e1, e2, e3, ha]
end
end Q
end

section
set_option maxRecDepth 100000
set_option maxHeartbeats 4000000
namespace EV
open PySem PySem.Spec PyProof.Rows L2
section
variable {ρ : Fr} {st : Sto}
@[simp] theorem q_zip3 (pk : Bool) (a b c : FE) : fZip3 pk a b c ρ st = (match a ρ st with | some (w, st1) => (match b ρ st1 with | some (u, st2) => (match c ρ st2 with | some (v, st3) => (match itOf pk w, itOf pk u, itOf pk v with | some (_, ds), some (_, es), some (_, fs) => some (zipD3 ds es fs, st3) | _, _, _ => none) | none => none) | none => none) | none => none) := id rfl
@[simp] theorem q_tuple_l (ds : List PyData) : gTuple [.list ds] = some (.dat (.tuple ds)) := id rfl
@[simp] theorem q_tuple_t (ds : List PyData) : gTuple [.tuple ds] = some (.dat (.tuple ds)) := id rfl
end
end EV
namespace Q
open PySem PySem.Spec PyProof.Rows L2 EV
/-- three rows added -/
def add3 (as bs cs : List Int) : List Int := ((as.zip bs).zip cs).map fun p => p.1.1 + p.1.2 + p.2
section
variable {st : Sto}
/-- what the rows of the rest are -/
def RestIs (f : Int) (word rest : Str) (sizes : List Int) (a : Int) (out : List Int) : Prop := if rest = "even" then ∃ L, IsLevel (left2 f word sizes a) (am2 f word sizes a) L ∧ out = byTurns (left2 f word sizes a) (am2 f word sizes a) L else out = byFill rest sizes (left2 f word sizes a) (am2 f word sizes a)
theorem shared_ok (f a : Int) (word rest : Str) (sizes : List Int) (hf : 0 ≤ f) (h : Sz sizes) (ha : 0 ≤ a) (hst : stFlat st = true) :
    ∃ out, g_shared [.dat (.tuple [.int f, .str word, .str rest]), .dat (.tuple (zs sizes)), .dat (.int a)] st = some (.own (zs (add3 (byFirst f sizes (min a sizes.sum)) (parts f word sizes a) out)), st) ∧ RestIs f word rest sizes a out := by
  obtain ⟨out, e, ho⟩ := rows_of_ok (st := st) f a word rest sizes hf h ha hst
  refine ⟨out, ?_, ho⟩
  have R := rows_facts (word := word) hf h ha
  have hl := R.u1.len
  generalize byFirst f sizes (min a sizes.sum) = F1 at *
  generalize parts f word sizes a = F2 at *
  have c := fComp_at (st := st) (st1 := st) (own := [6, 7, 8]) (it := fZip3 true (fVar 3) (fVar 4) (fVar 5)) (tg := tTup 3 (tCons (tName 6) (tCons (tName 7) (tCons (tName 8) tNil)))) (cs := fYes) (el := fOp2 gAdd (fOp2 gAdd (fVar 6) (fVar 7)) (fVar 8))
    (ρ := [.dat (.tuple [.int f, .str word, .str rest]), .dat (.tuple (zs sizes)), .dat (.int a), .dat (.list (zs F1)), .dat (.list (zs F2)), .dat (.list (zs out)), .non, .non, .non]) (ds := zipD3 (zs F1) (zs F2) (zs out))
    (by simp [noOwn]) (by simp [frame]) (by rw [sizeLine_eq, zipD3_len]; simp [zs]; have := h.1; omega)
    (compZ3 (fun x y z => x + y + z) fun p hp => ⟨_, rfl, by simp [frame, wipeF]⟩)
  unfold g_shared e_shared
  rw [fnOf_at (by rfl)]
  simp only [zs] at c e
  simp [frame, e, c, add3]
/-- a list of own ints made a tuple -/
theorem share_of_ok (f a : Int) (word rest : Str) (sizes : List Int) (hf : 0 ≤ f ∧ f ≤ 9) (hw : Word word) (hr : Rest rest) (h : Sizes sizes) (ha : 0 ≤ a ∧ a ≤ 1000000000) (hst : stFlat st = true) :
    ∃ out, g_share_of_5abc [.dat (.tuple [.int f, .str word, .str rest]), .dat (.tuple (zs sizes)), .dat (.int a)] st = some (.dat (.tuple (zs (add3 (byFirst f sizes (min a sizes.sum)) (parts f word sizes a) out))), st) ∧ RestIs f word rest sizes a out := by
  obtain ⟨out, e, ho⟩ := shared_ok (st := st) f a word rest sizes hf.1 h.sz ha.1 hst
  refine ⟨out, ?_, ho⟩
  have c := check_shared_ok (st := st) f word rest hf hw hr sizes h a ha
  generalize add3 (byFirst f sizes (min a sizes.sum)) (parts f word sizes a) out = D at *
  unfold g_share_of_5abc e_share_of_5abc
  rw [fnOf_at (by rfl)]
  simp only [zs] at c e
  simp [frame, c, e, zs]
theorem share_rows_ok (f a : Int) (word rest : Str) (sizes : List Int) (hf : 0 ≤ f ∧ f ≤ 9) (hw : Word word) (hr : Rest rest) (h : Sizes sizes) (ha : 0 ≤ a ∧ a ≤ 1000000000) (hst : stFlat st = true) :
    ∃ out, g_share_rows [.dat (.tuple [.int f, .str word, .str rest]), .dat (.tuple (zs sizes)), .dat (.int a)] st = some (.dat (.tuple [.tuple (zs (byFirst f sizes (min a sizes.sum))), .tuple (zs (parts f word sizes a)), .tuple (zs out)]), st) ∧ RestIs f word rest sizes a out := by
  obtain ⟨out, e, ho⟩ := rows_of_ok (st := st) f a word rest sizes hf.1 h.sz ha.1 hst
  refine ⟨out, ?_, ho⟩
  have c := check_shared_ok (st := st) f word rest hf hw hr sizes h a ha
  generalize byFirst f sizes (min a sizes.sum) = F1 at *
  generalize parts f word sizes a = F2 at *
  have k := fComp_at (st := st) (st1 := st) (own := [3]) (it := fItS true (fCall g_rows_of (fCons (fVar 0) (fCons (fVar 1) (fCons (fVar 2) fNil))))) (tg := tName 3) (cs := fYes) (el := fCB gTuple (fCons (fVar 3) fNil))
    (ρ := [.dat (.tuple [.int f, .str word, .str rest]), .dat (.tuple (zs sizes)), .dat (.int a), .non]) (ds := [F1, F2, out].map fun js => .list (zs js))
    (by simp [noOwn]) (by simp [frame, e]) (by rw [sizeLine_eq]; simp)
    (compL_encm (fun js : List Int => .list (zs js)) (fun js => .tuple (zs js)) (xs := [F1, F2, out]) fun x hx => ⟨_, rfl, _, by simp [frame, wipeF]; rfl, rfl⟩)
  unfold g_share_rows e_share_rows
  rw [fnOf_at (by rfl)]
  simp only [zs, List.map_cons, List.map_nil] at c e k
  simp [frame, c, k, zs]
end
end Q
end

section
set_option maxRecDepth 100000
set_option maxHeartbeats 4000000
namespace Q
open PySem PySem.Spec PyProof.Rows L2 EV
/-- one more lot each, for the first k that want more than L -/
def give (L : Int) : List Int → Int → List Int
  | [], _ => []
  | l :: ls, k => if 0 < k ∧ L < l then (L + 1) :: give L ls (k - 1) else min l L :: give L ls k
theorem give_len (L : Int) : ∀ (ls : List Int) (k : Int), (give L ls k).length = ls.length
  | [], _ => rfl
  | l :: ls, k => by unfold give; split <;> simp [give_len L ls]
theorem giveStep_fold (L : Int) : ∀ (ls pre : List Int) (k : Int), ((ls.zipIdx pre.length).foldl giveStep (pre ++ ls.map (fun l => min l L), k)).1 = pre ++ give L ls k
  | [], pre, k => by simp [give]
  | l :: ls, pre, k => by
    have g : (pre ++ (l :: ls).map (fun l => min l L)).getD pre.length 0 = min l L := by simp
    rw [List.zipIdx_cons, List.foldl_cons]
    unfold give
    by_cases c : 0 < k ∧ L < l
    · have m : min l L = L := by omega
      have e : giveStep (pre ++ (l :: ls).map (fun l => min l L), k) (l, pre.length) = ((pre ++ [L + 1]) ++ ls.map (fun l => min l L), k - 1) := by
        unfold giveStep
        dsimp only
        rw [g, m, if_pos c]
        simp
      rw [e, if_pos c]
      have ih := giveStep_fold L ls (pre ++ [L + 1]) (k - 1)
      simp only [List.length_append, List.length_singleton] at ih
      rw [ih]
      simp
    · have e : giveStep (pre ++ (l :: ls).map (fun l => min l L), k) (l, pre.length) = ((pre ++ [min l L]) ++ ls.map (fun l => min l L), k) := by
        unfold giveStep
        dsimp only
        rw [g, if_neg (by omega)]
        simp
      rw [e, if_neg c]
      have ih := giveStep_fold L ls (pre ++ [min l L]) k
      simp only [List.length_append, List.length_singleton] at ih
      rw [ih]
      simp
theorem byTurns_give (lefts : List Int) (a L : Int) : byTurns lefts a L = give L lefts (a - lvl lefts L) := by
  have := giveStep_fold L lefts [] (a - lvl lefts L)
  simpa [byTurns] using this
/-- nothing over: all have what the level gives -/
theorem give_none (L : Int) : ∀ (ls : List Int) {k : Int}, k ≤ 0 → give L ls k = ls.map fun l => min l L
  | [], _, _ => rfl
  | l :: ls, k, h => by unfold give; rw [if_neg (by omega), give_none L ls h]; rfl
theorem give_full (L : Int) : ∀ {ls : List Int}, (∀ j ∈ ls, j ≤ L) → ∀ k, give L ls k = ls
  | [], _, _ => rfl
  | l :: ls, h, k => by
    have h0 := h l List.mem_cons_self
    unfold give
    rw [if_neg (by omega), give_full L (fun j hj => h j (List.mem_cons_of_mem _ hj)), Int.min_eq_left h0]
/-- how many want more than r -/
def wants (lefts : List Int) (r : Int) : Int := ((lefts.filter fun l => decide (r < l)).length : Int)
theorem lvl_wants : ∀ (ls : List Int) (r : Int), lvl ls (r + 1) = lvl ls r + wants ls r
  | [], r => by simp [lvl, wants]
  | l :: ls, r => by
    have ih := lvl_wants ls r
    unfold lvl wants at *
    simp only [List.map_cons, List.sum_cons, List.filter_cons]
    split <;> rename_i c <;> simp at c ⊢ <;> omega
/-- there is but one way -/
theorem turns_one {ls : List Int} {a L M : Int} (h : IsLevel ls a L) (hm : lvl ls M ≤ a) (ht : (∀ j ∈ ls, j ≤ M) ∨ a < lvl ls (M + 1)) : give M ls (a - lvl ls M) = byTurns ls a L := by
  rw [byTurns_give]
  have top : ∀ {A B : Int}, A ≤ B → (∀ j ∈ ls, j ≤ A) → give B ls (a - lvl ls B) = give A ls (a - lvl ls A) := fun hab hA => by
    rw [give_full _ (fun j hj => by have := hA j hj; omega), give_full _ hA]
  rcases h.top with t | t <;> rcases ht with u | u
  · rcases Int.le_total M L with z | z
    · exact (top z u).symm
    · exact top z t
  · rcases Int.le_total M L with z | z
    · rcases Int.lt_or_eq_of_le z with z | rfl
      · have := lvl_mono ls (r := M + 1) (s := L) (by omega)
        have := h.le
        omega
      · rfl
    · exact top z t
  · rcases Int.le_total M L with z | z
    · exact (top z u).symm
    · rcases Int.lt_or_eq_of_le z with z | rfl
      · have := lvl_mono ls (r := L + 1) (s := M) (by omega)
        omega
      · rfl
  · have e : L = M := by
      rcases Int.lt_trichotomy L M with z | z | z
      · have := lvl_mono ls (r := L + 1) (s := M) (by omega)
        omega
      · exact z
      · have := lvl_mono ls (r := M + 1) (s := L) (by omega)
        have := h.le
        omega
    rw [e]
end Q
end

section
set_option maxRecDepth 100000
set_option maxHeartbeats 4000000
namespace EV
open PySem PySem.Spec PyProof.Rows L2
/-- a while whose turns keep a promise that grows less -/
theorem while_inv {c : FT} {b : FS} (I : Nat → Fr → Sto → Prop) (Post : Fr → Sto → Prop)
    (h : ∀ n ρ st, I n ρ st → (c ρ st = some (false, st) ∧ Post ρ st) ∨ (c ρ st = some (true, st) ∧ ∃ ρ2 st2 m, m < n ∧ b ρ st = some (.nx ρ2, st2) ∧ I m ρ2 st2)) {n : Nat} {ρ : Fr} {st : Sto} (i : I n ρ st) :
    ∃ ρ' st', fWhile c b ρ st = some (.nx ρ', st') ∧ Post ρ' st' := by
  have key : ∀ (n : Nat) (ρ : Fr) (st : Sto), I n ρ st → ∃ ρ' st' m, whileL c b m ρ st = some (.nx ρ', st') ∧ Post ρ' st' := by
    intro n
    induction n using Nat.strongRecOn with
    | _ n ih =>
      intro ρ st i
      rcases h n ρ st i with ⟨h1, h2⟩ | ⟨h1, ρ2, st2, m, hm, h2, h3⟩
      · exact ⟨ρ, st, 1, by unfold whileL; rw [h1], h2⟩
      · obtain ⟨ρ', st', k, e, p⟩ := ih m hm ρ2 st2 h3
        exact ⟨ρ', st', k + 1, by unfold whileL; rw [h1]; dsimp only; rw [h2]; exact e, p⟩
  obtain ⟨ρ', st', m, e, p⟩ := key n ρ st i
  exact ⟨ρ', st', fWhile_of e, p⟩
end EV
namespace Q
open PySem PySem.Spec PyProof.Rows L2 EV
/-- d lots more each, for the first k that want more than L -/
def givd (d L : Int) : List Int → Nat → List Int
  | [], _ => []
  | l :: ls, 0 => min l L :: givd d L ls 0
  | l :: ls, k + 1 => if L < l then (L + d) :: givd d L ls k else min l L :: givd d L ls (k + 1)
/-- the places of those that want more than L -/
def going (L : Int) (ls : List Int) (o : Nat) : List Int := ((ls.zipIdx o).filter fun p => decide (L < p.1)).map fun p => (p.2 : Int)
def addStep (d : Int) (s : List Int × Int) (p : Int) : List Int × Int := (s.1.set p.toNat (s.1.getD p.toNat 0 + d), s.2 - d)
theorem givd_zero (d L : Int) : ∀ ls : List Int, givd d L ls 0 = ls.map fun l => min l L
  | [] => rfl
  | l :: ls => by unfold givd; rw [givd_zero d L ls]; rfl
theorem givd_cons (d L l : Int) (ls : List Int) (k : Nat) : givd d L (l :: ls) (k + 1) = if L < l then (L + d) :: givd d L ls k else min l L :: givd d L ls (k + 1) := rfl
theorem add_fold (d L : Int) : ∀ (ls pre : List Int) (k : Nat) (a : Int), ((going L ls pre.length).take k).foldl (addStep d) (pre ++ ls.map (fun l => min l L), a) = (pre ++ givd d L ls k, a - d * (min k (going L ls pre.length).length : Nat))
  | [], pre, k, a => by simp [going, givd]
  | l :: ls, pre, 0, a => by simp [givd_zero]
  | l :: ls, pre, k + 1, a => by
    by_cases c : L < l
    · have g : going L (l :: ls) pre.length = (pre.length : Int) :: going L ls (pre.length + 1) := by simp [going, c]
      rw [g, List.take_succ_cons, List.foldl_cons]
      have m : min l L = L := by omega
      have e : addStep d (pre ++ (l :: ls).map (fun l => min l L), a) (pre.length : Int) = ((pre ++ [L + d]) ++ ls.map (fun l => min l L), a - d) := by
        simp [addStep, m]
      rw [e]
      have ih := add_fold d L ls (pre ++ [L + d]) k (a - d)
      simp only [List.length_append, List.length_singleton] at ih
      rw [ih]
      rw [givd_cons, if_pos c]
      have : a - d - d * ((min k (going L ls (pre.length + 1)).length : Nat) : Int) = a - d * ((min (k + 1) ((going L ls (pre.length + 1)).length + 1) : Nat) : Int) := by
        rw [Nat.add_min_add_right, Int.natCast_add, Int.mul_add]
        simp
        omega
      simp [this]
    · have g : going L (l :: ls) pre.length = going L ls (pre.length + 1) := by simp [going, c]
      rw [g]
      have ih := add_fold d L ls (pre ++ [min l L]) (k + 1) a
      simp only [List.length_append, List.length_singleton] at ih
      have e : pre ++ (l :: ls).map (fun l => min l L) = (pre ++ [min l L]) ++ ls.map (fun l => min l L) := by simp
      rw [e, ih]
      rw [givd_cons, if_neg c]
      simp
/-- of one lot each it is give -/
theorem givd_one (L : Int) : ∀ (ls : List Int) (k : Nat), givd 1 L ls k = give L ls k
  | [], _ => rfl
  | l :: ls, 0 => by rw [givd_zero, give_none L _ (by simp)]
  | l :: ls, k + 1 => by
    rw [givd_cons]
    unfold give
    rw [givd_one L ls k, givd_one L ls (k + 1)]
    have : ((k + 1 : Nat) : Int) - 1 = (k : Int) := by omega
    by_cases c : L < l
    · rw [if_pos c, if_pos ⟨by omega, c⟩, this]
    · rw [if_neg c, if_neg (by omega)]
/-- all that want more have d more: a higher level -/
theorem givd_all (d L : Int) (hd : 0 ≤ d) : ∀ {ls : List Int} (o : Nat), (∀ l ∈ ls, L < l → L + d ≤ l) → ∀ k, (going L ls o).length ≤ k → givd d L ls k = ls.map fun l => min l (L + d)
  | [], _, _, _, _ => rfl
  | l :: ls, o, h, k, hk => by
    have h0 := h l List.mem_cons_self
    have h1 : ∀ l ∈ ls, L < l → L + d ≤ l := fun x hx => h x (List.mem_cons_of_mem _ hx)
    by_cases c : L < l
    · have g : going L (l :: ls) o = (o : Int) :: going L ls (o + 1) := by simp [going, c]
      rw [g] at hk
      cases k with
      | zero => simp at hk
      | succ k =>
        rw [givd_cons, if_pos c, givd_all d L hd (o + 1) h1 k (by simpa using hk), List.map_cons]
        have := h0 c
        rw [Int.min_eq_right this]
    · have g : going L (l :: ls) o = going L ls (o + 1) := by simp [going, c]
      rw [g] at hk
      have e : min l L = min l (L + d) := by omega
      cases k with
      | zero =>
        have ih := givd_all d L hd (o + 1) h1 0 hk
        rw [givd_zero] at ih
        rw [givd_zero, List.map_cons, List.map_cons, ih, e]
      | succ k => rw [givd_cons, if_neg c, givd_all d L hd (o + 1) h1 (k + 1) hk, List.map_cons, e]
end Q
end

section
set_option maxRecDepth 100000
set_option maxHeartbeats 4000000
namespace Q
open PySem PySem.Spec PyProof.Rows L2 EV
section
variable {st : Sto}
theorem wants_going : ∀ (ls : List Int) (M : Int) (o : Nat), wants ls M = ((going M ls o).length : Int)
  | [], _, _ => rfl
  | l :: ls, M, o => by
    have ih := wants_going ls M (o + 1)
    unfold wants going at *
    rw [List.zipIdx_cons]
    by_cases c : M < l <;> simp [c] at ih ⊢ <;> omega
theorem mem_going {M : Int} {ls : List Int} {p : Int} (h : p ∈ going M ls 0) : ∃ i : Nat, p = i ∧ ∃ hi : i < ls.length, M < ls[i] := by
  unfold going at h
  obtain ⟨⟨l, i⟩, h1, rfl⟩ := List.mem_map.mp h
  obtain ⟨h2, h3⟩ := List.mem_filter.mp h1
  have := List.mem_zipIdx h2
  simp at this h3
  exact ⟨i, rfl, this.1, by rw [← this.2]; exact h3⟩
theorem going_len (M : Int) (ls : List Int) : (going M ls 0).length ≤ ls.length := by
  unfold going
  rw [List.length_map]
  refine Nat.le_trans (List.length_filter_le _ _) ?_
  simp
theorem going_ok (ls : List Int) (M a : Int) (w3 w4 w5 w6 : SV) (h5 : noOwn w5 = true) (h6 : noOwn w6 = true) (hl : ls.length ≤ 1000) :
    fComp [5, 6] (fEnum true (fVar 0)) (tTup 2 (tCons (tName 5) (tCons (tName 6) tNil))) (fTst (fOp2 gGt (fVar 6) (fOp2 gIx (fVar 2) (fVar 5)))) (fVar 5) [.dat (.list (zs ls)), .dat (.int a), .own (zs (ls.map fun l => min l M)), w3, w4, w5, w6] st = some (.own (zs (going M ls 0)), st) := by
  refine fComp_at (ds := ls.zipIdx.map fun p => PyData.tuple [.int (p.2 : Nat), .int p.1]) (st1 := st) (by simp [h5, h6]) (by simp [frame]; exact ⟨by rw [sizeLine_eq]; omega, enumD_enc _ _⟩) (by rw [sizeLine_eq]; simp; omega) ?_
  have := compL_enc (st := st) (tg := tTup 2 (tCons (tName 5) (tCons (tName 6) tNil))) (cs := fTst (fOp2 gGt (fVar 6) (fOp2 gIx (fVar 2) (fVar 5)))) (el := fVar 5) (ρ := [.dat (.list (zs ls)), .dat (.int a), .own (zs (ls.map fun l => min l M)), w3, w4, .non, .non])
    (fun p : Int × Nat => PyData.tuple [.int (p.2 : Nat), .int p.1]) (fun p => decide (M < p.1)) (fun p => .int (p.2 : Nat)) (xs := ls.zipIdx) (fun p hp => by
      obtain ⟨l, i⟩ := p
      have hi := List.mem_zipIdx hp
      simp at hi
      obtain ⟨hi, hx⟩ := hi
      refine ⟨[.dat (.list (zs ls)), .dat (.int a), .own (zs (ls.map fun l => min l M)), w3, w4, .dat (.int i), .dat (.int l)], by rfl, ?_, fun _ => ⟨_, by simp; rfl, rfl⟩⟩
      simp [hi]
      rw [← hx]
      omega)
  simp only [wipeF, going, zs, List.map_map] at this ⊢
  exact this
end
end Q
end

section
set_option maxRecDepth 100000
set_option maxHeartbeats 4000000
namespace Q
open PySem PySem.Spec PyProof.Rows L2 EV
section
variable {st : Sto}
/-- how far the going ones are from what they want -/
theorem gaps_ok (ls : List Int) (M a : Int) (w4 w5 w6 : SV) (h5 : noOwn w5 = true) (hl : ls.length ≤ 1000) :
    fComp [5] (fItS true (fVar 3)) (tName 5) fYes (fOp2 gSub (fOp2 gIx (fVar 0) (fVar 5)) (fOp2 gIx (fVar 2) (fVar 5))) [.dat (.list (zs ls)), .dat (.int a), .own (zs (ls.map fun l => min l M)), .dat (.list (zs (going M ls 0))), w4, w5, w6] st = some (.own (zs ((going M ls 0).map fun p => ls.getD p.toNat 0 - M)), st) := by
  have hg := going_len M ls
  refine fComp_at (ds := zs (going M ls 0)) (st1 := st) (by simp [h5]) (by simp [frame]) (by rw [sizeLine_eq]; simp; omega) ?_
  refine compZ _ fun p hp => ?_
  obtain ⟨i, rfl, hi, hM⟩ := mem_going hp
  refine ⟨[.dat (.list (zs ls)), .dat (.int a), .own (zs (ls.map fun l => min l M)), .dat (.list (zs (going M ls 0))), w4, .dat (.int i), w6], by rfl, ?_⟩
  simp [hi]
  omega
theorem set_len {s : List Int × Int} {d p : Int} : (addStep d s p).1.length = s.1.length := by simp [addStep]
/-- one turn of giving -/
theorem gives_ok (ls xs : List Int) (m a : Int) (tk : List Int) (w5 w6 w3 : SV) (hl : tk.length = ls.length) (hx : ∀ p ∈ xs, ∃ i : Nat, p = i ∧ i < ls.length) :
    ∃ w, forL (tName 5) (fSeq (fAsg (gsSub 2 (fVar 5)) (fOp2 gAdd (fOp2 gIx (fVar 2) (fVar 5)) (fCB gMax (fCons (fCon (.int 1)) (fCons (fVar 4) fNil))))) (fSet 1 (fOp2 gSub (fVar 1) (fCB gMax (fCons (fCon (.int 1)) (fCons (fVar 4) fNil)))))) (zs xs) [.dat (.list (zs ls)), .dat (.int a), .own (zs tk), w3, .dat (.int m), w5, w6] st = some (.nx [.dat (.list (zs ls)), .dat (.int (xs.foldl (addStep (max 1 m)) (tk, a)).2), .own (zs (xs.foldl (addStep (max 1 m)) (tk, a)).1), w3, .dat (.int m), w, w6], st) ∧ (noOwn w5 = true → noOwn w = true) := by
  obtain ⟨ρ', st', f1, f2⟩ := forL_fold (σ := List Int × Int) (tg := tName 5) (b := fSeq (fAsg (gsSub 2 (fVar 5)) (fOp2 gAdd (fOp2 gIx (fVar 2) (fVar 5)) (fCB gMax (fCons (fCon (.int 1)) (fCons (fVar 4) fNil))))) (fSet 1 (fOp2 gSub (fVar 1) (fCB gMax (fCons (fCon (.int 1)) (fCons (fVar 4) fNil))))))
    PyData.int (fun s ρ st2 => st2 = st ∧ s.1.length = ls.length ∧ ∃ w : SV, (noOwn w5 = true → noOwn w = true) ∧ ρ = [.dat (.list (zs ls)), .dat (.int s.2), .own (zs s.1), w3, .dat (.int m), w, w6]) (addStep (max 1 m)) (xs := xs) (s := (tk, a)) (ρ := [.dat (.list (zs ls)), .dat (.int a), .own (zs tk), w3, .dat (.int m), w5, w6]) (st := st)
    ⟨rfl, hl, w5, id, rfl⟩ (fun p hp s ρ st2 hR => by
      obtain ⟨rfl, hs, w, hw, rfl⟩ := hR
      obtain ⟨i, rfl, hi⟩ := hx p hp
      have hi2 : i < s.1.length := by omega
      refine ⟨[.dat (.list (zs ls)), .dat (.int s.2), .own (zs s.1), w3, .dat (.int m), .dat (.int i), w6], by rfl, [.dat (.list (zs ls)), .dat (.int (addStep (max 1 m) s i).2), .own (zs (addStep (max 1 m) s i).1), w3, .dat (.int m), .dat (.int i), w6], st2, ?_, rfl, by rw [set_len]; exact hs, .dat (.int i), fun _ => rfl, rfl⟩
      simp [hi2, addStep, sizeLine_eq])
  obtain ⟨rfl, hs, w, hw, rfl⟩ := f2
  exact ⟨w, f1, hw⟩
end
end Q
end

section
set_option maxRecDepth 100000
set_option maxHeartbeats 4000000
namespace EV
open PySem PySem.Spec PyProof.Rows L2
section
variable {ρ : Fr} {st : Sto}
@[simp] theorem q_sl (a : FE) (lo hi : FO) : fSl a lo hi ρ st = (match a ρ st with | some (v, st1) => (match lo ρ st1 with | some (l, st2) => (match hi ρ st2 with | some (h, st3) => (match asD st3 v with | some d => (gSl d l h).map fun w => (w, st3) | none => none) | none => none) | none => none) | none => none) := id rfl
@[simp] theorem q_gsl_l (ds : List PyData) (l h : Option Int) : gSl (.list ds) l h = some (.own (cutD ds l h)) := id rfl
@[simp] theorem q_gsl_t (ds : List PyData) (l h : Option Int) : gSl (.tuple ds) l h = some (.dat (.tuple (cutD ds l h))) := id rfl
end
end EV
end

section
set_option maxRecDepth 100000
set_option maxHeartbeats 4000000
namespace Q
open PySem PySem.Spec PyProof.Rows L2 EV
theorem lvl_up (d M : Int) : ∀ {ls : List Int}, 0 ≤ d → (∀ l ∈ ls, M < l → M + d ≤ l) → lvl ls (M + d) = lvl ls M + d * wants ls M
  | [], _, _ => by simp [lvl, wants]
  | l :: ls, hd, h => by
    have ih := lvl_up d M (ls := ls) hd fun x hx => h x (List.mem_cons_of_mem _ hx)
    have h0 := h l List.mem_cons_self
    unfold lvl wants at *
    simp only [List.map_cons, List.sum_cons, List.filter_cons]
    split <;> rename_i c <;> simp at c ⊢
    · have := h0 c
      rw [Int.mul_add, Int.mul_one]
      omega
    · omega
section
variable {st : Sto}
def evenB : FS := (fSeq (fSet 3 (fComp [5, 6] (fEnum true (fVar 0)) (tTup 2 (tCons (tName 5) (tCons (tName 6) tNil))) (fTst (fOp2 gGt (fVar 6) (fOp2 gIx (fVar 2) (fVar 5)))) (fVar 5)))
    (fSeq (fSet 4 (fCB gMin (fCons (fOp2 gAdd (fLst (fCons (fOp2 gFdiv (fVar 1) (fCB gLen (fCons (fVar 3) fNil))) fNil)) (fComp [5] (fItS true (fVar 3)) (tName 5) fYes (fOp2 gSub (fOp2 gIx (fVar 0) (fVar 5)) (fOp2 gIx (fVar 2) (fVar 5))))) fNil)))
    (fFor (fItS false (fIte (fTst (fOp2 gGt (fVar 4) (fCon (.int 0)))) (fVar 3) (fSl (fVar 3) fNo (fPart (fVar 1))))) (tName 5) (fSeq (fAsg (gsSub 2 (fVar 5)) (fOp2 gAdd (fOp2 gIx (fVar 2) (fVar 5)) (fCB gMax (fCons (fCon (.int 1)) (fCons (fVar 4) fNil)))))
    (fSet 1 (fOp2 gSub (fVar 1) (fCB gMax (fCons (fCon (.int 1)) (fCons (fVar 4) fNil)))))))))
/-- what a turn of the loop does -/
theorem even_turn (ls : List Int) (M a : Int) (w03 w04 w05 w06 : SV) (h5 : noOwn w05 = true) (h6 : noOwn w06 = true) (h : Sz ls) (hM : 0 ≤ M) (ha : 0 < a ∧ a ≤ 1000000000) (hg : ¬ (ls.map fun l => min l M) = ls) :
    ∃ tk a2 w3 w4 w5, noOwn w5 = true ∧ evenB [.dat (.list (zs ls)), .dat (.int a), .own (zs (ls.map fun l => min l M)), w03, w04, w05, w06] st = some (.nx [.dat (.list (zs ls)), .dat (.int a2), .own (zs tk), w3, w4, w5, w06], st) ∧ 0 ≤ a2 ∧ a2 < a ∧
      ((∃ M2, 0 ≤ M2 ∧ (tk = ls.map fun l => min l M2) ∧ lvl ls M2 + a2 = lvl ls M + a) ∨ (a2 = 0 ∧ tk = give M ls a ∧ lvl ls M + a < lvl ls (M + 1))) := by
  have hl := h.1
  have c1 := going_ok (st := st) ls M a w03 w04 w05 w06 h5 h6 hl
  have c2 := gaps_ok (st := st) ls M a w04 w05 w06 h5 hl
  have wG := wants_going ls M 0
  have G0 : 0 < (going M ls 0).length := by
    rcases Nat.eq_zero_or_pos (going M ls 0).length with z | z
    · exfalso
      apply hg
      have w0 : wants ls M = 0 := by rw [wG, z]; rfl
      unfold wants at w0
      have f0 : ls.filter (fun l => decide (M < l)) = [] := List.eq_nil_of_length_eq_zero (by omega)
      have : ∀ l ∈ ls, min l M = l := fun l hl => by
        have := (List.filter_eq_nil_iff.mp f0) l hl
        simp at this
        omega
      conv => rhs; rw [← List.map_id ls]
      exact List.map_congr_left this
    · exact z
  have Gl := going_len M ls
  have mG : ∀ p ∈ going M ls 0, ∃ i : Nat, p = i ∧ i < ls.length := fun p hp => by
    obtain ⟨i, e, hi, _⟩ := mem_going hp
    exact ⟨i, e, hi⟩
  have gaps : ∀ g ∈ (going M ls 0).map (fun p => ls.getD p.toNat 0 - M), 1 ≤ g := fun g hg => by
    obtain ⟨p, hp, rfl⟩ := List.mem_map.mp hg
    obtain ⟨i, rfl, hi, hM⟩ := mem_going hp
    simp [hi]
    omega
  have gaps2 : ∀ l ∈ ls, M < l → l - M ∈ (going M ls 0).map (fun p => ls.getD p.toNat 0 - M) := fun l hl hM => by
    obtain ⟨i, hi, rfl⟩ := List.mem_iff_getElem.mp hl
    refine List.mem_map.mpr ⟨(i : Int), ?_, by simp [hi]⟩
    unfold going
    refine List.mem_map.mpr ⟨(ls[i], i), List.mem_filter.mpr ⟨?_, by simpa using hM⟩, rfl⟩
    exact List.mem_zipIdx_iff_getElem?.mpr (by simp [hi])
  have af := add_fold
  generalize hG : going M ls 0 = G at *
  generalize hgp : G.map (fun p => ls.getD p.toNat 0 - M) = gp at *
  have lG : ((G.length : Int)).natAbs.log2 < 9000 := by have := log2_lt (i := (G.length : Int)) (n := 64) (by omega) (by decide); omega
  obtain ⟨m1, m2⟩ := minL_spec gp (a / G.length)
  have q0 : 0 ≤ a / (G.length : Int) := Int.ediv_nonneg (by omega) (by omega)
  have q1 : a / (G.length : Int) * G.length ≤ a := Int.ediv_mul_le _ (by omega)
  have q2 : a / (G.length : Int) = 0 → a < G.length := fun z => by
    have := Int.lt_ediv_add_one_mul_self a (b := (G.length : Int)) (by omega)
    rw [z] at this
    omega
  have m3 := m2 _ List.mem_cons_self
  have m4 : ∀ l ∈ ls, M < l → minL (a / G.length) gp ≤ l - M := fun l hl hM => m2 _ (List.mem_cons_of_mem _ (gaps2 l hl hM))
  have m5 : minL (a / G.length) gp ≤ 0 → a / (G.length : Int) = 0 ∧ minL (a / G.length) gp = 0 := fun z => by
    rcases List.mem_cons.mp m1 with e | e
    · omega
    · have := gaps _ e; omega
  have hmin : gMin [.list (.int (a / G.length) :: zs gp)] = some (.dat (.int (minL (a / G.length) gp))) := by
    show (match intsOf (zs (a / G.length :: gp)) with | some (i :: r) => some (SV.dat (.int (minL i r))) | _ => none) = _
    rw [intsOf_map]
  generalize hm : minL (a / G.length) gp = m at *
  have gpl : gp.length ≤ 1000 := by rw [← hgp, List.length_map]; omega
  -- the first two statements
  have s1 : (fSet 3 (fComp [5, 6] (fEnum true (fVar 0)) (tTup 2 (tCons (tName 5) (tCons (tName 6) tNil))) (fTst (fOp2 gGt (fVar 6) (fOp2 gIx (fVar 2) (fVar 5)))) (fVar 5))) [.dat (.list (zs ls)), .dat (.int a), .own (zs (ls.map fun l => min l M)), w03, w04, w05, w06] st = some (.nx [.dat (.list (zs ls)), .dat (.int a), .own (zs (ls.map fun l => min l M)), .dat (.list (zs G)), w04, w05, w06], st) := by
    rw [q_set, c1]; rfl
  have s2 : (fSet 4 (fCB gMin (fCons (fOp2 gAdd (fLst (fCons (fOp2 gFdiv (fVar 1) (fCB gLen (fCons (fVar 3) fNil))) fNil)) (fComp [5] (fItS true (fVar 3)) (tName 5) fYes (fOp2 gSub (fOp2 gIx (fVar 0) (fVar 5)) (fOp2 gIx (fVar 2) (fVar 5))))) fNil))) [.dat (.list (zs ls)), .dat (.int a), .own (zs (ls.map fun l => min l M)), .dat (.list (zs G)), w04, w05, w06] st = some (.nx [.dat (.list (zs ls)), .dat (.int a), .own (zs (ls.map fun l => min l M)), .dat (.list (zs G)), .dat (.int m), w05, w06], st) := by
    have ga : gAdd (.list [.int (a / G.length)]) (.list (zs gp)) = some (.own (.int (a / G.length) :: zs gp)) := by
      show (if _ then _ else _) = _
      rw [if_pos (by rw [sizeLine_eq]; simp; omega)]; rfl
    have gl : 0 < (G.length : Int) ∧ (G.length : Int).natAbs.log2 < 9000 := ⟨by omega, lG⟩
    have e1 : (fLst (fCons (fOp2 gFdiv (fVar 1) (fCB gLen (fCons (fVar 3) fNil))) fNil)) [.dat (.list (zs ls)), .dat (.int a), .own (zs (ls.map fun l => min l M)), .dat (.list (zs G)), w04, w05, w06] st = some (.own [.int (a / G.length)], st) := by
      have lG2 : G.length.log2 < 9000 := by simpa using lG
      simp [G0, lG2, sizeLine_eq]
    rw [q_set, q_cb, q_cons, q_op2, e1]
    dsimp only
    rw [c2]
    dsimp only
    rw [q_asD_own, q_asD_own]
    dsimp only
    rw [ga]
    simp [hmin]
  have md : min G.length G.length = G.length := Nat.min_self _
  by_cases hm0 : 0 < m
  · have e1 : max 1 m = m := by omega
    obtain ⟨w, f1, hw⟩ := gives_ok (st := st) ls G m a (ls.map fun l => min l M) w05 w06 (.dat (.list (zs G))) (by simp) mG
    have f2 := af m M ls [] G.length a
    simp only [List.length_nil, hG, List.nil_append, List.take_length, md] at f2
    rw [e1, f2] at f1
    have lv := lvl_up m M (ls := ls) (by omega) (fun l hl hM => by have := m4 l hl hM; omega)
    have ga := givd_all m M (by omega) (ls := ls) 0 (fun l hl hM => by have := m4 l hl hM; omega) G.length (by rw [hG]; exact Nat.le_refl _)
    have mG1 : m * G.length ≤ a := Int.le_trans (Int.mul_le_mul_of_nonneg_right m3 (by omega)) q1
    have mG0 : 0 < m * G.length := Int.mul_pos hm0 (by omega)
    refine ⟨givd m M ls G.length, a - m * G.length, .dat (.list (zs G)), .dat (.int m), w, hw h5, ?_, by omega, by omega, .inl ⟨M + m, by omega, ga, ?_⟩⟩
    · unfold evenB
      rw [q_seq, s1]
      dsimp only
      rw [q_seq, s2]
      dsimp only
      have it : (fItS false (fIte (fTst (fOp2 gGt (fVar 4) (fCon (.int 0)))) (fVar 3) (fSl (fVar 3) fNo (fPart (fVar 1))))) [.dat (.list (zs ls)), .dat (.int a), .own (zs (ls.map fun l => min l M)), .dat (.list (zs G)), .dat (.int m), w05, w06] st = some (zs G, st) := by simp [hm0]
      rw [q_for, it]
      exact f1
    · rw [lv, wG]; omega
  · have e1 : max 1 m = 1 := by omega
    obtain ⟨z1, z2⟩ := m5 (by omega)
    have lt := q2 z1
    have ea : a = (a.toNat : Int) := by omega
    obtain ⟨w, f1, hw⟩ := gives_ok (st := st) ls (G.take a.toNat) m a (ls.map fun l => min l M) w05 w06 (.dat (.list (zs G))) (by simp) (fun p hp => mG p (List.mem_of_mem_take hp))
    have f2 := af 1 M ls [] a.toNat a
    simp only [List.length_nil, hG, List.nil_append, Nat.min_eq_left (show a.toNat ≤ G.length by omega)] at f2
    rw [e1, f2, givd_one, ← ea] at f1
    refine ⟨give M ls a, a - 1 * a, .dat (.list (zs G)), .dat (.int m), w, hw h5, ?_, by omega, by omega, .inr ⟨by omega, rfl, ?_⟩⟩
    · unfold evenB
      rw [q_seq, s1]
      dsimp only
      rw [q_seq, s2]
      dsimp only
      have ct : cutD (zs G) none (some a) = zs (G.take a.toNat) := by
        have := cut_to (zs G) a.toNat
        rw [← ea] at this
        rw [this, zs, zs, List.map_take]
      have it : (fItS false (fIte (fTst (fOp2 gGt (fVar 4) (fCon (.int 0)))) (fVar 3) (fSl (fVar 3) fNo (fPart (fVar 1))))) [.dat (.list (zs ls)), .dat (.int a), .own (zs (ls.map fun l => min l M)), .dat (.list (zs G)), .dat (.int m), w05, w06] st = some (zs (G.take a.toNat), st) := by simp only [zs] at ct; simp [hm0, ct]
      rw [q_for, it]
      exact f1
    · rw [lvl_wants, wG]; omega
end
end Q
end

section
set_option maxRecDepth 100000
set_option maxHeartbeats 4000000
namespace Q
open PySem PySem.Spec PyProof.Rows L2 EV
section
variable {st : Sto}
theorem wants_none {ls : List Int} {M : Int} (h : ¬ 0 < wants ls M) : ∀ j ∈ ls, j ≤ M := by
  intro j hj
  have w0 : (ls.filter fun l => decide (M < l)).length = 0 := by unfold wants at h; omega
  have := List.filter_eq_nil_iff.mp (List.eq_nil_of_length_eq_zero w0) j hj
  simpa using this
theorem law_even_ok (ls : List Int) (a L : Int) (h : Sz ls) (ha : 0 ≤ a ∧ a ≤ 1000000000) (lv : IsLevel ls a L) (hst : stFlat st = true) : g__law_even [.dat (.list (zs ls)), .dat (.int a)] st = some (.own (zs (byTurns ls a L)), st) := by
  have hl := h.1
  obtain ⟨ρ', st', f1, f2⟩ := while_inv (c := fAndT (fTst (fOp2 gGt (fVar 1) (fCon (.int 0)))) (fTst (fOp2 gNe (fVar 2) (fCB gList (fCons (fVar 0) fNil))))) (b := evenB)
    (fun n ρ st2 => st2 = st ∧ ∃ (amt : Int) (tk : List Int) (w3 w4 w5 w6 : SV), ρ = [.dat (.list (zs ls)), .dat (.int amt), .own (zs tk), w3, w4, w5, w6] ∧ noOwn w5 = true ∧ noOwn w6 = true ∧ amt.toNat = n ∧ 0 ≤ amt ∧ amt ≤ 1000000000 ∧
      ((∃ M, 0 ≤ M ∧ (tk = ls.map fun l => min l M) ∧ lvl ls M + amt = a) ∨ (amt = 0 ∧ ∃ M, tk = give M ls (a - lvl ls M) ∧ lvl ls M ≤ a ∧ a < lvl ls (M + 1))))
    (fun ρ st2 => st2 = st ∧ ∃ (amt : Int) (w3 w4 w5 w6 : SV), ρ = [.dat (.list (zs ls)), .dat (.int amt), .own (zs (byTurns ls a L)), w3, w4, w5, w6])
    (fun n ρ st2 hI => by
      obtain ⟨rfl, amt, tk, w3, w4, w5, w6, rfl, h5, h6, rfl, h0, h1, hc⟩ := hI
      have ne := gNe_lst tk ls
      simp only [zs] at ne
      by_cases hz : 0 < amt
      · obtain ⟨M, hM, rfl, hs⟩ : ∃ M, 0 ≤ M ∧ (tk = ls.map fun l => min l M) ∧ lvl ls M + amt = a := by
          rcases hc with z | z
          · exact z
          · omega
        by_cases ht : (ls.map fun l => min l M) = ls
        · refine .inl ⟨by simp [hz, q_cb, gList]; simp only [List.map_map] at ne; simp [ne, ht], rfl, amt, w3, w4, w5, w6, ?_⟩
          have : ∀ j ∈ ls, j ≤ M := fun j hj => by
            have : min j M = id j := (List.map_inj_left.mp (ht.trans (List.map_id ls).symm)) j hj
            rw [id] at this
            omega
          have e := turns_one lv (M := M) (by omega) (.inl this)
          rw [give_full _ this] at e
          rw [ht.trans e]
        · obtain ⟨tk, a2, w3', w4', w5', h5', e1, e2, e3, e4⟩ := even_turn (st := st2) ls M amt w3 w4 w5 w6 h5 h6 h hM ⟨hz, h1⟩ ht
          refine .inr ⟨by simp [hz, q_cb, gList]; simp only [List.map_map] at ne; simp [ne, ht], _, _, a2.toNat, by omega, e1, rfl, a2, tk, w3', w4', w5', w6, rfl, h5', h6, rfl, e2, by omega, ?_⟩
          rcases e4 with ⟨M2, g1, g2, g3⟩ | ⟨g1, g2, g3⟩
          · exact .inl ⟨M2, g1, g2, by omega⟩
          · exact .inr ⟨g1, M, by rw [g2]; congr 1; omega, by omega, by omega⟩
      · refine .inl ⟨by simp [hz], rfl, amt, w3, w4, w5, w6, ?_⟩
        have e0 : amt = 0 := by omega
        have e : tk = byTurns ls a L := by
          rcases hc with ⟨M, hM, rfl, hs⟩ | ⟨_, M, g1, g2, g3⟩
          · have lw := lvl_wants ls M
            have e := turns_one lv (M := M) (by omega) (by
              by_cases w : 0 < wants ls M
              · exact .inr (by omega)
              · exact .inl (wants_none w))
            rw [give_none _ _ (by omega)] at e
            exact e
          · rw [g1]
            exact turns_one lv g2 (.inr g3)
        rw [e])
    (n := a.toNat) (ρ := [.dat (.list (zs ls)), .dat (.int a), .own (zs (List.replicate ls.length 0)), .non, .non, .non, .non]) (st := st)
    ⟨rfl, a, List.replicate ls.length 0, .non, .non, .non, .non, rfl, rfl, rfl, rfl, ha.1, ha.2, .inl ⟨0, by omega, by
      have : ∀ l ∈ ls, min l 0 = 0 := fun l hl => by have := h.2 l hl; omega
      rw [List.map_congr_left this, List.map_const'], by rw [lvl_zero fun j hj => (h.2 j hj).1]; omega⟩⟩
  obtain ⟨rfl, amt, w3, w4, w5, w6, rfl⟩ := f2
  have z := zeros_ok (k := ls.length) (by omega) (by omega)
  have fl := flat_ints (List.replicate ls.length 0)
  unfold evenB at f1
  unfold g__law_even e__law_even
  rw [fnOf_at (by rfl)]
  simp only [zs, List.map_replicate] at z fl f1
  simp [frame, z, fl, hst, f1, sizeLine_eq]
end
end Q
end

section
set_option maxRecDepth 100000
set_option maxHeartbeats 4000000
namespace EV
open PySem PySem.Spec PyProof.Rows L2
section
variable {ρ : Fr} {st : Sto}
theorem q_frz {i : Nat} {F : FS} {ds : List PyData} (h : gs ρ i = .own ds) : fFrz i F ρ st = F (ρ.set i (.dat (.list ds))) st := by
  unfold fFrz frz; rw [h]
theorem q_app {i : Nat} {a : FE} {w : SV} {d : PyData} {ds : List PyData} (h1 : a ρ st = some (w, st)) (h2 : escD w = some d) (h3 : gs ρ i = .own ds) (h4 : ds.length < sizeLine) : fApp i a ρ st = some (.nx (ρ.set i (.own (ds ++ [d]))), st) := by
  unfold fApp
  rw [h1]
  dsimp only
  rw [h2]
  dsimp only
  rw [h3]
  dsimp only
  rw [if_pos h4]
@[simp] theorem q_rev (ds : List PyData) : gRev (.list ds) = some (.own ds.reverse) := id rfl
end
end EV
namespace Q
open PySem PySem.Spec PyProof.Rows L2 EV
theorem restIs_one {f a : Int} {word rest : Str} {sizes out1 out2 : List Int} (h1 : RestIs f word rest sizes a out1) (h2 : RestIs f word rest sizes a out2) : out1 = out2 := by
  unfold RestIs at h1 h2
  split at h1 <;> rename_i c
  · rw [if_pos c] at h2
    obtain ⟨L, lv, rfl⟩ := h1
    obtain ⟨M, lw, rfl⟩ := h2
    rw [← turns_one lw lv.le lv.top, byTurns_give]
  · rw [if_neg c] at h2
    rw [h1, h2]
section
variable {st : Sto}
def passT : FS := (fSeq (fFrz 9 (fApp 7 (fVar 9)))
    (fAsg (gsTup 2 (gsCons (gsName 6) (gsCons (gsName 2) gsNil))) (fTup (fCons (fComp [11, 13] (fZip true (fVar 6) (fVar 9)) (tTup 2 (tCons (tName 11) (tCons (tName 13) tNil))) fYes (fOp2 gSub (fVar 11) (fVar 13))) (fCons (fOp2 gSub (fVar 2) (fCB gSum (fCons (fVar 9) fNil))) fNil)))))
def passF : FS := (fFor (fItS false (fIte (fTst (fOp2 gEq (fVar 5) (fCon (.str "late")))) (fOp1 gRev (fVar 10)) (fVar 10))) (tName 12) (fSeq (fAsg (gsSub 9 (fVar 12)) (fCB gMin (fCons (fOp2 gIx (fVar 6) (fVar 12)) (fCons (fVar 11) fNil))))
    (fSet 11 (fOp2 gSub (fVar 11) (fOp2 gIx (fVar 9) (fVar 12))))))
def passP : FE := (fIte (fTst (fOp2 gEq (fVar 5) (fCon (.str "size")))) (fSortKR 12 [1] (fR1 (fCB gLen (fCons (fVar 1) fNil))) (fTup (fCons (fOp1 gNeg (fOp2 gIxI (fVar 1) (fVar 12))) (fCons (fVar 12) fNil)))) (fLstR (fR1 (fCB gLen (fCons (fVar 1) fNil)))))
noncomputable def passI : FS := (fIf (fAndT (fTst (fOp2 gEq (fVar 8) (fCon (.int 0)))) (fTst (fOp2 gNe (fVar 6) (fLst fNil)))) (fAsg (gsSub 9 (fCon (.int 0))) (fCB gMin (fCons (fVar 3) (fCons (fOp2 gIx (fVar 6) (fCon (.int 0))) (fCons (fVar 2) fNil))))) (fIf (fAndT (fTst (fOp2 gEq (fVar 8) (fCon (.int 1)))) (fAndT (fTst (fOp2 gEq (fVar 4) (fCon (.str "parts")))) (fTst (fOp2 gGt (fCB gSum (fCons (fVar 6) fNil)) (fCon (.int 0)))))) (fSetO 9 (fComp [11] (fItS true (fVar 6)) (tName 11) fYes (fOp2 gFdiv (fOp2 gMulX (fVar 2) (fVar 11)) (fCB gSum (fCons (fVar 6) fNil))))) (fIf (fAndT (fTst (fOp2 gEq (fVar 8) (fCon (.int 2)))) (fTst (fOp2 gEq (fVar 5) (fCon (.str "even"))))) (fSetO 9 (fCall g__law_even (fCons (fVar 6) (fCons (fVar 2) fNil)))) (fIf (fTst (fOp2 gEq (fVar 8) (fCon (.int 2)))) (fSeq (fSet 10 passP)
    (fSeq (fSet 11 (fVar 2))
    passF)) fNx))))
abbrev pf (f : Int) (word rest : Str) (sizes : List Int) (amt : Int) (lefts : List Int) (rows : List PyData) (lap : Int) (took w10 w11 w12 w13 : SV) : Fr := [.dat (.tuple [.int f, .str word, .str rest]), .dat (.tuple (zs sizes)), .dat (.int amt), .dat (.int f), .dat (.str word), .dat (.str rest), .dat (.list (zs lefts)), .own rows, .dat (.int lap), took, w10, w11, w12, w13]
theorem passT_ok (f : Int) (word rest : Str) (sizes : List Int) (amt : Int) (lefts took : List Int) (rows : List PyData) (lap : Int) (w10 w11 w12 w13 : SV) (h11 : noOwn w11 = true) (h13 : noOwn w13 = true) (hl : lefts.length ≤ 1000) (hr : rows.length ≤ 10) :
    passT (pf f word rest sizes amt lefts rows lap (.own (zs took)) w10 w11 w12 w13) st = some (.nx (pf f word rest sizes (amt - took.sum) (left lefts took) (rows ++ [.list (zs took)]) lap (.dat (.list (zs took))) w10 w11 w12 w13), st) := by
  have c := zsub_ok (st := st) (ρ := pf f word rest sizes amt lefts (rows ++ [.list (zs took)]) lap (.dat (.list (zs took))) w10 w11 w12 w13) lefts took 6 9 11 13 (fVar 6) (.inl (by simp)) rfl (by simp) (by simp) (by decide) hl h11 h13
  unfold passT
  rw [q_seq, q_frz (ds := zs took) rfl, q_app (d := .list (zs took)) (ds := rows) (w := .dat (.list (zs took))) rfl rfl rfl (by rw [sizeLine_eq]; omega)]
  dsimp only
  rw [show (((pf f word rest sizes amt lefts rows lap (.own (zs took)) w10 w11 w12 w13).set 9 (.dat (.list (zs took)))).set 7 (.own (rows ++ [.list (zs took)]))) = pf f word rest sizes amt lefts (rows ++ [.list (zs took)]) lap (.dat (.list (zs took))) w10 w11 w12 w13 from rfl]
  simp only [q_asg, q_tup, q_cons, c]
  simp [sizeLine_eq]
theorem gNe_nil (ls : List Int) : gNe (.list (zs ls)) (.list []) = some (.dat (.bool (!decide (ls = [])))) := gNe_lst ls []
theorem pass0 (f : Int) (word rest : Str) (sizes : List Int) (amt : Int) (lefts : List Int) (rows : List PyData) (w10 w11 w12 w13 : SV) :
    passI (pf f word rest sizes amt lefts rows 0 (.own (zs (List.replicate lefts.length 0))) w10 w11 w12 w13) st = some (.nx (pf f word rest sizes amt lefts rows 0 (.own (zs (byFirst f lefts amt))) w10 w11 w12 w13), st) := by
  have n := gNe_nil lefts
  unfold passI
  cases lefts with
  | nil => simp at n; simp [n, sizeLine_eq, byFirst]
  | cons s r =>
    simp only [zs] at n
    simp at n
    simp [n, sizeLine_eq, byFirst, List.replicate_succ]
theorem pass1 (f : Int) (word rest : Str) (sizes : List Int) (amt : Int) (lefts : List Int) (rows : List PyData) (w10 w11 w12 w13 : SV) (h11 : noOwn w11 = true) (h : Sz lefts) (ha : 0 ≤ amt ∧ amt ≤ 1000000000) (hst : stFlat st = true) :
    passI (pf f word rest sizes amt lefts rows 1 (.own (zs (List.replicate lefts.length 0))) w10 w11 w12 w13) st = some (.nx (pf f word rest sizes amt lefts rows 1 (.own (zs (if word = "parts" then byParts lefts amt else List.replicate lefts.length 0))) w10 w11 w12 w13), st) := by
  obtain ⟨s0, s1⟩ := h.sum
  have hl : lefts.length ≤ 16777216 := by have := h.1; omega
  unfold passI
  by_cases hp : word = "parts"
  · subst hp
    by_cases hw : 0 < lefts.sum
    · have lw : lefts.sum.natAbs.log2 < 9000 := by have := log2_lt (i := lefts.sum) (n := 64) (by omega) (by decide); omega
      have c : fComp [11] (fItS true (fVar 6)) (tName 11) fYes (fOp2 gFdiv (fOp2 gMulX (fVar 2) (fVar 11)) (fCB gSum (fCons (fVar 6) fNil))) (pf f "parts" rest sizes amt lefts rows 1 (.own (zs (List.replicate lefts.length 0))) w10 w11 w12 w13) st = some (.own (zs (byParts lefts amt)), st) := by
        refine fComp_at (ds := zs lefts) (st1 := st) (by simp [h11]) (by simp) (by rw [sizeLine_eq]; simpa using hl) ?_
        unfold byParts
        rw [if_pos hw]
        refine compZ _ fun x hx => ⟨pf f "parts" rest sizes amt lefts rows 1 (.own (zs (List.replicate lefts.length 0))) w10 (.dat (.int x)) w12 w13, by rfl, ?_⟩
        have hx' := h.2 x hx
        have m : gMulX (.int amt) (.int x) = _ := mulx_ok (by omega) (by omega)
        simp [m, hw, lw]
      have fl := flat_ints (byParts lefts amt)
      simp only [zs, List.map_replicate] at c fl
      simp [c, fl, hst, hw]
    · simp [hw, byParts]
  · simp [hp]
theorem pass2e (f : Int) (word : Str) (sizes : List Int) (amt L : Int) (lefts : List Int) (rows : List PyData) (w10 w11 w12 w13 : SV) (h : Sz lefts) (ha : 0 ≤ amt ∧ amt ≤ 1000000000) (lv : IsLevel lefts amt L) (hst : stFlat st = true) :
    passI (pf f word "even" sizes amt lefts rows 2 (.own (zs (List.replicate lefts.length 0))) w10 w11 w12 w13) st = some (.nx (pf f word "even" sizes amt lefts rows 2 (.own (zs (byTurns lefts amt L))) w10 w11 w12 w13), st) := by
  have e := law_even_ok (st := st) lefts amt L h ha lv hst
  have fl := flat_ints (byTurns lefts amt L)
  unfold passI
  simp only [zs] at e fl
  simp [e, fl, hst]
theorem size_sortR {ρ : Fr} {sizes : List Int} (h : Sz sizes) (i j : Nat) (fk : FE) (hs : gs ρ i = .dat (.tuple (zs sizes)))
    (hk : ∀ x : Nat, x < sizes.length → fk (ρ.set j (.dat (.int x))) st = some (.dat (.tuple [.int (-(sizes.getD x 0)), .int x]), st)) :
    fSortKR j [i] (fR1 (fCB gLen (fCons (fVar i) fNil))) fk ρ st = some (.own (zs (bySize sizes)), st) := by
  have ek : keysL j fk ρ st (zs (idx sizes.length)) = some ((idx sizes.length).map fun p => .tuple [.int (-(sizes.getD p.toNat 0)), .int p]) :=
    keysL_enc PyData.int (fun p => .tuple [.int (-(sizes.getD p.toNat 0)), .int p]) fun x hx => by
      obtain ⟨n, rfl, hn⟩ := mem_idx hx
      exact ⟨st, by simpa using hk n hn⟩
  have e2 := keys_ii (fun p : Int => -(sizes.getD p.toNat 0)) (fun p => p) (idx sizes.length)
  have e3 : capOk ρ st i = true := by
    unfold capOk
    have : fVar i ρ st = some (.dat (.tuple (zs sizes)), st) := by rw [q_var, hs]
    rw [this]
    simp [PyData.canLay0, canLay_ints]
  have hl := h.1
  have r : rgOk 0 (sizes.length : Int) = true := by
    unfold rgOk
    rw [okI_of (by omega) (by omega), okI_of (by omega) (by omega), Nat.ble_eq_true_of_le (by omega)]; rfl
  have er : rgD 0 (sizes.length : Int) = zs (idx sizes.length) := rgD_nat _
  have e4 : (fR1 (fCB gLen (fCons (fVar i) fNil))) ρ st = some ((0, (sizes.length : Int)), st) := by
    simp [hs]
  unfold fSortKR
  rw [e4]
  dsimp only
  rw [if_pos r, er, ek]
  dsimp only
  rw [if_pos ⟨e2, by simp [e3]⟩]
  rw [sortK_ii PyData.int (fun p : Int => -(sizes.getD p.toNat 0)) (fun p => p)]
  rfl
end
end Q
end

section
set_option maxRecDepth 100000
set_option maxHeartbeats 4000000
namespace Q
open PySem PySem.Spec PyProof.Rows L2 EV
section
variable {st : Sto}
def places (rest : Str) (sizes : List Int) : List Int := if rest = "size" then bySize sizes else idx sizes.length
theorem passP_ok (f : Int) (word rest : Str) (sizes : List Int) (amt : Int) (lefts : List Int) (rows : List PyData) (lap : Int) (took w10 w11 w12 w13 : SV) (h : Sz sizes) :
    passP (pf f word rest sizes amt lefts rows lap took w10 w11 w12 w13) st = some (.own (zs (places rest sizes)), st) := by
  have hl := h.1
  have r : rgOk 0 (sizes.length : Int) = true := by
    unfold rgOk
    rw [okI_of (by omega) (by omega), okI_of (by omega) (by omega), Nat.ble_eq_true_of_le (by omega)]; rfl
  have er : rgD 0 (sizes.length : Int) = zs (idx sizes.length) := rgD_nat _
  unfold passP
  by_cases hs : rest = "size"
  · have es := size_sortR (st := st) (ρ := pf f word rest sizes amt lefts rows lap took w10 w11 w12 w13) h 1 12 (fTup (fCons (fOp1 gNeg (fOp2 gIxI (fVar 1) (fVar 12))) (fCons (fVar 12) fNil))) rfl (fun x hx => by
      have e := ixI_nat sizes x hx hl
      simp [e, sizeLine_eq])
    subst hs
    simp only [q_ite]
    simp [es, places]
  · simp only [zs] at er
    simp [hs, r, er, places]
theorem passF_ok (f : Int) (word rest : Str) (sizes : List Int) (amt : Int) (lefts : List Int) (rows : List PyData) (w012 w13 : SV) (hl : lefts.length = sizes.length) (he : ¬ rest = "even") :
    ∃ w11 w12, noOwn w11 = true ∧ passF (pf f word rest sizes amt lefts rows 2 (.own (zs (List.replicate lefts.length 0))) (.dat (.list (zs (places rest sizes)))) (.dat (.int amt)) w012 w13) st = some (.nx (pf f word rest sizes amt lefts rows 2 (.own (zs (byFill rest sizes lefts amt))) (.dat (.list (zs (places rest sizes)))) w11 w12 w13), st) := by
  have hx : (if rest = "late" then (places rest sizes).reverse else places rest sizes) = seqOf rest sizes := by
    unfold places seqOf
    by_cases h1 : rest = "late"
    · subst h1; rfl
    · rw [if_neg h1, if_neg h1]
  have it : (fItS false (fIte (fTst (fOp2 gEq (fVar 5) (fCon (.str "late")))) (fOp1 gRev (fVar 10)) (fVar 10))) (pf f word rest sizes amt lefts rows 2 (.own (zs (List.replicate lefts.length 0))) (.dat (.list (zs (places rest sizes)))) (.dat (.int amt)) w012 w13) st = some (zs (seqOf rest sizes), st) := by
    rw [← hx]
    by_cases h1 : rest = "late" <;> simp [h1]
  obtain ⟨ρ', st', f1, f2⟩ := forL_fold (σ := List Int × Int) (tg := tName 12) (b := (fSeq (fAsg (gsSub 9 (fVar 12)) (fCB gMin (fCons (fOp2 gIx (fVar 6) (fVar 12)) (fCons (fVar 11) fNil))))
    (fSet 11 (fOp2 gSub (fVar 11) (fOp2 gIx (fVar 9) (fVar 12))))))
    PyData.int (fun s ρ st2 => st2 = st ∧ s.1.length = lefts.length ∧ ∃ w12 : SV, ρ = pf f word rest sizes amt lefts rows 2 (.own (zs s.1)) (.dat (.list (zs (places rest sizes)))) (.dat (.int s.2)) w12 w13)
    (fillStep lefts) (xs := seqOf rest sizes) (s := (List.replicate lefts.length 0, amt)) (ρ := pf f word rest sizes amt lefts rows 2 (.own (zs (List.replicate lefts.length 0))) (.dat (.list (zs (places rest sizes)))) (.dat (.int amt)) w012 w13) (st := st)
    ⟨rfl, by simp, w012, rfl⟩ (fun p hp s ρ st2 hR => by
      obtain ⟨rfl, hs, w12, rfl⟩ := hR
      obtain ⟨i, rfl, hi⟩ := mem_seq hp
      have hi2 : i < s.1.length := by omega
      have hi3 : i < lefts.length := by omega
      refine ⟨pf f word rest sizes amt lefts rows 2 (.own (zs s.1)) (.dat (.list (zs (places rest sizes)))) (.dat (.int s.2)) (.dat (.int i)) w13, by rfl, pf f word rest sizes amt lefts rows 2 (.own (zs (fillStep lefts s i).1)) (.dat (.list (zs (places rest sizes)))) (.dat (.int (fillStep lefts s i).2)) (.dat (.int i)) w13, st2, ?_, rfl, by unfold fillStep; simpa using hs, _, rfl⟩
      unfold fillStep
      simp [hi2, hi3])
  obtain ⟨rfl, hs, w12', rfl⟩ := f2
  refine ⟨.dat (.int ((seqOf rest sizes).foldl (fillStep lefts) (List.replicate lefts.length 0, amt)).2), w12', rfl, ?_⟩
  unfold passF
  rw [q_for, it]
  exact f1
theorem pass2f (f : Int) (word rest : Str) (sizes : List Int) (amt : Int) (lefts : List Int) (rows : List PyData) (w010 w011 w012 w13 : SV) (h : Sz sizes) (hl : lefts.length = sizes.length) (he : ¬ rest = "even") :
    ∃ w10 w11 w12, noOwn w11 = true ∧ passI (pf f word rest sizes amt lefts rows 2 (.own (zs (List.replicate lefts.length 0))) w010 w011 w012 w13) st = some (.nx (pf f word rest sizes amt lefts rows 2 (.own (zs (byFill rest sizes lefts amt))) w10 w11 w12 w13), st) := by
  have e1 := passP_ok (st := st) f word rest sizes amt lefts rows 2 (.own (zs (List.replicate lefts.length 0))) w010 w011 w012 w13 h
  obtain ⟨w11, w12, h11, e2⟩ := passF_ok (st := st) f word rest sizes amt lefts rows w012 w13 hl he
  refine ⟨.dat (.list (zs (places rest sizes))), w11, w12, h11, ?_⟩
  unfold passI
  simp only [zs, List.map_replicate] at e1 e2
  simp [he, e1, e2]
end
end Q
end

section
set_option maxRecDepth 100000
set_option maxHeartbeats 4000000
namespace EV
open PySem PySem.Spec PyProof.Rows L2
theorem forL_cons {tg : TgF} {b : FS} {d : PyData} {ds : List PyData} {ρ ρ1 ρ2 : Fr} {st st2 : Sto} (h1 : tg ρ d = some ρ1) (h2 : b ρ1 st = some (.nx ρ2, st2)) : forL tg b (d :: ds) ρ st = forL tg b ds ρ2 st2 := by
  conv => lhs; unfold forL
  rw [h1]
  dsimp only
  rw [h2]
end EV
namespace Q
open PySem PySem.Spec PyProof.Rows L2 EV
section
variable {st : Sto}
noncomputable def passB : FS := (fSeq (fSetO 9 (fOp2 gMulX (fLst (fCons (fCon (.int 0)) fNil)) (fCB gLen (fCons (fVar 6) fNil)))) (fSeq passI passT))
theorem lap_ok {f amt lap : Int} {word rest : Str} {sizes lefts took : List Int} {rows : List PyData} {w9 w10 w11 w12 w13 w10' w11' w12' : SV}
    (I : passI (pf f word rest sizes amt lefts rows lap (.own (zs (List.replicate lefts.length 0))) w10 w11 w12 w13) st = some (.nx (pf f word rest sizes amt lefts rows lap (.own (zs took)) w10' w11' w12' w13), st))
    (h11 : noOwn w11' = true) (h13 : noOwn w13 = true) (hl : lefts.length ≤ 1000) (hr : rows.length ≤ 10) (hst : stFlat st = true) :
    passB (pf f word rest sizes amt lefts rows lap w9 w10 w11 w12 w13) st = some (.nx (pf f word rest sizes (amt - took.sum) (left lefts took) (rows ++ [.list (zs took)]) lap (.dat (.list (zs took))) w10' w11' w12' w13), st) := by
  have z := zeros_ok (k := lefts.length) (by omega) (by omega)
  have fl := flat_ints (List.replicate lefts.length 0)
  have e : (fSetO 9 (fOp2 gMulX (fLst (fCons (fCon (.int 0)) fNil)) (fCB gLen (fCons (fVar 6) fNil)))) (pf f word rest sizes amt lefts rows lap w9 w10 w11 w12 w13) st = some (.nx (pf f word rest sizes amt lefts rows lap (.own (zs (List.replicate lefts.length 0))) w10 w11 w12 w13), st) := by
    simp only [zs, List.map_replicate] at z fl
    simp [z, fl, hst, sizeLine_eq]
  have t := passT_ok (st := st) f word rest sizes amt lefts took rows lap w10' w11' w12' w13 h11 h13 hl hr
  unfold passB
  rw [q_seq, e]
  dsimp only
  rw [q_seq, I]
  dsimp only
  rw [t]
theorem law_passes_ok (f a : Int) (word rest : Str) (sizes : List Int) (hf : 0 ≤ f) (h : Sz sizes) (ha : 0 ≤ a) (hst : stFlat st = true) :
    ∃ out, g__law_passes [.dat (.tuple [.int f, .str word, .str rest]), .dat (.tuple (zs sizes)), .dat (.int a)] st = some (.own [.list (zs (byFirst f sizes (min a sizes.sum))), .list (zs (parts f word sizes a)), .list (zs out)], st) ∧ RestIs f word rest sizes a out := by
  have R := rows_facts (word := word) hf h ha
  have hs := h.sum
  have b1 : am1 f sizes a ≤ 1000000000 := by have := R.a1.2; have := R.s1.sum; omega
  have b2 : am2 f word sizes a ≤ 1000000000 := by have := R.a2.2; have := R.s2.sum; omega
  have q1 : min a sizes.sum - (byFirst f sizes (min a sizes.sum)).sum = am1 f sizes a := rfl
  have q2 : am1 f sizes a - (parts f word sizes a).sum = am2 f word sizes a := rfl
  have q3 : left sizes (byFirst f sizes (min a sizes.sum)) = left1 f sizes a := rfl
  have q4 : left (left1 f sizes a) (parts f word sizes a) = left2 f word sizes a := rfl
  have q5 : (if word = "parts" then byParts (left1 f sizes a) (am1 f sizes a) else List.replicate (left1 f sizes a).length 0) = parts f word sizes a := rfl
  have L0 := lap_ok (w9 := .non) (pass0 (st := st) f word rest sizes (min a sizes.sum) sizes [] .non .non .non .non) rfl rfl h.1 (by simp) hst
  have L1 := lap_ok (w9 := .dat (.list (zs (byFirst f sizes (min a sizes.sum))))) (pass1 (st := st) f word rest sizes (am1 f sizes a) (left1 f sizes a) ([] ++ [.list (zs (byFirst f sizes (min a sizes.sum)))]) .non .non .non .non rfl R.s1 ⟨R.a1.1, b1⟩ hst) rfl rfl R.s1.1 (by simp) hst
  rw [q1, q3] at L0
  rw [q5, q2, q4] at L1
  have L2 : ∃ out w10 w11 w12, noOwn w11 = true ∧ passI (pf f word rest sizes (am2 f word sizes a) (left2 f word sizes a) ([] ++ [.list (zs (byFirst f sizes (min a sizes.sum)))] ++ [.list (zs (parts f word sizes a))]) 2 (.own (zs (List.replicate (left2 f word sizes a).length 0))) .non .non .non .non) st = some (.nx (pf f word rest sizes (am2 f word sizes a) (left2 f word sizes a) ([] ++ [.list (zs (byFirst f sizes (min a sizes.sum)))] ++ [.list (zs (parts f word sizes a))]) 2 (.own (zs out)) w10 w11 w12 .non), st) ∧ RestIs f word rest sizes a out := by
    by_cases he : rest = "even"
    · obtain ⟨L, _, lv⟩ := full_rounds_ok (st := st) (left2 f word sizes a) (am2 f word sizes a) R.s2 ⟨R.a2.1, b2⟩
      subst he
      exact ⟨_, _, _, _, rfl, pass2e (st := st) f word sizes (am2 f word sizes a) L (left2 f word sizes a) _ .non .non .non .non R.s2 ⟨R.a2.1, b2⟩ lv hst, by unfold RestIs; rw [if_pos rfl]; exact ⟨L, lv, rfl⟩⟩
    · obtain ⟨w10, w11, w12, h11, e⟩ := pass2f (st := st) f word rest sizes (am2 f word sizes a) (left2 f word sizes a) ([] ++ [.list (zs (byFirst f sizes (min a sizes.sum)))] ++ [.list (zs (parts f word sizes a))]) .non .non .non .non h R.l2 he
      exact ⟨_, w10, w11, w12, h11, e, by unfold RestIs; rw [if_neg he]⟩
  obtain ⟨out, w10, w11, w12, h11, e2, ho⟩ := L2
  have L2 := lap_ok (w9 := .dat (.list (zs (parts f word sizes a)))) e2 h11 rfl R.s2.1 (by simp) hst
  refine ⟨out, ?_, ho⟩
  clear e2 q1 q2 q3 q4 q5 ho
  generalize byFirst f sizes (min a sizes.sum) = F1 at *
  generalize parts f word sizes a = F2 at *
  generalize left (left2 f word sizes a) out = Z at *
  have loop : forL (tName 8) passB [.int 0, .int 1, .int 2] [.dat (.tuple [.int f, .str word, .str rest]), .dat (.tuple (zs sizes)), .dat (.int (min a sizes.sum)), .dat (.int f), .dat (.str word), .dat (.str rest), .dat (.list (zs sizes)), .own [], .non, .non, .non, .non, .non, .non] st = some (.nx (pf f word rest sizes (am2 f word sizes a - out.sum) Z ([] ++ [.list (zs F1)] ++ [.list (zs F2)] ++ [.list (zs out)]) 2 (.dat (.list (zs out))) w10 w11 w12 .non), st) := by
    rw [forL_cons (h1 := rfl) (h2 := L0), forL_cons (h1 := rfl) (h2 := L1), forL_cons (h1 := rfl) (h2 := L2)]
    rfl
  have sp : g__law_passes [.dat (.tuple [.int f, .str word, .str rest]), .dat (.tuple (zs sizes)), .dat (.int a)] st = fnEnd st ((fSeq (fAsg (gsTup 3 (gsCons (gsName 3) (gsCons (gsName 4) (gsCons (gsName 5) gsNil)))) (fVar 0))
    (fSeq (fAsg (gsTup 2 (gsCons (gsName 2) (gsCons (gsName 6) gsNil))) (fTup (fCons (fCB gMin (fCons (fVar 2) (fCons (fCB gSum (fCons (fVar 1) fNil)) fNil))) (fCons (fCB gList (fCons (fVar 1) fNil)) fNil))))
    (fSeq (fSetO 7 (fLst fNil))
    (fSeq (fFor (fRange1 (fCon (.int 3))) (tName 8) passB)
    (fRetO 7))))) (frame 14 [.dat (.tuple [.int f, .str word, .str rest]), .dat (.tuple (zs sizes)), .dat (.int a)]) st) := by
    unfold g__law_passes
    rw [fnOf_at (by rfl)]
    rfl
  rw [sp]
  have rg : rangeD 0 3 = [.int 0, .int 1, .int 2] := by rfl
  have gl : gList [.tuple (zs sizes)] = some (.own (zs sizes)) := rfl
  simp only [zs] at loop gl
  simp [frame, hst, sizeLine_eq, gl, rg, loop, flatDs, okI]
theorem law_shared_ok (f a : Int) (word rest : Str) (sizes : List Int) (hf : 0 ≤ f) (h : Sz sizes) (ha : 0 ≤ a) (hst : stFlat st = true) :
    ∃ out, g__law_shared [.dat (.tuple [.int f, .str word, .str rest]), .dat (.tuple (zs sizes)), .dat (.int a)] st = some (.own (zs (add3 (byFirst f sizes (min a sizes.sum)) (parts f word sizes a) out)), st) ∧ RestIs f word rest sizes a out := by
  obtain ⟨out, e, ho⟩ := law_passes_ok (st := st) f a word rest sizes hf h ha hst
  refine ⟨out, ?_, ho⟩
  have R := rows_facts (word := word) hf h ha
  have hl := R.u1.len
  generalize byFirst f sizes (min a sizes.sum) = F1 at *
  generalize parts f word sizes a = F2 at *
  have c := fComp_at (st := st) (st1 := st) (own := [4, 5, 6]) (it := fZip3 true (fOp2 gIx (fVar 3) (fCon (.int 0))) (fOp2 gIx (fVar 3) (fCon (.int 1))) (fOp2 gIx (fVar 3) (fCon (.int 2)))) (tg := tTup 3 (tCons (tName 4) (tCons (tName 5) (tCons (tName 6) tNil)))) (cs := fYes) (el := fOp2 gAdd (fOp2 gAdd (fVar 4) (fVar 5)) (fVar 6))
    (ρ := [.dat (.tuple [.int f, .str word, .str rest]), .dat (.tuple (zs sizes)), .dat (.int a), .dat (.list [.list (zs F1), .list (zs F2), .list (zs out)]), .non, .non, .non]) (ds := zipD3 (zs F1) (zs F2) (zs out))
    (by simp [noOwn]) (by simp [frame]) (by rw [sizeLine_eq, zipD3_len]; simp [zs]; have := h.1; omega)
    (compZ3 (fun x y z => x + y + z) fun p hp => ⟨_, rfl, by simp [frame, wipeF]⟩)
  unfold g__law_shared e__law_shared
  rw [fnOf_at (by rfl)]
  simp only [zs] at c e
  simp [frame, e, c, add3]
end
end Q
end

section
set_option maxRecDepth 100000
set_option maxHeartbeats 4000000
namespace EV
open PySem PySem.Spec PyProof.Rows L2
/-- ints that are shown short -/
def Shy (js : List Int) : Prop := js.length ≤ 1000 ∧ ∀ j ∈ js, 0 ≤ j ∧ j < 10000000000
theorem short_int {i : Int} (h : 0 ≤ i ∧ i < 10000000000) : (PyData.int i).leavesShort 13 = true := by
  have e : (PyData.shown (.int i)).length ≤ 10 := by
    have := toString_length_le (v := i) h.1 (k := 10) (by decide) (by omega)
    simpa [PyData.shown] using this
  simp only [PyData.leavesShort, decide_eq_true_eq]
  omega
theorem shy_all : ∀ {js : List Int}, (∀ j ∈ js, 0 ≤ j ∧ j < 10000000000) → PyData.leavesShortAll 13 (zs js) = true ∧ PyData.showableAll (zs js) = true ∧ PyData.bulkAll (zs js) = js.length
  | [], _ => ⟨rfl, rfl, rfl⟩
  | j :: js, h => by
    have h0 := h j List.mem_cons_self
    obtain ⟨h1, h2, h3⟩ := shy_all (js := js) fun k hk => h k (List.mem_cons_of_mem _ hk)
    have l : j.natAbs.log2 < 64 := log2_lt (by omega) (by decide)
    refine ⟨?_, ?_, ?_⟩
    · show ((PyData.int j).leavesShort 13 && PyData.leavesShortAll 13 (zs js)) = true
      rw [short_int h0, h1]; rfl
    · show ((PyData.int j).showable && PyData.showableAll (zs js)) = true
      rw [h2, Bool.and_true]
      simp only [PyData.showable, decide_eq_true_eq]
      omega
    · show (PyData.int j).bulk + 1 + PyData.bulkAll (zs js) = _
      rw [h3, List.length_cons]
      simp only [PyData.bulk]
      omega
theorem repr_tup {js : List Int} (h : Shy js) : gRepr [.tuple (zs js)] = some (.dat (.str (PyData.tuple (zs js)).shown)) := by
  obtain ⟨h1, h2, h3⟩ := shy_all h.2
  have hl := h.1
  have ok : okShow (.tuple (zs js)) = true := by
    unfold okShow
    rw [Bool.and_eq_true, Bool.and_eq_true]
    refine ⟨⟨shaped_tup js, by simpa only [PyData.showable] using h2⟩, decide_eq_true (PyData.shown_fits_bulk (B := 13) (by decide) (by decide) (by simpa only [PyData.leavesShort] using h1) (by simp only [PyData.bulk]; omega))⟩
  show (if okShow _ = true then _ else _) = _
  rw [if_pos ok]
theorem repr_rows {a b c : List Int} (ha : Shy a) (hb : Shy b) (hc : Shy c) : gRepr [.tuple [.tuple (zs a), .tuple (zs b), .tuple (zs c)]] = some (.dat (.str (PyData.tuple [.tuple (zs a), .tuple (zs b), .tuple (zs c)]).shown)) := by
  obtain ⟨a1, a2, a3⟩ := shy_all ha.2
  obtain ⟨b1, b2, b3⟩ := shy_all hb.2
  obtain ⟨c1, c2, c3⟩ := shy_all hc.2
  have la := ha.1
  have lb := hb.1
  have lc := hc.1
  have ok : okShow (.tuple [.tuple (zs a), .tuple (zs b), .tuple (zs c)]) = true := by
    unfold okShow
    rw [Bool.and_eq_true, Bool.and_eq_true]
    refine ⟨⟨by simp [SeqAt.shaped, PyData.canLay0, PyData.canLayAll0, canLay_ints, PyData.depth, PyData.depthAll, depth_ints'], by simp [PyData.showable, PyData.showableAll, a2, b2, c2]⟩, decide_eq_true (PyData.shown_fits_bulk (B := 13) (by decide) (by decide) (by simp [PyData.leavesShort, PyData.leavesShortAll, a1, b1, c1]) (by simp only [PyData.bulk, PyData.bulkAll]; omega))⟩
  show (if okShow _ = true then _ else _) = _
  rw [if_pos ok]
theorem alike_int (a b : Int) : PySem.W.alike (.int a) (.int b) = true := by simp [PySem.W.alike]
theorem sorted_ints (b : Bool) (js : List Int) : gSorted b [.list (zs js)] = some (.own (zs (js.mergeSort fun x y => cond b (decide (y ≤ x)) (decide (x ≤ y))))) := by
  have ok : sortOk (zs js) = true := by
    unfold sortOk
    rw [Bool.and_eq_true, Bool.and_eq_true, Bool.or_eq_true, List.all_eq_true, List.all_eq_true]
    refine ⟨fun k hk => ?_, fun k hk => ?_, .inr (List.all_eq_true.mpr fun k hk => ?_)⟩
    · obtain ⟨x, _, rfl⟩ := List.mem_map.mp hk
      simp [PyData.canLay0, PyData.depth]
    · obtain ⟨x, _, rfl⟩ := List.mem_map.mp hk
      refine List.all_eq_true.mpr fun k2 hk2 => ?_
      obtain ⟨y, _, rfl⟩ := List.mem_map.mp hk2
      exact alike_int _ _
    · obtain ⟨x, _, rfl⟩ := List.mem_map.mp hk
      rfl
  show (if sortOk _ = true then _ else _) = _
  rw [if_pos ok]
  have m := List.map_mergeSort (r := fun x y : Int => cond b (decide (y ≤ x)) (decide (x ≤ y))) (s := PySem.W.dataLe b (id : PyData → PyData)) (f := PyData.int) (l := js) (fun x _ y _ => by
    cases b with
    | false =>
      have z := congrFun (congrFun (PySem.W.dataLe_int (β := Int) id) x) y
      exact z.symm
    | true =>
      have z := congrFun (congrFun (PySem.W.dataGe_int (β := Int) id) x) y
      exact z.symm)
  rw [← m]
/-- in order it stays -/
theorem sorted_down {js : List Int} (h : js.Pairwise fun x y => y ≤ x) : js.mergeSort (fun x y => decide (y ≤ x)) = js := List.mergeSort_of_pairwise (h.imp fun h => by simpa using h)
end EV
end

section
set_option maxRecDepth 100000
set_option maxHeartbeats 4000000
namespace Q
open PySem PySem.Spec PyProof.Rows L2 EV
/-! what is given: bounds, sums -/
theorem give_sum (L : Int) : ∀ (ls : List Int) (k : Int), 0 ≤ k → k ≤ wants ls L → (give L ls k).sum = lvl ls L + k
  | [], k, h, h2 => by simp [give, lvl, wants] at *; omega
  | l :: ls, k, h, h2 => by
    unfold wants at h2
    unfold give lvl
    by_cases c : L < l
    · rw [List.filter_cons_of_pos (by simpa using c), List.length_cons] at h2
      by_cases c2 : 0 < k
      · rw [if_pos ⟨c2, c⟩]
        have ih := give_sum L ls (k - 1) (by omega) (by unfold wants; omega)
        unfold lvl at ih
        simp only [List.sum_cons, List.map_cons, ih]
        omega
      · rw [if_neg (by omega)]
        have ih := give_sum L ls k h (by unfold wants; omega)
        unfold lvl at ih
        simp only [List.sum_cons, List.map_cons, ih]
        omega
    · rw [List.filter_cons_of_neg (by simpa using c)] at h2
      rw [if_neg (by omega)]
      have ih := give_sum L ls k h (by unfold wants; omega)
      unfold lvl at ih
      simp only [List.sum_cons, List.map_cons, ih]
      omega
theorem give_under {L : Int} (hL : 0 ≤ L) : ∀ {ls : List Int} (k : Int), (∀ j ∈ ls, 0 ≤ j) → Under (give L ls k) ls
  | [], _, _ => .nil
  | l :: ls, k, h => by
    have h0 := h l List.mem_cons_self
    have h1 : ∀ j ∈ ls, 0 ≤ j := fun j hj => h j (List.mem_cons_of_mem _ hj)
    unfold give
    split
    · exact .cons (by omega) (by omega) (give_under hL _ h1)
    · exact .cons (by omega) (by omega) (give_under hL _ h1)
theorem lvl_full {L : Int} : ∀ {ls : List Int}, (∀ j ∈ ls, j ≤ L) → lvl ls L = ls.sum
  | [], _ => rfl
  | l :: ls, h => by
    have h0 := h l List.mem_cons_self
    have ih := lvl_full (ls := ls) fun j hj => h j (List.mem_cons_of_mem _ hj)
    unfold lvl at *
    simp only [List.map_cons, List.sum_cons, ih]
    omega
theorem turns_under {ls : List Int} {a L : Int} (h : ∀ j ∈ ls, 0 ≤ j) (lv : IsLevel ls a L) (ha : a ≤ ls.sum) : Under (byTurns ls a L) ls ∧ (byTurns ls a L).sum = a := by
  rw [byTurns_give]
  refine ⟨give_under lv.nn _ h, ?_⟩
  have h1 := lv.le
  have hw : 0 ≤ wants ls L := by unfold wants; omega
  rw [give_sum L ls _ (by omega) ?_]
  · omega
  · rcases lv.top with t | t
    · have := lvl_full t
      omega
    · rw [lvl_wants] at t
      omega
/-! the filling, place by place -/
theorem sum_set : ∀ (xs : List Int) (i : Nat) (v : Int) (h : i < xs.length), (xs.set i v).sum = xs.sum - xs[i] + v
  | x :: xs, 0, v, _ => by simp only [List.set_cons_zero, List.sum_cons, List.getElem_cons_zero]; omega
  | x :: xs, i + 1, v, h => by
    have ih := sum_set xs i v (by simpa using h)
    simp only [List.set_cons_succ, List.sum_cons, List.getElem_cons_succ, ih]
    omega
theorem under_set {xs ys : List Int} (h : Under xs ys) : ∀ {i : Nat} {v : Int}, 0 ≤ v → v ≤ ys.getD i 0 → Under (xs.set i v) ys := by
  induction h with
  | nil => intro i v _ _; exact .nil
  | cons h1 h2 h3 ih =>
    intro i v h4 h5
    cases i with
    | zero => exact .cons h4 (by simpa using h5) h3
    | succ i => exact .cons h1 h2 (ih h4 (by simpa using h5))
theorem getD_nn {ls : List Int} (h : ∀ j ∈ ls, 0 ≤ j) (i : Nat) : 0 ≤ ls.getD i 0 := by
  rw [List.getD_eq_getElem?_getD]
  cases e : ls[i]? with
  | none => exact Int.le_refl _
  | some v => exact h v (List.mem_of_getElem? e)
theorem fill_bounds (lefts : List Int) (h0 : ∀ j ∈ lefts, 0 ≤ j) : ∀ (xs : List Int) (s : List Int × Int), 0 ≤ s.2 → Under s.1 lefts → Under (xs.foldl (fillStep lefts) s).1 lefts
  | [], s, _, u => u
  | x :: xs, s, h, u => by
    have := getD_nn h0 x.toNat
    exact fill_bounds lefts h0 xs _ (by show 0 ≤ s.2 - min (lefts.getD x.toNat 0) s.2; omega) (under_set u (by omega) (by omega))
theorem fill_fold (lefts : List Int) (h0 : ∀ j ∈ lefts, 0 ≤ j) : ∀ (xs : List Int) (s : List Int × Int), xs.Nodup → (∀ p ∈ xs, ∃ i : Nat, p = i ∧ i < lefts.length) → s.1.length = lefts.length → 0 ≤ s.2 → (∀ p ∈ xs, s.1.getD p.toNat 0 = 0) →
    let s' := xs.foldl (fillStep lefts) s
    s'.1.length = lefts.length ∧ 0 ≤ s'.2 ∧ s'.1.sum + s'.2 = s.1.sum + s.2 ∧ (s'.2 = 0 ∨ ∀ p ∈ xs, s'.1.getD p.toNat 0 = lefts.getD p.toNat 0) ∧ (∀ q : Nat, (q : Int) ∉ xs → s'.1.getD q 0 = s.1.getD q 0)
  | [], s, _, _, hl, hs, _ => ⟨hl, hs, rfl, .inr fun p hp => by simp at hp, fun q _ => rfl⟩
  | x :: xs, s, nd, hx, hl, hs, hz => by
    obtain ⟨i, rfl, hi⟩ := hx x List.mem_cons_self
    obtain ⟨nx, nd⟩ := List.nodup_cons.mp nd
    have hi2 : i < s.1.length := by omega
    have hz0 := hz _ List.mem_cons_self
    have e1 : (fillStep lefts s i).1 = s.1.set i (min (lefts.getD i 0) s.2) := rfl
    have e2 : (fillStep lefts s i).2 = s.2 - min (lefts.getD i 0) s.2 := rfl
    have l0 : 0 ≤ lefts.getD i 0 := by
      rw [List.getD_eq_getElem?_getD, List.getElem?_eq_getElem hi]
      exact h0 _ (List.getElem_mem hi)
    have es : (s.1.set i (min (lefts.getD i 0) s.2)).sum = s.1.sum + min (lefts.getD i 0) s.2 := by
      have : s.1[i] = 0 := by simpa [hi2] using hz0
      rw [sum_set s.1 i _ hi2, this]
      omega
    obtain ⟨f1, f2, f3, f4, f5⟩ := fill_fold lefts h0 xs (fillStep lefts s i) nd (fun p hp => hx p (List.mem_cons_of_mem _ hp)) (by rw [e1]; simpa using hl) (by rw [e2]; omega) (fun p hp => by
      obtain ⟨j, rfl, hj⟩ := hx p (List.mem_cons_of_mem _ hp)
      have hne : i ≠ j := fun e => nx (by rw [e]; exact hp)
      have := hz _ (List.mem_cons_of_mem _ hp)
      rw [e1]
      simp only [Int.toNat_natCast, List.getD_eq_getElem?_getD, List.getElem?_set_ne hne] at this ⊢
      exact this)
    refine ⟨f1, f2, ?_, ?_, fun q hq => ?_⟩
    · rw [List.foldl_cons, f3, e1, e2, es]; omega
    · rw [List.foldl_cons]
      rcases f4 with z | z
      · exact .inl z
      · rcases Int.lt_or_le s.2 (lefts.getD i 0) with c | c
        · refine .inl ?_
          have e3 : (fillStep lefts s i).2 = 0 := by rw [e2]; omega
          have mono : ∀ (ys : List Int) (t : List Int × Int), (∀ p ∈ ys, ∃ i : Nat, p = i ∧ i < lefts.length) → t.2 = 0 → (ys.foldl (fillStep lefts) t).2 = 0 := by
            intro ys
            induction ys with
            | nil => intro t _ h; exact h
            | cons y ys ih =>
              intro t hy ht
              obtain ⟨j, rfl, hj⟩ := hy _ List.mem_cons_self
              have lj : 0 ≤ lefts.getD j 0 := by
                rw [List.getD_eq_getElem?_getD, List.getElem?_eq_getElem hj]
                exact h0 _ (List.getElem_mem hj)
              exact ih _ (fun p hp => hy p (List.mem_cons_of_mem _ hp)) (by show t.2 - min (lefts.getD j 0) t.2 = 0; omega)
          exact mono xs _ (fun p hp => hx p (List.mem_cons_of_mem _ hp)) e3
        · refine .inr fun p hp => ?_
          rcases List.mem_cons.mp hp with rfl | hp
          · have := f5 i nx
            simp only [Int.toNat_natCast]
            rw [this, e1, List.getD_eq_getElem?_getD, List.getElem?_set_self hi2, Option.getD_some]
            omega
          · exact z p hp
    · rw [List.foldl_cons, f5 q fun z => hq (List.mem_cons_of_mem _ z), e1, List.getD_eq_getElem?_getD, List.getElem?_set_ne (fun e => hq (by rw [e]; exact List.mem_cons_self)), ← List.getD_eq_getElem?_getD]
theorem nodup_idx (n : Nat) : (idx n).Nodup := by
  unfold idx
  refine List.Pairwise.map _ (fun a b h e => h (by omega)) List.nodup_range
theorem perm_seq (rest : Str) (sizes : List Int) : (seqOf rest sizes).Perm (idx sizes.length) := by
  unfold seqOf
  split
  · exact List.reverse_perm _
  · split
    · exact List.mergeSort_perm _ _
    · exact .refl _
theorem fill_under {rest : Str} {sizes lefts : List Int} {a : Int} (h : ∀ j ∈ lefts, 0 ≤ j) (hl : lefts.length = sizes.length) (ha : 0 ≤ a) (ha2 : a ≤ lefts.sum) : Under (byFill rest sizes lefts a) lefts ∧ (byFill rest sizes lefts a).sum = a := by
  have u := fill_bounds lefts h (seqOf rest sizes) (List.replicate lefts.length 0, a) ha (under_zero h)
  obtain ⟨f1, f2, f3, f4, _⟩ := fill_fold lefts h (seqOf rest sizes) (List.replicate lefts.length 0, a) ((perm_seq rest sizes).nodup_iff.mpr (nodup_idx _)) (fun p hp => by
    obtain ⟨i, e, hi⟩ := mem_seq hp
    exact ⟨i, e, by omega⟩) (by simp) ha (fun p hp => by
      simp only [List.getD_eq_getElem?_getD, List.getElem?_replicate]
      split <;> rfl)
  refine ⟨u, ?_⟩
  show ((seqOf rest sizes).foldl (fillStep lefts) (List.replicate lefts.length 0, a)).1.sum = a
  have s0 : (List.replicate lefts.length (0 : Int)).sum = 0 := sum_zero _
  generalize (seqOf rest sizes).foldl (fillStep lefts) (List.replicate lefts.length 0, a) = s' at *
  simp only [s0] at f3
  rcases f4 with z | z
  · omega
  · have e : s'.1 = lefts := by
      refine List.ext_getElem f1 fun i h1 h2 => ?_
      have m : (i : Int) ∈ seqOf rest sizes := (perm_seq rest sizes).mem_iff.mpr (by unfold idx; exact List.mem_map.mpr ⟨i, List.mem_range.mpr (by omega), rfl⟩)
      have := z _ m
      simpa [h1, h2] using this
    rw [e] at f3 ⊢
    omega
/-! what is due -/
theorem rest_under {f a : Int} {word rest : Str} {sizes out : List Int} (hf : 0 ≤ f) (h : Sz sizes) (ha : 0 ≤ a) (ho : RestIs f word rest sizes a out) : Under out (left2 f word sizes a) ∧ out.sum = am2 f word sizes a := by
  have R := rows_facts (word := word) hf h ha
  have n2 : ∀ j ∈ left2 f word sizes a, 0 ≤ j := fun j hj => (R.s2.2 j hj).1
  unfold RestIs at ho
  split at ho
  · obtain ⟨L, lv, rfl⟩ := ho
    exact turns_under n2 lv R.a2.2
  · subst ho
    exact fill_under n2 R.l2 R.a2.1 R.a2.2
theorem add3_under : ∀ {as bs cs ys : List Int}, Under as ys → Under bs (left ys as) → Under cs (left (left ys as) bs) → Under (add3 as bs cs) ys ∧ (add3 as bs cs).sum = as.sum + bs.sum + cs.sum
  | _, _, _, _, .nil, .nil, .nil => ⟨.nil, rfl⟩
  | a :: as, b :: bs, c :: cs, y :: ys, .cons a1 a2 a3, .cons b1 b2 b3, .cons c1 c2 c3 => by
    obtain ⟨h1, h2⟩ := add3_under a3 b3 c3
    dsimp only at b2 c2
    refine ⟨.cons (by dsimp only; omega) (by dsimp only; omega) h1, ?_⟩
    unfold add3 at h2 ⊢
    simp only [List.zip_cons_cons, List.map_cons, List.sum_cons, h2]
    omega
theorem due_under {f a : Int} {word rest : Str} {sizes out : List Int} (hf : 0 ≤ f) (h : Sz sizes) (ha : 0 ≤ a) (ho : RestIs f word rest sizes a out) :
    Under (add3 (byFirst f sizes (min a sizes.sum)) (parts f word sizes a) out) sizes ∧ (add3 (byFirst f sizes (min a sizes.sum)) (parts f word sizes a) out).sum = min sizes.sum a := by
  have R := rows_facts (word := word) hf h ha
  obtain ⟨r1, r2⟩ := rest_under hf h ha ho
  obtain ⟨h1, h2⟩ := add3_under R.u1 R.u2 r1
  refine ⟨h1, ?_⟩
  rw [h2, r2]
  unfold am2 am1
  omega
end Q
end

section
set_option maxRecDepth 100000
set_option maxHeartbeats 4000000
namespace Q
open PySem PySem.Spec PyProof.Rows L2 EV
/-! a sharing of nothing ahead and no parts -/
theorem left_zero : ∀ (ys : List Int) (n : Nat), n = ys.length → left ys (List.replicate n 0) = ys
  | [], _, _ => by simp [left]
  | y :: ys, n + 1, h => by
    have ih := left_zero ys n (by simpa using h)
    unfold left at *
    rw [List.replicate_succ, List.zipWith_cons_cons, ih]
    simp
theorem add3_zero : ∀ (out : List Int) (n m : Nat), n = out.length → m = out.length → add3 (List.replicate n 0) (List.replicate m 0) out = out
  | [], _, _, _, _ => by simp [add3]
  | y :: ys, n + 1, m + 1, h, h2 => by
    have ih := add3_zero ys n m (by simpa using h) (by simpa using h2)
    unfold add3 at *
    rw [List.replicate_succ, List.replicate_succ, List.zip_cons_cons, List.zip_cons_cons, List.map_cons, ih]
    simp
theorem first_zero {sizes : List Int} {b : Int} (h : ∀ j ∈ sizes, 0 ≤ j) (hb : 0 ≤ b) : byFirst 0 sizes b = List.replicate sizes.length 0 := by
  cases sizes with
  | nil => rfl
  | cons s r =>
    have := h s List.mem_cons_self
    show min (min 0 s) b :: List.replicate r.length 0 = _
    rw [show min (min 0 s) b = 0 by omega, List.length_cons, List.replicate_succ]
theorem none_first {a : Int} {sizes : List Int} (h : Sz sizes) (ha : 0 ≤ a) : byFirst 0 sizes (min a sizes.sum) = List.replicate sizes.length 0 ∧ left2 0 "none" sizes a = sizes ∧ am2 0 "none" sizes a = min a sizes.sum ∧ parts 0 "none" sizes a = List.replicate sizes.length 0 := by
  have hs := h.sum
  have e1 := first_zero (b := min a sizes.sum) (fun j hj => (h.2 j hj).1) (by omega)
  have e2 : left1 0 sizes a = sizes := by unfold left1; rw [e1]; exact left_zero _ _ rfl
  have e3 : parts 0 "none" sizes a = List.replicate sizes.length 0 := by
    unfold parts
    rw [if_neg (by decide), e2]
  refine ⟨e1, ?_, ?_, e3⟩
  · unfold left2
    rw [e2, e3]; exact left_zero _ _ rfl
  · unfold am2 am1
    rw [e1, e3, sum_zero]
    omega
/-! one behind the other -/
def fillRec : List Int → Int → List Int
  | [], _ => []
  | l :: ls, b => min l b :: fillRec ls (b - min l b)
theorem fill_rec : ∀ (ls pre pl : List Int) (b : Int), pre.length = pl.length → (((List.range' pre.length ls.length).map fun (i : Nat) => (i : Int)).foldl (fillStep (pl ++ ls)) (pre ++ List.replicate ls.length 0, b)).1 = pre ++ fillRec ls b
  | [], pre, pl, b, h => by simp [fillRec]
  | l :: ls, pre, pl, b, h => by
    rw [List.length_cons, List.range'_succ, List.map_cons, List.foldl_cons, List.replicate_succ]
    have e : fillStep (pl ++ l :: ls) (pre ++ 0 :: List.replicate ls.length 0, b) (pre.length : Int) = ((pre ++ [min l b]) ++ List.replicate ls.length 0, b - min l b) := by
      unfold fillStep
      have g : (pl ++ l :: ls).getD pre.length 0 = l := by rw [h]; simp
      simp only [Int.toNat_natCast, g]
      simp
    rw [e]
    have ih := fill_rec ls (pre ++ [min l b]) (pl ++ [l]) (b - min l b) (by simp [h])
    simp only [List.length_append, List.length_singleton, List.append_assoc, List.singleton_append] at ih ⊢
    rw [ih]
    rfl
theorem fill_time (sizes : List Int) (b : Int) : byFill "time" sizes sizes b = fillRec sizes b := by
  have e : seqOf "time" sizes = (List.range' 0 sizes.length).map fun (i : Nat) => (i : Int) := by
    unfold seqOf idx
    rw [if_neg (by decide), if_neg (by decide), List.range_eq_range']
  have := fill_rec sizes [] [] b rfl
  unfold byFill
  rw [e]
  simpa using this
theorem fillRec_len : ∀ (ls : List Int) (b : Int), (fillRec ls b).length = ls.length
  | [], _ => rfl
  | l :: ls, b => by unfold fillRec; simp [fillRec_len ls]
theorem fillRec_nil : ∀ (ls : List Int) (b : Int) (i : Nat), (∀ j ∈ ls, 0 ≤ j) → b ≤ 0 → (fillRec ls b).getD i 0 ≤ 0
  | [], b, i, _, _ => by simp [fillRec]
  | l :: ls, b, 0, _, h => by simp [fillRec]; omega
  | l :: ls, b, i + 1, h0, h => by
    have := h0 l List.mem_cons_self
    unfold fillRec
    rw [List.getD_cons_succ]
    exact fillRec_nil ls _ i (fun j hj => h0 j (List.mem_cons_of_mem _ hj)) (by omega)
theorem fill_full : ∀ (ls : List Int) (b : Int) (i : Nat), (∀ j ∈ ls, 0 ≤ j) → 0 < (fillRec ls b).getD i 0 → ((((fillRec ls b).zip ls).map fun p => decide (p.1 = p.2)).take i).all id = true
  | [], b, i, _, h => by simp [fillRec] at h
  | l :: ls, b, 0, _, h => rfl
  | l :: ls, b, i + 1, h0, h => by
    have hl := h0 l List.mem_cons_self
    unfold fillRec at h ⊢
    rw [List.getD_cons_succ] at h
    have hb : 0 < b - min l b := by
      rcases Int.lt_or_le 0 (b - min l b) with z | z
      · exact z
      · have := fillRec_nil ls _ i (fun j hj => h0 j (List.mem_cons_of_mem _ hj)) z; omega
    have ih := fill_full ls _ i (fun j hj => h0 j (List.mem_cons_of_mem _ hj)) h
    rw [List.zip_cons_cons, List.map_cons, List.take_succ_cons, List.all_cons, ih, Bool.and_true]
    simp only [id, decide_eq_true_eq]
    omega
/-! nearly the same -/
def lefts2 (told sizes : List Int) : List Int := ((told.zip sizes).filter fun p => decide (p.1 < p.2)).map (·.1)
theorem give_left (L : Int) : ∀ (ls : List Int) (k : Int), (∀ x ∈ lefts2 (give L ls k) ls, x = L ∨ x = L + 1) ∧ (lefts2 (give L ls k) ls).Pairwise (fun x y => y ≤ x) ∧ (k ≤ 0 → ∀ x ∈ lefts2 (give L ls k) ls, x = L)
  | [], k => by simp [give, lefts2]
  | l :: ls, k => by
    unfold give
    by_cases c : 0 < k ∧ L < l
    · obtain ⟨h1, h2, _⟩ := give_left L ls (k - 1)
      rw [if_pos c]
      by_cases c2 : L + 1 < l
      · have e : lefts2 ((L + 1) :: give L ls (k - 1)) (l :: ls) = (L + 1) :: lefts2 (give L ls (k - 1)) ls := by simp [lefts2, c2]
        rw [e]
        refine ⟨fun x hx => ?_, .cons (fun y hy => by have := h1 y hy; omega) h2, fun z => by omega⟩
        rcases List.mem_cons.mp hx with rfl | hx
        · exact .inr rfl
        · exact h1 x hx
      · have e : lefts2 ((L + 1) :: give L ls (k - 1)) (l :: ls) = lefts2 (give L ls (k - 1)) ls := by simp [lefts2, c2]
        rw [e]
        exact ⟨h1, h2, fun z => by omega⟩
    · obtain ⟨h1, h2, h3⟩ := give_left L ls k
      rw [if_neg c]
      by_cases c2 : min l L < l
      · have hk : k ≤ 0 := by omega
        have e : lefts2 (min l L :: give L ls k) (l :: ls) = min l L :: lefts2 (give L ls k) ls := by
          unfold lefts2
          rw [List.zip_cons_cons, List.filter_cons_of_pos (by simpa using c2), List.map_cons]
        have e2 : min l L = L := by omega
        rw [e, e2]
        refine ⟨fun x hx => ?_, .cons (fun y hy => by have := h3 hk y hy; omega) h2, fun z x hx => ?_⟩
        · rcases List.mem_cons.mp hx with rfl | hx
          · exact .inl rfl
          · exact h1 x hx
        · rcases List.mem_cons.mp hx with rfl | hx
          · rfl
          · exact h3 hk x hx
      · have e : lefts2 (min l L :: give L ls k) (l :: ls) = lefts2 (give L ls k) ls := by
          unfold lefts2
          rw [List.zip_cons_cons, List.filter_cons_of_neg (by simpa using c2)]
        rw [e]
        exact ⟨h1, h2, h3⟩
theorem give_top (L : Int) : ∀ (ls : List Int) (k : Int), ∀ x ∈ give L ls k, x ≤ L + 1
  | [], k => by simp [give]
  | l :: ls, k => by
    intro x hx
    unfold give at hx
    split at hx
    · rcases List.mem_cons.mp hx with rfl | hx
      · omega
      · exact give_top L ls _ x hx
    · rcases List.mem_cons.mp hx with rfl | hx
      · omega
      · exact give_top L ls _ x hx
/-! one lot more -/
inductive Le : List Int → List Int → Prop where
  | nil : Le [] []
  | cons {x y : Int} {xs ys : List Int} : x ≤ y → Le xs ys → Le (x :: xs) (y :: ys)
theorem Le.refl : ∀ xs : List Int, Le xs xs
  | [] => .nil
  | x :: xs => .cons (Int.le_refl _) (Le.refl xs)
theorem Le.zip {xs ys : List Int} (h : Le xs ys) : ∀ p ∈ xs.zip ys, p.1 ≤ p.2 := by
  induction h with
  | nil => intro p hp; simp at hp
  | cons h1 _ ih =>
    intro p hp
    rcases List.mem_cons.mp hp with rfl | hp
    · exact h1
    · exact ih p hp
theorem Le.add3 : ∀ {a b c a' b' c' : List Int}, Le a a' → Le b b' → Le c c' → Le (add3 a b c) (Q.add3 a' b' c')
  | _, _, _, _, _, _, .nil, _, _ => by simp [Q.add3]; exact .nil
  | _, _, _, _, _, _, .cons _ _, .nil, _ => by simp [Q.add3]; exact .nil
  | _, _, _, _, _, _, .cons _ _, .cons _ _, .nil => by simp [Q.add3]; exact .nil
  | _, _, _, _, _, _, .cons a1 a2, .cons b1 b2, .cons c1 c2 => by
    have ih := Le.add3 a2 b2 c2
    unfold Q.add3 at ih ⊢
    simp only [List.zip_cons_cons, List.map_cons]
    exact .cons (by omega) ih
theorem Le.set {xs ys : List Int} (h : Le xs ys) : ∀ {i : Nat} {v w : Int}, v ≤ w → Le (xs.set i v) (ys.set i w) := by
  induction h with
  | nil => intro i v w _; exact .nil
  | cons h1 h2 ih =>
    intro i v w h
    cases i with
    | zero => exact .cons h h2
    | succ i => exact .cons h1 (ih h)
theorem give_mono (L : Int) : ∀ (ls : List Int) (k : Int), Le (give L ls k) (give L ls (k + 1))
  | [], _ => .nil
  | l :: ls, k => by
    unfold give
    have ih := give_mono L ls k
    have ih2 := give_mono L ls (k - 1)
    by_cases c : 0 < k ∧ L < l
    · rw [if_pos c, if_pos (by omega)]
      rw [show k - 1 + 1 = k + 1 - 1 by omega] at ih2
      exact .cons (Int.le_refl _) ih2
    · rw [if_neg c]
      by_cases c2 : 0 < k + 1 ∧ L < l
      · rw [if_pos c2, show k + 1 - 1 = k by omega]
        exact .cons (by omega) (.refl _)
      · rw [if_neg c2]
        exact .cons (Int.le_refl _) ih
theorem give_next (L : Int) : ∀ (ls : List Int) (k : Int), Le (give L ls k) (ls.map fun l => min l (L + 1))
  | [], _ => .nil
  | l :: ls, k => by
    unfold give
    rw [List.map_cons]
    split
    · exact .cons (by omega) (give_next L ls _)
    · exact .cons (by omega) (give_next L ls _)
theorem turns_mono {ls : List Int} {a L M : Int} (h : IsLevel ls a L) (h2 : IsLevel ls (a + 1) M) : Le (byTurns ls a L) (byTurns ls (a + 1) M) := by
  rw [byTurns_give]
  have hle := h.le
  rcases h.top with t | t
  · rw [← turns_one h2 (M := L) (by omega) (.inl t), give_full _ t, give_full _ t]
    exact .refl _
  · by_cases c : a + 1 < lvl ls (L + 1)
    · rw [← turns_one h2 (M := L) (by omega) (.inr c)]
      have := give_mono L ls (a - lvl ls L)
      rw [show a - lvl ls L + 1 = a + 1 - lvl ls L by omega] at this
      exact this
    · rw [← turns_one h2 (M := L + 1) (by omega) (by
        have lw := lvl_wants ls (L + 1)
        by_cases w : 0 < wants ls (L + 1)
        · exact .inr (by omega)
        · exact .inl (wants_none w)), give_none (L + 1) ls (by omega)]
      exact give_next _ _ _
theorem fill_mono (lefts : List Int) : ∀ (xs : List Int) (s t : List Int × Int), Le s.1 t.1 → s.2 ≤ t.2 → Le (xs.foldl (fillStep lefts) s).1 (xs.foldl (fillStep lefts) t).1
  | [], s, t, h, _ => h
  | x :: xs, s, t, h, h2 => fill_mono lefts xs _ _ (h.set (by omega)) (by show s.2 - min (lefts.getD x.toNat 0) s.2 ≤ t.2 - min (lefts.getD x.toNat 0) t.2; omega)
end Q
end

section
set_option maxRecDepth 100000
set_option maxHeartbeats 4000000
namespace Q
open PySem PySem.Spec PyProof.Rows L2 EV
theorem under_none : ∀ {xs ys : List Int}, Under xs ys → xs.sum = 0 → xs = List.replicate ys.length 0
  | _, _, .nil, _ => rfl
  | x :: xs, y :: ys, .cons h1 h2 h3, h => by
    have := h3.sum
    rw [List.sum_cons] at h
    rw [under_none h3 (by omega), show x = 0 by omega, List.length_cons, List.replicate_succ]
theorem none_rest {f a : Int} {sizes : List Int} (hf : 0 ≤ f) (h : Sz sizes) (ha : 0 ≤ a) : parts f "none" sizes a = List.replicate sizes.length 0 ∧ left2 f "none" sizes a = left1 f sizes a ∧ am2 f "none" sizes a = am1 f sizes a := by
  have R := rows_facts (word := "none") hf h ha
  have e : parts f "none" sizes a = List.replicate sizes.length 0 := by
    unfold parts
    rw [if_neg (by decide), R.l1]
  refine ⟨e, ?_, ?_⟩
  · unfold left2
    rw [e]; exact left_zero _ _ R.l1.symm
  · unfold am2
    rw [e, sum_zero]; omega
theorem due_mono {f a : Int} {rest : Str} {sizes o1 o2 : List Int} (hf : 0 ≤ f) (h : Sz sizes) (ha : 0 ≤ a) (h1 : RestIs f "none" rest sizes a o1) (h2 : RestIs f "none" rest sizes (a + 1) o2) :
    Le (add3 (byFirst f sizes (min a sizes.sum)) (parts f "none" sizes a) o1) (add3 (byFirst f sizes (min (a + 1) sizes.sum)) (parts f "none" sizes (a + 1)) o2) := by
  obtain ⟨p1, p2, p3⟩ := none_rest hf h ha
  obtain ⟨q1, q2, q3⟩ := none_rest (a := a + 1) hf h (by omega)
  have r1 := rest_under hf h ha h1
  have r2 := rest_under hf h (by omega) h2
  have hs := h.sum
  have l1 := r1.1.len
  have l2 := r2.1.len
  have R1 := rows_facts (word := "none") hf h ha
  have R2 := rows_facts (word := "none") hf h (show 0 ≤ a + 1 by omega)
  unfold RestIs at h1 h2
  rw [p2, p3] at h1 r1
  rw [q2, q3] at h2 r2
  rw [p1, q1]
  by_cases e : byFirst f sizes (min a sizes.sum) = byFirst f sizes (min (a + 1) sizes.sum)
  · rw [e]
    refine Le.add3 (.refl _) (.refl _) ?_
    have el : left1 f sizes (a + 1) = left1 f sizes a := by unfold left1; rw [e]
    rw [el] at h2
    rcases Int.lt_or_le a sizes.sum with c | c
    · have ea : am1 f sizes (a + 1) = am1 f sizes a + 1 := by unfold am1; rw [e]; omega
      rw [ea] at h2
      split at h1 <;> rename_i cr
      · rw [if_pos cr] at h2
        obtain ⟨L, lv, rfl⟩ := h1
        obtain ⟨M, lw, rfl⟩ := h2
        exact turns_mono lv lw
      · rw [if_neg cr] at h2
        subst h1
        subst h2
        exact fill_mono _ _ _ _ (.refl _) (by dsimp only; omega)
    · have ea : am1 f sizes (a + 1) = am1 f sizes a := by unfold am1; rw [e]; omega
      rw [ea] at h2
      split at h1 <;> rename_i cr
      · rw [if_pos cr] at h2
        obtain ⟨L, lv, rfl⟩ := h1
        obtain ⟨M, lw, rfl⟩ := h2
        rw [← turns_one lw lv.le lv.top, byTurns_give]
        exact .refl _
      · rw [if_neg cr] at h2
        rw [h1, h2]
        exact .refl _
  · have hx : Le (byFirst f sizes (min a sizes.sum)) (byFirst f sizes (min (a + 1) sizes.sum)) ∧ (byFirst f sizes (min a sizes.sum)).sum = min a sizes.sum ∧ (byFirst f sizes (min (a + 1) sizes.sum)).sum = min (a + 1) sizes.sum := by
      clear r1 r2 h1 h2 R1 R2 p1 p2 p3 q1 q2 q3
      cases sizes with
      | nil => exact absurd rfl e
      | cons s r =>
        generalize (s :: r).sum = S at *
        unfold byFirst at e ⊢
        dsimp only at e ⊢
        have ne : ¬ min (min f s) (min a S) = min (min f s) (min (a + 1) S) := fun z => e (by rw [z])
        refine ⟨.cons (by omega) (.refl _), ?_, ?_⟩
        · rw [List.sum_cons, sum_zero]; omega
        · rw [List.sum_cons, sum_zero]; omega
    have z1 : am1 f sizes a = 0 := by unfold am1; omega
    have z2 : am1 f sizes (a + 1) = 0 := by unfold am1; omega
    rw [under_none r1.1 (by rw [r1.2, z1]), under_none r2.1 (by rw [r2.2, z2]), R1.l1, R2.l1]
    exact Le.add3 hx.1 (.refl _) (.refl _)
/-- no sizes -/
theorem rest_nil {f a : Int} {word rest : Str} {out : List Int} (hf : 0 ≤ f) (ha : 0 ≤ a) (h : RestIs f word rest [] a out) : out = [] := by
  have s : Sz [] := ⟨by simp, by simp⟩
  have R := rows_facts (word := word) hf s ha
  have := (rest_under hf s ha h).1.len
  rw [R.l2] at this
  exact List.eq_nil_of_length_eq_zero this
end Q
end

section
set_option maxRecDepth 100000
set_option maxHeartbeats 4000000
namespace Q
open PySem PySem.Spec PyProof.Rows L2 EV
noncomputable def r51 : FS := (fAsg (gsTup 2 (gsCons (gsName 1) (gsCons (gsName 2) gsNil))) (fTup (fCons (fCall g__law_sharing (fCons (fVar 0) fNil)) (fCons (fCall g__law_of (fCons (fVar 0) (fCons (fLst (fCons (fCon (.int 3)) (fCons (fCon (.int 9)) (fCons (fCon (.int 1000)) (fCons (fOp2 gPow (fCon (.int 10)) (fCon (.int 6))) fNil))))) fNil))) fNil))))
noncomputable def r52 : FS := (fSet 3 (fCall g__law_of (fCons (fVar 0) (fCons (fLst (fCons (fCall g__law_take (fCons (fVar 0) (fCons (fCon (.int 6)) fNil))) (fCons (fCall g__law_take (fCons (fVar 0) (fCons (fCon (.int 6)) fNil))) (fCons (fCall g__law_take (fCons (fVar 0) (fCons (fCon (.int 41)) fNil))) fNil)))) fNil))))
noncomputable def r5c1 : FE := (fComp [13] (fRange1 (fVar 3)) (tName 13) fYes (fOp2 gAdd (fCon (.int 1)) (fCall g__law_take (fCons (fVar 0) (fCons (fVar 2) fNil)))))
noncomputable def r53 : FS := (fSet 4 (fCB gTuple (fCons r5c1 fNil)))
noncomputable def r54 : FS := (fSet 5 (fCB gSum (fCons (fVar 4) fNil)))
noncomputable def r55 : FS := (fSet 6 (fLst (fCons (fCon (.int 0)) (fCons (fCon (.int 1)) (fCons (fVar 5) (fCons (fOp2 gAdd (fVar 5) (fCon (.int 1))) (fCons (fOp2 gPow (fCon (.int 10)) (fCon (.int 9))) (fCons (fCall g__law_take (fCons (fVar 0) (fCons (fOp2 gAdd (fVar 5) (fCon (.int 2))) fNil))) (fCons (fCall g__law_take (fCons (fVar 0) (fCons (fOp2 gAdd (fVar 5) (fCon (.int 2))) fNil))) (fCons (fOp2 gFdiv (fVar 5) (fCon (.int 2))) (fCons (fCB gMax (fCons (fCon (.int 0)) (fCons (fOp2 gSub (fVar 5) (fCon (.int 1))) fNil))) fNil)))))))))))
noncomputable def r56_1 : FS := (fSet 8 (fCall g__law_passes (fCons (fVar 1) (fCons (fVar 4) (fCons (fVar 7) fNil)))))
noncomputable def r56_2 : FS := (fSet 9 (fCB gTuple (fCons (fCall g__law_shared (fCons (fVar 1) (fCons (fVar 4) (fCons (fVar 7) fNil)))) fNil)))
noncomputable def r5c2 : FE := (fComp [14] (fItS true (fVar 8)) (tName 14) fYes (fCB gTuple (fCons (fVar 14) fNil)))
noncomputable def r56_3 : FS := (fIf (fOrT (fTst (fOp2 gNe (fCB gRepr (fCons (fCall g_share_of_5abc (fCons (fVar 1) (fCons (fVar 4) (fCons (fVar 7) fNil)))) fNil)) (fCB gRepr (fCons (fVar 9) fNil)))) (fTst (fOp2 gNe (fCB gRepr (fCons (fCall g_share_rows (fCons (fVar 1) (fCons (fVar 4) (fCons (fVar 7) fNil)))) fNil)) (fCB gRepr (fCons (fCB gTuple (fCons r5c2 fNil)) fNil))))) (fRet (fCon (.bool false))) fNx)
noncomputable def r5c3 : FE := (fComp [15, 16] (fZip true (fVar 9) (fVar 4)) (tTup 2 (tCons (tName 15) (tCons (tName 16) tNil))) fYes (fChain gLe gLe (fCon (.int 0)) (fVar 15) (fVar 16)))
noncomputable def r56_4 : FS := (fIf (fOrT (fTst (fOp2 gNe (fCB gSum (fCons (fVar 9) fNil)) (fCB gMin (fCons (fVar 5) (fCons (fVar 7) fNil))))) (fNotT (fTst (fCB gAll (fCons r5c3 fNil))))) (fRet (fCon (.bool false))) fNx)
noncomputable def r56_5 : FS := (fSet 10 (fCall g_share_of_5abc (fCons (fTup (fCons (fCon (.int 0)) (fCons (fCon (.str "none")) (fCons (fCon (.str "time")) fNil)))) (fCons (fVar 4) (fCons (fVar 7) fNil)))))
noncomputable def r5c4 : FE := (fComp [15, 16] (fZip true (fVar 10) (fVar 4)) (tTup 2 (tCons (tName 15) (tCons (tName 16) tNil))) fYes (fOp2 gEq (fVar 15) (fVar 16)))
noncomputable def r56_6 : FS := (fSet 11 r5c4)
noncomputable def r5c5 : FE := (fComp [17] (fRange1 (fVar 3)) (tName 17) fYes (fAnd (fOp2 gGt (fOp2 gIx (fVar 10) (fVar 17)) (fCon (.int 0))) (fNot (fCB gAll (fCons (fSl (fVar 11) fNo (fPart (fVar 17))) fNil)))))
noncomputable def r56_7 : FS := (fIf (fTst (fCB gAny (fCons r5c5 fNil))) (fRet (fCon (.bool false))) fNx)
noncomputable def r56_8 : FS := (fSet 10 (fCall g_share_of_5abc (fCons (fTup (fCons (fCon (.int 0)) (fCons (fCon (.str "none")) (fCons (fCon (.str "even")) fNil)))) (fCons (fVar 4) (fCons (fVar 7) fNil)))))
noncomputable def r5c6 : FE := (fComp [15, 16] (fZip true (fVar 10) (fVar 4)) (tTup 2 (tCons (tName 15) (tCons (tName 16) tNil))) (fTst (fOp2 gLt (fVar 15) (fVar 16))) (fVar 15))
noncomputable def r56_9 : FS := (fSet 12 r5c6)
noncomputable def r5c7 : FE := (fComp [15] (fItS true (fVar 10)) (tName 15) fYes (fOp2 gGt (fVar 15) (fIte (fTst (fOp2 gNe (fVar 12) (fLst fNil))) (fOp2 gAdd (fOp2 gIx (fVar 12) (fCon (.int 0))) (fCon (.int 1))) (fVar 15))))
noncomputable def r56_10 : FS := (fIf (fOrT (fTst (fOp2 gNe (fVar 12) (fCB (gSorted true) (fCons (fVar 12) fNil)))) (fOrT (fAndT (fTst (fOp2 gNe (fVar 12) (fLst fNil))) (fTst (fOp2 gGt (fOp2 gIx (fVar 12) (fCon (.int 0))) (fOp2 gAdd (fOp2 gIx (fVar 12) (fOp1 gNeg (fCon (.int 1)))) (fCon (.int 1)))))) (fTst (fCB gAny (fCons r5c7 fNil))))) (fRet (fCon (.bool false))) fNx)
noncomputable def r56_B : FS := fSeq r56_1 (fSeq r56_2 (fSeq r56_3 (fSeq r56_4 (fSeq r56_5 (fSeq r56_6 (fSeq r56_7 (fSeq r56_8 (fSeq r56_9 r56_10))))))))
noncomputable def r56 : FS := fFor (fItS false (fVar 6)) (tName 7) r56_B
noncomputable def r57 : FS := (fSet 7 (fCall g__law_take (fCons (fVar 0) (fCons (fOp2 gAdd (fVar 5) (fCon (.int 1))) fNil))))
noncomputable def r5c8 : FE := (fComp [18, 19] (fZip true (fCall g_share_of_5abc (fCons (fVar 1) (fCons (fVar 4) (fCons (fVar 7) fNil)))) (fCall g_share_of_5abc (fCons (fVar 1) (fCons (fVar 4) (fCons (fOp2 gAdd (fVar 7) (fCon (.int 1))) fNil))))) (tTup 2 (tCons (tName 18) (tCons (tName 19) tNil))) fYes (fOp2 gLe (fVar 18) (fVar 19)))
noncomputable def r58 : FS := (fIf (fAndT (fTst (fOp2 gEq (fOp2 gIx (fVar 1) (fCon (.int 1))) (fCon (.str "none")))) (fNotT (fTst (fCB gAll (fCons r5c8 fNil))))) (fRet (fCon (.bool false))) fNx)
noncomputable def r59 : FS := (fRet (fAnd (fOp2 gEq (fCall g_share_of_5abc (fCons (fVar 1) (fCons (fTup fNil) (fCons (fVar 7) fNil)))) (fTup fNil)) (fOp2 gEq (fCall g_share_rows (fCons (fVar 1) (fCons (fTup fNil) (fCons (fVar 7) fNil)))) (fTup (fCons (fTup fNil) (fCons (fTup fNil) (fCons (fTup fNil) fNil)))))))
noncomputable def r5All : FS := fSeq r51 (fSeq r52 (fSeq r53 (fSeq r54 (fSeq r55 (fSeq r56 (fSeq r57 (fSeq r58 r59)))))))
theorem r5_eq : g__law_right_06fe = fnOf 1 20 r5All := rfl
end Q
end

section
set_option maxRecDepth 100000
set_option maxHeartbeats 4000000
namespace EV
open PySem PySem.Spec PyProof.Rows L2
section
variable {ρ : Fr} {st : Sto}
theorem compB2 {tg : TgF} {el : FE} (f : Int → Int → Bool) {as bs : List Int} (h : ∀ p ∈ as.zip bs, ∃ ρ1, tg ρ (.tuple [.int p.1, .int p.2]) = some ρ1 ∧ el ρ1 st = some (.dat (.bool (f p.1 p.2)), st)) : compL tg fYes el ρ (zipD (zs as) (zs bs)) st = some ((as.zip bs).map fun p => .bool (f p.1 p.2), st) := by
  rw [zipD_enc]
  exact compL_encm (tg := tg) (el := el) (ρ := ρ) (st := st) (fun p : Int × Int => .tuple [.int p.1, .int p.2]) (fun p => .bool (f p.1 p.2)) (xs := as.zip bs) fun x hx => let ⟨ρ1, a, b⟩ := h x hx; ⟨ρ1, a, _, b, rfl⟩
theorem compB {tg : TgF} {el : FE} (f : Int → Bool) {as : List Int} (h : ∀ p ∈ as, ∃ ρ1, tg ρ (.int p) = some ρ1 ∧ el ρ1 st = some (.dat (.bool (f p)), st)) : compL tg fYes el ρ (zs as) st = some (as.map fun p => .bool (f p), st) :=
  compL_encm (tg := tg) (el := el) (ρ := ρ) (st := st) PyData.int (fun p => .bool (f p)) (xs := as) fun x hx => let ⟨ρ1, a, b⟩ := h x hx; ⟨ρ1, a, _, b, rfl⟩
end
end EV
namespace Q
open PySem PySem.Spec PyProof.Rows L2 EV
theorem Sz.shy {js : List Int} (h : Sz js) : Shy js := ⟨h.1, fun j hj => by have := h.2 j hj; omega⟩
theorem Under.zip {xs ys : List Int} (h : Under xs ys) : ∀ p ∈ xs.zip ys, 0 ≤ p.1 ∧ p.1 ≤ p.2 := by
  induction h with
  | nil => intro p hp; simp at hp
  | cons h1 h2 _ ih =>
    intro p hp
    rcases List.mem_cons.mp hp with rfl | hp
    · exact ⟨h1, h2⟩
    · exact ih p hp
abbrev rf (m : Nat) (f : Int) (word rest : Str) (top n : Int) (sizes amts : List Int) (w7 w8 w9 w10 w11 w12 : SV) : Fr := [.ref m, .dat (.tuple [.int f, .str word, .str rest]), .dat (.int top), .dat (.int n), .dat (.tuple (zs sizes)), .dat (.int sizes.sum), .dat (.list (zs amts)), w7, w8, w9, w10, w11, w12, .non, .non, .non, .non, .non, .non, .non]
section
variable {st : Sto} {m : Nat} {f a top n : Int} {word rest : Str} {sizes amts out : List Int} {w8 w9 w10 w11 w12 : SV}
abbrev due (f a : Int) (word : Str) (sizes out : List Int) : List Int := add3 (byFirst f sizes (min a sizes.sum)) (parts f word sizes a) out
abbrev rows3 (f a : Int) (word : Str) (sizes out : List Int) : List PyData := [.list (zs (byFirst f sizes (min a sizes.sum))), .list (zs (parts f word sizes a)), .list (zs out)]
theorem t1 (hf : 0 ≤ f ∧ f ≤ 9) (h : Sizes sizes) (ha : 0 ≤ a ∧ a ≤ 1000000000) (hst : stFlat st = true) (ho : RestIs f word rest sizes a out) :
    r56_1 (rf m f word rest top n sizes amts (.dat (.int a)) w8 w9 w10 w11 w12) st = some (.nx (rf m f word rest top n sizes amts (.dat (.int a)) (.dat (.list (rows3 f a word sizes out))) w9 w10 w11 w12), st) := by
  obtain ⟨out', e, ho'⟩ := law_passes_ok (st := st) f a word rest sizes hf.1 h.sz ha.1 hst
  rw [restIs_one ho' ho] at e
  unfold rows3
  generalize byFirst f sizes (min a sizes.sum) = F1 at *
  generalize parts f word sizes a = F2 at *
  unfold r56_1
  simp only [zs] at e
  simp [e]
theorem t2 (hf : 0 ≤ f ∧ f ≤ 9) (h : Sizes sizes) (ha : 0 ≤ a ∧ a ≤ 1000000000) (hst : stFlat st = true) (ho : RestIs f word rest sizes a out) :
    r56_2 (rf m f word rest top n sizes amts (.dat (.int a)) w8 w9 w10 w11 w12) st = some (.nx (rf m f word rest top n sizes amts (.dat (.int a)) w8 (.dat (.tuple (zs (due f a word sizes out)))) w10 w11 w12), st) := by
  obtain ⟨out', e, ho'⟩ := law_shared_ok (st := st) f a word rest sizes hf.1 h.sz ha.1 hst
  rw [restIs_one ho' ho] at e
  unfold due
  generalize add3 (byFirst f sizes (min a sizes.sum)) (parts f word sizes a) out = D at *
  unfold r56_2
  simp only [zs] at e
  simp [e]
theorem t3 (hf : 0 ≤ f ∧ f ≤ 9) (hw : Word word) (hr : Rest rest) (h : Sizes sizes) (ha : 0 ≤ a ∧ a ≤ 1000000000) (hst : stFlat st = true) (ho : RestIs f word rest sizes a out) :
    r56_3 (rf m f word rest top n sizes amts (.dat (.int a)) (.dat (.list (rows3 f a word sizes out))) (.dat (.tuple (zs (due f a word sizes out)))) w10 w11 w12) st = some (.nx (rf m f word rest top n sizes amts (.dat (.int a)) (.dat (.list (rows3 f a word sizes out))) (.dat (.tuple (zs (due f a word sizes out)))) w10 w11 w12), st) := by
  have R := rows_facts (word := word) hf.1 h.sz ha.1
  have y1 := (R.u1.sz h.sz).shy
  have y2 := (R.u2.sz R.s1).shy
  have y3 := ((rest_under hf.1 h.sz ha.1 ho).1.sz R.s2).shy
  have y4 := ((due_under hf.1 h.sz ha.1 ho).1.sz h.sz).shy
  obtain ⟨o1, e1, ho1⟩ := share_of_ok (st := st) f a word rest sizes hf hw hr h ha hst
  obtain ⟨o2, e2, ho2⟩ := share_rows_ok (st := st) f a word rest sizes hf hw hr h ha hst
  rw [restIs_one ho1 ho] at e1
  rw [restIs_one ho2 ho] at e2
  unfold rows3
  have g1 := repr_tup y4
  have g2 := repr_rows y1 y2 y3
  unfold due
  generalize add3 (byFirst f sizes (min a sizes.sum)) (parts f word sizes a) out = D at *
  generalize byFirst f sizes (min a sizes.sum) = F1 at *
  generalize parts f word sizes a = F2 at *
  have c := fComp_at (st := st) (st1 := st) (own := [14]) (it := fItS true (fVar 8)) (tg := tName 14) (cs := fYes) (el := fCB gTuple (fCons (fVar 14) fNil))
    (ρ := rf m f word rest top n sizes amts (.dat (.int a)) (.dat (.list [.list (zs F1), .list (zs F2), .list (zs out)])) (.dat (.tuple (zs D))) w10 w11 w12) (ds := [F1, F2, out].map fun js => .list (zs js))
    (by simp [noOwn]) (by simp) (by rw [sizeLine_eq]; simp)
    (compL_encm (fun js : List Int => .list (zs js)) (fun js => .tuple (zs js)) (xs := [F1, F2, out]) fun x hx => ⟨rf m f word rest top n sizes amts (.dat (.int a)) (.dat (.list [.list (zs F1), .list (zs F2), .list (zs out)])) (.dat (.tuple (zs D))) w10 w11 w12 |>.set 14 (.dat (.list (zs x))), rfl, .dat (.tuple (zs x)), by simp, rfl⟩)
  unfold r56_3 r5c2
  simp only [zs, List.map_cons, List.map_nil] at c e1 e2 g1 g2
  simp [c, e1, e2, g1, g2]
theorem t4 (hf : 0 ≤ f ∧ f ≤ 9) (h : Sizes sizes) (ha : 0 ≤ a ∧ a ≤ 1000000000) (ho : RestIs f word rest sizes a out) :
    r56_4 (rf m f word rest top n sizes amts (.dat (.int a)) w8 (.dat (.tuple (zs (due f a word sizes out)))) w10 w11 w12) st = some (.nx (rf m f word rest top n sizes amts (.dat (.int a)) w8 (.dat (.tuple (zs (due f a word sizes out)))) w10 w11 w12), st) := by
  obtain ⟨u, su⟩ := due_under hf.1 h.sz ha.1 ho
  unfold due
  generalize add3 (byFirst f sizes (min a sizes.sum)) (parts f word sizes a) out = D at *
  have hl := h.1
  have c := fComp_at (st := st) (st1 := st) (own := [15, 16]) (it := fZip true (fVar 9) (fVar 4)) (tg := tTup 2 (tCons (tName 15) (tCons (tName 16) tNil))) (cs := fYes) (el := fChain gLe gLe (fCon (.int 0)) (fVar 15) (fVar 16))
    (ρ := rf m f word rest top n sizes amts (.dat (.int a)) w8 (.dat (.tuple (zs D))) w10 w11 w12) (ds := zipD (zs D) (zs sizes))
    (by simp [noOwn]) (by simp) (by rw [sizeLine_eq, zipD_len]; simp [zs]; omega)
    (compB2 (fun x y => decide (0 ≤ x) && decide (x ≤ y)) fun p hp => ⟨(rf m f word rest top n sizes amts (.dat (.int a)) w8 (.dat (.tuple (zs D))) w10 w11 w12).set 15 (.dat (.int p.1)) |>.set 16 (.dat (.int p.2)), rfl, by by_cases z : 0 ≤ p.1 <;> simp [z]⟩)
  have al : ((D.zip sizes).all fun x => decide (0 ≤ x.1) && decide (x.1 ≤ x.2)) = true := List.all_eq_true.mpr fun p hp => by simp [u.zip p hp]
  unfold r56_4 r5c3
  simp only [zs] at c
  simp [c, su, al]
/-! one behind the other -/
theorem time_due (h : Sizes sizes) (ha : 0 ≤ a ∧ a ≤ 1000000000) (ho : RestIs 0 "none" "time" sizes a out) : due 0 a "none" sizes out = fillRec sizes (min a sizes.sum) := by
  obtain ⟨e1, e2, e3, e4⟩ := none_first h.sz ha.1
  unfold RestIs at ho
  rw [if_neg (by decide), e2, e3, fill_time] at ho
  unfold due
  rw [e1, e4, ho]
  exact add3_zero _ _ _ (fillRec_len _ _).symm (fillRec_len _ _).symm
theorem t5 (h : Sizes sizes) (ha : 0 ≤ a ∧ a ≤ 1000000000) (hst : stFlat st = true) :
    r56_5 (rf m f word rest top n sizes amts (.dat (.int a)) w8 w9 w10 w11 w12) st = some (.nx (rf m f word rest top n sizes amts (.dat (.int a)) w8 w9 (.dat (.tuple (zs (fillRec sizes (min a sizes.sum))))) w11 w12), st) := by
  obtain ⟨o1, e1, ho1⟩ := share_of_ok (st := st) 0 a "none" "time" sizes ⟨by decide, by decide⟩ (.inl rfl) (.inl rfl) h ha hst
  have e2 := time_due h ha ho1
  unfold due at e2
  rw [e2] at e1
  generalize fillRec sizes (min a sizes.sum) = D at *
  unfold r56_5
  simp only [zs] at e1
  simp [e1, sizeLine_eq]
def fulls (told sizes : List Int) : List Bool := (told.zip sizes).map fun p => decide (p.1 = p.2)
theorem t6 (told : List Int) (h : Sizes sizes) : r56_6 (rf m f word rest top n sizes amts (.dat (.int a)) w8 w9 (.dat (.tuple (zs told))) w11 w12) st = some (.nx (rf m f word rest top n sizes amts (.dat (.int a)) w8 w9 (.dat (.tuple (zs told))) (.dat (.list ((fulls told sizes).map .bool))) w12), st) := by
  have hl := h.1
  have c := fComp_at (st := st) (st1 := st) (own := [15, 16]) (it := fZip true (fVar 10) (fVar 4)) (tg := tTup 2 (tCons (tName 15) (tCons (tName 16) tNil))) (cs := fYes) (el := fOp2 gEq (fVar 15) (fVar 16))
    (ρ := rf m f word rest top n sizes amts (.dat (.int a)) w8 w9 (.dat (.tuple (zs told))) w11 w12) (ds := zipD (zs told) (zs sizes))
    (by simp [noOwn]) (by simp) (by rw [sizeLine_eq, zipD_len]; simp [zs]; omega)
    (compB2 (fun x y => decide (x = y)) fun p hp => ⟨(rf m f word rest top n sizes amts (.dat (.int a)) w8 w9 (.dat (.tuple (zs told))) w11 w12).set 15 (.dat (.int p.1)) |>.set 16 (.dat (.int p.2)), rfl, by simp⟩)
  unfold r56_6 r5c4 fulls
  rw [q_set, c, List.map_map]
  rfl
theorem range_enc (n : Nat) : rangeD 0 n = (List.range n).map fun (i : Nat) => PyData.int (i : Int) := by
  unfold rangeD
  simp
theorem t7 (told : List Int) (h : Sizes sizes) (hn : n = sizes.length) (htl : told.length = sizes.length) (ht : ∀ i : Nat, 0 < told.getD i 0 → ((fulls told sizes).take i).all id = true) :
    r56_7 (rf m f word rest top n sizes amts (.dat (.int a)) w8 w9 (.dat (.tuple (zs told))) (.dat (.list ((fulls told sizes).map .bool))) w12) st = some (.nx (rf m f word rest top n sizes amts (.dat (.int a)) w8 w9 (.dat (.tuple (zs told))) (.dat (.list ((fulls told sizes).map .bool))) w12), st) := by
  have hl := h.1
  subst hn
  have c := fComp_at (st := st) (st1 := st) (own := [17]) (it := fRange1 (fVar 3)) (tg := tName 17) (cs := fYes) (el := fAnd (fOp2 gGt (fOp2 gIx (fVar 10) (fVar 17)) (fCon (.int 0))) (fNot (fCB gAll (fCons (fSl (fVar 11) fNo (fPart (fVar 17))) fNil))))
    (ρ := rf m f word rest top sizes.length sizes amts (.dat (.int a)) w8 w9 (.dat (.tuple (zs told))) (.dat (.list ((fulls told sizes).map .bool))) w12) (ds := rangeD 0 sizes.length) (out := (List.range sizes.length).map fun _ => .bool false)
    (by simp [noOwn]) (by simp [rgB_of, show (sizes.length : Int) < 1000000000000 by omega]) (by rw [sizeLine_eq, range_enc]; simp; omega)
    (by
      rw [range_enc]
      refine compL_encm (fun (i : Nat) => PyData.int (i : Int)) (fun _ => .bool false) fun i hi => ?_
      have hi := List.mem_range.mp hi
      have hi2 : i < told.length := by omega
      refine ⟨(rf m f word rest top sizes.length sizes amts (.dat (.int a)) w8 w9 (.dat (.tuple (zs told))) (.dat (.list ((fulls told sizes).map .bool))) w12).set 17 (.dat (.int i)), rfl, .dat (.bool false), ?_, rfl⟩
      have ht := ht i
      have cu := cut_to ((fulls told sizes).map .bool) i
      have ga := q_gAll ((fulls told sizes).take i)
      rw [List.map_take] at ga
      by_cases z : 0 < told[i]
      · have ht := ht (by simpa [hi2] using z)
        rw [ht] at ga
        simp [z, hi2, cu, ga]
      · simp [z, hi2])
  have an : gAny [.list ((List.range sizes.length).map fun _ => PyData.bool false)] = some (.dat (.bool false)) := by
    rw [gAny_mapf]; simp
  unfold r56_7 r5c5
  simp only [zs] at c
  simp [c, an]
end
end Q
end

section
set_option maxRecDepth 100000
set_option maxHeartbeats 4000000
namespace Q
open PySem PySem.Spec PyProof.Rows L2 EV
section
variable {st : Sto} {m : Nat} {f a top n : Int} {word rest : Str} {sizes amts out : List Int} {w8 w9 w10 w11 w12 : SV}
/-! nearly the same -/
theorem even_due (h : Sizes sizes) (ha : 0 ≤ a ∧ a ≤ 1000000000) (ho : RestIs 0 "none" "even" sizes a out) : ∃ L k, due 0 a "none" sizes out = give L sizes k := by
  obtain ⟨e1, e2, e3, e4⟩ := none_first h.sz ha.1
  unfold RestIs at ho
  rw [if_pos rfl, e2, e3] at ho
  obtain ⟨L, lv, rfl⟩ := ho
  refine ⟨L, min a sizes.sum - lvl sizes L, ?_⟩
  unfold due
  rw [e1, e4, byTurns_give]
  exact add3_zero _ _ _ (give_len _ _ _).symm (give_len _ _ _).symm
theorem t8 (h : Sizes sizes) (ha : 0 ≤ a ∧ a ≤ 1000000000) (hst : stFlat st = true) :
    ∃ L k, r56_8 (rf m f word rest top n sizes amts (.dat (.int a)) w8 w9 w10 w11 w12) st = some (.nx (rf m f word rest top n sizes amts (.dat (.int a)) w8 w9 (.dat (.tuple (zs (give L sizes k)))) w11 w12), st) := by
  obtain ⟨o1, e1, ho1⟩ := share_of_ok (st := st) 0 a "none" "even" sizes ⟨by decide, by decide⟩ (.inl rfl) (.inr (.inr (.inr rfl))) h ha hst
  obtain ⟨L, k, e2⟩ := even_due h ha ho1
  refine ⟨L, k, ?_⟩
  unfold due at e2
  rw [e2] at e1
  generalize give L sizes k = D at *
  unfold r56_8
  simp only [zs] at e1
  simp [e1, sizeLine_eq]
theorem t9 (told : List Int) (h : Sizes sizes) : r56_9 (rf m f word rest top n sizes amts (.dat (.int a)) w8 w9 (.dat (.tuple (zs told))) w11 w12) st = some (.nx (rf m f word rest top n sizes amts (.dat (.int a)) w8 w9 (.dat (.tuple (zs told))) w11 (.dat (.list (zs (lefts2 told sizes))))), st) := by
  have hl := h.1
  have c := fComp_at (st := st) (st1 := st) (own := [15, 16]) (it := fZip true (fVar 10) (fVar 4)) (tg := tTup 2 (tCons (tName 15) (tCons (tName 16) tNil))) (cs := fTst (fOp2 gLt (fVar 15) (fVar 16))) (el := fVar 15)
    (ρ := rf m f word rest top n sizes amts (.dat (.int a)) w8 w9 (.dat (.tuple (zs told))) w11 w12) (ds := zipD (zs told) (zs sizes))
    (by simp [noOwn]) (by simp) (by rw [sizeLine_eq, zipD_len]; simp [zs]; omega)
    (by
      rw [zipD_enc]
      exact compL_enc (fun p : Int × Int => .tuple [.int p.1, .int p.2]) (fun p => decide (p.1 < p.2)) (fun p => .int p.1) (xs := told.zip sizes) fun p hp => ⟨(rf m f word rest top n sizes amts (.dat (.int a)) w8 w9 (.dat (.tuple (zs told))) w11 w12).set 15 (.dat (.int p.1)) |>.set 16 (.dat (.int p.2)), rfl, by simp, fun _ => ⟨.dat (.int p.1), by simp, rfl⟩⟩)
  have e : ((told.zip sizes).filter fun p => decide (p.1 < p.2)).map (fun p => PyData.int p.1) = zs (lefts2 told sizes) := by simp [lefts2]
  rw [e] at c
  unfold r56_9 r5c6
  rw [q_set, c]
  rfl
theorem t10 (told lf : List Int) (L : Int) (htl : told.length ≤ 1000) (h1 : ∀ x ∈ lf, x = L ∨ x = L + 1) (h2 : lf.Pairwise fun x y => y ≤ x) (h3 : ∀ x ∈ told, x ≤ L + 1) :
    r56_10 (rf m f word rest top n sizes amts (.dat (.int a)) w8 w9 (.dat (.tuple (zs told))) w11 (.dat (.list (zs lf)))) st = some (.nx (rf m f word rest top n sizes amts (.dat (.int a)) w8 w9 (.dat (.tuple (zs told))) w11 (.dat (.list (zs lf)))), st) := by
  have so := sorted_ints true lf
  have sd := sorted_down h2
  simp only [cond_true] at so
  rw [sd] at so
  have ne := gNe_lst lf lf
  have ne0 := gNe_nil lf
  have c := fComp_at (st := st) (st1 := st) (own := [15]) (it := fItS true (fVar 10)) (tg := tName 15) (cs := fYes) (el := fOp2 gGt (fVar 15) (fIte (fTst (fOp2 gNe (fVar 12) (fLst fNil))) (fOp2 gAdd (fOp2 gIx (fVar 12) (fCon (.int 0))) (fCon (.int 1))) (fVar 15)))
    (ρ := rf m f word rest top n sizes amts (.dat (.int a)) w8 w9 (.dat (.tuple (zs told))) w11 (.dat (.list (zs lf)))) (ds := zs told)
    (by simp [noOwn]) (by simp) (by rw [sizeLine_eq]; simp [zs]; omega)
    (compB (fun _ => false) fun p hp => ⟨(rf m f word rest top n sizes amts (.dat (.int a)) w8 w9 (.dat (.tuple (zs told))) w11 (.dat (.list (zs lf)))).set 15 (.dat (.int p)), rfl, by
      have hp := h3 p hp
      simp only [zs] at ne0
      cases lf with
      | nil => simp at ne0; simp [ne0, sizeLine_eq]
      | cons x r =>
        have := h1 x List.mem_cons_self
        simp at ne0
        simp [ne0, sizeLine_eq]
        omega⟩)
  have an : gAny [.list (told.map fun _ => PyData.bool false)] = some (.dat (.bool false)) := by
    rw [gAny_mapf]; simp
  unfold r56_10 r5c7
  simp only [zs] at c ne ne0 so
  cases lf with
  | nil => simp only [List.map_nil] at c ne0 so; simp at ne0 so; simp [c, an, so, ne0, sizeLine_eq]
  | cons x r =>
    have hx := h1 x List.mem_cons_self
    obtain ⟨y, hy⟩ : ∃ y, (x :: r).getLast? = some y := ⟨_, List.getLast?_eq_some_getLast (by simp)⟩
    have hy2 := h1 y (List.mem_of_getLast? hy)
    simp only [List.map_cons] at c ne ne0 so
    simp at ne ne0 so
    have hg : (PyData.int x :: List.map PyData.int r).getLast? = some (.int y) := by
      have := List.getLast?_map (f := PyData.int) (l := x :: r)
      rw [hy] at this
      exact this
    have hn : ¬ y + 1 < x := by omega
    simp [c, an, so, ne, ne0, hg, hn, sizeLine_eq]
end
end Q
end

section
set_option maxRecDepth 100000
set_option maxHeartbeats 4000000
namespace Q
open PySem PySem.Spec PyProof.Rows L2 EV
section
variable {st : Sto} {m : Nat} {f a top n : Int} {word rest : Str} {sizes amts out : List Int}
theorem body5_ok (w8 w9 w10 w11 w12 : SV) (hf : 0 ≤ f ∧ f ≤ 9) (hw : Word word) (hr : Rest rest) (h : Sizes sizes) (hn : n = sizes.length) (ha : 0 ≤ a ∧ a ≤ 1000000000) (hst : stFlat st = true) :
    ∃ w8' w9' w10' w11' w12', r56_B (rf m f word rest top n sizes amts (.dat (.int a)) w8 w9 w10 w11 w12) st = some (.nx (rf m f word rest top n sizes amts (.dat (.int a)) w8' w9' w10' w11' w12'), st) := by
  obtain ⟨out, _, ho⟩ := law_passes_ok (st := st) f a word rest sizes hf.1 h.sz ha.1 hst
  obtain ⟨L, k, e8⟩ := t8 (m := m) (f := f) (word := word) (rest := rest) (top := top) (n := n) (amts := amts) (w8 := .dat (.list (rows3 f a word sizes out))) (w9 := .dat (.tuple (zs (due f a word sizes out)))) (w10 := .dat (.tuple (zs (fillRec sizes (min a sizes.sum))))) (w11 := .dat (.list ((fulls (fillRec sizes (min a sizes.sum)) sizes).map .bool))) (w12 := w12) h ha hst
  obtain ⟨g1, g2, _⟩ := give_left L sizes k
  have h0 : ∀ j ∈ sizes, 0 ≤ j := fun j hj => by have := h.2 j hj; omega
  have hl := h.1
  refine ⟨.dat (.list (rows3 f a word sizes out)), .dat (.tuple (zs (due f a word sizes out))), .dat (.tuple (zs (give L sizes k))), .dat (.list ((fulls (fillRec sizes (min a sizes.sum)) sizes).map .bool)), .dat (.list (zs (lefts2 (give L sizes k) sizes))), ?_⟩
  unfold r56_B
  rw [q_seq, t1 hf h ha hst ho]
  dsimp only
  rw [q_seq, t2 hf h ha hst ho]
  dsimp only
  rw [q_seq, t3 hf hw hr h ha hst ho]
  dsimp only
  rw [q_seq, t4 hf h ha ho]
  dsimp only
  rw [q_seq, t5 h ha hst]
  dsimp only
  rw [q_seq, t6 _ h]
  dsimp only
  rw [q_seq, t7 _ h hn (fillRec_len _ _) fun i hi => fill_full _ _ _ h0 hi]
  dsimp only
  rw [q_seq, e8]
  dsimp only
  rw [q_seq, t9 _ h]
  dsimp only
  rw [t10 _ _ L (by rw [give_len]; omega) g1 g2 (give_top L sizes k)]
theorem loop5_ok (hf : 0 ≤ f ∧ f ≤ 9) (hw : Word word) (hr : Rest rest) (h : Sizes sizes) (hn : n = sizes.length) (hst : stFlat st = true) : ∀ (as : List Int) (w7 w8 w9 w10 w11 w12 : SV), (∀ a ∈ as, 0 ≤ a ∧ a ≤ 1000000000) →
    ∃ w7' w8' w9' w10' w11' w12', forL (tName 7) r56_B (zs as) (rf m f word rest top n sizes amts w7 w8 w9 w10 w11 w12) st = some (.nx (rf m f word rest top n sizes amts w7' w8' w9' w10' w11' w12'), st)
  | [], w7, w8, w9, w10, w11, w12, _ => ⟨w7, w8, w9, w10, w11, w12, rfl⟩
  | a :: as, w7, w8, w9, w10, w11, w12, ha => by
    obtain ⟨v8, v9, v10, v11, v12, e⟩ := body5_ok (m := m) (top := top) (amts := amts) w8 w9 w10 w11 w12 hf hw hr h hn (ha a List.mem_cons_self) hst
    obtain ⟨u7, u8, u9, u10, u11, u12, e2⟩ := loop5_ok hf hw hr h hn hst as (.dat (.int a)) v8 v9 v10 v11 v12 fun b hb => ha b (List.mem_cons_of_mem _ hb)
    refine ⟨u7, u8, u9, u10, u11, u12, ?_⟩
    show forL _ _ (PyData.int a :: zs as) _ _ = _
    rw [forL_cons (h1 := rfl) (h2 := e)]
    exact e2
/-! the end: one lot more, nothing -/
theorem t58 (w8 w9 w10 w11 w12 : SV) (hf : 0 ≤ f ∧ f ≤ 9) (hw : Word word) (hr : Rest rest) (h : Sizes sizes) (ha : 0 ≤ a ∧ a ≤ 100000000) (hst : stFlat st = true) :
    r58 (rf m f word rest top n sizes amts (.dat (.int a)) w8 w9 w10 w11 w12) st = some (.nx (rf m f word rest top n sizes amts (.dat (.int a)) w8 w9 w10 w11 w12), st) := by
  unfold r58
  by_cases hn : word = "none"
  · subst hn
    obtain ⟨o1, e1, ho1⟩ := share_of_ok (st := st) f a "none" rest sizes hf hw hr h (by omega) hst
    obtain ⟨o2, e2, ho2⟩ := share_of_ok (st := st) f (a + 1) "none" rest sizes hf hw hr h (by omega) hst
    have le := (due_mono hf.1 h.sz ha.1 ho1 ho2).zip
    have dl := (due_under hf.1 h.sz ha.1 ho1).1.len
    generalize add3 (byFirst f sizes (min a sizes.sum)) (parts f "none" sizes a) o1 = D at *
    generalize add3 (byFirst f sizes (min (a + 1) sizes.sum)) (parts f "none" sizes (a + 1)) o2 = E at *
    have hl := h.1
    have c := fComp_at (st := st) (st1 := st) (own := [18, 19]) (it := fZip true (fCall g_share_of_5abc (fCons (fVar 1) (fCons (fVar 4) (fCons (fVar 7) fNil)))) (fCall g_share_of_5abc (fCons (fVar 1) (fCons (fVar 4) (fCons (fOp2 gAdd (fVar 7) (fCon (.int 1))) fNil))))) (tg := tTup 2 (tCons (tName 18) (tCons (tName 19) tNil))) (cs := fYes) (el := fOp2 gLe (fVar 18) (fVar 19))
      (ρ := rf m f "none" rest top n sizes amts (.dat (.int a)) w8 w9 w10 w11 w12) (ds := zipD (zs D) (zs E))
      (by simp [noOwn]) (by simp only [zs] at e1 e2; simp [e1, e2]) (by rw [sizeLine_eq, zipD_len]; simp [zs]; omega)
      (compB2 (fun x y => decide (x ≤ y)) fun p hp => ⟨(rf m f "none" rest top n sizes amts (.dat (.int a)) w8 w9 w10 w11 w12).set 18 (.dat (.int p.1)) |>.set 19 (.dat (.int p.2)), rfl, by simp⟩)
    have al : ((D.zip E).all fun x => decide (x.1 ≤ x.2)) = true := List.all_eq_true.mpr fun p hp => by simp [le p hp]
    unfold r5c8
    simp [c, al]
  · simp [hn]
theorem t59 (w8 w9 w10 w11 w12 : SV) (hf : 0 ≤ f ∧ f ≤ 9) (hw : Word word) (hr : Rest rest) (ha : 0 ≤ a ∧ a ≤ 1000000000) (hst : stFlat st = true) :
    r59 (rf m f word rest top n sizes amts (.dat (.int a)) w8 w9 w10 w11 w12) st = some (.ret (.dat (.bool true)), st) := by
  have hs : Sizes [] := ⟨by simp, by simp⟩
  obtain ⟨o1, e1, ho1⟩ := share_of_ok (st := st) f a word rest [] hf hw hr hs ha hst
  obtain ⟨o2, e2, ho2⟩ := share_rows_ok (st := st) f a word rest [] hf hw hr hs ha hst
  have z1 := rest_nil hf.1 ha.1 ho1
  have z2 := rest_nil hf.1 ha.1 ho2
  subst z1
  subst z2
  have R := rows_facts (word := word) hf.1 hs.sz ha.1
  have p0 : parts f word [] a = [] := List.eq_nil_of_length_eq_zero (by rw [R.u2.len, R.l1]; rfl)
  rw [p0] at e1 e2
  have f0 : byFirst f [] (min a (List.sum [])) = [] := rfl
  rw [f0] at e1 e2
  have a0 : add3 [] [] [] = [] := rfl
  rw [a0] at e1
  have q1 : gEq (.tuple []) (.tuple []) = some (.dat (.bool true)) := by have := gEq_tup [] []; simpa using this
  have q2 : gEq (.tuple [.tuple [], .tuple [], .tuple []]) (.tuple [.tuple [], .tuple [], .tuple []]) = some (.dat (.bool true)) := by
    show (if SeqAt.shaped (.tuple [.tuple [], .tuple [], .tuple []]) = true ∧ SeqAt.shaped (.tuple [.tuple [], .tuple [], .tuple []]) = true then some (dB (PyData.eqv (.tuple [.tuple [], .tuple [], .tuple []]) (.tuple [.tuple [], .tuple [], .tuple []]))) else none) = _
    rw [if_pos ⟨by simp [SeqAt.shaped, PyData.canLay0, PyData.canLayAll0, PyData.depth, PyData.depthAll], by simp [SeqAt.shaped, PyData.canLay0, PyData.canLayAll0, PyData.depth, PyData.depthAll]⟩]
    simp [PyData.eqv, PyData.eqvAll]
  unfold r59
  simp only [zs, List.map_nil] at e1 e2
  simp [e1, e2, q1, q2, sizeLine_eq]
end
/-! the draws at the start -/
theorem law_sharing_ok {st : Sto} {m n l : Nat} (h : Sm m n l st) (hn : n + 3 < 2 ^ 40) : ∃ (f : Int) (word rest : Str) (st' : Sto), g__law_sharing [.ref m] st = some (.dat (.tuple [.int f, .str word, .str rest]), st') ∧ (0 ≤ f ∧ f ≤ 9) ∧ Word word ∧ Rest rest ∧ Sm m (n + 3) l st' := by
  obtain ⟨x1, st1, e1, m1, h1⟩ := of_ok (ds := [.int 0, .int 0, .int 0, .int 1, .int 2, .int 3, .int 9]) h (by omega) (by simp) (by simp)
  obtain ⟨x2, st2, e2, m2, h2⟩ := of_ok (ds := [.str "none", .str "none", .str "parts"]) h1 (by omega) (by simp) (by simp)
  obtain ⟨x3, st3, e3, m3, h3⟩ := of_ok (ds := [.str "time", .str "late", .str "size", .str "even"]) h2 (by omega) (by simp) (by simp)
  obtain ⟨f, rfl, hf⟩ : ∃ f : Int, x1 = .int f ∧ 0 ≤ f ∧ f ≤ 9 := by
    simp at m1
    rcases m1 with rfl | rfl | rfl | rfl | rfl <;> exact ⟨_, rfl, by decide, by decide⟩
  obtain ⟨word, rfl, hw⟩ : ∃ w : Str, x2 = .str w ∧ Word w := by
    simp at m2
    rcases m2 with rfl | rfl
    · exact ⟨_, rfl, .inl rfl⟩
    · exact ⟨_, rfl, .inr rfl⟩
  obtain ⟨rest, rfl, hr⟩ : ∃ w : Str, x3 = .str w ∧ Rest w := by
    simp at m3
    rcases m3 with rfl | rfl | rfl | rfl
    · exact ⟨_, rfl, .inl rfl⟩
    · exact ⟨_, rfl, .inr (.inl rfl)⟩
    · exact ⟨_, rfl, .inr (.inr (.inl rfl))⟩
    · exact ⟨_, rfl, .inr (.inr (.inr rfl))⟩
  refine ⟨f, word, rest, st3, ?_, hf, hw, hr, h3⟩
  have l1 := h1.len
  have l2 := h2.len
  have l3 := h3.len
  have l0 := h.len
  unfold g__law_sharing e__law_sharing
  rw [fnOf_at (by rfl)]
  simp [frame, e1, e2, e3, l0, l1, l2, l3, sizeLine_eq]
  rw [← l3, List.take_length]
end Q
end

section
set_option maxRecDepth 100000
set_option maxHeartbeats 4000000
namespace Q
open PySem PySem.Spec PyProof.Rows L2 EV
theorem p6 : gPow (.int 10) (.int 6) = some (.dat (.int 1000000)) := by
  have a := bits_le (i := 10) (n := 4) (by decide) (by decide)
  rw [q_gPow, if_pos ⟨by decide, Nat.ble_eq_true_of_le (by show Builtin.Int.intBits 10 * 6 ≤ _; omega)⟩]; rfl
theorem p9 : gPow (.int 10) (.int 9) = some (.dat (.int 1000000000)) := by
  have a := bits_le (i := 10) (n := 4) (by decide) (by decide)
  rw [q_gPow, if_pos ⟨by decide, Nat.ble_eq_true_of_le (by show Builtin.Int.intBits 10 * 9 ≤ _; omega)⟩]; rfl
abbrev f0 (m : Nat) (w1 w2 w3 w4 w5 w6 : SV) : Fr := [.ref m, w1, w2, w3, w4, w5, w6, .non, .non, .non, .non, .non, .non, .non, .non, .non, .non, .non, .non, .non]
section
variable {st : Sto} {m c l : Nat}
theorem u1 (h : Sm m c l st) (hc : c + 100 < 2 ^ 40) : ∃ (f : Int) (word rest : Str) (top : Int) (st' : Sto), r51 (f0 m .non .non .non .non .non .non) st = some (.nx (f0 m (.dat (.tuple [.int f, .str word, .str rest])) (.dat (.int top)) .non .non .non .non), st') ∧ (0 ≤ f ∧ f ≤ 9) ∧ Word word ∧ Rest rest ∧ (1 ≤ top ∧ top ≤ 1000000) ∧ Sm m (c + 4) l st' := by
  obtain ⟨f, word, rest, st1, e1, hf, hw, hr, h1⟩ := law_sharing_ok h (by omega)
  obtain ⟨x2, st2, e2, m2, h2⟩ := of_ok (ds := [.int 3, .int 9, .int 1000, .int 1000000]) h1 (by omega) (by simp) (by simp)
  obtain ⟨top, rfl, ht⟩ : ∃ f : Int, x2 = .int f ∧ 1 ≤ f ∧ f ≤ 1000000 := by
    simp at m2
    rcases m2 with rfl | rfl | rfl | rfl <;> exact ⟨_, rfl, by decide, by decide⟩
  refine ⟨f, word, rest, top, st2, ?_, hf, hw, hr, ht, h2⟩
  have l0 := h.len
  have l1 := h1.len
  have l2 := h2.len
  unfold r51
  simp [e1, e2, p6, l0, l1, l2, sizeLine_eq]
theorem u2 {w1 w2 : SV} (h : Sm m c l st) (hc : c + 100 < 2 ^ 40) : ∃ (n : Int) (st' : Sto), r52 (f0 m w1 w2 .non .non .non .non) st = some (.nx (f0 m w1 w2 (.dat (.int n)) .non .non .non), st') ∧ (0 ≤ n ∧ n ≤ 40) ∧ Sm m (c + 4) l st' := by
  obtain ⟨d1, st1, e1, m1, h1⟩ := take_ok (u := 6) h (by omega) (by decide) (by decide)
  obtain ⟨d2, st2, e2, m2, h2⟩ := take_ok (u := 6) h1 (by omega) (by decide) (by decide)
  obtain ⟨d3, st3, e3, m3, h3⟩ := take_ok (u := 41) h2 (by omega) (by decide) (by decide)
  obtain ⟨x, st4, e4, m4, h4⟩ := of_ok (ds := [.int d1, .int d2, .int d3]) h3 (by omega) (by simp) (by simp)
  obtain ⟨n, rfl, hn⟩ : ∃ f : Int, x = .int f ∧ 0 ≤ f ∧ f ≤ 40 := by
    simp at m4
    rcases m4 with rfl | rfl | rfl
    · exact ⟨_, rfl, by omega, by omega⟩
    · exact ⟨_, rfl, by omega, by omega⟩
    · exact ⟨_, rfl, by omega, by omega⟩
  refine ⟨n, st4, ?_, hn, h4⟩
  have l0 := h.len
  have l1 := h1.len
  have l2 := h2.len
  have l3 := h3.len
  have l4 := h4.len
  unfold r52
  simp [e1, e2, e3, e4, l0, l1, l2, l3, l4, sizeLine_eq]
theorem ints_of {P : Int → Prop} : ∀ {ds : List PyData}, (∀ d ∈ ds, ∃ z : Int, d = .int z ∧ P z) → ∃ js : List Int, ds = zs js ∧ ∀ j ∈ js, P j
  | [], _ => ⟨[], rfl, by simp⟩
  | d :: ds, h => by
    obtain ⟨z, rfl, hz⟩ := h d List.mem_cons_self
    obtain ⟨js, rfl, hj⟩ := ints_of (ds := ds) fun e he => h e (List.mem_cons_of_mem _ he)
    exact ⟨z :: js, rfl, fun j hj' => by
      rcases List.mem_cons.mp hj' with rfl | hj'
      · exact hz
      · exact hj j hj'⟩
theorem u3 {w1 : SV} {top n : Int} (h : Sm m c l st) (hc : c + 100 < 2 ^ 40) (ht : 1 ≤ top ∧ top ≤ 1000000) (hn : 0 ≤ n ∧ n ≤ 40) : ∃ (sizes : List Int) (st' : Sto), r53 (f0 m w1 (.dat (.int top)) (.dat (.int n)) .non .non .non) st = some (.nx (f0 m w1 (.dat (.int top)) (.dat (.int n)) (.dat (.tuple (zs sizes))) .non .non), st') ∧ Sizes sizes ∧ n = sizes.length ∧ Sm m (c + 40) l st' := by
  obtain ⟨out, st', g1, g2, g3, g4⟩ := compL_st (tg := tName 13) (el := fOp2 gAdd (fCon (.int 1)) (fCall g__law_take (fCons (fVar 0) (fCons (fVar 2) fNil)))) (ρ := f0 m w1 (.dat (.int top)) (.dat (.int n)) .non .non .non)
    40 (fun i s => Sm m (c + i) l s) (fun _ e => ∃ z : Int, e = .int z ∧ 1 ≤ z ∧ z ≤ 1000000) (ds := rangeD 0 n.toNat) (n := 0) (st := st) h (by rw [rangeD_len]; omega) (fun d hd i s hi hs => by
      obtain ⟨z, s', e1, m1, h1⟩ := take_ok (u := top) hs (by omega) ht.1 (by omega)
      refine ⟨(f0 m w1 (.dat (.int top)) (.dat (.int n)) .non .non .non).set 13 (.dat d), rfl, .dat (.int (1 + z)), .int (1 + z), s', ?_, rfl, ⟨1 + z, rfl, by omega, by omega⟩, h1⟩
      have l0 := hs.len
      have l1 := h1.len
      simp [e1, l0, l1])
  obtain ⟨sizes, rfl, hs⟩ := ints_of (out_all g2 g3 fun _ _ h => h)
  rw [rangeD_len] at g2 g4
  have hl : sizes.length = n.toNat := by simpa using g2
  refine ⟨sizes, st', ?_, ⟨by omega, hs⟩, by omega, g4.mono (by omega)⟩
  have cc := fComp_at (own := [13]) (it := fRange1 (fVar 3)) (ρ := f0 m w1 (.dat (.int top)) (.dat (.int n)) .non .non .non) (st := st) (st1 := st) (by simp [noOwn]) (by simp [rgB_of hn.1 (show n < 1000000000000 by omega)]) (by rw [sizeLine_eq, rangeD_len]; omega) g1
  unfold r53 r5c1
  simp [cc]
theorem u4 {w1 w2 w3 : SV} {sizes : List Int} : r54 (f0 m w1 w2 w3 (.dat (.tuple (zs sizes))) .non .non) st = some (.nx (f0 m w1 w2 w3 (.dat (.tuple (zs sizes))) (.dat (.int sizes.sum)) .non), st) := by
  unfold r54
  simp
theorem Sizes.sum {js : List Int} (h : Sizes js) : 0 ≤ js.sum ∧ js.sum ≤ 40000000 := by
  have := sum_le (js := js) fun j hj => by have := h.2 j hj; omega
  have := h.1
  omega
theorem u5 {w1 w2 w3 w4 : SV} {s : Int} (h : Sm m c l st) (hc : c + 100 < 2 ^ 40) (hs : 0 ≤ s ∧ s ≤ 40000000) : ∃ (amts : List Int) (st' : Sto), r55 (f0 m w1 w2 w3 w4 (.dat (.int s)) .non) st = some (.nx (f0 m w1 w2 w3 w4 (.dat (.int s)) (.dat (.list (zs amts)))), st') ∧ (∀ a ∈ amts, 0 ≤ a ∧ a ≤ 1000000000) ∧ Sm m (c + 2) l st' := by
  obtain ⟨d1, st1, e1, m1, h1⟩ := take_ok (u := s + 2) h (by omega) (by omega) (by omega)
  obtain ⟨d2, st2, e2, m2, h2⟩ := take_ok (u := s + 2) h1 (by omega) (by omega) (by omega)
  refine ⟨[0, 1, s, s + 1, 1000000000, d1, d2, s / 2, max 0 (s - 1)], st2, ?_, ?_, h2⟩
  · have l0 := h.len
    have l1 := h1.len
    have l2 := h2.len
    have l22 : Nat.log2 2 < 9000 := by decide
    unfold r55
    simp [e1, e2, p9, l0, l1, l2, l22, sizeLine_eq]
  · intro a ha
    simp at ha
    omega
theorem u7 {f top n : Int} {word rest : Str} {sizes amts : List Int} (w7 w8 w9 w10 w11 w12 : SV) (h : Sm m c l st) (hc : c + 100 < 2 ^ 40) (hs : Sizes sizes) : ∃ (a : Int) (st' : Sto), r57 (rf m f word rest top n sizes amts w7 w8 w9 w10 w11 w12) st = some (.nx (rf m f word rest top n sizes amts (.dat (.int a)) w8 w9 w10 w11 w12), st') ∧ (0 ≤ a ∧ a ≤ 100000000) ∧ Sm m (c + 1) l st' := by
  have s := hs.sum
  obtain ⟨d1, st1, e1, m1, h1⟩ := take_ok (u := sizes.sum + 1) h (by omega) (by omega) (by omega)
  refine ⟨d1, st1, ?_, by omega, h1⟩
  have l0 := h.len
  have l1 := h1.len
  unfold r57
  simp [e1, l0, l1]
end
theorem law_right5 (m c l : Nat) (st : Sto) (hc : c < 2 ^ 30) (h : Sm m c l st) : ∃ st', g__law_right_06fe [.ref m] st = some (.dat (.bool true), st') ∧ Sm m (c + 51) l st' := by
  obtain ⟨f, word, rest, top, st1, e1, hf, hw, hr, ht, h1⟩ := u1 h (by omega)
  obtain ⟨n, st2, e2, hn, h2⟩ := u2 (w1 := .dat (.tuple [.int f, .str word, .str rest])) (w2 := .dat (.int top)) h1 (by omega)
  obtain ⟨sizes, st3, e3, hs, hn2, h3⟩ := u3 (w1 := .dat (.tuple [.int f, .str word, .str rest])) h2 (by omega) ht hn
  have e4 := u4 (st := st3) (m := m) (w1 := .dat (.tuple [.int f, .str word, .str rest])) (w2 := .dat (.int top)) (w3 := .dat (.int n)) (sizes := sizes)
  obtain ⟨amts, st5, e5, ha, h5⟩ := u5 (w1 := .dat (.tuple [.int f, .str word, .str rest])) (w2 := .dat (.int top)) (w3 := .dat (.int n)) (w4 := .dat (.tuple (zs sizes))) h3 (by omega) hs.sum
  obtain ⟨w7, w8, w9, w10, w11, w12, e6⟩ := loop5_ok (m := m) (top := top) (n := n) (amts := amts) hf hw hr hs hn2 h5.flat amts .non .non .non .non .non .non ha
  obtain ⟨a, st7, e7, ha7, h7⟩ := u7 (f := f) (word := word) (rest := rest) (top := top) (n := n) (sizes := sizes) (amts := amts) w7 w8 w9 w10 w11 w12 h5 (by omega) hs
  have e8 := t58 (m := m) (top := top) (n := n) (amts := amts) w8 w9 w10 w11 w12 hf hw hr hs ha7 h7.flat
  have e9 := t59 (m := m) (top := top) (n := n) (sizes := sizes) (amts := amts) w8 w9 w10 w11 w12 hf hw hr (show 0 ≤ a ∧ a ≤ 1000000000 by omega) h7.flat
  refine ⟨st7, ?_, h7⟩
  rw [r5_eq, fnOf_at (by rfl)]
  have fr : frame 20 [SV.ref m] = f0 m .non .non .non .non .non .non := rfl
  have e6' : r56 (rf m f word rest top n sizes amts .non .non .non .non .non .non) st5 = some (.nx (rf m f word rest top n sizes amts w7 w8 w9 w10 w11 w12), st5) := by
    unfold r56
    rw [q_for]
    exact e6
  rw [fr]
  unfold r5All
  rw [q_seq, e1]
  dsimp only
  rw [q_seq, e2]
  dsimp only
  rw [q_seq, e3]
  dsimp only
  rw [q_seq, e4]
  dsimp only
  rw [q_seq, e5]
  dsimp only
  rw [q_seq, e6']
  dsimp only
  rw [q_seq, e7]
  dsimp only
  rw [q_seq, e8]
  dsimp only
  rw [e9, fnEnd_ret, ← h.len.trans h7.len.symm |>.symm]
  simp
end Q
namespace Lk05
open PySem PySem.Spec PyProof.Rows L2 EV
theorem plain (js : List Int) (h : js.length ≤ 63) (hb : ∀ z ∈ js, Builtin.Int.intBits z ≤ 1048576) : Q.g_law_7264 [.fz (js.map .int)] [] = some (.dat (.bool true), []) :=
  Q.law_ok (right := Q.g__law_right_06fe) (laps := 7) (D := 51) (most := 3) (by decide) (by decide) (by decide) (by decide) Q.law_right5 js (by omega)
end Lk05
end

section
set_option maxRecDepth 100000
set_option maxHeartbeats 4000000
namespace Q
open PySem PySem.Spec PyProof.Rows L2 EV
/-! crowds of single lots: a side, a limit -/
abbrev Bid := Bool × Int
def sd (b : Bool) : Str := if b then "buy" else "sell"
def enc1 (b : Bid) : PyData := .tuple [.str (sd b.1), .int b.2, .int 1]
abbrev enc (c : List Bid) : List PyData := c.map enc1
def at' (c : List Bid) (p : Int) : Bid := c.getD p.toNat (true, 0)
def lim (c : List Bid) (p : Int) : Int := (at' c p).2
def keyOf (c : List Bid) (b : Bool) (p : Int) : Int := if b then -(lim c p) else lim c p
def placesOf (c : List Bid) (b : Bool) : List Int := (idx c.length).filter fun p => (at' c p).1 == b
def before (c : List Bid) (b : Bool) (p q : Int) : Bool := decide (keyOf c b p < keyOf c b q ∨ (keyOf c b p = keyOf c b q ∧ p ≤ q))
def seqs (c : List Bid) (b : Bool) : List Int := (placesOf c b).mergeSort (before c b)
theorem sd_eq (a b : Bool) : (sd a = sd b) ↔ a = b := by cases a <;> cases b <;> simp [sd] <;> decide
theorem sd_buy (b : Bool) : (sd b = "buy") ↔ b = true := by cases b <;> simp [sd] <;> decide
theorem enc_get {c : List Bid} {i : Nat} (h : i < c.length) : (enc c)[i]? = some (enc1 (at' c i)) := by
  simp [at', h]
theorem canLay_str (b : Bool) : (PyData.str (sd b)).canLay0 = true := by cases b <;> decide +kernel
theorem canLay_enc : ∀ c : List Bid, PyData.canLayAll0 (enc c) = true
  | [] => by simp [PyData.canLayAll0]
  | b :: c => by
    show PyData.canLayAll0 (enc1 b :: enc c) = true
    have := canLay_str b.1
    unfold enc1
    rw [PyData.canLayAll0, canLay_enc c, Bool.and_true, PyData.canLay0, PyData.canLayAll0, this, Bool.true_and, PyData.canLayAll0, PyData.canLayAll0]
    simp [PyData.canLay0, PyData.canLayAll0]
section
variable {st : Sto}
theorem places_ok {c : List Bid} (b : Bool) (hl : c.length ≤ 1000) (w2 : SV) :
    fComp [3, 4] (fEnum true (fVar 0)) (tTup 2 (tCons (tName 3) (tCons (tName 4) tNil))) (fTst (fOp2 gEq (fOp2 gIx (fVar 4) (fCon (.int 0))) (fVar 1))) (fVar 3) [.dat (.tuple (enc c)), .dat (.str (sd b)), w2, .non, .non] st = some (.own (zs (placesOf c b)), st) := by
  refine fComp_at (ds := c.zipIdx.map fun p => PyData.tuple [.int (p.2 : Nat), enc1 p.1]) (st1 := st) (by simp [noOwn]) (by simp; exact ⟨by rw [sizeLine_eq]; omega, enumD_enc _ _⟩) (by rw [sizeLine_eq]; simp; omega) ?_
  have := compL_enc (st := st) (tg := tTup 2 (tCons (tName 3) (tCons (tName 4) tNil))) (cs := fTst (fOp2 gEq (fOp2 gIx (fVar 4) (fCon (.int 0))) (fVar 1))) (el := fVar 3) (ρ := [.dat (.tuple (enc c)), .dat (.str (sd b)), w2, .non, .non])
    (fun p : Bid × Nat => PyData.tuple [.int (p.2 : Nat), enc1 p.1]) (fun p => decide (p.1.1 = b)) (fun p => .int (p.2 : Nat)) (xs := c.zipIdx) (fun p hp => by
      refine ⟨[.dat (.tuple (enc c)), .dat (.str (sd b)), w2, .dat (.int p.2), .dat (enc1 p.1)], by rfl, ?_, fun _ => ⟨_, by simp; rfl, rfl⟩⟩
      simp [enc1, sd_eq])
  rw [show wipeF [SV.dat (.tuple (enc c)), .dat (.str (sd b)), w2, .non, .non] [3, 4] = [.dat (.tuple (enc c)), .dat (.str (sd b)), w2, .non, .non] from rfl, this]
  congr 2
  unfold placesOf idx zs
  rw [List.filter_map, List.map_map]
  have : c.zipIdx = (List.range c.length).map fun (i : Nat) => (at' c (i : Int), i) := by
    apply List.ext_getElem?
    intro i
    rw [List.getElem?_zipIdx]
    by_cases h : i < c.length
    · simp [at', h]
    · simp [h]
  rw [this, List.filter_map, List.map_map]
  have e : (fun i : Nat => decide ((at' c i).1 = b)) = fun i : Nat => (at' c (i : Int)).1 == b := by
    funext i
    cases (at' c i).1 <;> cases b <;> rfl
  simp only [Function.comp_def, e]
theorem mem_places {c : List Bid} {b : Bool} {p : Int} (h : p ∈ placesOf c b) : ∃ i : Nat, p = i ∧ i < c.length ∧ (at' c i).1 = b := by
  unfold placesOf at h
  obtain ⟨h1, h2⟩ := List.mem_filter.mp h
  obtain ⟨i, rfl, hi⟩ := mem_idx h1
  exact ⟨i, rfl, hi, by simpa using h2⟩
theorem sort_ok {c : List Bid} (b : Bool) (hl : c.length ≤ 1000) (fk : FE)
    (hk : ∀ x : Nat, x < c.length → fk [.dat (.tuple (enc c)), .dat (.str (sd b)), .dat (.list (zs (placesOf c b))), .dat (.int x), .non] st = some (.dat (.tuple [.int (keyOf c b x), .int x]), st)) :
    fSortK 3 [0, 1] (fVar 2) fk [.dat (.tuple (enc c)), .dat (.str (sd b)), .dat (.list (zs (placesOf c b))), .non, .non] st = some (.own (zs (seqs c b)), st) := by
  have ek : keysL 3 fk [.dat (.tuple (enc c)), .dat (.str (sd b)), .dat (.list (zs (placesOf c b))), .non, .non] st (zs (placesOf c b)) = some ((placesOf c b).map fun p => .tuple [.int (keyOf c b p), .int p]) :=
    keysL_enc PyData.int (fun p => .tuple [.int (keyOf c b p), .int p]) fun x hx => by
      obtain ⟨n, rfl, hn, _⟩ := mem_places hx
      exact ⟨st, hk n hn⟩
  have e1 : (zs (placesOf c b)).all (·.canLay0) = true := by simp [PyData.canLay0]
  have e2 := keys_ii (fun p : Int => keyOf c b p) (fun p => p) (placesOf c b)
  have e3 : [0, 1].all (capOk [.dat (.tuple (enc c)), .dat (.str (sd b)), .dat (.list (zs (placesOf c b))), .non, .non] st) = true := by
    simp [capOk, canLay_str]
    simpa [PyData.canLay0] using canLay_enc c
  unfold fSortK
  rw [q_var, gs_s, gs_s, gs_z]
  dsimp only
  rw [q_asD_dat]
  dsimp only
  rw [ek]
  dsimp only
  rw [if_pos ⟨⟨e1, e2⟩, e3⟩, sortK_ii PyData.int (fun p : Int => keyOf c b p) (fun p => p)]
  rfl
theorem ixI_enc {c : List Bid} {x : Nat} (hx : x < c.length) (hl : c.length ≤ 1000) : gIxI (.tuple (enc c)) (.int (x : Int)) = some (SV.dat (enc1 (at' c x))) := by
  show (if okI (x : Int) = true then (atI (enc c) (x : Int)).map SV.dat else none) = _
  rw [if_pos (okI_of (by omega) (by omega)), EV.atI_nat, enc_get hx]
  rfl
theorem ix_enc {c : List Bid} {x : Nat} (hx : x < c.length) : gIx (.tuple (enc c)) (.int (x : Int)) = some (SV.dat (enc1 (at' c x))) := by
  rw [q_gIxT, EV.atI_nat, enc_get hx]
  rfl
theorem ixI_1 (b : Bid) : gIxI (enc1 b) (.int 1) = some (.dat (.int b.2)) := by
  show (if okI 1 = true then (atI [PyData.str (sd b.1), .int b.2, .int 1] 1).map SV.dat else none) = _
  rw [if_pos (okI_of (by decide) (by decide))]
  rfl
theorem ix_1 (b : Bid) : gIx (enc1 b) (.int 1) = some (.dat (.int b.2)) := rfl
theorem ix_0 (b : Bid) : gIx (enc1 b) (.int 0) = some (.dat (.str (sd b.1))) := rfl
theorem ix_2 (b : Bid) : gIx (enc1 b) (.int 2) = some (.dat (.int 1)) := rfl
theorem in_sequence_ok (c : List Bid) (b : Bool) (hl : c.length ≤ 1000) : g_in_sequence [.dat (.tuple (enc c)), .dat (.str (sd b))] st = some (.own (zs (seqs c b)), st) := by
  have c1 := places_ok (st := st) b hl .non
  have s := sort_ok (st := st) b hl (fTup (fCons (fIte (fTst (fOp2 gEqI (fVar 1) (fCon (.str "buy")))) (fOp2 gSubI (fCon (.int 0)) (fOp2 gIxI (fOp2 gIxI (fVar 0) (fVar 3)) (fCon (.int 1)))) (fOp2 gIxI (fOp2 gIxI (fVar 0) (fVar 3)) (fCon (.int 1)))) (fCons (fVar 3) fNil))) (fun x hx => by
    have e1 := ixI_enc hx hl
    have e2 := ixI_1 (at' c x)
    have e3 : ∀ y : Str, gEqI (.str (sd b)) (.str y) = some (.dat (.bool (decide (sd b = y)))) := fun _ => rfl
    have e4 : ∀ y : Int, gSubI (.int 0) (.int y) = some (.dat (.int (-y))) := fun y => by simp [gSubI]
    cases b <;> simp [e1, e2, e3, e4, sd_buy, keyOf, lim, sizeLine_eq])
  unfold g_in_sequence e_in_sequence
  rw [fnOf_at (by rfl)]
  simp [frame, c1, s]
theorem law_sequence_ok (c : List Bid) (b : Bool) (hl : c.length ≤ 1000) : g__law_sequence [.dat (.tuple (enc c)), .dat (.str (sd b))] st = some (.own (zs (seqs c b)), st) := by
  have c1 := places_ok (st := st) b hl .non
  have s := sort_ok (st := st) b hl (fTup (fCons (fIte (fTst (fOp2 gEqI (fVar 1) (fCon (.str "buy")))) (fOp1 gNeg (fOp2 gIxI (fOp2 gIxI (fVar 0) (fVar 3)) (fCon (.int 1)))) (fOp2 gIxI (fOp2 gIxI (fVar 0) (fVar 3)) (fCon (.int 1)))) (fCons (fVar 3) fNil))) (fun x hx => by
    have e1 := ixI_enc hx hl
    have e2 := ixI_1 (at' c x)
    have e3 : ∀ y : Str, gEqI (.str (sd b)) (.str y) = some (.dat (.bool (decide (sd b = y)))) := fun _ => rfl
    cases b <;> simp [e1, e2, e3, sd_buy, keyOf, lim, sizeLine_eq])
  unfold g__law_sequence e__law_sequence
  rw [fnOf_at (by rfl)]
  simp [frame, c1, s]
end
end Q
end

section
set_option maxRecDepth 100000
set_option maxHeartbeats 4000000
namespace Q
open PySem PySem.Spec PyProof.Rows L2 EV
/-- how many of the first ones fit -/
def fitN : List Int → List Int → Nat
  | b :: bs, s :: ss => if s ≤ b then fitN bs ss + 1 else 0
  | _, _ => 0
theorem fitN_cons (b s : Int) (bs ss : List Int) : fitN (b :: bs) (s :: ss) = if s ≤ b then fitN bs ss + 1 else 0 := rfl
theorem fitN_nil_r (bs : List Int) : fitN bs [] = 0 := by cases bs <;> rfl
theorem fitN_le : ∀ bs ss : List Int, fitN bs ss ≤ bs.length ∧ fitN bs ss ≤ ss.length
  | [], _ => ⟨by simp [fitN], by simp [fitN]⟩
  | b :: bs, [] => ⟨by simp [fitN], by simp [fitN]⟩
  | b :: bs, s :: ss => by
    have := fitN_le bs ss
    rw [fitN_cons]
    split <;> simp <;> omega
theorem fit_drop {vb vs : List Int} {i : Nat} (h1 : i < vb.length) (h2 : i < vs.length) : fitN (vb.drop i) (vs.drop i) = if vs[i] ≤ vb[i] then fitN (vb.drop (i + 1)) (vs.drop (i + 1)) + 1 else 0 := by
  rw [List.drop_eq_getElem_cons h1, List.drop_eq_getElem_cons h2, fitN_cons]
theorem fit_end {vb vs : List Int} {i : Nat} (h : vb.length ≤ i ∨ vs.length ≤ i) : fitN (vb.drop i) (vs.drop i) = 0 := by
  rcases h with h | h
  · rw [List.drop_eq_nil_of_le h]; rfl
  · rw [List.drop_eq_nil_of_le h, fitN_nil_r]
/-- counted at all places -/
theorem fit_count : ∀ {bs ss : List Int}, bs.Pairwise (fun x y => y ≤ x) → ss.Pairwise (fun x y => x ≤ y) → ((bs.zip ss).filter fun p => decide (p.2 ≤ p.1)).length = fitN bs ss
  | [], _, _, _ => rfl
  | b :: bs, [], _, _ => rfl
  | b :: bs, s :: ss, h1, h2 => by
    obtain ⟨b1, b2⟩ := List.pairwise_cons.mp h1
    obtain ⟨s1, s2⟩ := List.pairwise_cons.mp h2
    rw [List.zip_cons_cons, fitN_cons]
    by_cases c : s ≤ b
    · rw [List.filter_cons_of_pos (by simpa using c), if_pos c, List.length_cons, fit_count b2 s2]
    · rw [List.filter_cons_of_neg (by simpa using c), if_neg c, List.filter_eq_nil_iff.mpr fun p hp => ?_]
      · rfl
      · have m1 := b1 _ (List.of_mem_zip hp).1
        have m2 := s1 _ (List.of_mem_zip hp).2
        simp
        omega
theorem seqs_perm (c : List Bid) (b : Bool) : (seqs c b).Perm (placesOf c b) := List.mergeSort_perm _ _
theorem mem_seqs {c : List Bid} {b : Bool} {p : Int} (h : p ∈ seqs c b) : ∃ i : Nat, p = i ∧ i < c.length ∧ (at' c i).1 = b := mem_places ((seqs_perm c b).mem_iff.mp h)
theorem seqs_len (c : List Bid) (b : Bool) : (seqs c b).length ≤ c.length := by
  rw [(seqs_perm c b).length_eq]
  unfold placesOf
  refine Nat.le_trans (List.length_filter_le _ _) ?_
  simp [idx]
theorem seqs_sorted (c : List Bid) (b : Bool) : (seqs c b).Pairwise fun p q => before c b p q = true := by
  refine List.pairwise_mergeSort (fun p q r h1 h2 => ?_) (fun p q => ?_) _
  · unfold before at *
    simp at *
    omega
  · unfold before
    simp
    omega
theorem vals_down (c : List Bid) : ((seqs c true).map (lim c)).Pairwise fun x y => y ≤ x := by
  rw [List.pairwise_map]
  refine (seqs_sorted c true).imp fun h => ?_
  unfold before keyOf at h
  simp at h
  omega
theorem vals_up (c : List Bid) : ((seqs c false).map (lim c)).Pairwise fun x y => x ≤ y := by
  rw [List.pairwise_map]
  refine (seqs_sorted c false).imp fun h => ?_
  unfold before keyOf at h
  simp at h
  omega
/-- how many of a crowd fit -/
def fitC (c : List Bid) : Nat := fitN ((seqs c true).map (lim c)) ((seqs c false).map (lim c))
theorem fitC_le (c : List Bid) : fitC c ≤ (seqs c true).length ∧ fitC c ≤ (seqs c false).length := by
  have := fitN_le ((seqs c true).map (lim c)) ((seqs c false).map (lim c))
  unfold fitC
  simpa using this
section
variable {st : Sto}
theorem ix_seq {c : List Bid} {b : Bool} {i : Nat} (hi : i < (seqs c b).length) : gIx (.tuple (enc c)) (.int (seqs c b)[i]) = some (.dat (enc1 (at' c (seqs c b)[i]))) := by
  obtain ⟨j, e, hj, _⟩ := mem_seqs (List.getElem_mem hi)
  rw [e, ix_enc hj]
theorem fitting_ok (c : List Bid) (hl : c.length ≤ 1000) : g_fitting_many [.dat (.tuple (enc c)), .dat (.list (zs (seqs c true))), .dat (.list (zs (seqs c false)))] st = some (.dat (.int (fitC c)), st) := by
  obtain ⟨ρ', st', f1, f2⟩ := while_inv (c := (fAndT (fTst (fOp2 gLt (fVar 3) (fCB gMin (fCons (fCB gLen (fCons (fVar 1) fNil)) (fCons (fCB gLen (fCons (fVar 2) fNil)) fNil))))) (fTst (fOp2 gGe (fOp2 gIx (fOp2 gIx (fVar 0) (fOp2 gIx (fVar 1) (fVar 3))) (fCon (.int 1))) (fOp2 gIx (fOp2 gIx (fVar 0) (fOp2 gIx (fVar 2) (fVar 3))) (fCon (.int 1))))))) (b := fSet 3 (fOp2 gAdd (fVar 3) (fCon (.int 1))))
    (fun n ρ st2 => st2 = st ∧ ∃ i : Nat, ρ = [.dat (.tuple (enc c)), .dat (.list (zs (seqs c true))), .dat (.list (zs (seqs c false))), .dat (.int i)] ∧ n = fitN (((seqs c true).map (lim c)).drop i) (((seqs c false).map (lim c)).drop i) ∧ i + n = fitC c)
    (fun ρ st2 => st2 = st ∧ ρ = [.dat (.tuple (enc c)), .dat (.list (zs (seqs c true))), .dat (.list (zs (seqs c false))), .dat (.int (fitC c))])
    (fun n ρ st2 hI => by
      obtain ⟨rfl, i, rfl, hn, hs⟩ := hI
      by_cases h1 : i < (seqs c true).length ∧ i < (seqs c false).length
      · obtain ⟨h1, h2⟩ := h1
        rw [fit_drop (by simpa using h1) (by simpa using h2)] at hn
        have e1 := ix_seq h1
        have e2 := ix_seq h2
        simp only [List.getElem_map] at hn
        have hm : (i : Int) < min ((seqs c true).length : Int) ((seqs c false).length : Int) := by omega
        by_cases h3 : lim c (seqs c false)[i] ≤ lim c (seqs c true)[i]
        · rw [if_pos h3] at hn
          refine .inr ⟨?_, [.dat (.tuple (enc c)), .dat (.list (zs (seqs c true))), .dat (.list (zs (seqs c false))), .dat (.int ((i + 1 : Nat) : Int))], st2, _, ?_, ?_, rfl, i + 1, rfl, rfl, by omega⟩
          · unfold lim at h3
            simp [hm, h1, h2, e1, e2, ix_1, h3]
          · omega
          · simp
        · rw [if_neg h3] at hn
          refine .inl ⟨?_, rfl, ?_⟩
          · unfold lim at h3
            simp [hm, h1, h2, e1, e2, ix_1]
            omega
          · rw [show fitC c = i by omega]
      · rw [fit_end (by simp; omega)] at hn
        refine .inl ⟨?_, rfl, ?_⟩
        · have : ¬ ((i : Int) < min ((seqs c true).length : Int) ((seqs c false).length : Int)) := by omega
          simp [this]
        · rw [show fitC c = i by omega])
    (n := fitC c) (ρ := [.dat (.tuple (enc c)), .dat (.list (zs (seqs c true))), .dat (.list (zs (seqs c false))), .dat (.int (0 : Nat))]) (st := st) ⟨rfl, 0, rfl, rfl, by simp⟩
  obtain ⟨rfl, rfl⟩ := f2
  unfold g_fitting_many e_fitting_many
  rw [fnOf_at (by rfl)]
  simp [frame]
  simp at f1
  rw [f1]
  simp
end
end Q
end

section
set_option maxRecDepth 100000
set_option maxHeartbeats 4000000
namespace EV
open PySem PySem.Spec PyProof.Rows L2
section
variable {ρ : Fr} {st : Sto}
@[simp] theorem q_isnot_int (i : Int) : gIsNot (.int i) .none = some (.dat (.bool true)) := id rfl
@[simp] theorem q_isnot_none : gIsNot .none .none = some (.dat (.bool false)) := id rfl
end
end EV
namespace Q
open PySem PySem.Spec PyProof.Rows L2 EV
def Crowd (c : List Bid) : Prop := c.length ≤ 40 ∧ ∀ b ∈ c, 1 ≤ b.2 ∧ b.2 ≤ 50
theorem Crowd.lim {c : List Bid} (h : Crowd c) (p : Int) : 0 ≤ lim c p ∧ lim c p ≤ 50 := by
  unfold Q.lim at'
  rw [List.getD_eq_getElem?_getD]
  cases e : c[p.toNat]? with
  | none => exact ⟨by simp, by simp⟩
  | some b => have := h.2 b (List.mem_of_getElem? e); simp; omega
def srt (xs : List Int) : List Int := xs.mergeSort fun x y => decide (x ≤ y)
/-- what an honest call tells: f the limits, B and S the places in their sequence, k of them fit -/
def mean (f : Int → Int) (B S : List Int) (k : Nat) : Int := f (B.getD k 0) + f (S.getD k 0)
def honL (f : Int → Int) (B S : List Int) (k : Nat) : List Int × List Int × Int × Int :=
  if k = 0 then ([], [], 0, 0)
  else if (k < B.length ∧ k < S.length) ∧ 2 * f (S.getD (k - 1) 0) ≤ mean f B S k ∧ mean f B S k ≤ 2 * f (B.getD (k - 1) 0) then (srt (B.take k), srt (S.take k), mean f B S k, mean f B S k)
  else if k = 1 then ([], [], 0, 0)
  else (srt (B.take (k - 1)), srt (S.take (k - 1)), 2 * f (B.getD (k - 1) 0), 2 * f (S.getD (k - 1) 0))
def hon (c : List Bid) : List Int × List Int × Int × Int := honL (lim c) (seqs c true) (seqs c false) (fitC c)
def encH (h : List Int × List Int × Int × Int) : PyData := .tuple [.tuple (zs h.1), .tuple (zs h.2.1), .int h.2.2.1, .int h.2.2.2]
theorem srt_ok (xs : List Int) : gSorted false [.list (zs xs)] = some (.own (zs (srt xs))) := by
  have := sorted_ints false xs
  simp only [cond_false] at this
  exact this
section
variable {st : Sto}
theorem cut_zs (xs : List Int) (k : Nat) : cutD (zs xs) none (some (k : Int)) = zs (xs.take k) := by
  rw [cut_to, zs, zs, List.map_take]
theorem between_ok (c : List Bid) (k : Nat) : g_between [.dat (.tuple (enc c)), .dat (.list (zs (seqs c true))), .dat (.list (zs (seqs c false))), .dat (.int k)] st = some (if k < (seqs c true).length ∧ k < (seqs c false).length then .dat (.int (mean (lim c) (seqs c true) (seqs c false) k)) else .dat .none, st) := by
  unfold g_between e_between
  rw [fnOf_at (by rfl)]
  by_cases h1 : k < (seqs c true).length
  · by_cases h2 : k < (seqs c false).length
    · have e1 := ix_seq h1
      have e2 := ix_seq h2
      rw [if_pos ⟨h1, h2⟩]
      simp [frame, h1, h2, e1, e2, ix_1, mean, lim, show ¬ (seqs c true).length ≤ k by omega, show ¬ (seqs c false).length ≤ k by omega]
    · rw [if_neg (by omega)]
      simp [frame, h1, h2, show ¬ (seqs c true).length ≤ k by omega, show (seqs c false).length ≤ k by omega]
  · rw [if_neg (by omega)]
    simp [frame, show (seqs c true).length ≤ k by omega]
theorem honest_aux (c : List Bid) (h : Crowd c) (B S : List Int) (k : Nat) (s1 : g_in_sequence [.dat (.tuple (enc c)), .dat (.str "buy")] st = some (.own (zs B), st)) (s2 : g_in_sequence [.dat (.tuple (enc c)), .dat (.str "sell")] st = some (.own (zs S), st))
    (ft : g_fitting_many [.dat (.tuple (enc c)), .dat (.list (zs B)), .dat (.list (zs S))] st = some (.dat (.int k), st))
    (bt : g_between [.dat (.tuple (enc c)), .dat (.list (zs B)), .dat (.list (zs S)), .dat (.int k)] st = some (if k < B.length ∧ k < S.length then .dat (.int (mean (lim c) B S k)) else .dat .none, st)) (k1 : k ≤ B.length) (k2 : k ≤ S.length)
    (e1 : ∀ i (hi : i < B.length), gIx (.tuple (enc c)) (.int B[i]) = some (.dat (enc1 (at' c B[i])))) (e2 : ∀ i (hi : i < S.length), gIx (.tuple (enc c)) (.int S[i]) = some (.dat (enc1 (at' c S[i])))) :
    g_honest_of [.dat (.tuple (enc c))] st = some (.dat (encH (honL (lim c) B S k)), st) := by
  have t1 := srt_ok (B.take k)
  have t2 := srt_ok (S.take k)
  have t3 := srt_ok (B.take (k - 1))
  have t4 := srt_ok (S.take (k - 1))
  have u1 := cut_zs B k
  have u2 := cut_zs S k
  have u3 := cut_zs B (k - 1)
  have u4 := cut_zs S (k - 1)
  have lm := fun p => h.lim p
  have m1 : ∀ p, gMulX (.int 2) (.int (lim c p)) = some (.dat (.int (2 * lim c p))) := fun p => mulx_ok (by decide) (by have := lm p; omega)
  unfold honL
  generalize hM : mean (lim c) B S k = M at *
  generalize B.take k = D1 at *
  generalize S.take k = D2 at *
  generalize B.take (k - 1) = D3 at *
  generalize S.take (k - 1) = D4 at *
  simp only [zs] at s1 s2 ft bt t1 t2 t3 t4 u1 u2 u3 u4
  unfold g_honest_of e_honest_of
  rw [fnOf_at (by rfl)]
  cases k with
  | zero => simp [frame, s1, s2, ft, encH, sizeLine_eq]
  | succ j =>
    have j1 : j < B.length := by omega
    have j2 : j < S.length := by omega
    have a1 := e1 j j1
    have a2 := e2 j j2
    have mb1 : gMulX (.int 2) (.int (at' c B[j]).2) = some (.dat (.int (2 * (at' c B[j]).2))) := m1 B[j]
    have mb2 : gMulX (.int 2) (.int (at' c S[j]).2) = some (.dat (.int (2 * (at' c S[j]).2))) := m1 S[j]
    have jz : ¬ ((j : Int) + 1 = 0) := by omega
    have fin : (∀ i : Int, j = 0 ∨ ¬ (j = 0)) := fun _ => by omega
    simp at u1 u2 u3 u4 ft
    by_cases hf : j + 1 < B.length ∧ j + 1 < S.length
    · rw [if_pos hf] at bt
      simp at bt
      by_cases c1 : 2 * (at' c S[j]).2 ≤ M
      · by_cases c2 : M ≤ 2 * (at' c B[j]).2
        · simp [frame, s1, s2, ft, bt, j1, j2, jz, a1, a2, ix_1, mb1, mb2, c1, c2, u1, u2, t1, t2, hf, encH, lim, sizeLine_eq]
        · by_cases hj : j = 0
          · subst hj; simp at a1 a2 mb1 mb2 ft bt; simp [frame, s1, s2, ft, bt, j1, j2, jz, a1, a2, ix_1, mb1, mb2, c1, c2, hf, encH, lim, sizeLine_eq]
          · simp [frame, s1, s2, ft, bt, j1, j2, jz, hj, show ¬ ((j : Int) + 1 = 1) by omega, a1, a2, ix_1, mb1, mb2, c1, c2, u3, u4, t3, t4, hf, encH, lim, sizeLine_eq]
      · by_cases hj : j = 0
        · subst hj; simp at a1 a2 mb1 mb2 ft bt; simp [frame, s1, s2, ft, bt, j1, j2, jz, a1, a2, ix_1, mb1, mb2, c1, hf, encH, lim, sizeLine_eq]
        · simp [frame, s1, s2, ft, bt, j1, j2, jz, hj, show ¬ ((j : Int) + 1 = 1) by omega, a1, a2, ix_1, mb1, mb2, c1, u3, u4, t3, t4, hf, encH, lim, sizeLine_eq]
    · rw [if_neg hf] at bt
      simp at bt
      by_cases hj : j = 0
      · subst hj; simp at a1 a2 mb1 mb2 ft bt; simp [frame, s1, s2, ft, bt, j1, j2, jz, a1, a2, ix_1, mb1, mb2, hf, encH, lim, sizeLine_eq]
      · simp [frame, s1, s2, ft, bt, j1, j2, jz, hj, show ¬ ((j : Int) + 1 = 1) by omega, a1, a2, ix_1, mb1, mb2, u3, u4, t3, t4, hf, encH, lim, sizeLine_eq]
end
end Q
end

section
set_option maxRecDepth 100000
set_option maxHeartbeats 4000000
namespace Q
open PySem PySem.Spec PyProof.Rows L2 EV
section
variable {st : Sto}
theorem honest_of_ok (c : List Bid) (h : Crowd c) : g_honest_of [.dat (.tuple (enc c))] st = some (.dat (encH (hon c)), st) := by
  have hl : c.length ≤ 1000 := by have := h.1; omega
  obtain ⟨k1, k2⟩ := fitC_le c
  exact honest_aux c h _ _ _ (in_sequence_ok (st := st) c true hl) (in_sequence_ok (st := st) c false hl) (fitting_ok (st := st) c hl) (between_ok (st := st) c (fitC c)) k1 k2 (fun i hi => ix_seq hi) (fun i hi => ix_seq hi)
theorem count_fit (c : List Bid) : (((seqs c true).zip (seqs c false)).filter fun p => decide (lim c p.2 ≤ lim c p.1)).length = fitC c := by
  have e := fit_count (vals_down c) (vals_up c)
  rw [List.zip_map, List.filter_map, List.length_map] at e
  exact e
theorem law_honest_ok (c : List Bid) (h : Crowd c) : g__law_honest [.dat (.tuple (enc c))] st = some (.dat (encH (hon c)), st) := by
  have hl : c.length ≤ 1000 := by have := h.1; omega
  obtain ⟨k1, k2⟩ := fitC_le c
  have s1 := law_sequence_ok (st := st) c true hl
  have s2 := law_sequence_ok (st := st) c false hl
  have e1 := fun i (hi : i < (seqs c true).length) => ix_seq (c := c) (b := true) hi
  have e2 := fun i (hi : i < (seqs c false).length) => ix_seq (c := c) (b := false) hi
  have mB : ∀ p ∈ seqs c true, gIx (.tuple (enc c)) (.int p) = some (.dat (enc1 (at' c p))) := fun p hp => by
    obtain ⟨i, rfl, hi, _⟩ := mem_seqs hp
    exact ix_enc hi
  have mS : ∀ p ∈ seqs c false, gIx (.tuple (enc c)) (.int p) = some (.dat (enc1 (at' c p))) := fun p hp => by
    obtain ⟨i, rfl, hi, _⟩ := mem_seqs hp
    exact ix_enc hi
  have lB := seqs_len c true
  have lS := seqs_len c false
  have cf := count_fit c
  have lm := fun p => h.lim p
  have m1 : ∀ p, gMulX (.int 2) (.int (lim c p)) = some (.dat (.int (2 * lim c p))) := fun p => mulx_ok (by decide) (by have := lm p; omega)
  unfold hon
  rw [show sd true = "buy" from rfl] at s1
  rw [show sd false = "sell" from rfl] at s2
  generalize seqs c true = B at *
  generalize seqs c false = S at *
  generalize fitC c = k at *
  have t1 := srt_ok (B.take k)
  have t2 := srt_ok (S.take k)
  have t3 := srt_ok (B.take (k - 1))
  have t4 := srt_ok (S.take (k - 1))
  have u1 := cut_zs B k
  have u2 := cut_zs S k
  have u3 := cut_zs B (k - 1)
  have u4 := cut_zs S (k - 1)
  have cc := fComp_at (st := st) (st1 := st) (own := [7, 8]) (it := fZip true (fVar 1) (fVar 2)) (tg := tTup 2 (tCons (tName 7) (tCons (tName 8) tNil))) (cs := fTst (fOp2 gGe (fOp2 gIx (fOp2 gIx (fVar 0) (fVar 7)) (fCon (.int 1))) (fOp2 gIx (fOp2 gIx (fVar 0) (fVar 8)) (fCon (.int 1))))) (el := fCon (.int 1))
    (ρ := [.dat (.tuple (enc c)), .dat (.list (zs B)), .dat (.list (zs S)), .non, .non, .non, .non, .non, .non]) (ds := zipD (zs B) (zs S)) (out := ((B.zip S).filter fun p => decide (lim c p.2 ≤ lim c p.1)).map fun _ => .int 1)
    (by simp [noOwn]) (by simp) (by rw [sizeLine_eq, zipD_len]; simp [zs]; omega)
    (by
      rw [zipD_enc]
      refine compL_enc (fun p : Int × Int => .tuple [.int p.1, .int p.2]) (fun p => decide (lim c p.2 ≤ lim c p.1)) (fun _ => .int 1) (xs := B.zip S) fun p hp => ?_
      have a1 := mB p.1 (List.of_mem_zip hp).1
      have a2 := mS p.2 (List.of_mem_zip hp).2
      exact ⟨[.dat (.tuple (enc c)), .dat (.list (zs B)), .dat (.list (zs S)), .non, .non, .non, .non, .dat (.int p.1), .dat (.int p.2)], rfl, by simp [a1, a2, ix_1]; rfl, fun _ => ⟨.dat (.int 1), by simp, rfl⟩⟩)
  generalize hO : ((B.zip S).filter fun p => decide (lim c p.2 ≤ lim c p.1)).map (fun _ => PyData.int 1) = O at *
  have lO : O.length = k := by rw [← hO, List.length_map]; exact cf
  unfold honL
  have hM : mean (lim c) B S k = (at' c (B.getD k 0)).2 + (at' c (S.getD k 0)).2 := rfl
  generalize B.take k = D1 at *
  generalize S.take k = D2 at *
  generalize B.take (k - 1) = D3 at *
  generalize S.take (k - 1) = D4 at *
  simp only [zs] at s1 s2 t1 t2 t3 t4 u1 u2 u3 u4 cc
  unfold g__law_honest e__law_honest
  rw [fnOf_at (by rfl)]
  cases k with
  | zero => simp [frame, s1, s2, cc, lO, encH, sizeLine_eq]
  | succ j =>
    have j1 : j < B.length := by omega
    have j2 : j < S.length := by omega
    have a1 := e1 j j1
    have a2 := e2 j j2
    have mb1 : gMulX (.int 2) (.int (at' c B[j]).2) = some (.dat (.int (2 * (at' c B[j]).2))) := m1 B[j]
    have mb2 : gMulX (.int 2) (.int (at' c S[j]).2) = some (.dat (.int (2 * (at' c S[j]).2))) := m1 S[j]
    have jz : ¬ ((j : Int) + 1 = 0) := by omega
    simp at u1 u2 u3 u4
    by_cases hf : j + 1 < B.length ∧ j + 1 < S.length
    · have b1 := e1 (j + 1) hf.1
      have b2 := e2 (j + 1) hf.2
      have hf' : (j : Int) + 1 < min (B.length : Int) (S.length : Int) := by omega
      simp [hf] at hM
      rw [hM]
      have g1 : (B.map PyData.int)[(j : Int) + 1 |>.toNat]? = some (.int B[j + 1]) := by simp [show ((j : Int) + 1).toNat = j + 1 by omega, hf]
      have h1 : atI (B.map PyData.int) ((j : Int) + 1) = some (.int B[j + 1]) := by
        have := EV.atI_nat (B.map PyData.int) (j + 1)
        rw [show ((j + 1 : Nat) : Int) = (j : Int) + 1 by omega] at this
        rw [this]; simp [hf]
      have h2 : atI (S.map PyData.int) ((j : Int) + 1) = some (.int S[j + 1]) := by
        have := EV.atI_nat (S.map PyData.int) (j + 1)
        rw [show ((j + 1 : Nat) : Int) = (j : Int) + 1 by omega] at this
        rw [this]; simp [hf]
      by_cases c1 : 2 * (at' c S[j]).2 ≤ (at' c B[j + 1]).2 + (at' c S[j + 1]).2
      · by_cases c2 : (at' c B[j + 1]).2 + (at' c S[j + 1]).2 ≤ 2 * (at' c B[j]).2
        · simp [frame, s1, s2, cc, lO, j1, j2, jz, a1, a2, b1, b2, h1, h2, hf', ix_1, mb1, mb2, c1, c2, u1, u2, t1, t2, hf, encH, lim, sizeLine_eq]
        · by_cases hj : j = 0
          · subst hj; simp at a1 a2 b1 b2 h1 h2 hf' mb1 mb2 u1 u2 u3 u4; simp [frame, s1, s2, cc, lO, j1, j2, jz, a1, a2, b1, b2, h1, h2, hf', ix_1, mb1, mb2, c1, c2, hf, encH, lim, sizeLine_eq]
          · simp [frame, s1, s2, cc, lO, j1, j2, jz, hj, show ¬ ((j : Int) + 1 = 1) by omega, a1, a2, b1, b2, h1, h2, hf', ix_1, mb1, mb2, c1, c2, u3, u4, t3, t4, hf, encH, lim, sizeLine_eq]
      · by_cases hj : j = 0
        · subst hj; simp at a1 a2 b1 b2 h1 h2 hf' mb1 mb2 u1 u2 u3 u4; simp [frame, s1, s2, cc, lO, j1, j2, jz, a1, a2, b1, b2, h1, h2, hf', ix_1, mb1, mb2, c1, hf, encH, lim, sizeLine_eq]
        · simp [frame, s1, s2, cc, lO, j1, j2, jz, hj, show ¬ ((j : Int) + 1 = 1) by omega, a1, a2, b1, b2, h1, h2, hf', ix_1, mb1, mb2, c1, u3, u4, t3, t4, hf, encH, lim, sizeLine_eq]
    · have hf' : ¬ ((j : Int) + 1 < min (B.length : Int) (S.length : Int)) := by omega
      by_cases hj : j = 0
      · subst hj; have hf2 : ¬ ((1 : Int) < min (B.length : Int) (S.length : Int)) := by omega
        simp at a1 a2 mb1 mb2; simp [frame, s1, s2, cc, lO, j1, j2, jz, a1, a2, ix_1, mb1, mb2, hf2, encH, lim, sizeLine_eq]; rw [if_neg (fun z => hf ⟨z.1.1, z.1.2⟩)]; exact ⟨rfl, rfl, rfl, rfl⟩
      · simp [frame, s1, s2, cc, lO, j1, j2, jz, hj, show ¬ ((j : Int) + 1 = 1) by omega, a1, a2, ix_1, mb1, mb2, u3, u4, t3, t4, hf, hf', encH, lim, sizeLine_eq]
end
end Q
end

section
set_option maxRecDepth 100000
set_option maxHeartbeats 4000000
namespace EV
open PySem PySem.Spec PyProof.Rows L2
section
variable {ρ : Fr} {st : Sto}
theorem cut_from1 (ds : List PyData) (k : Nat) : cutD ds (some ((k : Int) + 1)) none = ds.drop (k + 1) := by
  have := cut_from ds (k + 1)
  rw [show ((k + 1 : Nat) : Int) = (k : Int) + 1 by omega] at this
  exact this
theorem gIn_int (x : Int) (xs : List Int) : gIn (.int x) (.tuple (zs xs)) = some (.dat (.bool (xs.contains x))) := by
  have h : (zs xs).all flat0 = true := by simp [flat0]
  show (if flat0 (.int x) = true ∧ (zs xs).all flat0 = true then some (dB ((zs xs).any fun y => PyData.eqv y (.int x))) else none) = _
  rw [if_pos ⟨rfl, h⟩]
  have e : (zs xs).any (fun y => PyData.eqv y (.int x)) = xs.contains x := by
    rw [List.any_map, List.contains_eq_any_beq]
    congr 1
    funext y
    simp [PyData.eqv, Bool.beq_comm]
  rw [e]; rfl
end
end EV
namespace Q
open PySem PySem.Spec PyProof.Rows L2 EV
section
variable {st : Sto}
theorem is_bid_ok (b : Bid) (h : 1 ≤ b.2 ∧ b.2 ≤ 50) : g_is_bid_fc57 [.dat (enc1 b)] st = some (.dat (.bool true), st) := by
  have e1 := is_tuple_of_tup (st := st) [.str (sd b.1), .int b.2, .int 1] 3
  have e2 := is_between_int (st := st) b.2 1 50
  have e3 := is_between_int (st := st) 1 1 1000
  have e4 := is_word_str (st := st) (sd b.1) ["buy", "sell"]
  have w1 : (["buy", "sell"] : List Str).contains (sd b.1) = true := by cases b.1 <;> decide
  rw [w1] at e4
  simp only [List.map_cons, List.map_nil] at e4
  simp [h] at e1 e2 e3
  unfold g_is_bid_fc57 e_is_bid_fc57
  rw [fnOf_at (by rfl)]
  simp [frame, enc1, e1, e2, e3, e4]
theorem is_crowd_ok (c : List Bid) (h : Crowd c) : g_is_crowd_e08a [.dat (.tuple (enc c))] st = some (.dat (.bool true), st) := by
  have hl := h.1
  have k := fComp_at (st := st) (st1 := st) (own := [1]) (it := fItS true (fVar 0)) (tg := tName 1) (cs := fYes) (el := fCall g_is_bid_fc57 (fCons (fVar 1) fNil))
    (ρ := [.dat (.tuple (enc c)), .non]) (ds := enc c) (by simp [noOwn]) (by simp) (by rw [sizeLine_eq]; simp; omega)
    (compL_encm enc1 (fun _ => .bool true) (xs := c) fun b hb => ⟨[.dat (.tuple (enc c)), .dat (enc1 b)], rfl, .dat (.bool true), by have e := is_bid_ok (st := st) b (h.2 b hb); simp [e], rfl⟩)
  have al : gAll [.list (c.map fun _ => PyData.bool true)] = some (.dat (.bool true)) := by rw [gAll_mapf]; simp
  unfold g_is_crowd_e08a e_is_crowd_e08a
  rw [fnOf_at (by rfl)]
  simp [frame, isT, k, al, show (c.length : Int) ≤ 40 by omega]
theorem check_crowd_ok (c : List Bid) (h : Crowd c) : g_check_crowd_cdc6 [.dat (.tuple (enc c))] st = some (.dat .none, st) := by
  have e := is_crowd_ok (st := st) c h
  unfold g_check_crowd_cdc6 e_check_crowd_cdc6
  rw [fnOf_at (by rfl)]
  simp [frame, e]
theorem check_single_ok (c : List Bid) (h : Crowd c) : g_check_single_03cf [.dat (.tuple (enc c))] st = some (.dat .none, st) := by
  have hl := h.1
  have e := check_crowd_ok (st := st) c h
  obtain ⟨ρ', st', f1, f2⟩ := forL_fold (σ := Unit) (tg := tTup 2 (tCons (tName 1) (tCons (tName 2) tNil))) (b := fIf (fTst (fOp2 gNe (fOp2 gIx (fVar 2) (fCon (.int 2))) (fCon (.int 1)))) fNever fNx)
    (fun p : Bid × Nat => PyData.tuple [.int (p.2 : Nat), enc1 p.1]) (fun _ ρ st2 => st2 = st ∧ ∃ w1 w2 : SV, ρ = [.dat (.tuple (enc c)), w1, w2]) (fun _ _ => ()) (xs := c.zipIdx) (s := ()) (ρ := [.dat (.tuple (enc c)), .non, .non]) (st := st)
    ⟨rfl, .non, .non, rfl⟩ (fun p hp s ρ st2 hR => by
      obtain ⟨rfl, w1, w2, rfl⟩ := hR
      exact ⟨[.dat (.tuple (enc c)), .dat (.int p.2), .dat (enc1 p.1)], rfl, [.dat (.tuple (enc c)), .dat (.int p.2), .dat (enc1 p.1)], st2, by simp [ix_2], rfl, _, _, rfl⟩)
  obtain ⟨rfl, w1, w2, rfl⟩ := f2
  have en : enumD (enc c) = c.zipIdx.map fun p : Bid × Nat => PyData.tuple [.int (p.2 : Nat), enc1 p.1] := enumD_enc _ _
  unfold g_check_single_03cf e_check_single_03cf
  rw [fnOf_at (by rfl)]
  simp [frame, e, en, f1, sizeLine_eq, show c.length + 2 ≤ 16777216 by omega]
theorem check_bid_ok (c : List Bid) (h : Crowd c) (p : Nat) (hp : p < c.length) : g_check_bid_8058 [.dat (.tuple (enc c)), .dat (.int p)] st = some (.dat .none, st) := by
  have e := check_single_ok (st := st) c h
  have e2 := is_between_int (st := st) p 0 ((c.length : Int) - 1)
  simp [show (p : Int) ≤ (c.length : Int) - 1 by omega] at e2
  unfold g_check_bid_8058 e_check_bid_8058
  rw [fnOf_at (by rfl)]
  simp [frame, e, e2]
theorem honest_told_ok (c : List Bid) (h : Crowd c) : g_honest_told_4abf [.dat (.tuple (enc c))] st = some (.dat (encH (hon c)), st) := by
  have e := check_single_ok (st := st) c h
  have e2 := honest_of_ok (st := st) c h
  unfold g_honest_told_4abf e_honest_told_4abf
  rw [fnOf_at (by rfl)]
  simp [frame, e, e2]
theorem left_over_ok (c : List Bid) (h : Crowd c) (hb : (hon c).1.length ≤ 1000) (hb2 : 0 ≤ (hon c).2.2.1 ∧ (hon c).2.2.1 ≤ 1000 ∧ 0 ≤ (hon c).2.2.2 ∧ (hon c).2.2.2 ≤ 1000) : g_left_over_bf0b [.dat (.tuple (enc c))] st = some (.dat (.int ((hon c).1.length * ((hon c).2.2.1 - (hon c).2.2.2))), st) := by
  have e := check_single_ok (st := st) c h
  have e2 := honest_of_ok (st := st) c h
  have m : gMulX (.int ((hon c).1.length : Int)) (.int ((hon c).2.2.1 - (hon c).2.2.2)) = _ := mulx_ok (by omega) (by omega)
  unfold encH at e2
  unfold g_left_over_bf0b e_left_over_bf0b
  rw [fnOf_at (by rfl)]
  simp [frame, e, e2, m]
/-! another limit told -/
def tell (c : List Bid) (p : Nat) (r : Int) : List Bid := c.set p ((at' c p).1, r)
theorem tell_eq {c : List Bid} {p : Nat} (hp : p < c.length) (r : Int) : c.take p ++ ((at' c p).1, r) :: c.drop (p + 1) = tell c p r := by
  unfold tell
  rw [List.set_eq_take_append_cons_drop, if_pos hp]
theorem tell_crowd {c : List Bid} (h : Crowd c) {p : Nat} {r : Int} (hr : 1 ≤ r ∧ r ≤ 50) : Crowd (tell c p r) := by
  refine ⟨by simpa [tell] using h.1, fun b hb => ?_⟩
  rcases List.mem_or_eq_of_mem_set hb with z | rfl
  · exact h.2 b z
  · exact hr
def hgain (c : List Bid) (p : Nat) (r : Int) : Int :=
  if (at' c p).1 = true then (if (hon (tell c p r)).1.contains (p : Int) then 2 * (at' c p).2 - (hon (tell c p r)).2.2.1 else 0)
  else (if (hon (tell c p r)).2.1.contains (p : Int) then (hon (tell c p r)).2.2.2 - 2 * (at' c p).2 else 0)
theorem enc_tell {c : List Bid} {p : Nat} (hp : p < c.length) (r : Int) : (enc c).take p ++ .tuple [.str (sd (at' c p).1), .int r, .int 1] :: (enc c).drop (p + 1) = enc (tell c p r) := by
  rw [← tell_eq hp r]
  simp [enc1]
theorem honest_gain_ok (c : List Bid) (h : Crowd c) (p : Nat) (hp : p < c.length) (r : Int) (hr : 1 ≤ r ∧ r ≤ 50) : g_honest_gain [.dat (.tuple (enc c)), .dat (.int p), .dat (.int r)] st = some (.dat (.int (hgain c p r)), st) := by
  have hl := h.1
  have e1 := ix_enc hp
  have c1 := cut_to (enc c) p
  have c2 := cut_from1 (enc c) p
  have et := enc_tell hp r
  have e2 := honest_of_ok (st := st) (tell c p r) (tell_crowd h hr)
  have lm := h.lim p
  have m : gMulX (.int 2) (.int (at' c p).2) = some (.dat (.int (2 * (at' c p).2))) := mulx_ok (by decide) (by unfold lim at lm; omega)
  have i1 := gIn_int p (hon (tell c p r)).1
  have i2 := gIn_int p (hon (tell c p r)).2.1
  have lt : ((enc c).take p).length ≤ 40 := by simp; omega
  have lu : ((enc c).drop (p + 1)).length ≤ 40 := by simp; omega
  have le : (enc (tell c p r)).length ≤ 40 := by simp [tell]; omega
  unfold encH at e2
  unfold hgain
  generalize hon (tell c p r) = H at *
  obtain ⟨HB, HS, HP, HG⟩ := H
  generalize (enc c).take p = T at *
  generalize (enc c).drop (p + 1) = U at *
  generalize enc (tell c p r) = E at *
  have ed : escDs (T.map SV.dat ++ SV.dat (.tuple [.str (sd (at' c p).1), .int r, .int 1]) :: U.map SV.dat) = some E := by
    rw [← et, ← escDs_dat]
    simp
  generalize enc c = C at *
  unfold g_honest_gain e_honest_gain
  rw [fnOf_at (by rfl)]
  have le2 : E.length ≤ 16777216 := by omega
  have hs : decide (sd (at' c p).1 = "buy") = (at' c p).1 := by cases (at' c p).1 <;> decide
  generalize at' c p = b at *
  obtain ⟨b1, b2⟩ := b
  simp only [enc1] at e1
  simp at lm m e2 i1 i2 hs ed
  cases b1 with
  | true =>
    have hs : sd true = "buy" := rfl
    rw [hs] at e1 ed
    by_cases i : (p : Int) ∈ HB
    · simp [i] at i1
      simp [frame, e1, c1, c2, ed, e2, i1, i, m, hs, le2, sizeLine_eq]
    · simp [i] at i1
      simp [frame, e1, c1, c2, ed, e2, i1, i, m, hs, le2, sizeLine_eq]
  | false =>
    have hs : sd false = "sell" := rfl
    have sb : ¬ (("sell" : Str) = "buy") := by decide
    rw [hs] at e1 ed
    by_cases i : (p : Int) ∈ HS
    · simp [i] at i2
      simp [frame, e1, c1, c2, ed, e2, i2, i, m, hs, sb, le2, sizeLine_eq]
    · simp [i] at i2
      simp [frame, e1, c1, c2, ed, e2, i2, i, m, hs, sb, le2, sizeLine_eq]
@[simp] theorem q_rg2 {ρ : Fr} (a b : FE) : fRange2 a b ρ st = (match a ρ st with | some (w, st1) => (match b ρ st1 with | some (u, st2) => (match asD st2 w, asD st2 u with | some (.int i), some (.int j) => if okI i = true ∧ okI j = true then some (rangeD i (j - i).toNat, st2) else none | _, _ => none) | none => none) | none => none) := id rfl
/-- the fifty limits -/
def limits : List Int := (List.range 50).map fun (i : Nat) => 1 + (i : Int)
theorem mem_limits {r : Int} (h : r ∈ limits) : 1 ≤ r ∧ r ≤ 50 := by
  unfold limits at h
  obtain ⟨i, hi, rfl⟩ := List.mem_map.mp h
  have := List.mem_range.mp hi
  omega
theorem range50 : rangeD 1 50 = zs limits := by
  unfold rangeD limits zs
  rw [List.map_map]; rfl
theorem gains_by_ok (c : List Bid) (h : Crowd c) (p : Nat) (hp : p < c.length) : g_gains_by_30bb [.dat (.tuple (enc c)), .dat (.int p)] st = some (.dat (.tuple (zs (limits.map (hgain c p)))), st) := by
  have e := check_bid_ok (st := st) c h p hp
  have o1 : okI 1 = true := okI_of (by decide) (by decide)
  have o2 : okI 51 = true := okI_of (by decide) (by decide)
  have k := fComp_at (st := st) (st1 := st) (own := [2]) (it := fRange2 (fCon (.int 1)) (fOp2 gAdd (fCon (.int 50)) (fCon (.int 1)))) (tg := tName 2) (cs := fYes) (el := fCall g_honest_gain (fCons (fVar 0) (fCons (fVar 1) (fCons (fVar 2) fNil))))
    (ρ := [.dat (.tuple (enc c)), .dat (.int p), .non]) (ds := zs limits) (by simp [noOwn]) (by simp [o1, o2, range50]) (by rw [sizeLine_eq]; simp [limits])
    (compZ (hgain c p) fun r hr => ⟨[.dat (.tuple (enc c)), .dat (.int p), .dat (.int r)], rfl, by have e := honest_gain_ok (st := st) c h p hp r (mem_limits hr); simp [e]⟩)
  unfold g_gains_by_30bb e_gains_by_30bb
  rw [fnOf_at (by rfl)]
  simp only [zs] at k
  simp [frame, e, k]
end
end Q
end

section
set_option maxRecDepth 100000
set_option maxHeartbeats 4000000
namespace Q
open PySem PySem.Spec PyProof.Rows L2 EV
theorem fitN_spec : ∀ V S : List Int, (∀ i, i < fitN V S → S.getD i 0 ≤ V.getD i 0) ∧ (fitN V S = V.length ∨ fitN V S = S.length ∨ V.getD (fitN V S) 0 < S.getD (fitN V S) 0)
  | [], S => ⟨fun i h => by simp [fitN] at h, .inl rfl⟩
  | v :: V, [] => ⟨fun i h => by rw [fitN_nil_r] at h; omega, .inr (.inl rfl)⟩
  | v :: V, s :: S => by
    obtain ⟨h1, h2⟩ := fitN_spec V S
    rw [fitN_cons]
    by_cases c : s ≤ v
    · rw [if_pos c]
      refine ⟨fun i h => ?_, ?_⟩
      · cases i with
        | zero => simpa using c
        | succ i => simpa using h1 i (by omega)
      · simp only [List.length_cons, List.getD_cons_succ]
        omega
    · rw [if_neg c]
      refine ⟨fun i h => by omega, .inr (.inr ?_)⟩
      simp only [List.getD_cons_zero]
      omega
def fairV (V S : List Int) (k : Nat) : Prop := (k < V.length ∧ k < S.length) ∧ 2 * S.getD (k - 1) 0 ≤ V.getD k 0 + S.getD k 0 ∧ V.getD k 0 + S.getD k 0 ≤ 2 * V.getD (k - 1) 0
instance (V S : List Int) (k : Nat) : Decidable (fairV V S k) := by unfold fairV; infer_instance
/-- the one at j is among those that trade -/
def winV (V S : List Int) (j : Nat) : Prop := fitN V S ≠ 0 ∧ (if fairV V S (fitN V S) then j < fitN V S else j < fitN V S - 1)
def payV (V S : List Int) : Int := if fairV V S (fitN V S) then V.getD (fitN V S) 0 + S.getD (fitN V S) 0 else 2 * V.getD (fitN V S - 1) 0
/-- what is paid by one that trades does not hang on its own limit -/
def price (o s : List Int) : Option Int :=
  if s = [] then none
  else if ((fitN o s.tail < o.length ∧ fitN o s.tail + 1 < s.length) ∧ 2 * s.getD (fitN o s.tail) 0 ≤ o.getD (fitN o s.tail) 0 + s.getD (fitN o s.tail + 1) 0) ∧ (fitN o s.tail = 0 ∨ o.getD (fitN o s.tail) 0 + s.getD (fitN o s.tail + 1) 0 ≤ 2 * o.getD (fitN o s.tail - 1) 0) then some (o.getD (fitN o s.tail) 0 + s.getD (fitN o s.tail + 1) 0)
  else if fitN o s.tail = 0 then none
  else some (2 * o.getD (fitN o s.tail - 1) 0)
def ins (o : List Int) (r : Int) (j : Nat) : List Int := o.take j ++ r :: o.drop j
theorem ins_len (o : List Int) (r : Int) {j : Nat} (h : j ≤ o.length) : (ins o r j).length = o.length + 1 := by
  unfold ins
  simp
  omega
theorem ins_lt (o : List Int) (r : Int) {i j : Nat} (h : j ≤ o.length) (hi : i < j) : (ins o r j).getD i 0 = o.getD i 0 := by
  unfold ins
  rw [List.getD_eq_getElem?_getD, List.getD_eq_getElem?_getD, List.getElem?_append_left (by simp; omega), List.getElem?_take_of_lt hi]
theorem ins_eq (o : List Int) (r : Int) {j : Nat} (h : j ≤ o.length) : (ins o r j).getD j 0 = r := by
  unfold ins
  rw [List.getD_eq_getElem?_getD, List.getElem?_append_right (by simp; omega)]
  simp [Nat.min_eq_left h]
theorem ins_gt (o : List Int) (r : Int) {i j : Nat} (h : j ≤ o.length) (hi : j < i) : (ins o r j).getD i 0 = o.getD (i - 1) 0 := by
  unfold ins
  rw [List.getD_eq_getElem?_getD, List.getD_eq_getElem?_getD, List.getElem?_append_right (by simp; omega)]
  rw [List.length_take, Nat.min_eq_left h]
  obtain ⟨k, rfl⟩ : ∃ k, i = j + k + 1 := ⟨i - j - 1, by omega⟩
  rw [show j + k + 1 - j = k + 1 by omega, List.getElem?_cons_succ, List.getElem?_drop]
  rfl
theorem down_get {o : List Int} (h : o.Pairwise fun x y => y ≤ x) {i k : Nat} (hik : i ≤ k) (hk : k < o.length) : o.getD k 0 ≤ o.getD i 0 := by
  rw [List.getD_eq_getElem?_getD, List.getD_eq_getElem?_getD, List.getElem?_eq_getElem hk, List.getElem?_eq_getElem (by omega)]
  rcases Nat.lt_or_eq_of_le hik with z | rfl
  · exact List.pairwise_iff_getElem.mp h i k (by omega) hk z
  · exact Int.le_refl _
theorem up_get {o : List Int} (h : o.Pairwise fun x y => x ≤ y) {i k : Nat} (hik : i ≤ k) (hk : k < o.length) : o.getD i 0 ≤ o.getD k 0 := by
  rw [List.getD_eq_getElem?_getD, List.getD_eq_getElem?_getD, List.getElem?_eq_getElem hk, List.getElem?_eq_getElem (by omega)]
  rcases Nat.lt_or_eq_of_le hik with z | rfl
  · exact List.pairwise_iff_getElem.mp h i k (by omega) hk z
  · exact Int.le_refl _
theorem honest_price {o s : List Int} {r : Int} {j : Nat} (ho : o.Pairwise fun x y => y ≤ x) (hs : s.Pairwise fun x y => x ≤ y) (hj : j ≤ o.length) (h1 : ∀ i, i < j → r ≤ o.getD i 0) (h2 : ∀ i, j ≤ i → i < o.length → o.getD i 0 ≤ r) :
    (winV (ins o r j) s j → price o s = some (payV (ins o r j) s) ∧ payV (ins o r j) s ≤ 2 * r) ∧ (¬ winV (ins o r j) s j → ∀ x, price o s = some x → 2 * r ≤ x) := by
  obtain ⟨G1, G2⟩ := fitN_spec (ins o r j) s
  obtain ⟨L1, L2⟩ := fitN_le (ins o r j) s
  rw [ins_len o r hj] at G2 L1
  have e0 := ins_eq o r hj
  have elt := fun i (hi : i < j) => ins_lt o r hj hi
  have egt := fun i (hi : j < i) => ins_gt o r hj hi
  have dn := fun i k (hik : i ≤ k) (hk : k < o.length) => down_get ho hik hk
  have up := fun i k (hik : i ≤ k) (hk : k < s.length) => up_get hs hik hk
  have pv1 : fairV (ins o r j) s (fitN (ins o r j) s) → payV (ins o r j) s = (ins o r j).getD (fitN (ins o r j) s) 0 + s.getD (fitN (ins o r j) s) 0 := fun h => if_pos h
  have pv2 : ¬ fairV (ins o r j) s (fitN (ins o r j) s) → payV (ins o r j) s = 2 * (ins o r j).getD (fitN (ins o r j) s - 1) 0 := fun h => if_neg h
  have wv1 : fairV (ins o r j) s (fitN (ins o r j) s) → (winV (ins o r j) s j ↔ (fitN (ins o r j) s ≠ 0 ∧ j < fitN (ins o r j) s)) := fun h => by unfold winV; rw [if_pos h]
  have wv2 : ¬ fairV (ins o r j) s (fitN (ins o r j) s) → (winV (ins o r j) s j ↔ (fitN (ins o r j) s ≠ 0 ∧ j < fitN (ins o r j) s - 1)) := fun h => by unfold winV; rw [if_neg h]
  have fv : fairV (ins o r j) s (fitN (ins o r j) s) ↔ ((fitN (ins o r j) s < o.length + 1 ∧ fitN (ins o r j) s < s.length) ∧ 2 * s.getD (fitN (ins o r j) s - 1) 0 ≤ (ins o r j).getD (fitN (ins o r j) s) 0 + s.getD (fitN (ins o r j) s) 0 ∧ (ins o r j).getD (fitN (ins o r j) s) 0 + s.getD (fitN (ins o r j) s) 0 ≤ 2 * (ins o r j).getD (fitN (ins o r j) s - 1) 0) := by
    rw [← ins_len o r hj]; exact Iff.rfl
  by_cases se : s = []
  · subst se
    have z : fitN (ins o r j) [] = 0 := fitN_nil_r _
    rw [z] at wv1 wv2 fv
    have nf : ¬ fairV (ins o r j) [] 0 := fun h => by
      have := (fv.mp h).1.2
      simp at this
    have w := wv2 nf
    refine ⟨fun h => absurd rfl (w.mp h).1, fun _ x hx => ?_⟩
    unfold price at hx
    rw [if_pos rfl] at hx
    cases hx
  · have sl : 0 < s.length := List.length_pos_iff.mpr se
    obtain ⟨F1, F2⟩ := fitN_spec o s.tail
    obtain ⟨M1, M2⟩ := fitN_le o s.tail
    have tl : s.tail.length = s.length - 1 := by simp
    have tg : ∀ i, s.tail.getD i 0 = s.getD (i + 1) 0 := fun i => by
      cases s with
      | nil => exact absurd rfl se
      | cons x r => simp
    simp only [tl, tg] at F1 F2 M2
    have pA : ((fitN o s.tail < o.length ∧ fitN o s.tail + 1 < s.length) ∧ 2 * s.getD (fitN o s.tail) 0 ≤ o.getD (fitN o s.tail) 0 + s.getD (fitN o s.tail + 1) 0) ∧ (fitN o s.tail = 0 ∨ o.getD (fitN o s.tail) 0 + s.getD (fitN o s.tail + 1) 0 ≤ 2 * o.getD (fitN o s.tail - 1) 0) → price o s = some (o.getD (fitN o s.tail) 0 + s.getD (fitN o s.tail + 1) 0) := fun h => by
      unfold price
      rw [if_neg se, if_pos h]
    have pB : ¬ (((fitN o s.tail < o.length ∧ fitN o s.tail + 1 < s.length) ∧ 2 * s.getD (fitN o s.tail) 0 ≤ o.getD (fitN o s.tail) 0 + s.getD (fitN o s.tail + 1) 0) ∧ (fitN o s.tail = 0 ∨ o.getD (fitN o s.tail) 0 + s.getD (fitN o s.tail + 1) 0 ≤ 2 * o.getD (fitN o s.tail - 1) 0)) → fitN o s.tail = 0 → price o s = none := fun h h2 => by
      unfold price
      rw [if_neg se, if_neg h, if_pos h2]
    have pC : ¬ (((fitN o s.tail < o.length ∧ fitN o s.tail + 1 < s.length) ∧ 2 * s.getD (fitN o s.tail) 0 ≤ o.getD (fitN o s.tail) 0 + s.getD (fitN o s.tail + 1) 0) ∧ (fitN o s.tail = 0 ∨ o.getD (fitN o s.tail) 0 + s.getD (fitN o s.tail + 1) 0 ≤ 2 * o.getD (fitN o s.tail - 1) 0)) → ¬ fitN o s.tail = 0 → price o s = some (2 * o.getD (fitN o s.tail - 1) 0) := fun h h2 => by
      unfold price
      rw [if_neg se, if_neg h, if_neg h2]
    generalize payV (ins o r j) s = pay at *
    generalize winV (ins o r j) s j = W at *
    generalize price o s = pr at *
    generalize fairV (ins o r j) s (fitN (ins o r j) s) = FV at *
    generalize fitN o s.tail = K at *
    generalize fitN (ins o r j) s = k at *
    generalize hV : (fun i => (ins o r j).getD i 0) = V at *
    generalize hA : (fun i => o.getD i 0) = A at *
    generalize hB : (fun i => s.getD i 0) = B at *
    have iV : ∀ i, (ins o r j).getD i 0 = V i := fun i => by rw [← hV]
    have iA : ∀ i, o.getD i 0 = A i := fun i => by rw [← hA]
    have iB : ∀ i, s.getD i 0 = B i := fun i => by rw [← hB]
    simp only [iV, iA, iB] at *
    generalize o.length = n at *
    generalize s.length = q at *
    clear iV iA iB hV hA hB tl tg
    -- the number that fit
    have C1 : k ≤ K + 1 := by
      rcases Nat.lt_or_ge (K + 1) k with z | z
      · exfalso
        have g := G1 (K + 1) z
        have d : V (K + 1) ≤ A K := by
          rcases Nat.lt_trichotomy j (K + 1) with y | y | y
          · have := egt (K + 1) y
            simp at this
            omega
          · subst y
            have := h1 K (by omega)
            omega
          · have a := elt (K + 1) y
            have b := dn K (K + 1) (by omega) (by omega)
            omega
        omega
      · exact z
    have C2 : (j < K ∨ (j = K ∧ B K ≤ r)) → k = K + 1 := fun hj' => by
      rcases Nat.lt_or_ge K k with z | z
      · omega
      · exfalso
        have g : V k < B k := by omega
        rcases Nat.lt_trichotomy k j with y | y | y
        · have a := elt k y
          have b := F1 k (by omega)
          have c := up k (k + 1) (by omega) (by omega)
          omega
        · subst y
          rcases hj' with w | w
          · have a := h2 k (Nat.le_refl _) (by omega)
            have b := F1 k w
            have c := up k (k + 1) (by omega) (by omega)
            omega
          · obtain ⟨w1, w2⟩ := w
            rw [← w1] at w2
            omega
        · have a := egt k y
          have b := F1 (k - 1) (by omega)
          rw [show k - 1 + 1 = k by omega] at b
          omega
    have C3 : j = K → r < B K → k ≤ K := fun h3 h4 => by
      rcases Nat.lt_or_ge K k with z | z
      · exfalso
        have g := G1 K z
        rw [← h3] at g h4
        omega
      · exact z
    rcases Nat.lt_trichotomy j K with y | y | y
    · -- ahead of all that could be left out
      have hk := C2 (.inl y)
      subst hk
      have v1 := egt (K + 1) (by omega)
      have v2 := egt K y
      simp only [Nat.add_sub_cancel] at v1 pv2 fv wv2
      have rr := h2 (K - 1) (by omega) (by omega)
      by_cases hF : FV
      · have w := (wv1 hF).mpr ⟨by omega, by omega⟩
        have f := fv.mp hF
        have p := pA ⟨⟨by omega, by omega⟩, .inr (by omega)⟩
        have pp := pv1 hF
        exact ⟨fun _ => ⟨by rw [p, pp, v1], by omega⟩, fun h => absurd w h⟩
      · have w := (wv2 hF).mpr ⟨by omega, by omega⟩
        have p := pC (fun h => hF (fv.mpr ⟨by omega, by omega, by omega⟩)) (by omega)
        have pp := pv2 hF
        exact ⟨fun _ => ⟨by rw [p, pp, v2], by omega⟩, fun h => absurd w h⟩
    · subst y
      by_cases hr : B j ≤ r
      · have hk := C2 (.inr ⟨rfl, hr⟩)
        subst hk
        have v1 := egt (j + 1) (by omega)
        simp only [Nat.add_sub_cancel] at v1 pv2 fv wv2
        by_cases hF : FV
        · have w := (wv1 hF).mpr ⟨by omega, by omega⟩
          have f := fv.mp hF
          have p := pA ⟨⟨by omega, by omega⟩, by
            rcases Nat.eq_zero_or_pos j with z | z
            · exact .inl z
            · have := h1 (j - 1) (by omega)
              exact .inr (by omega)⟩
          have pp := pv1 hF
          exact ⟨fun _ => ⟨by rw [p, pp, v1], by omega⟩, fun h => absurd w h⟩
        · have w : ¬ W := fun h => by have := (wv2 hF).mp h; omega
          refine ⟨fun h => absurd h w, fun _ x hx => ?_⟩
          by_cases hA : ((j < n ∧ j + 1 < q) ∧ 2 * B j ≤ A j + B (j + 1)) ∧ (j = 0 ∨ A j + B (j + 1) ≤ 2 * A (j - 1))
          · rw [pA hA] at hx
            cases hx
            rcases Int.lt_or_le (2 * r) (A j + B (j + 1)) with z | z
            · omega
            · exact absurd (fv.mpr ⟨by omega, by omega, by omega⟩) hF
          · rcases Nat.eq_zero_or_pos j with z | z
            · rw [pB hA z] at hx; cases hx
            · rw [pC hA (by omega)] at hx
              cases hx
              have := h1 (j - 1) (by omega)
              omega
      · have hk := C3 rfl (by omega)
        have w : ¬ W := fun h => by
          by_cases hF : FV
          · have := (wv1 hF).mp h; omega
          · have := (wv2 hF).mp h; omega
        refine ⟨fun h => absurd h w, fun _ x hx => ?_⟩
        by_cases hA : ((j < n ∧ j + 1 < q) ∧ 2 * B j ≤ A j + B (j + 1)) ∧ (j = 0 ∨ A j + B (j + 1) ≤ 2 * A (j - 1))
        · rw [pA hA] at hx
          cases hx
          omega
        · rcases Nat.eq_zero_or_pos j with z | z
          · rw [pB hA z] at hx; cases hx
          · rw [pC hA (by omega)] at hx
            cases hx
            have := h1 (j - 1) (by omega)
            omega
    · have w : ¬ W := fun h => by
        by_cases hF : FV
        · have := (wv1 hF).mp h; omega
        · have := (wv2 hF).mp h; omega
      refine ⟨fun h => absurd h w, fun _ x hx => ?_⟩
      by_cases hA : ((K < n ∧ K + 1 < q) ∧ 2 * B K ≤ A K + B (K + 1)) ∧ (K = 0 ∨ A K + B (K + 1) ≤ 2 * A (K - 1))
      · rw [pA hA] at hx
        cases hx
        have := h1 K y
        omega
      · rcases Nat.eq_zero_or_pos K with z | z
        · rw [pB hA z] at hx; cases hx
        · rw [pC hA (by omega)] at hx
          cases hx
          have := h1 (K - 1) (by omega)
          omega
end Q
end

section
set_option maxRecDepth 100000
set_option maxHeartbeats 4000000
namespace Q
open PySem PySem.Spec PyProof.Rows L2 EV
/-! the sequence with another limit told -/
theorem at_tell {c : List Bid} {p : Nat} (hp : p < c.length) (r : Int) (q : Nat) : at' (tell c p r) (q : Int) = if q = p then ((at' c p).1, r) else at' c q := by
  unfold tell
  simp only [at', Int.toNat_natCast]
  rw [List.getD_eq_getElem?_getD, List.getElem?_set]
  by_cases e : p = q
  · subst e; simp [hp]
  · rw [if_neg e, if_neg (fun h => e h.symm), List.getD_eq_getElem?_getD]
theorem places_tell {c : List Bid} {p : Nat} (hp : p < c.length) (r : Int) (b : Bool) : placesOf (tell c p r) b = placesOf c b := by
  unfold placesOf
  rw [show (tell c p r).length = c.length by simp [tell]]
  refine List.filter_congr fun q hq => ?_
  obtain ⟨i, rfl, hi⟩ := mem_idx hq
  rw [at_tell hp]
  by_cases e : i = p
  · rw [if_pos e, e]
  · rw [if_neg e]
theorem key_tell {c : List Bid} {p : Nat} (hp : p < c.length) (r : Int) (b : Bool) {q : Nat} (hq : q ≠ p) : keyOf (tell c p r) b (q : Int) = keyOf c b q := by
  unfold keyOf lim
  rw [at_tell hp, if_neg hq]
theorem key_told {c : List Bid} {p : Nat} (hp : p < c.length) (r : Int) (b : Bool) : keyOf (tell c p r) b (p : Int) = if b then -r else r := by
  unfold keyOf lim
  rw [at_tell hp, if_pos rfl]
theorem before_antisymm {c : List Bid} {b : Bool} {p q : Int} (h1 : before c b p q = true) (h2 : before c b q p = true) : p = q := by
  unfold before at h1 h2
  simp at h1 h2
  omega
theorem nodup_places (c : List Bid) (b : Bool) : (placesOf c b).Nodup := (nodup_idx _).filter _
theorem nodup_seqs (c : List Bid) (b : Bool) : (seqs c b).Nodup := (seqs_perm c b).nodup_iff.mpr (nodup_places c b)
/-- the others of a side -/
def others (c : List Bid) (b : Bool) (p : Nat) : List Int := ((placesOf c b).filter fun q => decide (q ≠ (p : Int))).mergeSort (before c b)
theorem others_sorted (c : List Bid) (b : Bool) (p : Nat) : (others c b p).Pairwise fun x y => before c b x y = true := by
  refine List.pairwise_mergeSort (fun p q r h1 h2 => ?_) (fun p q => ?_) _
  · unfold before at *
    simp at *
    omega
  · unfold before
    simp
    omega
theorem seq_split {c : List Bid} {p : Nat} (hp : p < c.length) (r : Int) : ∃ l1 l2, seqs (tell c p r) (at' c p).1 = l1 ++ (p : Int) :: l2 ∧ l1 ++ l2 = others c (at' c p).1 p ∧ (p : Int) ∉ l1 ∧ (p : Int) ∉ l2 := by
  have hb : (at' c p).1 = (at' c p).1 := rfl
  generalize hbb : (at' c p).1 = b at hb
  have mem : (p : Int) ∈ seqs (tell c p r) b := by
    rw [(seqs_perm _ _).mem_iff, places_tell hp]
    unfold placesOf
    refine List.mem_filter.mpr ⟨?_, by rw [hbb]; simp⟩
    unfold idx
    exact List.mem_map.mpr ⟨p, List.mem_range.mpr hp, rfl⟩
  obtain ⟨l1, l2, e⟩ := List.append_of_mem mem
  have nd := nodup_seqs (tell c p r) b
  rw [e] at nd
  have n1 : (p : Int) ∉ l1 := fun h => by
    have := (List.nodup_append.mp nd).2.2 _ h _ List.mem_cons_self
    exact this rfl
  have n2 : (p : Int) ∉ l2 := (List.nodup_cons.mp (List.nodup_append.mp nd).2.1).1
  refine ⟨l1, l2, e, ?_, n1, n2⟩
  have pm : (l1 ++ l2).Perm ((placesOf c b).filter fun q => decide (q ≠ (p : Int))) := by
    have h := (seqs_perm (tell c p r) b).filter fun q => decide (q ≠ (p : Int))
    rw [places_tell hp, e, List.filter_append, List.filter_cons_of_neg (by simp)] at h
    rw [List.filter_eq_self.mpr fun q hq => by simp; intro z; exact n1 (z ▸ hq), List.filter_eq_self.mpr fun q hq => by simp; intro z; exact n2 (z ▸ hq)] at h
    exact h
  have nat : ∀ q ∈ l1 ++ l2, ∃ i : Nat, q = i ∧ i ≠ p := fun q hq => by
    have h := (pm.mem_iff.mp hq)
    obtain ⟨h1, h2⟩ := List.mem_filter.mp h
    obtain ⟨i, rfl, _⟩ := mem_places h1
    have z : ¬ ((i : Int) = (p : Int)) := by simpa using h2
    exact ⟨i, rfl, fun y => z (by rw [y])⟩
  have srt1 : (l1 ++ l2).Pairwise fun x y => before (tell c p r) b x y = true := by
    have h := seqs_sorted (tell c p r) b
    rw [e] at h
    refine h.sublist ?_
    exact List.Sublist.append_left (List.sublist_cons_self _ _) _
  refine List.Perm.eq_of_pairwise (le := fun x y => before c b x y = true) (fun x y _ _ h1 h2 => before_antisymm h1 h2) ?_ (others_sorted c b p) (pm.trans (List.mergeSort_perm _ _).symm)
  refine srt1.imp_of_mem fun {x y} hx hy h => ?_
  obtain ⟨i, rfl, hi⟩ := nat x hx
  obtain ⟨k, rfl, hk⟩ := nat y hy
  unfold before at h ⊢
  rw [key_tell hp r b hi, key_tell hp r b hk] at h
  exact h
theorem seq_other {c : List Bid} {p : Nat} (hp : p < c.length) (r : Int) : seqs (tell c p r) (!(at' c p).1) = seqs c (!(at' c p).1) := by
  have nat : ∀ q ∈ seqs c (!(at' c p).1), ∃ i : Nat, q = i ∧ i ≠ p := fun q hq => by
    obtain ⟨i, rfl, hi, hs⟩ := mem_seqs hq
    refine ⟨i, rfl, fun z => ?_⟩
    subst z
    cases h : (at' c i).1 <;> rw [h] at hs <;> simp at hs
  have pm : (seqs (tell c p r) (!(at' c p).1)).Perm (seqs c (!(at' c p).1)) := by
    refine (seqs_perm _ _).trans ?_
    rw [places_tell hp]
    exact (seqs_perm _ _).symm
  refine List.Perm.eq_of_pairwise (le := fun x y => before c (!(at' c p).1) x y = true) (fun x y _ _ h1 h2 => before_antisymm h1 h2) ?_ (seqs_sorted c _) pm
  refine (seqs_sorted (tell c p r) _).imp_of_mem fun {x y} hx hy h => ?_
  obtain ⟨i, rfl, hi⟩ := nat x (pm.mem_iff.mp hx)
  obtain ⟨k, rfl, hk⟩ := nat y (pm.mem_iff.mp hy)
  unfold before at h ⊢
  rw [key_tell hp r _ hi, key_tell hp r _ hk] at h
  exact h
/-! as values: the greater the better, of either side -/
def worth (c : List Bid) (b : Bool) (q : Int) : Int := -(keyOf c b q)
def vals (c : List Bid) (b d : Bool) : List Int := (seqs c d).map (worth c b)
theorem vals_own (c : List Bid) (b : Bool) : (vals c b b).Pairwise fun x y => y ≤ x := by
  unfold vals
  rw [List.pairwise_map]
  refine (seqs_sorted c b).imp fun h => ?_
  unfold before at h
  unfold worth
  simp at h
  omega
theorem vals_other (c : List Bid) (b : Bool) : (vals c b (!b)).Pairwise fun x y => x ≤ y := by
  unfold vals
  rw [List.pairwise_map]
  refine (seqs_sorted c (!b)).imp fun h => ?_
  unfold before keyOf at h
  unfold worth keyOf
  cases b <;> simp at h ⊢ <;> omega
theorem fit_neg : ∀ xs ys : List Int, fitN (ys.map fun y => -y) (xs.map fun x => -x) = fitN xs ys
  | [], ys => by rw [List.map_nil, fitN_nil_r]; rfl
  | x :: xs, [] => by rw [fitN_nil_r]; rfl
  | x :: xs, y :: ys => by
    rw [List.map_cons, List.map_cons, fitN_cons, fitN_cons, fit_neg xs ys]
    by_cases c : y ≤ x
    · rw [if_pos c, if_pos (by omega)]
    · rw [if_neg c, if_neg (by omega)]
theorem fit_vals (c : List Bid) (b : Bool) : fitN (vals c b b) (vals c b (!b)) = fitC c := by
  unfold fitC vals
  cases b with
  | true =>
    have e : worth c true = lim c := by funext q; unfold worth keyOf; simp
    rw [e]; rfl
  | false =>
    have e : ∀ xs : List Int, xs.map (worth c false) = (xs.map (lim c)).map fun y => -y := fun xs => by
      rw [List.map_map]
      exact List.map_congr_left fun q _ => by unfold worth keyOf; simp
    rw [e, e, fit_neg]; rfl
theorem vals_tell {c : List Bid} {p : Nat} (hp : p < c.length) : ∃ o s, o.Pairwise (fun x y : Int => y ≤ x) ∧ s.Pairwise (fun x y : Int => x ≤ y) ∧ ∀ r, ∃ j, j ≤ o.length ∧ vals (tell c p r) (at' c p).1 (at' c p).1 = ins o (if (at' c p).1 then r else -r) j ∧ vals (tell c p r) (at' c p).1 (!(at' c p).1) = s ∧
    (∀ t, (p : Int) ∈ (seqs (tell c p r) (at' c p).1).take t ↔ j < t) := by
  generalize hb : (at' c p).1 = b
  refine ⟨(others c b p).map (worth c b), vals c b (!b), ?_, vals_other c b, fun r => ?_⟩
  · rw [List.pairwise_map]
    refine (others_sorted c b p).imp fun h => ?_
    unfold before at h
    unfold worth
    simp at h
    omega
  · obtain ⟨l1, l2, e1, e2, n1, n2⟩ := seq_split hp r
    rw [hb] at e1 e2
    have eo := seq_other hp r
    rw [hb] at eo
    have nat : ∀ q ∈ l1 ++ l2, ∃ i : Nat, q = i ∧ i ≠ p := fun q hq => by
      rw [e2] at hq
      unfold others at hq
      obtain ⟨h1, h2⟩ := List.mem_filter.mp ((List.mergeSort_perm _ _).mem_iff.mp hq)
      obtain ⟨i, rfl, _⟩ := mem_places h1
      have z : ¬ ((i : Int) = (p : Int)) := by simpa using h2
      exact ⟨i, rfl, fun y => z (by rw [y])⟩
    have w1 : ∀ q ∈ l1 ++ l2, worth (tell c p r) b q = worth c b q := fun q hq => by
      obtain ⟨i, rfl, hi⟩ := nat q hq
      unfold worth
      rw [key_tell hp r b hi]
    refine ⟨l1.length, by rw [← e2]; simp, ?_, ?_, fun t => ?_⟩
    · unfold vals ins
      rw [e1, ← e2, List.map_append, List.map_append, List.map_cons, List.take_left' (by simp), List.drop_left' (by simp)]
      rw [List.map_congr_left fun q hq => w1 q (List.mem_append_left _ hq), List.map_congr_left (l := l2) fun q hq => w1 q (List.mem_append_right _ hq)]
      congr 2
      unfold worth
      rw [key_told hp]
      cases b <;> simp
    · unfold vals
      rw [eo]
      refine List.map_congr_left fun q hq => ?_
      obtain ⟨i, rfl, hi, hs⟩ := mem_seqs hq
      unfold worth
      rw [key_tell hp r b fun z => by subst z; rw [hb] at hs; cases b <;> simp at hs]
    · rw [e1]
      by_cases h : l1.length < t
      · obtain ⟨k, rfl⟩ : ∃ k, t = l1.length + (k + 1) := ⟨t - l1.length - 1, by omega⟩
        rw [List.take_append, List.take_of_length_le (by omega), show l1.length + (k + 1) - l1.length = k + 1 by omega, List.take_succ_cons]
        simp
      · rw [List.take_append_of_le_length (by omega)]
        exact ⟨fun z => absurd (List.mem_of_mem_take z) n1, fun z => absurd z h⟩
end Q
end

section
set_option maxRecDepth 100000
set_option maxHeartbeats 4000000
namespace Q
open PySem PySem.Spec PyProof.Rows L2 EV
theorem ins_bounds {o : List Int} {r : Int} {j : Nat} (h : (ins o r j).Pairwise fun x y => y ≤ x) (hj : j ≤ o.length) : (∀ i, i < j → r ≤ o.getD i 0) ∧ (∀ i, j ≤ i → i < o.length → o.getD i 0 ≤ r) := by
  have hl := ins_len o r hj
  refine ⟨fun i hi => ?_, fun i hi hi2 => ?_⟩
  · have := down_get h (i := i) (k := j) (by omega) (by omega)
    rw [ins_lt o r hj hi, ins_eq o r hj] at this
    exact this
  · have := down_get h (i := j) (k := i + 1) (by omega) (by omega)
    rw [ins_gt o r hj (by omega), ins_eq o r hj] at this
    simpa using this
/-- what one gains that trades, of own worth v -/
noncomputable def gainV (V S : List Int) (j : Nat) (v : Int) : Int := open Classical in if winV V S j then 2 * v - payV V S else 0
theorem gain_true {o s : List Int} {v r : Int} {jv jr : Nat} (ho : o.Pairwise fun x y => y ≤ x) (hs : s.Pairwise fun x y => x ≤ y) (hv : jv ≤ o.length) (hr : jr ≤ o.length) (dv : (ins o v jv).Pairwise fun x y => y ≤ x) (dr : (ins o r jr).Pairwise fun x y => y ≤ x) :
    0 ≤ gainV (ins o v jv) s jv v ∧ gainV (ins o r jr) s jr v ≤ gainV (ins o v jv) s jv v := by
  obtain ⟨a1, a2⟩ := ins_bounds dv hv
  obtain ⟨b1, b2⟩ := ins_bounds dr hr
  obtain ⟨p1, p2⟩ := honest_price ho hs hv a1 a2
  obtain ⟨q1, q2⟩ := honest_price ho hs hr b1 b2
  unfold gainV
  by_cases w : winV (ins o v jv) s jv
  · obtain ⟨e1, l1⟩ := p1 w
    rw [if_pos w]
    refine ⟨by omega, ?_⟩
    by_cases z : winV (ins o r jr) s jr
    · obtain ⟨e2, l2⟩ := q1 z
      rw [if_pos z]
      rw [e1] at e2
      have e3 := Option.some.inj e2
      omega
    · rw [if_neg z]
      omega
  · rw [if_neg w]
    refine ⟨by omega, ?_⟩
    by_cases z : winV (ins o r jr) s jr
    · obtain ⟨e2, l2⟩ := q1 z
      rw [if_pos z]
      have := p2 w _ e2
      omega
    · rw [if_neg z]
      omega
/-! what hon tells, in values -/
theorem getD_map' (f : Int → Int) {xs : List Int} {i : Nat} (h : i < xs.length) : (xs.map f).getD i 0 = f (xs.getD i 0) := by
  simp [h]
theorem contains_srt (xs : List Int) (p : Int) : (srt xs).contains p = true ↔ p ∈ xs := by
  rw [List.contains_iff_mem]
  exact (List.mergeSort_perm _ _).mem_iff
theorem fairV_iff {f : Int → Int} {B S : List Int} {k : Nat} (k0 : k ≠ 0) (k1 : k ≤ B.length) (k2 : k ≤ S.length) : fairV (B.map f) (S.map f) k ↔ ((k < B.length ∧ k < S.length) ∧ 2 * f (S.getD (k - 1) 0) ≤ mean f B S k ∧ mean f B S k ≤ 2 * f (B.getD (k - 1) 0)) := by
  unfold fairV mean
  rw [List.length_map, List.length_map, getD_map' f (xs := B) (i := k - 1) (by omega), getD_map' f (xs := S) (i := k - 1) (by omega)]
  constructor
  · intro ⟨h1, h2⟩
    rw [getD_map' f h1.1, getD_map' f h1.2] at h2
    exact ⟨h1, h2⟩
  · intro ⟨h1, h2⟩
    rw [getD_map' f h1.1, getD_map' f h1.2]
    exact ⟨h1, h2⟩
theorem hon_gain (f : Int → Int) (B S : List Int) (k : Nat) (hk : fitN (B.map f) (S.map f) = k) (p : Nat) (j : Nat) (hp : ∀ t, (p : Int) ∈ B.take t ↔ j < t) (v : Int) : (if (honL f B S k).1.contains (p : Int) then 2 * v - (honL f B S k).2.2.1 else 0) = gainV (B.map f) (S.map f) j v := by
  obtain ⟨k1, k2⟩ := fitN_le (B.map f) (S.map f)
  rw [List.length_map, hk] at k1 k2
  have wv1 : fairV (B.map f) (S.map f) k → (winV (B.map f) (S.map f) j ↔ (k ≠ 0 ∧ j < k)) := fun h => by unfold winV; rw [hk, if_pos h]
  have wv2 : ¬ fairV (B.map f) (S.map f) k → (winV (B.map f) (S.map f) j ↔ (k ≠ 0 ∧ j < k - 1)) := fun h => by unfold winV; rw [hk, if_neg h]
  have pv1 : fairV (B.map f) (S.map f) k → payV (B.map f) (S.map f) = (B.map f).getD k 0 + (S.map f).getD k 0 := fun h => by unfold payV; rw [hk, if_pos h]
  have pv2 : ¬ fairV (B.map f) (S.map f) k → payV (B.map f) (S.map f) = 2 * (B.map f).getD (k - 1) 0 := fun h => by unfold payV; rw [hk, if_neg h]
  unfold gainV honL
  by_cases k0 : k = 0
  · have w : ¬ winV (B.map f) (S.map f) j := fun h => by
      by_cases hF : fairV (B.map f) (S.map f) k
      · exact ((wv1 hF).mp h).1 k0
      · exact ((wv2 hF).mp h).1 k0
    rw [if_pos k0, if_neg w]
    simp
  · have fi := fairV_iff (f := f) k0 k1 k2
    rw [if_neg k0]
    by_cases hF : fairV (B.map f) (S.map f) k
    · have h := fi.mp hF
      rw [if_pos h]
      have ht := hp k
      rw [← contains_srt] at ht
      have pe := pv1 hF
      rw [getD_map' f h.1.1, getD_map' f h.1.2] at pe
      by_cases w : j < k
      · rw [if_pos (ht.mpr w), if_pos ((wv1 hF).mpr ⟨k0, w⟩), pe]; rfl
      · rw [if_neg (fun z => w (ht.mp z)), if_neg (fun z => w ((wv1 hF).mp z).2)]
    · rw [if_neg fun h => hF (fi.mpr h)]
      have pe := pv2 hF
      rw [getD_map' f (by omega)] at pe
      have ht := hp (k - 1)
      rw [← contains_srt] at ht
      by_cases k1' : k = 1
      · have w : ¬ winV (B.map f) (S.map f) j := fun h => by have := ((wv2 hF).mp h).2; omega
        rw [if_pos k1', if_neg w]
        simp
      · rw [if_neg k1']
        by_cases w : j < k - 1
        · rw [if_pos (ht.mpr w), if_pos ((wv2 hF).mpr ⟨k0, w⟩), pe]
        · rw [if_neg (fun z => w (ht.mp z)), if_neg (fun z => w ((wv2 hF).mp z).2)]
/-- seen from the other side -/
theorem honL_swap (f : Int → Int) (B S : List Int) (k : Nat) : honL (fun q => -(f q)) S B k = ((honL f B S k).2.1, (honL f B S k).1, -(honL f B S k).2.2.2, -(honL f B S k).2.2.1) := by
  unfold honL mean
  by_cases k0 : k = 0
  · rw [if_pos k0, if_pos k0]; rfl
  · rw [if_neg k0, if_neg k0]
    by_cases h : (k < B.length ∧ k < S.length) ∧ 2 * f (S.getD (k - 1) 0) ≤ f (B.getD k 0) + f (S.getD k 0) ∧ f (B.getD k 0) + f (S.getD k 0) ≤ 2 * f (B.getD (k - 1) 0)
    · rw [if_pos h, if_pos ⟨⟨h.1.2, h.1.1⟩, by dsimp only; omega, by dsimp only; omega⟩]
      simp only [Prod.mk.injEq, true_and]
      omega
    · rw [if_neg h, if_neg (fun z => h ⟨⟨z.1.2, z.1.1⟩, by have y := z.2; dsimp only at y; omega, by have y := z.2; dsimp only at y; omega⟩)]
      by_cases k1 : k = 1
      · rw [if_pos k1, if_pos k1]; rfl
      · rw [if_neg k1, if_neg k1]
        simp only [Prod.mk.injEq, true_and]
        omega
/-- what a bid gains that tells another limit -/
theorem hgain_vals {c : List Bid} {p : Nat} (hp : p < c.length) (r : Int) (j : Nat) (hj : ∀ t, (p : Int) ∈ (seqs (tell c p r) (at' c p).1).take t ↔ j < t) :
    hgain c p r = gainV (vals (tell c p r) (at' c p).1 (at' c p).1) (vals (tell c p r) (at' c p).1 (!(at' c p).1)) j (if (at' c p).1 then (at' c p).2 else -(at' c p).2) := by
  unfold hgain
  generalize tell c p r = d at *
  have fv := fit_vals d (at' c p).1
  cases hb : (at' c p).1 with
  | true =>
    rw [hb] at hj fv
    rw [if_pos rfl, if_pos rfl]
    have e : worth d true = lim d := by funext q; unfold worth keyOf; simp
    unfold vals at fv ⊢
    rw [e] at fv ⊢
    exact hon_gain (lim d) _ _ _ fv p j hj _
  | false =>
    rw [hb] at hj fv
    rw [if_neg (show ¬ (false = true) by decide), if_neg (show ¬ (false = true) by decide)]
    have e : worth d false = fun q => -(lim d q) := by funext q; unfold worth keyOf; simp
    unfold vals at fv ⊢
    rw [e] at fv ⊢
    have := hon_gain (fun q => -(lim d q)) _ _ _ fv p j hj (-(at' c p).2)
    rw [honL_swap (lim d)] at this
    rw [← this]
    unfold hon
    have ar : ∀ x y : Int, x - 2 * y = 2 * -y - -x := fun x y => by omega
    rw [ar]
    rfl
theorem tell_own {c : List Bid} {p : Nat} (hp : p < c.length) : tell c p (at' c p).2 = c := by
  unfold tell
  have : ((at' c p).1, (at' c p).2) = c[p] := by simp [at', hp]
  rw [this, List.set_getElem_self]
/-- nobody gains by another limit -/
theorem truthful {c : List Bid} {p : Nat} (hp : p < c.length) (r : Int) : 0 ≤ hgain c p (at' c p).2 ∧ hgain c p r ≤ hgain c p (at' c p).2 := by
  obtain ⟨o, s, ho, hs, H⟩ := vals_tell hp
  obtain ⟨jv, v1, v2, v3, v4⟩ := H (at' c p).2
  obtain ⟨jr, r1, r2, r3, r4⟩ := H r
  rw [hgain_vals hp _ jv v4, hgain_vals hp _ jr r4, v2, v3, r2, r3]
  have dv := vals_own (tell c p (at' c p).2) (at' c p).1
  have dr := vals_own (tell c p r) (at' c p).1
  rw [v2] at dv
  rw [r2] at dr
  exact gain_true ho hs v1 r1 dv dr
end Q
end

section
set_option maxRecDepth 100000
set_option maxHeartbeats 4000000
namespace EV
open PySem PySem.Spec PyProof.Rows L2
/-! small ints, of either sign, are shown short -/
theorem short_all : ((List.range 401).all fun n => (PyData.int ((n : Int) - 200)).leavesShort 13) = true := by decide +kernel
theorem short_small {i : Int} (h : -200 ≤ i ∧ i ≤ 200) : (PyData.int i).leavesShort 13 = true := by
  have := List.all_eq_true.mp short_all (i + 200).toNat (List.mem_range.mpr (by omega))
  rw [show (((i + 200).toNat : Nat) : Int) - 200 = i by omega] at this
  exact this
theorem small_all : ∀ {js : List Int}, (∀ j ∈ js, -200 ≤ j ∧ j ≤ 200) → PyData.leavesShortAll 13 (zs js) = true ∧ PyData.showableAll (zs js) = true ∧ PyData.bulkAll (zs js) = js.length
  | [], _ => ⟨rfl, rfl, rfl⟩
  | j :: js, h => by
    have h0 := h j List.mem_cons_self
    obtain ⟨h1, h2, h3⟩ := small_all (js := js) fun k hk => h k (List.mem_cons_of_mem _ hk)
    have l : j.natAbs.log2 < 64 := log2_lt (by omega) (by decide)
    refine ⟨?_, ?_, ?_⟩
    · show ((PyData.int j).leavesShort 13 && PyData.leavesShortAll 13 (zs js)) = true
      rw [short_small h0, h1]; rfl
    · show ((PyData.int j).showable && PyData.showableAll (zs js)) = true
      rw [h2, Bool.and_true]
      simp only [PyData.showable, decide_eq_true_eq]
      omega
    · show (PyData.int j).bulk + 1 + PyData.bulkAll (zs js) = _
      rw [h3, List.length_cons]
      simp only [PyData.bulk]
      omega
theorem repr_small {js : List Int} (hl : js.length ≤ 1000) (h : ∀ j ∈ js, -200 ≤ j ∧ j ≤ 200) : gRepr [.tuple (zs js)] = some (.dat (.str (PyData.tuple (zs js)).shown)) := by
  obtain ⟨h1, h2, h3⟩ := small_all h
  have ok : okShow (.tuple (zs js)) = true := by
    unfold okShow
    rw [Bool.and_eq_true, Bool.and_eq_true]
    refine ⟨⟨shaped_tup js, by simpa only [PyData.showable] using h2⟩, decide_eq_true (PyData.shown_fits_bulk (B := 13) (by decide) (by decide) (by simpa only [PyData.leavesShort] using h1) (by simp only [PyData.bulk]; omega))⟩
  show (if okShow _ = true then _ else _) = _
  rw [if_pos ok]
theorem repr_int {i : Int} (h : (PyData.int i).leavesShort 13 = true) (h2 : i.natAbs.log2 < 1920) : gRepr [.int i] = some (.dat (.str (PyData.int i).shown)) := by
  have ok : okShow (.int i) = true := by
    unfold okShow
    rw [Bool.and_eq_true, Bool.and_eq_true]
    refine ⟨⟨by simp [SeqAt.shaped, PyData.canLay0, PyData.depth], by simpa only [PyData.showable, decide_eq_true_eq] using h2⟩, decide_eq_true (PyData.shown_fits_bulk (B := 13) (by decide) (by decide) h (by simp only [PyData.bulk]; omega))⟩
  show (if okShow _ = true then _ else _) = _
  rw [if_pos ok]
end EV
namespace Q
open PySem PySem.Spec PyProof.Rows L2 EV
theorem repr_hon {h : List Int × List Int × Int × Int} (h1 : h.1.length ≤ 1000) (h2 : h.2.1.length ≤ 1000) (b1 : ∀ j ∈ h.1, -200 ≤ j ∧ j ≤ 200) (b2 : ∀ j ∈ h.2.1, -200 ≤ j ∧ j ≤ 200) (b3 : -200 ≤ h.2.2.1 ∧ h.2.2.1 ≤ 200) (b4 : -200 ≤ h.2.2.2 ∧ h.2.2.2 ≤ 200) :
    gRepr [encH h] = some (.dat (.str (encH h).shown)) := by
  obtain ⟨a1, a2, a3⟩ := small_all b1
  obtain ⟨c1, c2, c3⟩ := small_all b2
  have s3 := short_small b3
  have s4 := short_small b4
  have l3 : h.2.2.1.natAbs.log2 < 64 := log2_lt (by omega) (by decide)
  have l4 : h.2.2.2.natAbs.log2 < 64 := log2_lt (by omega) (by decide)
  have ok : okShow (encH h) = true := by
    unfold okShow encH
    rw [Bool.and_eq_true, Bool.and_eq_true]
    refine ⟨⟨by simp [SeqAt.shaped, PyData.canLay0, PyData.canLayAll0, canLay_ints, PyData.depth, PyData.depthAll, depth_ints'], by simp [PyData.showable, PyData.showableAll, a2, c2]; omega⟩, decide_eq_true (PyData.shown_fits_bulk (B := 13) (by decide) (by decide) (by simp only [PyData.leavesShort, PyData.leavesShortAll, a1, c1, Bool.true_and, Bool.and_true] at s3 s4 ⊢; rw [s3, s4]; rfl) (by simp only [PyData.bulk, PyData.bulkAll]; omega))⟩
  show (if okShow _ = true then _ else _) = _
  rw [if_pos ok]
theorem mem_take_idx {xs : List Int} {k : Nat} {p : Int} (h : p ∈ xs.take k) : ∃ i, i < k ∧ i < xs.length ∧ xs.getD i 0 = p := by
  obtain ⟨i, hi, e⟩ := List.mem_iff_getElem.mp h
  rw [List.length_take] at hi
  refine ⟨i, by omega, by omega, ?_⟩
  rw [List.getElem_take] at e
  simp [show i < xs.length by omega, e]
theorem srt_mem {xs : List Int} {p : Int} : p ∈ srt xs ↔ p ∈ xs := (List.mergeSort_perm _ _).mem_iff
theorem srt_len (xs : List Int) : (srt xs).length = xs.length := (List.mergeSort_perm _ _).length_eq
theorem lim_down (c : List Bid) {i k : Nat} (hik : i ≤ k) (hk : k < (seqs c true).length) : lim c ((seqs c true).getD k 0) ≤ lim c ((seqs c true).getD i 0) := by
  have := down_get (vals_down c) hik (by simpa using hk)
  rw [getD_map' _ hk, getD_map' _ (by omega)] at this
  exact this
theorem lim_up (c : List Bid) {i k : Nat} (hik : i ≤ k) (hk : k < (seqs c false).length) : lim c ((seqs c false).getD i 0) ≤ lim c ((seqs c false).getD k 0) := by
  have := up_get (vals_up c) hik (by simpa using hk)
  rw [getD_map' _ hk, getD_map' _ (by omega)] at this
  exact this
structure HonOk (c : List Bid) : Prop where
  len : (hon c).1.length = (hon c).2.1.length
  len40 : (hon c).1.length ≤ c.length
  fits : (hon c).2.2.2 ≤ (hon c).2.2.1
  g0 : 0 ≤ (hon c).2.2.2
  p0 : (hon c).2.2.1 ≤ 100
  buys : ∀ p ∈ (hon c).1, p ∈ seqs c true ∧ (hon c).2.2.1 ≤ 2 * lim c p
  sells : ∀ p ∈ (hon c).2.1, p ∈ seqs c false ∧ 2 * lim c p ≤ (hon c).2.2.2
theorem hon_ok (c : List Bid) (h : Crowd c) : HonOk c := by
  obtain ⟨k1, k2⟩ := fitC_le c
  have lB := seqs_len c true
  have sp := (fitN_spec ((seqs c true).map (lim c)) ((seqs c false).map (lim c))).1
  have lm := fun p => h.lim p
  have dn := fun i k (hik : i ≤ k) (hk : k < (seqs c true).length) => lim_down c hik hk
  have up := fun i k (hik : i ≤ k) (hk : k < (seqs c false).length) => lim_up c hik hk
  have hk : fitN ((seqs c true).map (lim c)) ((seqs c false).map (lim c)) = fitC c := rfl
  rw [hk] at sp
  have e : hon c = honL (lim c) (seqs c true) (seqs c false) (fitC c) := rfl
  generalize fitC c = k at *
  have em : ∀ (A B : Prop) (p : Int), p ∈ ([] : List Int) → A ∧ B := fun _ _ p hp => by simp at hp
  unfold honL at e
  by_cases k0 : k = 0
  · rw [if_pos k0] at e
    exact ⟨by rw [e], by rw [e]; simp, by rw [e]; exact Int.le_refl _, by rw [e]; exact Int.le_refl _, by rw [e]; decide, by rw [e]; exact fun p hp => em _ _ p hp, by rw [e]; exact fun p hp => em _ _ p hp⟩
  · rw [if_neg k0] at e
    have s1 := sp (k - 1) (by omega)
    rw [getD_map' _ (by omega), getD_map' _ (by omega)] at s1
    by_cases hf : (k < (seqs c true).length ∧ k < (seqs c false).length) ∧ 2 * lim c ((seqs c false).getD (k - 1) 0) ≤ mean (lim c) (seqs c true) (seqs c false) k ∧ mean (lim c) (seqs c true) (seqs c false) k ≤ 2 * lim c ((seqs c true).getD (k - 1) 0)
    · rw [if_pos hf] at e
      have a1 := lm ((seqs c true).getD k 0)
      have a2 := lm ((seqs c false).getD k 0)
      have mm : mean (lim c) (seqs c true) (seqs c false) k = lim c ((seqs c true).getD k 0) + lim c ((seqs c false).getD k 0) := rfl
      refine ⟨by rw [e]; simp only [srt_len, List.length_take]; omega, by rw [e]; simp only [srt_len, List.length_take]; omega, by rw [e]; exact Int.le_refl _, by rw [e]; dsimp only; omega, by rw [e]; dsimp only; omega, ?_, ?_⟩
      · rw [e]
        intro p hp
        have hp := srt_mem.mp hp
        obtain ⟨i, i1, i2, rfl⟩ := mem_take_idx hp
        have := dn i (k - 1) (by omega) (by omega)
        exact ⟨List.mem_of_mem_take hp, by dsimp only; omega⟩
      · rw [e]
        intro p hp
        have hp := srt_mem.mp hp
        obtain ⟨i, i1, i2, rfl⟩ := mem_take_idx hp
        have := up i (k - 1) (by omega) (by omega)
        exact ⟨List.mem_of_mem_take hp, by dsimp only; omega⟩
    · rw [if_neg hf] at e
      by_cases k1' : k = 1
      · rw [if_pos k1'] at e
        exact ⟨by rw [e], by rw [e]; simp, by rw [e]; exact Int.le_refl _, by rw [e]; exact Int.le_refl _, by rw [e]; decide, by rw [e]; exact fun p hp => em _ _ p hp, by rw [e]; exact fun p hp => em _ _ p hp⟩
      · rw [if_neg k1'] at e
        have a1 := lm ((seqs c true).getD (k - 1) 0)
        have a2 := lm ((seqs c false).getD (k - 1) 0)
        refine ⟨by rw [e]; simp only [srt_len, List.length_take]; omega, by rw [e]; simp only [srt_len, List.length_take]; omega, by rw [e]; dsimp only; omega, by rw [e]; dsimp only; omega, by rw [e]; dsimp only; omega, ?_, ?_⟩
        · rw [e]
          intro p hp
          have hp := srt_mem.mp hp
          obtain ⟨i, i1, i2, rfl⟩ := mem_take_idx hp
          have := dn i (k - 1) (by omega) (by omega)
          exact ⟨List.mem_of_mem_take hp, by dsimp only; omega⟩
        · rw [e]
          intro p hp
          have hp := srt_mem.mp hp
          obtain ⟨i, i1, i2, rfl⟩ := mem_take_idx hp
          have := up i (k - 1) (by omega) (by omega)
          exact ⟨List.mem_of_mem_take hp, by dsimp only; omega⟩
end Q
end

section
set_option maxRecDepth 100000
set_option maxHeartbeats 4000000
namespace Q
open PySem PySem.Spec PyProof.Rows L2 EV
noncomputable def r61 : FS := (fSet 1 (fCall g__law_crowd (fCons (fVar 0) (fCons (fCon (.bool true)) fNil))))
noncomputable def r62 : FS := (fSet 1 (fIte (fTst (fOp2 gLt (fCB gLen (fCons (fVar 1) fNil)) (fCon (.int 11)))) (fOp2 gMulX (fVar 1) (fCall g__law_of (fCons (fVar 0) (fCons (fLst (fCons (fCon (.int 1)) (fCons (fCon (.int 1)) (fCons (fCon (.int 1)) (fCons (fCon (.int 4)) fNil))))) fNil)))) (fVar 1)))
noncomputable def r63 : FS := (fAsg (gsTup 4 (gsCons (gsName 2) (gsCons (gsName 3) (gsCons (gsName 4) (gsCons (gsName 5) gsNil))))) (fCall g__law_honest (fCons (fVar 1) fNil)))
noncomputable def r64 : FS := (fIf (fOrT (fTst (fOp2 gNe (fCB gRepr (fCons (fCall g_honest_told_4abf (fCons (fVar 1) fNil)) fNil)) (fCB gRepr (fCons (fTup (fCons (fVar 2) (fCons (fVar 3) (fCons (fVar 4) (fCons (fVar 5) fNil))))) fNil)))) (fOrT (fTst (fOp2 gNe (fCB gRepr (fCons (fCall g_left_over_bf0b (fCons (fVar 1) fNil)) fNil)) (fCB gRepr (fCons (fOp2 gMulX (fCB gLen (fCons (fVar 2) fNil)) (fOp2 gSub (fVar 4) (fVar 5))) fNil)))) (fTst (fOp2 gLt (fVar 4) (fVar 5))))) (fRet (fCon (.bool false))) fNx)
noncomputable def r6c1 : FE := (fComp [6] (fItS true (fVar 2)) (tName 6) fYes (fOp2 gLt (fOp2 gMulX (fCon (.int 2)) (fOp2 gIx (fOp2 gIx (fVar 1) (fVar 6)) (fCon (.int 1)))) (fVar 4)))
noncomputable def r6c2 : FE := (fComp [6] (fItS true (fVar 3)) (tName 6) fYes (fOp2 gGt (fOp2 gMulX (fCon (.int 2)) (fOp2 gIx (fOp2 gIx (fVar 1) (fVar 6)) (fCon (.int 1)))) (fVar 5)))
noncomputable def r65 : FS := (fIf (fOrT (fTst (fOp2 gNe (fCB gLen (fCons (fVar 2) fNil)) (fCB gLen (fCons (fVar 3) fNil)))) (fOrT (fTst (fCB gAny (fCons r6c1 fNil))) (fTst (fCB gAny (fCons r6c2 fNil))))) (fRet (fCon (.bool false))) fNx)
noncomputable def r66_1 : FS := (fAsg (gsTup 3 (gsCons (gsName 7) (gsCons (gsName 8) (gsCons (gsName 9) gsNil)))) (fOp2 gIx (fVar 1) (fVar 6)))
noncomputable def r66_2 : FS := (fSetO 10 (fLst fNil))
noncomputable def r66_3_1 : FS := (fSet 12 (fCall g__law_honest (fCons (fOp2 gAdd (fOp2 gAdd (fSl (fVar 1) fNo (fPart (fVar 6))) (fTup (fCons (fTup (fCons (fVar 7) (fCons (fVar 11) (fCons (fCon (.int 1)) fNil)))) fNil))) (fSl (fVar 1) (fPart (fOp2 gAdd (fVar 6) (fCon (.int 1)))) fNo)) fNil)))
noncomputable def r66_3_2 : FS := (fSet 13 (fIte (fTst (fOp2 gEq (fVar 7) (fCon (.str "buy")))) (fOp2 gSub (fOp2 gMulX (fCon (.int 2)) (fVar 8)) (fOp2 gIx (fVar 12) (fCon (.int 2)))) (fOp2 gSub (fOp2 gIx (fVar 12) (fCon (.int 3))) (fOp2 gMulX (fCon (.int 2)) (fVar 8)))))
noncomputable def r66_3_3 : FS := (fApp 10 (fIte (fTst (fOp2 gIn (fVar 6) (fOp2 gAdd (fOp2 gIx (fVar 12) (fCon (.int 0))) (fOp2 gIx (fVar 12) (fCon (.int 1)))))) (fVar 13) (fCon (.int 0))))
noncomputable def r66_3_B : FS := fSeq r66_3_1 (fSeq r66_3_2 r66_3_3)
noncomputable def r66_3 : FS := fFor (fRange2 (fCon (.int 1)) (fCon (.int 51))) (tName 11) r66_3_B
noncomputable def r66_4 : FS := (fSet 14 (fCall g_gains_by_30bb (fCons (fVar 1) (fCons (fVar 6) fNil))))
noncomputable def r66_5 : FS := (fIf (fOrT (fTst (fOp2 gNe (fCB gRepr (fCons (fVar 14) fNil)) (fCB gRepr (fCons (fCB gTuple (fCons (fVar 10) fNil)) fNil)))) (fOrT (fTst (fOp2 gNe (fCB gMaxU (fCons (fVar 14) fNil)) (fOp2 gIx (fVar 14) (fOp2 gSub (fVar 8) (fCon (.int 1)))))) (fTst (fOp2 gLt (fOp2 gIx (fVar 14) (fOp2 gSub (fVar 8) (fCon (.int 1)))) (fCon (.int 0)))))) (fRet (fCon (.bool false))) fNx)
noncomputable def r66_B : FS := fSeq r66_1 (fSeq r66_2 (fSeq r66_3 (fSeq r66_4 r66_5)))
noncomputable def r66 : FS := fFor (fItS false (fIte (fTst (fOp2 gNe (fVar 1) (fTup fNil))) (fComp [15] (fRange1 (fCon (.int 2))) (tName 15) fYes (fCall g__law_take (fCons (fVar 0) (fCons (fCB gLen (fCons (fVar 1) fNil)) fNil)))) (fLst fNil))) (tName 6) r66_B
noncomputable def r67 : FS := (fRet (fCon (.bool true)))
noncomputable def r6All : FS := fSeq r61 (fSeq r62 (fSeq r63 (fSeq r64 (fSeq r65 (fSeq r66 r67)))))
theorem r6_eq : g__law_right_1f64 = fnOf 1 16 r6All := rfl
theorem bids_of {P : Bid → Prop} : ∀ {ds : List PyData}, (∀ d ∈ ds, ∃ b : Bid, d = enc1 b ∧ P b) → ∃ c : List Bid, ds = enc c ∧ ∀ b ∈ c, P b
  | [], _ => ⟨[], rfl, by simp⟩
  | d :: ds, h => by
    obtain ⟨z, rfl, hz⟩ := h d List.mem_cons_self
    obtain ⟨js, rfl, hj⟩ := bids_of (ds := ds) fun e he => h e (List.mem_cons_of_mem _ he)
    exact ⟨z :: js, rfl, fun j hj' => by
      rcases List.mem_cons.mp hj' with rfl | hj'
      · exact hz
      · exact hj j hj'⟩
theorem law_crowd_ok {st : Sto} {m n l : Nat} (h : Sm m n l st) (hn : n + 100 < 2 ^ 40) : ∃ (c : List Bid) (st' : Sto), g__law_crowd [.ref m, .dat (.bool true)] st = some (.dat (.tuple (enc c)), st') ∧ c.length ≤ 8 ∧ (∀ b ∈ c, 1 ≤ b.2 ∧ b.2 ≤ 50) ∧ Sm m (n + 29) l st' := by
  obtain ⟨x1, st1, e1, m1, h1⟩ := of_ok (ds := [.int 4, .int 9, .int 50]) h (by omega) (by simp) (by simp)
  obtain ⟨top, rfl, ht⟩ : ∃ f : Int, x1 = .int f ∧ 1 ≤ f ∧ f ≤ 50 := by
    simp at m1
    rcases m1 with rfl | rfl | rfl <;> exact ⟨_, rfl, by decide, by decide⟩
  obtain ⟨d1, st2, e2, m2, h2⟩ := take_ok (u := 7) h1 (by omega) (by decide) (by decide)
  obtain ⟨d2, st3, e3, m3, h3⟩ := take_ok (u := 9) h2 (by omega) (by decide) (by decide)
  obtain ⟨d3, st4, e4, m4, h4⟩ := take_ok (u := 9) h3 (by omega) (by decide) (by decide)
  obtain ⟨x5, st5, e5, m5, h5⟩ := of_ok (ds := [.int d1, .int d2, .int d3]) h4 (by omega) (by simp) (by simp)
  obtain ⟨k, rfl, hk⟩ : ∃ f : Int, x5 = .int f ∧ 0 ≤ f ∧ f ≤ 8 := by
    simp at m5
    rcases m5 with rfl | rfl | rfl
    · exact ⟨_, rfl, by omega, by omega⟩
    · exact ⟨_, rfl, by omega, by omega⟩
    · exact ⟨_, rfl, by omega, by omega⟩
  have l0 := h.len
  have l1 := h1.len
  have l2 := h2.len
  have l3 := h3.len
  have l4 := h4.len
  have l5 := h5.len
  obtain ⟨out, st', g1, g2, g3, g4⟩ := compL_st (tg := tName 5) (el := fTup (fCons (fCall g__law_of (fCons (fVar 0) (fCons (fLst (fCons (fCon (.str "buy")) (fCons (fCon (.str "sell")) fNil))) fNil))) (fCons (fOp2 gAdd (fCon (.int 1)) (fCall g__law_take (fCons (fVar 0) (fCons (fVar 2) fNil)))) (fCons (fOp2 gAdd (fCon (.int 1)) (fCall g__law_take (fCons (fVar 0) (fCons (fVar 3) fNil)))) fNil)))) (ρ := [.ref m, .dat (.bool true), .dat (.int top), .dat (.int 1), .dat (.int k), .non])
    8 (fun i s => Sm m (n + 5 + 3 * i) l s) (fun _ e => ∃ b : Bid, e = enc1 b ∧ 1 ≤ b.2 ∧ b.2 ≤ 50) (ds := rangeD 0 k.toNat) (n := 0) (st := st5) (h5.mono (by omega)) (by rw [rangeD_len]; omega) (fun d hd i s hi hs => by
      obtain ⟨y1, s1, f1, q1, k1⟩ := of_ok (ds := [.str "buy", .str "sell"]) hs (by omega) (by simp) (by simp)
      obtain ⟨z1, s2, f2, q2, k2⟩ := take_ok (u := top) k1 (by omega) ht.1 (by omega)
      obtain ⟨z2, s3, f3, q3, k3⟩ := take_ok (u := 1) k2 (by omega) (by decide) (by decide)
      obtain ⟨b, rfl⟩ : ∃ b : Bool, y1 = .str (sd b) := by
        simp at q1
        rcases q1 with rfl | rfl
        · exact ⟨true, rfl⟩
        · exact ⟨false, rfl⟩
      have y2 : z2 = 0 := by omega
      subst y2
      have a0 := hs.len
      have a1 := k1.len
      have a2 := k2.len
      have a3 := k3.len
      refine ⟨[.ref m, .dat (.bool true), .dat (.int top), .dat (.int 1), .dat (.int k), .dat d], rfl, .dat (enc1 (b, 1 + z1)), enc1 (b, 1 + z1), s3, ?_, rfl, ⟨(b, 1 + z1), rfl, by dsimp only; omega, by dsimp only; omega⟩, k3.mono (by omega)⟩
      simp [f1, f2, f3, a0, a1, a2, a3, enc1, sizeLine_eq])
  obtain ⟨c, rfl, hs⟩ := bids_of (out_all g2 g3 fun _ _ h => h)
  rw [rangeD_len] at g2 g4
  have hl : c.length = k.toNat := by simpa using g2
  refine ⟨c, st', ?_, by omega, hs, g4.mono (by omega)⟩
  have l6 := g4.len
  have cc := fComp_at (own := [5]) (it := fRange1 (fVar 4)) (ρ := [.ref m, .dat (.bool true), .dat (.int top), .dat (.int 1), .dat (.int k), .non]) (st := st5) (st1 := st5) (by simp [noOwn]) (by simp [rgB_of hk.1 (show k < 1000000000000 by omega)]) (by rw [sizeLine_eq, rangeD_len]; omega) g1
  unfold g__law_crowd e__law_crowd
  rw [fnOf_at (by rfl)]
  simp [frame, e1, e2, e3, e4, e5, cc, l0, l1, l2, l3, l4, l5, l6, sizeLine_eq]
  rw [← l6, List.take_length]
/-! the frame -/
abbrev hf (m : Nat) (c : List Bid) (h : List Int × List Int × Int × Int) (w6 w7 w8 w9 w10 w11 w12 w13 w14 : SV) : Fr := [.ref m, .dat (.tuple (enc c)), .dat (.tuple (zs h.1)), .dat (.tuple (zs h.2.1)), .dat (.int h.2.2.1), .dat (.int h.2.2.2), w6, w7, w8, w9, w10, w11, w12, w13, w14, .non]
section
variable {st : Sto} {m n l : Nat} {c : List Bid} {w6 w7 w8 w9 w10 w11 w12 w13 w14 : SV}
theorem times_ok (c : List Bid) (hl : c.length ≤ 8) (hb : ∀ b ∈ c, 1 ≤ b.2 ∧ b.2 ≤ 50) (k : Int) (hk : k = 1 ∨ k = 4) : ∃ c', gMulX (.tuple (enc c)) (.int k) = some (.dat (.tuple (enc c'))) ∧ Crowd c' := by
  by_cases h : (enc c).isEmpty = true ∨ k = 1
  · refine ⟨c, ?_, ⟨by omega, hb⟩⟩
    show (if (enc c).isEmpty = true ∨ k = 1 then (if okI k = true then some (.dat (.tuple (enc c))) else none) else gMul (.tuple (enc c)) (.int k)) = _
    rw [if_pos h, if_pos (okI_of (by omega) (by omega))]
  · have h4 : k = 4 := by rcases hk with z | z; exact absurd (.inr z) h; exact z
    subst h4
    refine ⟨(List.replicate 4 c).flatten, ?_, ⟨by simp; omega, fun b hb' => ?_⟩⟩
    · have ne : enc c ≠ [] := fun z => h (.inl (by rw [z]; rfl))
      show (if (enc c).isEmpty = true ∨ (4 : Int) = 1 then (if okI 4 = true then some (SV.dat (.tuple (enc c))) else none) else (if enc c ≠ [] ∧ 2 ≤ (4 : Int) ∧ (4 : Int) ≤ 1000 ∧ (enc c).length ≤ 1000 then some (SV.dat (.tuple (List.replicate (4 : Int).toNat (enc c)).flatten)) else none)) = _
      rw [if_neg h, if_pos ⟨ne, by decide, by decide, by simp; omega⟩]
      congr 3
      simp [List.map_flatten]
    · obtain ⟨xs, h1, h2⟩ := List.mem_flatten.mp hb'
      rw [List.eq_of_mem_replicate h1] at h2
      exact hb b h2
theorem v12 (h : Sm m n l st) (hn : n + 100 < 2 ^ 40) : ∃ (c : List Bid) (st' : Sto), (match r61 [.ref m, .non, .non, .non, .non, .non, .non, .non, .non, .non, .non, .non, .non, .non, .non, .non] st with | some (.nx ρ1, st1) => r62 ρ1 st1 | some (fl, st1) => some (fl, st1) | none => none) = some (.nx [.ref m, .dat (.tuple (enc c)), .non, .non, .non, .non, .non, .non, .non, .non, .non, .non, .non, .non, .non, .non], st') ∧ Crowd c ∧ Sm m (n + 30) l st' := by
  obtain ⟨c, st1, e1, hl, hb, h1⟩ := law_crowd_ok h hn
  obtain ⟨x, st2, e2, m2, h2⟩ := of_ok (ds := [.int 1, .int 1, .int 1, .int 4]) h1 (by omega) (by simp) (by simp)
  obtain ⟨k, rfl, hk⟩ : ∃ k : Int, x = .int k ∧ (k = 1 ∨ k = 4) := by
    simp at m2
    rcases m2 with rfl | rfl
    · exact ⟨_, rfl, .inl rfl⟩
    · exact ⟨_, rfl, .inr rfl⟩
  obtain ⟨c', e3, hc⟩ := times_ok c hl hb k hk
  refine ⟨c', st2, ?_, hc, h2⟩
  have l0 := h.len
  have l1 := h1.len
  have l2 := h2.len
  unfold r61 r62
  simp [e1, e2, e3, l0, l1, l2, show (c.length : Int) < 11 by omega, sizeLine_eq]
end
end Q
end

section
set_option maxRecDepth 100000
set_option maxHeartbeats 4000000
namespace Q
open PySem PySem.Spec PyProof.Rows L2 EV
section
variable {st : Sto} {m n l : Nat} {c : List Bid} {w6 w7 w8 w9 w10 w11 w12 w13 w14 : SV}
theorem v3 (h : Crowd c) : r63 [.ref m, .dat (.tuple (enc c)), .non, .non, .non, .non, .non, .non, .non, .non, .non, .non, .non, .non, .non, .non] st = some (.nx (hf m c (hon c) .non .non .non .non .non .non .non .non .non), st) := by
  have e := law_honest_ok (st := st) c h
  unfold encH at e
  unfold r63
  simp [e]
theorem v4 (h : Crowd c) (hst : stFlat st = true) : r64 (hf m c (hon c) w6 w7 w8 w9 w10 w11 w12 w13 w14) st = some (.nx (hf m c (hon c) w6 w7 w8 w9 w10 w11 w12 w13 w14), st) := by
  have H := hon_ok c h
  have hl := h.1
  have l1 := H.len40
  have l2 := H.len
  have b1 := H.fits
  have b2 := H.g0
  have b3 := H.p0
  have e1 := honest_told_ok (st := st) c h
  have e2 := left_over_ok (st := st) c h (by omega) (by omega)
  have pl : ∀ p, p ∈ seqs c true ∨ p ∈ seqs c false → -200 ≤ p ∧ p ≤ 200 := fun p hp => by
    rcases hp with hp | hp <;> (obtain ⟨i, rfl, hi, _⟩ := mem_seqs hp; omega)
  have g1 := repr_hon (h := hon c) (by omega) (by omega) (fun p hp => pl p (.inl (H.buys p hp).1)) (fun p hp => pl p (.inr (H.sells p hp).1)) (by omega) (by omega)
  have x0 : 0 ≤ ((hon c).1.length : Int) * ((hon c).2.2.1 - (hon c).2.2.2) := Int.mul_nonneg (by omega) (by omega)
  have x1 : ((hon c).1.length : Int) * ((hon c).2.2.1 - (hon c).2.2.2) ≤ 40 * 100 := Int.mul_le_mul (by omega) (by omega) (by omega) (by decide)
  have mm : gMulX (.int ((hon c).1.length : Int)) (.int ((hon c).2.2.1 - (hon c).2.2.2)) = _ := mulx_ok (by omega) (by omega)
  have g2 := repr_int (i := ((hon c).1.length : Int) * ((hon c).2.2.1 - (hon c).2.2.2)) (short_int (by omega)) (by have := log2_lt (i := ((hon c).1.length : Int) * ((hon c).2.2.1 - (hon c).2.2.2)) (n := 64) (by omega) (by decide); omega)
  unfold encH at e1 g1
  unfold r64
  generalize hon c = h at *
  obtain ⟨B, S, P, G⟩ := h
  simp only [zs] at *
  simp [e1, e2, g1, g2, mm, sizeLine_eq, show ¬ P < G by omega]
theorem v5 (h : Crowd c) : r65 (hf m c (hon c) .non w7 w8 w9 w10 w11 w12 w13 w14) st = some (.nx (hf m c (hon c) .non w7 w8 w9 w10 w11 w12 w13 w14), st) := by
  have H := hon_ok c h
  have hl := h.1
  have l1 := H.len40
  have l2 := H.len
  have lm := fun p => h.lim p
  have m1 : ∀ p, gMulX (.int 2) (.int (at' c p).2) = some (.dat (.int (2 * (at' c p).2))) := fun p => mulx_ok (by decide) (by have := lm p; unfold lim at this; omega)
  have ib : ∀ p b, p ∈ seqs c b → gIx (.tuple (enc c)) (.int p) = some (.dat (enc1 (at' c p))) := fun p b hp => by
    obtain ⟨i, rfl, hi, _⟩ := mem_seqs hp
    exact ix_enc hi
  have c1 := fComp_at (st := st) (st1 := st) (own := [6]) (it := fItS true (fVar 2)) (tg := tName 6) (cs := fYes) (el := fOp2 gLt (fOp2 gMulX (fCon (.int 2)) (fOp2 gIx (fOp2 gIx (fVar 1) (fVar 6)) (fCon (.int 1)))) (fVar 4))
    (ρ := hf m c (hon c) .non w7 w8 w9 w10 w11 w12 w13 w14) (ds := zs (hon c).1) (by simp [noOwn]) (by simp) (by rw [sizeLine_eq]; simp; omega)
    (compB (fun _ => false) fun p hp => ⟨hf m c (hon c) (.dat (.int p)) w7 w8 w9 w10 w11 w12 w13 w14, rfl, by
      obtain ⟨h1, h2⟩ := H.buys p hp
      have e := ib p true h1
      have e2 := m1 p
      unfold lim at h2
      simp [e, ix_1, e2, h2]⟩)
  have c2 := fComp_at (st := st) (st1 := st) (own := [6]) (it := fItS true (fVar 3)) (tg := tName 6) (cs := fYes) (el := fOp2 gGt (fOp2 gMulX (fCon (.int 2)) (fOp2 gIx (fOp2 gIx (fVar 1) (fVar 6)) (fCon (.int 1)))) (fVar 5))
    (ρ := hf m c (hon c) .non w7 w8 w9 w10 w11 w12 w13 w14) (ds := zs (hon c).2.1) (by simp [noOwn]) (by simp) (by rw [sizeLine_eq]; simp; omega)
    (compB (fun _ => false) fun p hp => ⟨hf m c (hon c) (.dat (.int p)) w7 w8 w9 w10 w11 w12 w13 w14, rfl, by
      obtain ⟨h1, h2⟩ := H.sells p hp
      have e := ib p false h1
      have e2 := m1 p
      unfold lim at h2
      simp [e, ix_1, e2, h2]⟩)
  have an : ∀ xs : List Int, gAny [.list (xs.map fun _ => PyData.bool false)] = some (.dat (.bool false)) := fun xs => by
    rw [gAny_mapf]; simp
  have a1 := an (hon c).1
  have a2 := an (hon c).2.1
  unfold r65 r6c1 r6c2
  generalize hon c = h at *
  obtain ⟨B, S, P, G⟩ := h
  simp only [zs] at *
  simp [c1, c2, a1, a2, l2]
/-! the loop over the limits -/
theorem mem_side {p : Nat} (h : Crowd c) (hp : p < c.length) : ((p : Int) ∈ (hon c).1 → (at' c p).1 = true) ∧ ((p : Int) ∈ (hon c).2.1 → (at' c p).1 = false) := by
  have H := hon_ok c h
  refine ⟨fun z => ?_, fun z => ?_⟩
  · obtain ⟨i, e, _, s⟩ := mem_seqs (H.buys _ z).1
    rw [e]; exact s
  · obtain ⟨i, e, _, s⟩ := mem_seqs (H.sells _ z).1
    rw [e]; exact s
theorem due_hgain {p : Nat} (h : Crowd c) (hp : p < c.length) {r : Int} (hr : 1 ≤ r ∧ r ≤ 50) : (if ((hon (tell c p r)).1 ++ (hon (tell c p r)).2.1).contains (p : Int) = true then (if (at' c p).1 = true then 2 * (at' c p).2 - (hon (tell c p r)).2.2.1 else (hon (tell c p r)).2.2.2 - 2 * (at' c p).2) else 0) = hgain c p r := by
  have ht := tell_crowd h (p := p) hr
  have hp' : p < (tell c p r).length := by simpa [tell] using hp
  obtain ⟨s1, s2⟩ := mem_side (p := p) ht hp'
  rw [at_tell hp, if_pos rfl] at s1 s2
  unfold hgain
  generalize hon (tell c p r) = H at *
  obtain ⟨B, S, P, G⟩ := H
  simp only [List.contains_iff_mem, List.mem_append] at *
  by_cases b : (at' c p).1 = true
  · rw [if_pos b, if_pos b]
    by_cases m1 : (p : Int) ∈ B
    · rw [if_pos (.inl m1), if_pos m1]
    · rw [if_neg m1, if_neg]
      intro z
      rcases z with z | z
      · exact m1 z
      · have := s2 z; rw [b] at this; cases this
  · rw [if_neg b, if_neg b]
    by_cases m1 : (p : Int) ∈ S
    · rw [if_pos (.inr m1), if_pos m1]
    · rw [if_neg m1, if_neg]
      intro z
      rcases z with z | z
      · exact b (s1 z)
      · exact m1 z
theorem limit_ok {p : Nat} (h : Crowd c) (hp : p < c.length) {r : Int} (hr : 1 ≤ r ∧ r ≤ 50) (acc : List Int) (ha : acc.length ≤ 1000) :
    ∃ w12' w13', r66_3_B (hf m c (hon c) (.dat (.int p)) (.dat (.str (sd (at' c p).1))) (.dat (.int (at' c p).2)) (.dat (.int 1)) (.own (zs acc)) (.dat (.int r)) w12 w13 w14) st = some (.nx (hf m c (hon c) (.dat (.int p)) (.dat (.str (sd (at' c p).1))) (.dat (.int (at' c p).2)) (.dat (.int 1)) (.own (zs (acc ++ [hgain c p r]))) (.dat (.int r)) w12' w13' w14), st) := by
  have hl := h.1
  have c1 := cut_to (enc c) p
  have c2 := cut_from1 (enc c) p
  have et := enc_tell hp r
  have e2 := law_honest_ok (st := st) (tell c p r) (tell_crowd h hr)
  have lm := h.lim p
  have mm : gMulX (.int 2) (.int (at' c p).2) = some (.dat (.int (2 * (at' c p).2))) := mulx_ok (by decide) (by unfold lim at lm; omega)
  have i1 := gIn_int p ((hon (tell c p r)).1 ++ (hon (tell c p r)).2.1)
  have dh := due_hgain h hp hr
  have lt : ((enc c).take p).length ≤ 40 := by simp; omega
  have lu : ((enc c).drop (p + 1)).length ≤ 40 := by simp; omega
  have H := hon_ok (tell c p r) (tell_crowd h hr)
  have hl2 : (tell c p r).length ≤ 40 := by simp [tell]; omega
  have L1 := H.len40
  have L2 := H.len
  clear H
  generalize hon (tell c p r) = H at *
  obtain ⟨B, S, P, G⟩ := H
  generalize hgain c p r = g at *
  unfold encH at e2
  dsimp only at e2 i1 dh L1 L2
  have lD : (B ++ S).length = B.length + S.length := List.length_append
  have mD : zs (B ++ S) = zs B ++ zs S := List.map_append
  generalize B ++ S = D at *
  generalize hT : (enc c).take p = T at *
  generalize hU : (enc c).drop (p + 1) = U at *
  generalize hE : enc (tell c p r) = E at *
  have s1 : r66_3_1 (hf m c (hon c) (.dat (.int p)) (.dat (.str (sd (at' c p).1))) (.dat (.int (at' c p).2)) (.dat (.int 1)) (.own (zs acc)) (.dat (.int r)) w12 w13 w14) st = some (.nx (hf m c (hon c) (.dat (.int p)) (.dat (.str (sd (at' c p).1))) (.dat (.int (at' c p).2)) (.dat (.int 1)) (.own (zs acc)) (.dat (.int r)) (.dat (.tuple [.tuple (zs B), .tuple (zs S), .int P, .int G])) w13 w14), st) := by
    have a1 : gAdd (.tuple T) (.tuple [.tuple [.str (sd (at' c p).1), .int r, .int 1]]) = some (.dat (.tuple (T ++ [.tuple [.str (sd (at' c p).1), .int r, .int 1]]))) := by
      show (if _ then _ else _) = _
      rw [if_pos (by rw [sizeLine_eq]; simp; omega)]
    have a2 : gAdd (.tuple (T ++ [.tuple [.str (sd (at' c p).1), .int r, .int 1]])) (.tuple U) = some (.dat (.tuple E)) := by
      show (if _ then _ else _) = _
      rw [if_pos (by rw [sizeLine_eq]; simp; omega), ← et]
      simp
    unfold r66_3_1
    simp [c1, c2, a1, a2, e2, sizeLine_eq]
  have s2 : ∀ w12', w12' = SV.dat (.tuple [.tuple (zs B), .tuple (zs S), .int P, .int G]) → r66_3_2 (hf m c (hon c) (.dat (.int p)) (.dat (.str (sd (at' c p).1))) (.dat (.int (at' c p).2)) (.dat (.int 1)) (.own (zs acc)) (.dat (.int r)) w12' w13 w14) st = some (.nx (hf m c (hon c) (.dat (.int p)) (.dat (.str (sd (at' c p).1))) (.dat (.int (at' c p).2)) (.dat (.int 1)) (.own (zs acc)) (.dat (.int r)) w12' (.dat (.int (if (at' c p).1 = true then 2 * (at' c p).2 - P else G - 2 * (at' c p).2))) w14), st) := fun w12' e => by
    subst e
    unfold r66_3_2
    cases hb : (at' c p).1 with
    | true => simp [sd, mm]
    | false => simp [sd, mm, show ¬ (("sell" : Str) = "buy") by decide]
  have s3 : ∀ g', g' = (if (at' c p).1 = true then 2 * (at' c p).2 - P else G - 2 * (at' c p).2) → r66_3_3 (hf m c (hon c) (.dat (.int p)) (.dat (.str (sd (at' c p).1))) (.dat (.int (at' c p).2)) (.dat (.int 1)) (.own (zs acc)) (.dat (.int r)) (.dat (.tuple [.tuple (zs B), .tuple (zs S), .int P, .int G])) (.dat (.int g')) w14) st = some (.nx (hf m c (hon c) (.dat (.int p)) (.dat (.str (sd (at' c p).1))) (.dat (.int (at' c p).2)) (.dat (.int 1)) (.own (zs (acc ++ [g]))) (.dat (.int r)) (.dat (.tuple [.tuple (zs B), .tuple (zs S), .int P, .int G])) (.dat (.int g')) w14), st) := fun g' e => by
    rw [← e] at dh
    have a1 : gAdd (.tuple (zs B)) (.tuple (zs S)) = some (.dat (.tuple (zs D))) := by
      show (if _ then _ else _) = _
      rw [if_pos (by rw [sizeLine_eq]; simp; omega), mD]
    have ev : (fIte (fTst (fOp2 gIn (fVar 6) (fOp2 gAdd (fOp2 gIx (fVar 12) (fCon (.int 0))) (fOp2 gIx (fVar 12) (fCon (.int 1)))))) (fVar 13) (fCon (.int 0))) (hf m c (hon c) (.dat (.int p)) (.dat (.str (sd (at' c p).1))) (.dat (.int (at' c p).2)) (.dat (.int 1)) (.own (zs acc)) (.dat (.int r)) (.dat (.tuple [.tuple (zs B), .tuple (zs S), .int P, .int G])) (.dat (.int g')) w14) st = some (.dat (.int g), st) := by
      rw [← dh]
      by_cases z : D.contains (p : Int) = true
      · rw [z] at i1
        rw [if_pos z]
        simp [a1, i1]
      · rw [if_neg z]
        have z' : D.contains (p : Int) = false := by simpa using z
        rw [z'] at i1
        simp [a1, i1]
    unfold r66_3_3
    rw [q_app (ds := zs acc) ev rfl rfl (by rw [sizeLine_eq]; simp; omega)]
    simp
  refine ⟨.dat (.tuple [.tuple (zs B), .tuple (zs S), .int P, .int G]), .dat (.int (if (at' c p).1 = true then 2 * (at' c p).2 - P else G - 2 * (at' c p).2)), ?_⟩
  unfold r66_3_B
  rw [q_seq, s1]
  dsimp only
  rw [q_seq, s2 _ rfl]
  dsimp only
  rw [s3 _ rfl]
end
end Q
end

section
set_option maxRecDepth 100000
set_option maxHeartbeats 4000000
namespace Q
open PySem PySem.Spec PyProof.Rows L2 EV
section
variable {st : Sto} {m n l : Nat} {c : List Bid} {w6 w7 w8 w9 w10 w11 w12 w13 w14 : SV}
theorem limits_ok {p : Nat} (h : Crowd c) (hp : p < c.length) : ∀ (rs acc : List Int) (w11 w12 w13 : SV), (∀ r ∈ rs, 1 ≤ r ∧ r ≤ 50) → acc.length + rs.length ≤ 1000 →
    ∃ w11' w12' w13', forL (tName 11) r66_3_B (zs rs) (hf m c (hon c) (.dat (.int p)) (.dat (.str (sd (at' c p).1))) (.dat (.int (at' c p).2)) (.dat (.int 1)) (.own (zs acc)) w11 w12 w13 w14) st = some (.nx (hf m c (hon c) (.dat (.int p)) (.dat (.str (sd (at' c p).1))) (.dat (.int (at' c p).2)) (.dat (.int 1)) (.own (zs (acc ++ rs.map (hgain c p)))) w11' w12' w13' w14), st)
  | [], acc, w11, w12, w13, _, _ => ⟨w11, w12, w13, by rw [List.map_nil, List.append_nil]; rfl⟩
  | r :: rs, acc, w11, w12, w13, hr, hl => by
    rw [List.length_cons] at hl
    obtain ⟨v12, v13, e⟩ := limit_ok (st := st) (m := m) (w12 := w12) (w13 := w13) (w14 := w14) h hp (hr r List.mem_cons_self) acc (by omega)
    obtain ⟨u11, u12, u13, e2⟩ := limits_ok h hp rs (acc ++ [hgain c p r]) (.dat (.int r)) v12 v13 (fun x hx => hr x (List.mem_cons_of_mem _ hx)) (by simp; omega)
    refine ⟨u11, u12, u13, ?_⟩
    show forL _ _ (PyData.int r :: zs rs) _ _ = _
    rw [forL_cons (h1 := rfl) (h2 := e), e2]
    simp
theorem hgain_small {p : Nat} (h : Crowd c) (hp : p < c.length) {r : Int} (hr : 1 ≤ r ∧ r ≤ 50) : -200 ≤ hgain c p r ∧ hgain c p r ≤ 200 := by
  have H := hon_ok (tell c p r) (tell_crowd h hr)
  have a := H.fits
  have b := H.g0
  have d := H.p0
  have lm := h.lim p
  unfold lim at lm
  unfold hgain
  split
  · split <;> omega
  · split <;> omega
theorem max_ok (f : Int → Int) (own : Int) (ho : 1 ≤ own ∧ own ≤ 50) (hm : ∀ r, 1 ≤ r ∧ r ≤ 50 → f r ≤ f own) : gMaxU [.tuple (zs (limits.map f))] = some (.dat (.int (f own))) := by
  have e : limits.map f = f 1 :: ((List.range 49).map fun (i : Nat) => f (2 + (i : Int))) := by
    unfold limits
    rw [List.map_map, show (50 : Nat) = 49 + 1 from rfl, List.range_succ_eq_map, List.map_cons, List.map_map]
    have e2 : ((fun i : Nat => f (1 + (i : Int))) ∘ Nat.succ) = fun i : Nat => f (2 + (i : Int)) := by
      funext i
      show f (1 + ((i + 1 : Nat) : Int)) = f (2 + (i : Int))
      rw [show 1 + ((i + 1 : Nat) : Int) = 2 + (i : Int) by omega]
    show f (1 + ((0 : Nat) : Int)) :: (List.range 49).map ((fun i : Nat => f (1 + (i : Int))) ∘ Nat.succ) = _
    rw [e2]
    rfl
  have mem : ∀ x ∈ limits.map f, x ≤ f own := fun x hx => by
    obtain ⟨r, hr, rfl⟩ := List.mem_map.mp hx
    exact hm r (mem_limits hr)
  have own_mem : f own ∈ limits.map f := List.mem_map.mpr ⟨own, by
    unfold limits
    exact List.mem_map.mpr ⟨(own - 1).toNat, List.mem_range.mpr (by omega), by omega⟩, rfl⟩
  rw [e] at mem own_mem ⊢
  generalize f 1 = x at *
  generalize (List.range 49).map (fun (i : Nat) => f (2 + (i : Int))) = xs at *
  have ok : mmOk (zs (x :: xs)) = true := by
    unfold mmOk
    rw [Bool.and_eq_true, Bool.and_eq_true, List.all_eq_true, List.all_eq_true, List.all_eq_true]
    refine ⟨fun k hk => ?_, fun k hk => ?_, fun k hk => ?_⟩
    · obtain ⟨y, _, rfl⟩ := List.mem_map.mp hk
      simp [PyData.canLay0, PyData.depth]
    · obtain ⟨y, _, rfl⟩ := List.mem_map.mp hk
      refine List.all_eq_true.mpr fun k2 hk2 => ?_
      obtain ⟨z, _, rfl⟩ := List.mem_map.mp hk2
      exact alike_int _ _
    · obtain ⟨y, _, rfl⟩ := List.mem_map.mp hk
      rfl
  show (if mmOk (zs (x :: xs)) = true then some (SV.dat (PySem.W.maxD (.int x) (zs xs))) else none) = _
  rw [if_pos ok, zs, PySem.W.maxD_ints]
  congr 3
  obtain ⟨m1, m2⟩ := maxL_spec xs x
  have a := mem _ m1
  have b := m2 _ own_mem
  show maxL x xs = f own
  omega
theorem body6_ok {p : Nat} (h : Crowd c) (hp : p < c.length) (hst : stFlat st = true) : ∃ w7' w8' w9' w10' w11' w12' w13' w14', r66_B (hf m c (hon c) (.dat (.int p)) w7 w8 w9 w10 w11 w12 w13 w14) st = some (.nx (hf m c (hon c) (.dat (.int p)) w7' w8' w9' w10' w11' w12' w13' w14'), st) := by
  have hl := h.1
  have e1 : r66_1 (hf m c (hon c) (.dat (.int p)) w7 w8 w9 w10 w11 w12 w13 w14) st = some (.nx (hf m c (hon c) (.dat (.int p)) (.dat (.str (sd (at' c p).1))) (.dat (.int (at' c p).2)) (.dat (.int 1)) w10 w11 w12 w13 w14), st) := by
    have i := ix_enc hp
    unfold enc1 at i
    unfold r66_1
    rw [q_asg, q_op2]
    simp [i]
  have e2 : r66_2 (hf m c (hon c) (.dat (.int p)) (.dat (.str (sd (at' c p).1))) (.dat (.int (at' c p).2)) (.dat (.int 1)) w10 w11 w12 w13 w14) st = some (.nx (hf m c (hon c) (.dat (.int p)) (.dat (.str (sd (at' c p).1))) (.dat (.int (at' c p).2)) (.dat (.int 1)) (.own (zs [])) w11 w12 w13 w14), st) := by
    unfold r66_2
    simp [hst, sizeLine_eq, flatDs]
  obtain ⟨u11, u12, u13, e3⟩ := limits_ok (st := st) (m := m) (w14 := w14) h hp limits [] w11 w12 w13 (fun r hr => mem_limits hr) (by simp [limits])
  rw [List.nil_append] at e3
  have e3' : r66_3 (hf m c (hon c) (.dat (.int p)) (.dat (.str (sd (at' c p).1))) (.dat (.int (at' c p).2)) (.dat (.int 1)) (.own (zs [])) w11 w12 w13 w14) st = some (.nx (hf m c (hon c) (.dat (.int p)) (.dat (.str (sd (at' c p).1))) (.dat (.int (at' c p).2)) (.dat (.int 1)) (.own (zs (limits.map (hgain c p)))) u11 u12 u13 w14), st) := by
    have o1 : okI 1 = true := okI_of (by decide) (by decide)
    have o2 : okI 51 = true := okI_of (by decide) (by decide)
    have it : (fRange2 (fCon (.int 1)) (fCon (.int 51))) (hf m c (hon c) (.dat (.int p)) (.dat (.str (sd (at' c p).1))) (.dat (.int (at' c p).2)) (.dat (.int 1)) (.own (zs [])) w11 w12 w13 w14) st = some (zs limits, st) := by
      simp [o1, o2, range50]
    unfold r66_3
    rw [q_for, it]
    exact e3
  have e4 : r66_4 (hf m c (hon c) (.dat (.int p)) (.dat (.str (sd (at' c p).1))) (.dat (.int (at' c p).2)) (.dat (.int 1)) (.own (zs (limits.map (hgain c p)))) u11 u12 u13 w14) st = some (.nx (hf m c (hon c) (.dat (.int p)) (.dat (.str (sd (at' c p).1))) (.dat (.int (at' c p).2)) (.dat (.int 1)) (.own (zs (limits.map (hgain c p)))) u11 u12 u13 (.dat (.tuple (zs (limits.map (hgain c p)))))), st) := by
    have g := gains_by_ok (st := st) c h p hp
    unfold r66_4
    generalize limits.map (hgain c p) = G at *
    simp only [zs] at g
    simp [g]
  have e5 : r66_5 (hf m c (hon c) (.dat (.int p)) (.dat (.str (sd (at' c p).1))) (.dat (.int (at' c p).2)) (.dat (.int 1)) (.own (zs (limits.map (hgain c p)))) u11 u12 u13 (.dat (.tuple (zs (limits.map (hgain c p)))))) st = some (.nx (hf m c (hon c) (.dat (.int p)) (.dat (.str (sd (at' c p).1))) (.dat (.int (at' c p).2)) (.dat (.int 1)) (.own (zs (limits.map (hgain c p)))) u11 u12 u13 (.dat (.tuple (zs (limits.map (hgain c p)))))), st) := by
    have ho : 1 ≤ (at' c p).2 ∧ (at' c p).2 ≤ 50 := by
      have : at' c p = c[p] := by simp [at', hp]
      rw [this]
      exact h.2 _ (List.getElem_mem hp)
    have g1 := repr_small (js := limits.map (hgain c p)) (by simp [limits]) (fun j hj => by
      obtain ⟨r, hr, rfl⟩ := List.mem_map.mp hj
      exact hgain_small h hp (mem_limits hr))
    have g2 := max_ok (hgain c p) (at' c p).2 ho fun r _ => (truthful hp r).2
    have g3 : gIx (.tuple (zs (limits.map (hgain c p)))) (.int ((at' c p).2 - 1)) = some (.dat (.int (hgain c p (at' c p).2))) := by
      have e : (at' c p).2 - 1 = (((at' c p).2 - 1).toNat : Int) := by omega
      rw [e, q_gIxT, EV.atI_nat]
      have lt : ((at' c p).2 - 1).toNat < 50 := by omega
      have e3 : 1 + (((at' c p).2 - 1).toNat : Int) = (at' c p).2 := by omega
      have e4 : (zs (limits.map (hgain c p)))[((at' c p).2 - 1).toNat]? = some (.int (hgain c p (1 + (((at' c p).2 - 1).toNat : Int)))) := by
        unfold limits zs
        rw [List.getElem?_map, List.getElem?_map, List.getElem?_map, List.getElem?_range lt]
        rfl
      rw [e4, e3]
      rfl
    have g4 := (truthful hp (at' c p).2).1
    generalize limits.map (hgain c p) = G at *
    generalize hgain c p (at' c p).2 = g at *
    unfold r66_5
    simp only [zs] at g1 g2 g3
    simp [g1, g2, g3, show ¬ g < 0 by omega]
  refine ⟨.dat (.str (sd (at' c p).1)), .dat (.int (at' c p).2), .dat (.int 1), .own (zs (limits.map (hgain c p))), u11, u12, u13, .dat (.tuple (zs (limits.map (hgain c p)))), ?_⟩
  unfold r66_B
  rw [q_seq, e1]
  dsimp only
  rw [q_seq, e2]
  dsimp only
  rw [q_seq, e3']
  dsimp only
  rw [q_seq, e4]
  dsimp only
  rw [e5]
theorem places6_ok (h : Crowd c) (hst : stFlat st = true) : ∀ (ps : List Int) (w6 w7 w8 w9 w10 w11 w12 w13 w14 : SV), (∀ p ∈ ps, 0 ≤ p ∧ p < c.length) →
    ∃ w6' w7' w8' w9' w10' w11' w12' w13' w14', forL (tName 6) r66_B (zs ps) (hf m c (hon c) w6 w7 w8 w9 w10 w11 w12 w13 w14) st = some (.nx (hf m c (hon c) w6' w7' w8' w9' w10' w11' w12' w13' w14'), st)
  | [], w6, w7, w8, w9, w10, w11, w12, w13, w14, _ => ⟨w6, w7, w8, w9, w10, w11, w12, w13, w14, rfl⟩
  | p :: ps, w6, w7, w8, w9, w10, w11, w12, w13, w14, hp => by
    have h0 := hp p List.mem_cons_self
    obtain ⟨i, rfl⟩ : ∃ i : Nat, p = i := ⟨p.toNat, by omega⟩
    obtain ⟨v7, v8, v9, v10, v11, v12, v13, v14, e⟩ := body6_ok (m := m) (w7 := w7) (w8 := w8) (w9 := w9) (w10 := w10) (w11 := w11) (w12 := w12) (w13 := w13) (w14 := w14) h (show i < c.length by omega) hst
    obtain ⟨u6, u7, u8, u9, u10, u11, u12, u13, u14, e2⟩ := places6_ok h hst ps (.dat (.int i)) v7 v8 v9 v10 v11 v12 v13 v14 fun x hx => hp x (List.mem_cons_of_mem _ hx)
    refine ⟨u6, u7, u8, u9, u10, u11, u12, u13, u14, ?_⟩
    show forL _ _ (PyData.int (i : Int) :: zs ps) _ _ = _
    rw [forL_cons (h1 := rfl) (h2 := e)]
    exact e2
theorem ne_empty (b : Bid) (c : List Bid) : gNe (.tuple (enc (b :: c))) (.tuple []) = some (.dat (.bool true)) := by
  have s1 : SeqAt.shaped (.tuple (enc (b :: c))) = true := by
    unfold SeqAt.shaped
    rw [Bool.and_eq_true, decide_eq_true_eq]
    refine ⟨by simpa [PyData.canLay0] using canLay_enc (b :: c), ?_⟩
    have d : ∀ c : List Bid, PyData.depthAll (enc c) ≤ 1 := fun c => by
      refine depthAll_le fun d hd => ?_
      obtain ⟨x, _, rfl⟩ := List.mem_map.mp hd
      simp [enc1, PyData.depth, PyData.depthAll]
    have := d (b :: c)
    simp only [PyData.depth]
    omega
  have s2 : SeqAt.shaped (.tuple []) = true := by simp [SeqAt.shaped, PyData.canLay0, PyData.canLayAll0, PyData.depth, PyData.depthAll]
  show (if SeqAt.shaped (.tuple (enc (b :: c))) = true ∧ SeqAt.shaped (.tuple []) = true then some (dB (!PyData.eqv (.tuple (enc (b :: c))) (.tuple []))) else none) = _
  rw [if_pos ⟨s1, s2⟩]
  simp [PyData.eqv, PyData.eqvAll]
theorem ne_none : gNe (.tuple []) (.tuple []) = some (.dat (.bool false)) := by
  have s2 : SeqAt.shaped (.tuple []) = true := by simp [SeqAt.shaped, PyData.canLay0, PyData.canLayAll0, PyData.depth, PyData.depthAll]
  show (if SeqAt.shaped (.tuple []) = true ∧ SeqAt.shaped (.tuple []) = true then some (dB (!PyData.eqv (.tuple []) (.tuple []))) else none) = _
  rw [if_pos ⟨s2, s2⟩]
  simp [PyData.eqv, PyData.eqvAll]
theorem v6 (h : Crowd c) (hs : Sm m n l st) (hn : n + 100 < 2 ^ 40) : ∃ (ρ' : Fr) (st' : Sto), r66 (hf m c (hon c) .non .non .non .non .non .non .non .non .non) st = some (.nx ρ', st') ∧ Sm m (n + 2) l st' := by
  have hl := h.1
  cases c with
  | nil =>
    have ne := ne_none
    refine ⟨hf m [] (hon []) .non .non .non .non .non .non .non .non .non, st, ?_, hs.mono (by omega)⟩
    unfold r66
    simp [ne, sizeLine_eq]
    rfl
  | cons b c =>
    have ne := ne_empty b c
    obtain ⟨out, st', g1, g2, g3, g4⟩ := compL_st (tg := tName 15) (el := fCall g__law_take (fCons (fVar 0) (fCons (fCB gLen (fCons (fVar 1) fNil)) fNil))) (ρ := hf m (b :: c) (hon (b :: c)) .non .non .non .non .non .non .non .non .non)
      2 (fun i s => Sm m (n + i) l s) (fun _ e => ∃ z : Int, e = .int z ∧ 0 ≤ z ∧ z < (b :: c).length) (ds := rangeD 0 2) (n := 0) (st := st) hs (by rw [rangeD_len]; omega) (fun d hd i s hi hs => by
        obtain ⟨z, s', e1, m1, h1⟩ := take_ok (u := ((b :: c).length : Int)) hs (by omega) (by simp; omega) (by omega)
        refine ⟨(hf m (b :: c) (hon (b :: c)) .non .non .non .non .non .non .non .non .non).set 15 (.dat d), rfl, .dat (.int z), .int z, s', ?_, rfl, ⟨z, rfl, m1⟩, h1⟩
        have l0 := hs.len
        have l1 := h1.len
        generalize hon (b :: c) = hc at *
        generalize b :: c = cc at *
        simp [e1, l0, l1])
    obtain ⟨ps, rfl, hps⟩ := ints_of (out_all g2 g3 fun _ _ h => h)
    rw [rangeD_len] at g4
    obtain ⟨u6, u7, u8, u9, u10, u11, u12, u13, u14, e3⟩ := places6_ok (m := m) h g4.flat ps .non .non .non .non .non .non .non .non .non hps
    refine ⟨hf m (b :: c) (hon (b :: c)) u6 u7 u8 u9 u10 u11 u12 u13 u14, st', ?_, g4⟩
    have cc := fComp_at (own := [15]) (it := fRange1 (fCon (.int 2))) (ρ := hf m (b :: c) (hon (b :: c)) .non .non .non .non .non .non .non .non .non) (st := st) (st1 := st) (by simp [noOwn]) (by simp [rgB_of]) (by rw [sizeLine_eq, rangeD_len]; omega) g1
    have it : (fItS false (fIte (fTst (fOp2 gNe (fVar 1) (fTup fNil))) (fComp [15] (fRange1 (fCon (.int 2))) (tName 15) fYes (fCall g__law_take (fCons (fVar 0) (fCons (fCB gLen (fCons (fVar 1) fNil)) fNil)))) (fLst fNil))) (hf m (b :: c) (hon (b :: c)) .non .non .non .non .non .non .non .non .non) st = some (zs ps, st') := by
      generalize hon (b :: c) = hc at *
      generalize b :: c = d at *
      simp [ne, cc, sizeLine_eq]
    unfold r66
    rw [q_for, it]
    exact e3
end
theorem law_right6 (m c l : Nat) (st : Sto) (hc : c < 2 ^ 30) (h : Sm m c l st) : ∃ st', g__law_right_1f64 [.ref m] st = some (.dat (.bool true), st') ∧ Sm m (c + 32) l st' := by
  obtain ⟨cr, st1, e12, hcr, h1⟩ := v12 h (by omega)
  have e3 := v3 (st := st1) (m := m) hcr
  have e4 := v4 (st := st1) (m := m) (w6 := .non) (w7 := .non) (w8 := .non) (w9 := .non) (w10 := .non) (w11 := .non) (w12 := .non) (w13 := .non) (w14 := .non) hcr h1.flat
  have e5 := v5 (st := st1) (m := m) (w7 := .non) (w8 := .non) (w9 := .non) (w10 := .non) (w11 := .non) (w12 := .non) (w13 := .non) (w14 := .non) hcr
  obtain ⟨ρ', st2, e6, h2⟩ := v6 hcr h1 (by omega)
  refine ⟨st2, ?_, h2⟩
  rw [r6_eq, fnOf_at (by rfl)]
  have fr : frame 16 [SV.ref m] = [.ref m, .non, .non, .non, .non, .non, .non, .non, .non, .non, .non, .non, .non, .non, .non, .non] := rfl
  rw [fr]
  unfold r6All
  rw [q_seq]
  generalize r61 [.ref m, .non, .non, .non, .non, .non, .non, .non, .non, .non, .non, .non, .non, .non, .non, .non] st = R at *
  match R, e12 with
  | some (.nx ρ1, s1), e12 =>
    dsimp only at e12 ⊢
    rw [q_seq, e12]
    dsimp only
    rw [q_seq, e3]
    dsimp only
    rw [q_seq, e4]
    dsimp only
    rw [q_seq, e5]
    dsimp only
    rw [q_seq, e6]
    dsimp only
    unfold r67
    rw [q_ret, q_con]
    dsimp only
    rw [if_pos (q_ret_dat _), fnEnd_ret, ← h.len.trans h2.len.symm |>.symm]
    simp
  | some (.ret w, s1), e12 => cases e12
  | none, e12 => cases e12
end Q
namespace Lk26
open PySem PySem.Spec PyProof.Rows L2 EV
theorem plain (js : List Int) (h : js.length ≤ 63) (hb : ∀ z ∈ js, Builtin.Int.intBits z ≤ 1048576) : Q.g_law_700c [.fz (js.map .int)] [] = some (.dat (.bool true), []) :=
  Q.law_ok (right := Q.g__law_right_1f64) (laps := 6) (D := 32) (most := 3) (by decide) (by decide) (by decide) (by decide) Q.law_right6 js (by omega)
end Lk26
end

section
set_option maxRecDepth 100000
set_option maxHeartbeats 0
namespace Lk26
open PySem PySem.Spec PyProof.Rows L2 EV
open LamX (TabB)
def d__law_cells : He.DefD := ⟨("_law_cells", none), "_law_cells", "_law_cells", defArgs (top 36), defBody (top 36), defScope (top 36), [], []⟩
def d__law_pot : He.DefD := ⟨("_law_pot", none), "_law_pot", "_law_pot", defArgs (top 33), defBody (top 33), defScope (top 33), [], []⟩
def d__law_take : He.DefD := ⟨("_law_take", none), "_law_take", "_law_take", defArgs (top 34), defBody (top 34), defScope (top 34), [], []⟩
def d__law_of : He.DefD := ⟨("_law_of", none), "_law_of", "_law_of", defArgs (top 35), defBody (top 35), defScope (top 35), [], []⟩
def d__law_crowd : He.DefD := ⟨("_law_crowd", none), "_law_crowd", "_law_crowd", defArgs (top 37), defBody (top 37), defScope (top 37), [], []⟩
def d__law_sequence : He.DefD := ⟨("_law_sequence", none), "_law_sequence", "_law_sequence", defArgs (top 38), defBody (top 38), defScope (top 38), [], []⟩
def d__law_honest : He.DefD := ⟨("_law_honest", none), "_law_honest", "_law_honest", defArgs (top 39), defBody (top 39), defScope (top 39), [], []⟩
def d_is_integer : He.DefD := ⟨("is_integer", none), "is_integer", "is_integer", defArgs (top 6), defBody (top 6), defScope (top 6), [], []⟩
def d_is_between : He.DefD := ⟨("is_between", none), "is_between", "is_between", defArgs (top 7), defBody (top 7), defScope (top 7), [], []⟩
def d_is_tuple_of : He.DefD := ⟨("is_tuple_of", none), "is_tuple_of", "is_tuple_of", defArgs (top 9), defBody (top 9), defScope (top 9), [], []⟩
def d_is_word : He.DefD := ⟨("is_word", none), "is_word", "is_word", defArgs (top 8), defBody (top 8), defScope (top 8), [], []⟩
def d_is_bid : He.DefD := ⟨("is_bid", none), "is_bid", "is_bid", defArgs (top 18), defBody (top 18), defScope (top 18), [], []⟩
def d_is_crowd : He.DefD := ⟨("is_crowd", none), "is_crowd", "is_crowd", defArgs (top 19), defBody (top 19), defScope (top 19), [], []⟩
def d_check_crowd : He.DefD := ⟨("check_crowd", none), "check_crowd", "check_crowd", defArgs (top 20), defBody (top 20), defScope (top 20), [], []⟩
def d_check_single : He.DefD := ⟨("check_single", none), "check_single", "check_single", defArgs (top 23), defBody (top 23), defScope (top 23), [], []⟩
def d_check_bid : He.DefD := ⟨("check_bid", none), "check_bid", "check_bid", defArgs (top 24), defBody (top 24), defScope (top 24), [], []⟩
def d_fitting_many : He.DefD := ⟨("fitting_many", none), "fitting_many", "fitting_many", defArgs (top 25), defBody (top 25), defScope (top 25), [], []⟩
def d_between : He.DefD := ⟨("between", none), "between", "between", defArgs (top 26), defBody (top 26), defScope (top 26), [], []⟩
def d_in_sequence : He.DefD := ⟨("in_sequence", none), "in_sequence", "in_sequence", defArgs (top 21), defBody (top 21), defScope (top 21), [], []⟩
def d_honest_of : He.DefD := ⟨("honest_of", none), "honest_of", "honest_of", defArgs (top 27), defBody (top 27), defScope (top 27), [], []⟩
def d_honest_gain : He.DefD := ⟨("honest_gain", none), "honest_gain", "honest_gain", defArgs (top 29), defBody (top 29), defScope (top 29), [], []⟩
def d_gains_by : He.DefD := ⟨("gains_by", none), "gains_by", "gains_by", defArgs (top 30), defBody (top 30), defScope (top 30), [], []⟩
def d_honest_told : He.DefD := ⟨("honest_told", none), "honest_told", "honest_told", defArgs (top 28), defBody (top 28), defScope (top 28), [], []⟩
def d_left_over : He.DefD := ⟨("left_over", none), "left_over", "left_over", defArgs (top 31), defBody (top 31), defScope (top 31), [], []⟩
def d__law_right : He.DefD := ⟨("_law_right", none), "_law_right", "_law_right", defArgs (top 40), defBody (top 40), defScope (top 40), [], []⟩
def d_law : He.DefD := ⟨("law", none), "law", "law", defArgs (top 41), defBody (top 41), defScope (top 41), [], []⟩
def hs : HS where
  fa := ([.glo "_law_cells", .glo "_law_pot", .glo "_law_take", .glo "_law_of", .glo "_law_crowd", .glo "_law_sequence", .glo "_law_honest", .glo "is_integer", .glo "is_between", .glo "is_tuple_of", .glo "is_word", .glo "is_bid", .glo "is_crowd", .glo "check_crowd", .glo "check_single", .glo "check_bid", .glo "fitting_many", .glo "between", .glo "in_sequence", .glo "honest_of", .glo "honest_gain", .glo "gains_by", .glo "honest_told", .glo "left_over", .glo "_law_right", .glo "law", .free "abs", .free "all", .free "any", .free "bool"] : List He.Fa) ++ ([.free "enumerate", .free "int", .free "isinstance", .free "len", .free "list", .free "max", .free "min", .free "range", .free "repr", .free "sorted", .free "str", .free "sum", .free "tuple", .free "zip"] : List He.Fa)
  fn := ([d__law_cells, d__law_pot, d__law_take, d__law_of, d__law_crowd, d__law_sequence, d__law_honest, d_is_integer, d_is_between, d_is_tuple_of, d_is_word, d_is_bid, d_is_crowd, d_check_crowd, d_check_single, d_check_bid, d_fitting_many, d_between, d_in_sequence, d_honest_of, d_honest_gain, d_gains_by, d_honest_told, d_left_over, d__law_right, d_law] : List He.DefD)
  cons := ([("BUY", (.str "buy")), ("MOST_BIDS", (.int 40)), ("MOST_LOTS", (.int 1000)), ("MOST_PRICES", (.int 50)), ("SELL", (.str "sell")), ("SIDES", (.tuple [(.str "buy"), (.str "sell")])), ("THREE", (.int 3))] : List (Str × PyData))
  lams := ["_law_sequence", "in_sequence"]
abbrev R : PySem.W.OpenRow := PySem.W.OpenLaw.row PySem.Challenge.rw_justthosetrades_k26_whole_honest_calls
abbrev hk : PySem.W.Hook := hookE 2 hs
def ob (s : PySem.W.SharedT) : He.AlD × Bool := obsE 2 hs (HandSHeadRun.getT s)
theorem ob_eq (s : PySem.W.SharedT) : ob s = hk.obs s.abs := obsE_eq (HandSHeadRun.getT_eq s)
def loose : List PySem.Str := (["TradeError", "BadBid", "BadCrowd", "ManyLots", "is_integer", "is_between", "is_word", "is_tuple_of", "MOST_PRICES", "BUY", "SELL", "SIDES", "MOST_BIDS", "MOST_LOTS", "THREE", "is_bid", "is_crowd", "check_crowd", "in_sequence", "check_single", "check_bid", "fitting_many", "between", "honest_of", "honest_told", "honest_gain", "gains_by", "left_over", "_law_pot", "_law_take"] : List PySem.Str) ++ (["_law_of", "_law_cells", "_law_crowd", "_law_sequence", "_law_honest", "_law_right"] : List PySem.Str)
theorem run (w : World) : HandSHeadRun.RunEq R (PySem.W.view R.prog [41]) hk ob 3000 loose w := by
  intro os
  kernel_rfl
theorem facts {h : Heap} {g : Addr → Option Obj} {K : PySem.W.Frag} {mg : Str → Option Value} (y : Says hs h g K) (G : h.Ns mainGlobals mg) : ∃ fd : FuncData, (∀ (s : Shared) (u : Value), BindsTo s fd ⟨[u], []⟩ [("script", u)]) ∧
    ∀ (P : Program) (w : World) (base : Heap), K.In base → base.Ns mainGlobals mg → (∀ p ∈ lawTs hs g K, TabB base mg p.1 p.2) → FnG P w K mg base 11 (He.ga K "law") fd ["script"] (spF K (tabT hs g K) 1 Q.g_law_700c) := by
  have kin := y.kin
  have c := y.defs
  obtain ⟨fd0, F0⟩ := c.def_ 0 (d := d__law_cells) rfl
  obtain ⟨fd1, F1⟩ := c.def_ 1 (d := d__law_pot) rfl
  obtain ⟨fd2, F2⟩ := c.def_ 2 (d := d__law_take) rfl
  obtain ⟨fd3, F3⟩ := c.def_ 3 (d := d__law_of) rfl
  obtain ⟨fd4, F4⟩ := c.def_ 4 (d := d__law_crowd) rfl
  obtain ⟨fd5, F5⟩ := c.def_ 5 (d := d__law_sequence) rfl
  obtain ⟨fd6, F6⟩ := c.def_ 6 (d := d__law_honest) rfl
  obtain ⟨fd7, F7⟩ := c.def_ 7 (d := d_is_integer) rfl
  obtain ⟨fd8, F8⟩ := c.def_ 8 (d := d_is_between) rfl
  obtain ⟨fd9, F9⟩ := c.def_ 9 (d := d_is_tuple_of) rfl
  obtain ⟨fd10, F10⟩ := c.def_ 10 (d := d_is_word) rfl
  obtain ⟨fd11, F11⟩ := c.def_ 11 (d := d_is_bid) rfl
  obtain ⟨fd12, F12⟩ := c.def_ 12 (d := d_is_crowd) rfl
  obtain ⟨fd13, F13⟩ := c.def_ 13 (d := d_check_crowd) rfl
  obtain ⟨fd14, F14⟩ := c.def_ 14 (d := d_check_single) rfl
  obtain ⟨fd15, F15⟩ := c.def_ 15 (d := d_check_bid) rfl
  obtain ⟨fd16, F16⟩ := c.def_ 16 (d := d_fitting_many) rfl
  obtain ⟨fd17, F17⟩ := c.def_ 17 (d := d_between) rfl
  obtain ⟨fd18, F18⟩ := c.def_ 18 (d := d_in_sequence) rfl
  obtain ⟨fd19, F19⟩ := c.def_ 19 (d := d_honest_of) rfl
  obtain ⟨fd20, F20⟩ := c.def_ 20 (d := d_honest_gain) rfl
  obtain ⟨fd21, F21⟩ := c.def_ 21 (d := d_gains_by) rfl
  obtain ⟨fd22, F22⟩ := c.def_ 22 (d := d_honest_told) rfl
  obtain ⟨fd23, F23⟩ := c.def_ 23 (d := d_left_over) rfl
  obtain ⟨fd24, F24⟩ := c.def_ 24 (d := d__law_right) rfl
  obtain ⟨fd25, F25⟩ := c.def_ 25 (d := d_law) rfl
  refine ⟨fd25, fun s v => (FunD.bindsA (ps := ["script"]) F25 fun _ _ _ _ _ _ us hl => match us, hl with | [_], _ => rfl) s [v] rfl, fun P w base _ _ tb => ?_⟩
  have cc := List.all_eq_true.mp y.cons
  exact ok_law (T := tabT hs g K) ⟨fd0,
    F0,
    He.glo_ok kin G (c.fact 0 (f := .glo "_law_cells") rfl),
    fd1,
    F1,
    He.glo_ok kin G (c.fact 1 (f := .glo "_law_pot") rfl),
    fd2,
    F2,
    He.glo_ok kin G (c.fact 2 (f := .glo "_law_take") rfl),
    fd3,
    F3,
    He.glo_ok kin G (c.fact 3 (f := .glo "_law_of") rfl),
    fd4,
    F4,
    He.glo_ok kin G (c.fact 4 (f := .glo "_law_crowd") rfl),
    fd5,
    F5,
    He.glo_ok kin G (c.fact 5 (f := .glo "_law_sequence") rfl),
    fd6,
    F6,
    He.glo_ok kin G (c.fact 6 (f := .glo "_law_honest") rfl),
    fd7,
    F7,
    He.glo_ok kin G (c.fact 7 (f := .glo "is_integer") rfl),
    fd8,
    F8,
    He.glo_ok kin G (c.fact 8 (f := .glo "is_between") rfl),
    fd9,
    F9,
    He.glo_ok kin G (c.fact 9 (f := .glo "is_tuple_of") rfl),
    fd10,
    F10,
    He.glo_ok kin G (c.fact 10 (f := .glo "is_word") rfl),
    fd11,
    F11,
    He.glo_ok kin G (c.fact 11 (f := .glo "is_bid") rfl),
    fd12,
    F12,
    He.glo_ok kin G (c.fact 12 (f := .glo "is_crowd") rfl),
    fd13,
    F13,
    He.glo_ok kin G (c.fact 13 (f := .glo "check_crowd") rfl),
    fd14,
    F14,
    He.glo_ok kin G (c.fact 14 (f := .glo "check_single") rfl),
    fd15,
    F15,
    He.glo_ok kin G (c.fact 15 (f := .glo "check_bid") rfl),
    fd16,
    F16,
    He.glo_ok kin G (c.fact 16 (f := .glo "fitting_many") rfl),
    fd17,
    F17,
    He.glo_ok kin G (c.fact 17 (f := .glo "between") rfl),
    fd18,
    F18,
    He.glo_ok kin G (c.fact 18 (f := .glo "in_sequence") rfl),
    fd19,
    F19,
    He.glo_ok kin G (c.fact 19 (f := .glo "honest_of") rfl),
    fd20,
    F20,
    He.glo_ok kin G (c.fact 20 (f := .glo "honest_gain") rfl),
    fd21,
    F21,
    He.glo_ok kin G (c.fact 21 (f := .glo "gains_by") rfl),
    fd22,
    F22,
    He.glo_ok kin G (c.fact 22 (f := .glo "honest_told") rfl),
    fd23,
    F23,
    He.glo_ok kin G (c.fact 23 (f := .glo "left_over") rfl),
    fd24,
    F24,
    He.glo_ok kin G (c.fact 24 (f := .glo "_law_right") rfl),
    fd25,
    F25,
    He.glo_ok kin G (c.fact 25 (f := .glo "law") rfl),
    He.free_ok kin G (c.fact 26 (f := .free "abs") rfl),
    He.free_ok kin G (c.fact 27 (f := .free "all") rfl),
    He.free_ok kin G (c.fact 28 (f := .free "any") rfl),
    He.free_ok kin G (c.fact 29 (f := .free "bool") rfl),
    He.free_ok kin G (c.fact 30 (f := .free "enumerate") rfl),
    He.free_ok kin G (c.fact 31 (f := .free "int") rfl),
    He.free_ok kin G (c.fact 32 (f := .free "isinstance") rfl),
    He.free_ok kin G (c.fact 33 (f := .free "len") rfl),
    He.free_ok kin G (c.fact 34 (f := .free "list") rfl),
    He.free_ok kin G (c.fact 35 (f := .free "max") rfl),
    He.free_ok kin G (c.fact 36 (f := .free "min") rfl),
    He.free_ok kin G (c.fact 37 (f := .free "range") rfl),
    He.free_ok kin G (c.fact 38 (f := .free "repr") rfl),
    He.free_ok kin G (c.fact 39 (f := .free "sorted") rfl),
    He.free_ok kin G (c.fact 40 (f := .free "str") rfl),
    He.free_ok kin G (c.fact 41 (f := .free "sum") rfl),
    He.free_ok kin G (c.fact 42 (f := .free "tuple") rfl),
    He.free_ok kin G (c.fact 43 (f := .free "zip") rfl),
    conOk_v kin G (cc ("BUY", (.str "buy")) (List.mem_of_getElem? (i := 0) rfl)),
    conOk_v kin G (cc ("MOST_BIDS", (.int 40)) (List.mem_of_getElem? (i := 1) rfl)),
    conOk_v kin G (cc ("MOST_LOTS", (.int 1000)) (List.mem_of_getElem? (i := 2) rfl)),
    conOk_v kin G (cc ("MOST_PRICES", (.int 50)) (List.mem_of_getElem? (i := 3) rfl)),
    conOk_v kin G (cc ("SELL", (.str "sell")) (List.mem_of_getElem? (i := 4) rfl)),
    conOk_v kin G (cc ("SIDES", (.tuple [(.str "buy"), (.str "sell")])) (List.mem_of_getElem? (i := 5) rfl)),
    conOk_v kin G (cc ("THREE", (.int 3)) (List.mem_of_getElem? (i := 6) rfl)),
    codeAd K "_law_sequence",
    tabAd g K "_law_sequence",
    (y.lam (List.mem_of_getElem? (i := 0) rfl)).1,
    tb (codeAd K "_law_sequence", tabAd g K "_law_sequence") (List.mem_map.mpr ⟨"_law_sequence", (List.mem_of_getElem? (i := 0) rfl), rfl⟩),
    List.mem_map.mpr ⟨"_law_sequence", (List.mem_of_getElem? (i := 0) rfl), rfl⟩,
    y.uniq (List.mem_of_getElem? (i := 0) rfl),
    codeAd K "in_sequence",
    tabAd g K "in_sequence",
    (y.lam (List.mem_of_getElem? (i := 1) rfl)).1,
    tb (codeAd K "in_sequence", tabAd g K "in_sequence") (List.mem_map.mpr ⟨"in_sequence", (List.mem_of_getElem? (i := 1) rfl), rfl⟩),
    List.mem_map.mpr ⟨"in_sequence", (List.mem_of_getElem? (i := 1) rfl), rfl⟩,
    y.uniq (List.mem_of_getElem? (i := 1) rfl)⟩
end Lk26
end

section
set_option maxRecDepth 100000
set_option maxHeartbeats 0
open PySem PySem.W PySem.Calls PyProof.Rows
theorem PySem.Challenge.cw_justthosetrades_k26_whole_honest_calls_holds : PySem.Challenge.rw_justthosetrades_k26_whole_honest_calls.Holds := by
  w_on; o_law
  refine HandSHeadRun.head_any (r := OpenLaw.row PySem.Challenge.rw_justthosetrades_k26_whole_honest_calls) (q := view (OpenLaw.row PySem.Challenge.rw_justthosetrades_k26_whole_honest_calls).prog [41]) (H := Lk26.hk) (ob := Lk26.ob) (M := 3000) (loose := Lk26.loose) (d := HandSHeadRun.topDef (OpenLaw.row PySem.Challenge.rw_justthosetrades_k26_whole_honest_calls).prog 41) (kwd := []) Lk26.ob_eq
    (by kernel_rfl) (fun s => by kernel_rfl) Lk26.run (by kernel_rfl) (by kernel_rfl) (by kernel_rfl) (by rfl) (by first | assumption | decide +kernel) (by decide +kernel) ⟨rfl, rfl, rfl, rfl, rfl, by decide +kernel⟩ ?hw ?hc
  case hw => w_witness2
  case hc =>
    refine EV.walk_ev (l := PySem.Challenge.rw_justthosetrades_k26_whole_honest_calls) (n := 63) (k := 11) (m := 2) (S := Lk26.hs) (x := "script") (flaw := Q.g_law_700c) rfl (by decide) (by kernel_rfl) ⟨rfl, by decide, by decide⟩ ?F Lk26.plain
    intro w mg fa h g K y G hm
    obtain ⟨fd, hb, hF⟩ := Lk26.facts y G
    have e : (HandSHeadRun.topDef (OpenLaw.row PySem.Challenge.rw_justthosetrades_k26_whole_honest_calls).prog 41).name = ("law" : PySem.Str) := by kernel_rfl
    rw [e] at hm
    have e2 : mg ("law" : PySem.Str) = some (.ref (He.ga K "law")) := He.glo_ok y.kin G (y.defs.fact 25 (f := .glo "law") rfl)
    rw [hm] at e2
    cases e2
    exact ⟨fd, hb, fun base h1 h2 h3 => hF _ w base h1 h2 h3⟩
end
