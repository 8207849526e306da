import PyProof.Rows.All
import Wide.All
import OpenK.AllK
import Wide.FinOn
import HandS.ForMost
import HandS.ForExc
import HandS.HeadHook4
import HandS.HeadEnd
import HandS.HeadWalk
import HandS.Head2
import HandS.SortKw
import HandS.Wide
import HandS.Deep
import HandS.DictTup
import HandS.IsInst
import HandS.ExcIs
import HandS.TryMany
import HandS.Style
import HandS.TupAny
import PySem.Challenge.RW_patchweave_k02_changes_written
set_option Elab.async false
set_option linter.all false
set_option autoImplicit false
set_option maxRecDepth 100000
set_option maxHeartbeats 4000000
/-! Values by data; regions of the abstract heap; an environment of data for the slots. -/
namespace DD
open PySem PySem.Spec L2

inductive D where
  | non | bl (b : Bool) | int (i : Int) | str (x : Str) | lst (xs : List D) | tup (xs : List D) | scr (ns : List Int)
  | dic (ks : List Key) (vs : List D) | dit (ks : List (List Key)) (vs : List D) | obj (d : D)

/-- a text that may be compared and measured -/
def SOk (x : Str) : Prop := PyData.strOk x = true ∧ x.length ≤ 8388608
mutual
/-- v stands for the data d, as far as G tells -/
inductive Da (K : PySem.W.Frag) (G : Hp) : V → D → Prop
  | non : Da K G .non .non
  | bl (b : Bool) : Da K G (.bl b) (.bl b)
  | int (i : Int) : Da K G (.int i) (.int i)
  | str (x : Str) (h : SOk x) : Da K G (.str x) (.str x)
  | scr {a : Addr} (ns : List Int) : SqL K G a (ns.map V.int) → Da K G (.ref a) (.scr ns)
  | lst {a : Addr} {xs : List V} {ds : List D} : G a = some (.lst xs) → DaAll K G xs ds → Da K G (.ref a) (.lst ds)
  | tup {a : Addr} {xs : List V} {ds : List D} : SqT K G a xs → DaAll K G xs ds → Da K G (.ref a) (.tup ds)
  | dic {a : Addr} {kvs : List (Key × V)} {ks : List Key} {ds : List D} : G a = some (.dK kvs) → kvs.map (fun p => p.1) = ks → DaAll K G (kvs.map (fun p => p.2)) ds → Da K G (.ref a) (.dic ks ds)
  | dit {a : Addr} {kvs : List (List Key × V)} {ks : List (List Key)} {ds : List D} : G a = some (.dT kvs) → kvs.map (fun p => p.1) = ks → DaAll K G (kvs.map (fun p => p.2)) ds → Da K G (.ref a) (.dit ks ds)
  | obj {a p dx : Addr} {d : D} : G a = some (.ins (He.ga K "Weave") dx [("known", .ref p)]) → Da K G (.ref p) d → Da K G (.ref a) (.obj d)
inductive DaAll (K : PySem.W.Frag) (G : Hp) : List V → List D → Prop
  | nil : DaAll K G [] []
  | cons {v : V} {vs : List V} {d : D} {ds : List D} : Da K G v d → DaAll K G vs ds → DaAll K G (v :: vs) (d :: ds)
end

theorem SqL.mono {K : PySem.W.Frag} {G G' : Hp} (s : Same G G') {a : Addr} {xs : List V} (h : SqL K G a xs) : SqL K G' a xs := s.seq h
theorem SqT.mono {K : PySem.W.Frag} {G G' : Hp} (s : Same G G') {a : Addr} {xs : List V} (h : SqT K G a xs) : SqT K G' a xs := by
  rcases h with (h | ⟨o, h⟩) | h
  · exact .inl (.inl (s _ _ h))
  · exact .inl (.inr ⟨o, s _ _ h⟩)
  · exact .inr h
theorem Rd.mono {G G' : Hp} (s : Same G G') {a : Addr} {u : HO} (h : Rd G a u) : Rd G' a u := by
  rcases h with h | ⟨o, h⟩
  · exact .inl (s _ _ h)
  · exact .inr ⟨o, s _ _ h⟩

section
variable {K : PySem.W.Frag} {G G' : Hp}
mutual
theorem Da.mono (s : Same G G') : ∀ (d : D) (v : V), Da K G v d → Da K G' v d
  | .non, _, h => by cases h; exact .non
  | .bl b, _, h => by cases h; exact .bl b
  | .int b, _, h => by cases h; exact .int b
  | .str b, _, h => by
    cases h with
    | str _ q => exact .str b q
  | .lst ds, _, h => by
    cases h with
    | lst hs ha => exact .lst (s _ _ hs) (DaAll.mono s ds _ ha)
  | .scr ns, _, h => by
    cases h with
    | scr _ hs => exact .scr ns (SqL.mono s hs)
  | .tup ds, _, h => by
    cases h with
    | tup hs ha => exact .tup (SqT.mono s hs) (DaAll.mono s ds _ ha)
  | .dic ks ds, _, h => by
    cases h with
    | dic hs e ha => exact .dic (s _ _ hs) e (DaAll.mono s ds _ ha)
  | .dit ks ds, _, h => by
    cases h with
    | dit hs e ha => exact .dit (s _ _ hs) e (DaAll.mono s ds _ ha)
  | .obj d, _, h => by
    cases h with
    | obj hs ha => exact .obj (s _ _ hs) (Da.mono s d _ ha)
theorem DaAll.mono (s : Same G G') : ∀ (ds : List D) (vs : List V), DaAll K G vs ds → DaAll K G' vs ds
  | [], _, h => by cases h; exact .nil
  | d :: ds, _, h => by
    cases h with
    | cons h1 h2 => exact .cons (Da.mono s d _ h1) (DaAll.mono s ds _ h2)
end
theorem Da.to {v : V} {d : D} (h : Da K G v d) (s : Same G G') : Da K G' v d := Da.mono s d v h
theorem DaAll.to {vs : List V} {ds : List D} (h : DaAll K G vs ds) (s : Same G G') : DaAll K G' vs ds := DaAll.mono s ds vs h
theorem DaAll.length : ∀ {ds : List D} {vs : List V}, DaAll K G vs ds → vs.length = ds.length
  | [], _, h => by cases h; rfl
  | d :: ds, _, h => by
    cases h with
    | cons h1 h2 => exact congrArg Nat.succ (DaAll.length h2)
theorem DaAll.get : ∀ {ds : List D} {vs : List V} {i : Nat} {d : D}, DaAll K G vs ds → ds[i]? = some d → ∃ v, vs[i]? = some v ∧ Da K G v d
  | [], _, _, _, h, e => by simp at e
  | d0 :: ds, _, 0, d, h, e => by
    cases h with
    | cons h1 h2 => simp at e; subst e; exact ⟨_, rfl, h1⟩
  | d0 :: ds, _, i + 1, d, h, e => by
    cases h with
    | cons h1 h2 =>
      obtain ⟨v, q1, q2⟩ := DaAll.get (i := i) h2 (by simpa using e)
      exact ⟨v, by simpa using q1, q2⟩
theorem DaAll.get' : ∀ {ds : List D} {vs : List V} {i : Nat} {v : V}, DaAll K G vs ds → vs[i]? = some v → ∃ d, ds[i]? = some d ∧ Da K G v d := by
  intro ds vs i v h e
  have hl := h.length
  have hi : i < vs.length := (List.getElem?_eq_some_iff.mp e).1
  obtain ⟨v', e', q⟩ := h.get (i := i) (d := ds[i]) (by simp)
  rw [e] at e'; cases e'
  exact ⟨_, by simp, q⟩
theorem DaAll.append : ∀ {ds es : List D} {vs ws : List V}, DaAll K G vs ds → DaAll K G ws es → DaAll K G (vs ++ ws) (ds ++ es)
  | [], _, _, _, h, h' => by cases h; exact h'
  | d :: ds, _, _, _, h, h' => by
    cases h with
    | cons h1 h2 => exact .cons h1 (DaAll.append h2 h')
theorem DaAll.one {v : V} {d : D} (h : Da K G v d) : DaAll K G [v] [d] := .cons h .nil
theorem DaAll.take : ∀ {ds : List D} {vs : List V} (n : Nat), DaAll K G vs ds → DaAll K G (vs.take n) (ds.take n)
  | _, _, 0, _ => by simp; exact .nil
  | [], _, n + 1, h => by cases h; exact .nil
  | d :: ds, _, n + 1, h => by
    cases h with
    | cons h1 h2 => exact .cons h1 (DaAll.take n h2)
theorem DaAll.drop : ∀ {ds : List D} {vs : List V} (n : Nat), DaAll K G vs ds → DaAll K G (vs.drop n) (ds.drop n)
  | _, _, 0, h => h
  | [], _, n + 1, h => by cases h; exact .nil
  | d :: ds, _, n + 1, h => by
    cases h with
    | cons h1 h2 => exact DaAll.drop n h2
theorem DaAll.set : ∀ {ds : List D} {vs : List V} {v : V} {d : D} (i : Nat), DaAll K G vs ds → Da K G v d → DaAll K G (vs.set i v) (ds.set i d)
  | [], _, _, _, i, h, q => by cases h; exact .nil
  | d :: ds, _, _, _, 0, h, q => by
    cases h with
    | cons h1 h2 => exact .cons q h2
  | d :: ds, _, _, _, i + 1, h, q => by
    cases h with
    | cons h1 h2 => exact .cons h1 (DaAll.set i h2 q)
theorem DaAll.eraseIdx : ∀ {ds : List D} {vs : List V} (i : Nat), DaAll K G vs ds → DaAll K G (vs.eraseIdx i) (ds.eraseIdx i)
  | [], _, i, h => by cases h; exact .nil
  | d :: ds, _, 0, h => by
    cases h with
    | cons h1 h2 => exact h2
  | d :: ds, _, i + 1, h => by
    cases h with
    | cons h1 h2 => exact .cons h1 (DaAll.eraseIdx i h2)
theorem DaAll.reverse {ds : List D} {vs : List V} (h : DaAll K G vs ds) : DaAll K G vs.reverse ds.reverse := by
  induction ds generalizing vs with
  | nil => cases h; exact .nil
  | cons d ds ih =>
    cases h with
    | cons h1 h2 => simp only [List.reverse_cons]; exact (ih h2).append (.one h1)
theorem DaAll.strs : ∀ {xs : List Str} {vs : List V}, DaAll K G vs (xs.map D.str) → vs = xs.map V.str
  | [], _, h => by cases h; rfl
  | x :: xs, _, h => by
    cases h with
    | cons h1 h2 => cases h1; rw [DaAll.strs h2]; rfl
theorem DaAll.ints : ∀ {xs : List Int} {vs : List V}, DaAll K G vs (xs.map D.int) → vs = xs.map V.int
  | [], _, h => by cases h; rfl
  | x :: xs, _, h => by
    cases h with
    | cons h1 h2 => cases h1; rw [DaAll.ints h2]; rfl
theorem DaAll.bls : ∀ {xs : List Bool} {vs : List V}, DaAll K G vs (xs.map D.bl) → vs = xs.map V.bl
  | [], _, h => by cases h; rfl
  | x :: xs, _, h => by
    cases h with
    | cons h1 h2 => cases h1; rw [DaAll.bls h2]; rfl
theorem DaAll.of_strs : ∀ (xs : List Str), (∀ x ∈ xs, SOk x) → DaAll K G (xs.map V.str) (xs.map D.str)
  | [], _ => .nil
  | x :: xs, h => .cons (.str x (h x (List.mem_cons_self ..))) (DaAll.of_strs xs fun y hy => h y (List.mem_cons_of_mem _ hy))
theorem DaAll.sok : ∀ {xs : List Str} {vs : List V}, DaAll K G vs (xs.map D.str) → ∀ x ∈ xs, SOk x
  | [], _, _ => by simp
  | x :: xs, _, h => by
    cases h with
    | cons h1 h2 =>
      cases h1 with
      | str _ q =>
        intro y hy
        rcases List.mem_cons.mp hy with rfl | hy
        · exact q
        · exact DaAll.sok h2 y hy
theorem DaAll.of_ints : ∀ (xs : List Int), DaAll K G (xs.map V.int) (xs.map D.int)
  | [] => .nil
  | x :: xs => .cons (.int x) (DaAll.of_ints xs)

/-! ### data without anything that may be written -/
mutual
def imm : D → Bool
  | .non => true
  | .bl _ => true
  | .int _ => true
  | .str _ => true
  | .tup xs => immAll xs
  | _ => false
def immAll : List D → Bool
  | [] => true
  | d :: ds => imm d && immAll ds
end
def TupSame (K : PySem.W.Frag) (G G' : Hp) : Prop := ∀ a xs, SqT K G a xs → SqT K G' a xs
mutual
theorem Da.imm (s : TupSame K G G') : ∀ (d : D) (v : V), imm d = true → Da K G v d → Da K G' v d
  | .non, _, _, h => by cases h; exact .non
  | .bl b, _, _, h => by cases h; exact .bl b
  | .int b, _, _, h => by cases h; exact .int b
  | .str b, _, _, h => by
    cases h with
    | str _ q => exact .str b q
  | .lst ds, _, q, h => by simp [DD.imm] at q
  | .scr ds, _, q, h => by simp [DD.imm] at q
  | .tup ds, _, q, h => by
    cases h with
    | tup hs ha => exact .tup (s _ _ hs) (DaAll.imm s ds _ (by simpa [DD.imm] using q) ha)
  | .dic ks ds, _, q, h => by simp [DD.imm] at q
  | .dit ks ds, _, q, h => by simp [DD.imm] at q
  | .obj d, _, q, h => by simp [DD.imm] at q
theorem DaAll.imm (s : TupSame K G G') : ∀ (ds : List D) (vs : List V), immAll ds = true → DaAll K G vs ds → DaAll K G' vs ds
  | [], _, _, h => by cases h; exact .nil
  | d :: ds, _, q, h => by
    have q' : DD.imm d = true ∧ immAll ds = true := by simpa [immAll] using q
    cases h with
    | cons h1 h2 => exact .cons (Da.imm s d _ q'.1 h1) (DaAll.imm s ds _ q'.2 h2)
end
theorem immAll_map {α : Type} {f : α → D} (h : ∀ a, DD.imm (f a) = true) : ∀ xs : List α, immAll (xs.map f) = true
  | [] => rfl
  | x :: xs => by simp [immAll, h x, immAll_map h xs]
end

/-! ### regions -/
/-- all that is tracked stays; a table may grow -/
def Ext (H H' : Hp) : Prop := (∀ b o, H b = some o → (∀ ps, o ≠ .tbl ps) → H' b = some o) ∧ ∀ b ps, H b = some (.tbl ps) → ∃ qs, H' b = some (.tbl qs)
theorem Ext.refl (H : Hp) : Ext H H := ⟨fun _ _ h _ => h, fun _ ps h => ⟨ps, h⟩⟩
theorem Ext.trans {H H1 H2 : Hp} (a : Ext H H1) (b : Ext H1 H2) : Ext H H2 :=
  ⟨fun c o h n => b.1 c o (a.1 c o h n) n, fun c ps h => by obtain ⟨qs, q⟩ := a.2 c ps h; exact b.2 c qs q⟩
theorem Ext.of {H H' : Hp} (s : Same H H') : Ext H H' := ⟨fun b o h _ => s b o h, fun b ps h => ⟨ps, s b _ h⟩⟩
theorem Ext.free {H H' : Hp} (e : Ext H H') {l : Addr} (h : H' l = none) : H l = none := by
  cases q : H l with
  | none => rfl
  | some o =>
    by_cases t : ∃ ps, o = .tbl ps
    · obtain ⟨ps, rfl⟩ := t
      obtain ⟨qs, z⟩ := e.2 l ps q
      rw [h] at z; cases z
    · have z := e.1 l o q (fun ps c => t ⟨ps, c⟩)
      rw [h] at z; cases z
theorem same_upd {H : Hp} {p : Addr} {o : HO} (h : H p = none) : Same H (upd H p o) := fun b u e => by
  rw [upd_ne (ne_of_none e h)]; exact e
theorem Ext.upd {H : Hp} {p : Addr} {o : HO} (h : H p = none) : Ext H (L2.upd H p o) := .of (same_upd h)

/-- of what is there: what G0 tells of the old, all that is new, all tuples; no table -/
def gr (G0 H0 H : Hp) : Hp := fun a => match H0 a with
  | none => (match H a with
    | some (.tbl _) => none
    | o => o)
  | some (.tup xs) => some (.tup xs)
  | some _ => G0 a

inductive Sl where
  | sh (d : D)
  | ow (p : Addr) (d : D)
abbrev Ev := List (Option Sl)
def owns : Ev → List Addr
  | [] => []
  | some (.ow p _) :: r => p :: owns r
  | _ :: r => owns r
structure Zn where
  G0 : Hp
  H0 : Hp
  B : Hp
  ex : List Addr
/-- m: what is stable; else: what may be read -/
def rg (m : Bool) (Z : Zn) (H : Hp) (Γ : Ev) : Hp := fun a => if m = true ∧ a ∈ Z.ex ++ owns Γ then none else gr Z.G0 Z.H0 H a

def OwOk (K : PySem.W.Frag) (G H : Hp) (p : Addr) : D → Prop
  | .lst ds => ∃ vs, H p = some (.lst vs) ∧ DaAll K G vs ds
  | .dic ks ds => ∃ kvs, H p = some (.dK kvs) ∧ kvs.map (fun q => q.1) = ks ∧ DaAll K G (kvs.map (fun q => q.2)) ds
  | .dit ks ds => ∃ kvs, H p = some (.dT kvs) ∧ kvs.map (fun q => q.1) = ks ∧ DaAll K G (kvs.map (fun q => q.2)) ds
  | _ => False
def SlOk (K : PySem.W.Frag) (G H : Hp) (v : V) : Sl → Prop
  | .sh d => Da K G v d
  | .ow p d => v = .ref p ∧ OwOk K G H p d
abbrev Tb := List (Addr × Str)
def NoTbl (G : Hp) : Prop := ∀ a ps, G a ≠ some (.tbl ps)
structure GOk (T : Tb) (K : PySem.W.Frag) (Z : Zn) (H : Hp) (σ : St) (Γ : Ev) : Prop where
  g0 : Same Z.G0 Z.H0
  gt : NoTbl Z.G0
  ext : Ext Z.H0 H
  tab : LamX.Tabs T H
  nd : (Z.ex ++ owns Γ).Nodup
  old : ∀ p ∈ Z.ex ++ owns Γ, Z.H0 p = none
  exl : ∀ p ∈ Z.ex, ∃ xs, H p = some (.lst xs)
  len : σ.length = Γ.length
  slots : ∀ (i : Nat) (s : Sl), Γ[i]? = some (some s) → ∃ v, σ[i]? = some (some v) ∧ SlOk K (rg true Z H Γ) H v s
  base : Same Z.B (rg true Z H Γ)

theorem mem_owns {Γ : Ev} {p : Addr} : p ∈ owns Γ ↔ ∃ (i : Nat) (d : D), Γ[i]? = some (some (.ow p d)) := by
  induction Γ with
  | nil => simp [owns]
  | cons s r ih =>
    have go : p ∈ owns r → ∃ (i : Nat) (d : D), (s :: r)[i]? = some (some (.ow p d)) := fun h => by
      obtain ⟨i, d, e⟩ := ih.mp h
      exact ⟨i + 1, d, by simpa using e⟩
    have back : ∀ (i : Nat) (d : D), (s :: r)[i + 1]? = some (some (.ow p d)) → p ∈ owns r := fun i d e => ih.mpr ⟨i, d, by simpa using e⟩
    cases s with
    | none =>
      simp only [owns]
      refine ⟨go, fun ⟨i, d, e⟩ => ?_⟩
      cases i with
      | zero => simp at e
      | succ i => exact back i d e
    | some s =>
      cases s with
      | sh d0 =>
        simp only [owns]
        refine ⟨go, fun ⟨i, d, e⟩ => ?_⟩
        cases i with
        | zero => simp at e
        | succ i => exact back i d e
      | ow q d0 =>
        simp only [owns, List.mem_cons]
        refine ⟨fun h => ?_, fun ⟨i, d, e⟩ => ?_⟩
        · rcases h with rfl | h
          · exact ⟨0, d0, rfl⟩
          · exact go h
        · cases i with
          | zero => simp at e; exact .inl e.1.symm
          | succ i => exact .inr (back i d e)

section
variable {T : Tb} {K : PySem.W.Frag} {Z : Zn} {H H' : Hp} {σ : St} {Γ : Ev} {m : Bool}
theorem OwOk.there {G : Hp} {p : Addr} {d : D} (h : OwOk K G H p d) : (∃ xs, H p = some (.lst xs)) ∨ (∃ kvs, H p = some (.dK kvs)) ∨ ∃ kvs, H p = some (.dT kvs) := by
  cases d with
  | lst ds => obtain ⟨vs, e, _⟩ := h; exact .inl ⟨_, e⟩
  | dic ks ds => obtain ⟨vs, e, _⟩ := h; exact .inr (.inl ⟨_, e⟩)
  | dit ks ds => obtain ⟨vs, e, _⟩ := h; exact .inr (.inr ⟨_, e⟩)
  | _ => exact False.elim h
/-- an owned thing is a list or a dict -/
theorem GOk.own (g : GOk T K Z H σ Γ) {p : Addr} (h : p ∈ Z.ex ++ owns Γ) : (∃ xs, H p = some (.lst xs)) ∨ (∃ kvs, H p = some (.dK kvs)) ∨ ∃ kvs, H p = some (.dT kvs) := by
  rcases List.mem_append.mp h with h | h
  · exact .inl (g.exl p h)
  · obtain ⟨i, d, e⟩ := mem_owns.mp h
    obtain ⟨v, _, _, q⟩ := g.slots i _ e
    exact q.there
theorem GOk.ownSome (g : GOk T K Z H σ Γ) {p : Addr} (h : p ∈ Z.ex ++ owns Γ) : H p ≠ none := by
  rcases g.own h with ⟨_, e⟩ | ⟨_, e⟩ | ⟨_, e⟩ <;> (rw [e]; exact fun z => by cases z)
theorem gr_ext (e : Ext H H') {G0 H0 : Hp} : Same (gr G0 H0 H) (gr G0 H0 H') := fun a o h => by
  unfold gr at h ⊢
  cases q : H0 a with
  | none =>
    rw [q] at h
    dsimp only at h ⊢
    cases r : H a with
    | none => rw [r] at h; cases h
    | some u =>
      rw [r] at h
      have nt : ∀ ps, u ≠ .tbl ps := fun ps z => by subst z; cases h
      have h' : some u = some o := by
        cases u <;> first | exact h | cases h
      rw [e.1 a u r nt]
      cases u <;> first | exact h' | exact absurd rfl (nt _)
  | some u =>
    rw [q] at h
    cases u <;> exact h
theorem rg_ext (e : Ext H H') : Same (rg m Z H Γ) (rg m Z H' Γ) := fun a o h => by
  unfold rg at h ⊢
  split at h
  · cases h
  · rename_i hn
    rw [if_neg hn]
    exact gr_ext e a o h
theorem gr_sub (g0 : Same Z.G0 Z.H0) (gt : NoTbl Z.G0) (e : Ext Z.H0 H) : Same (gr Z.G0 Z.H0 H) H := fun a o h => by
  unfold gr at h
  split at h
  · split at h
    · cases h
    · exact h
  · rename_i xs q
    cases h
    exact e.1 a _ q (fun ps z => by cases z)
  · rename_i u nq q
    have h0 := g0 a o h
    exact e.1 a o h0 (fun ps z => by subst z; exact gt a ps h)
theorem rg_gr : Same (rg m Z H Γ) (gr Z.G0 Z.H0 H) := fun a o h => by
  unfold rg at h
  split at h
  · cases h
  · exact h
theorem rg_false : rg false Z H Γ = gr Z.G0 Z.H0 H := by
  funext a
  unfold rg
  rw [if_neg (by simp)]
theorem GOk.sub (g : GOk T K Z H σ Γ) : Same (rg m Z H Γ) H := fun a o h => gr_sub g.g0 g.gt g.ext a o (rg_gr a o h)
theorem rg_noTbl (g : GOk T K Z H σ Γ) : NoTbl (rg m Z H Γ) := fun a ps h => by
  have h := rg_gr a _ h
  unfold gr at h
  split at h
  · split at h
    · cases h
    · rename_i q; exact q ps h
  · cases h
  · exact g.gt a ps h
theorem rg_stab : Same (rg true Z H Γ) (rg m Z H Γ) := by
  cases m with
  | true => exact Same.refl _
  | false => rw [rg_false]; exact rg_gr
/-- what is new is in the region -/
theorem rg_new (g : GOk T K Z H σ Γ) {p : Addr} {o : HO} (hp : H p = none) (nt : ∀ ps, o ≠ .tbl ps) : rg m Z (upd H p o) Γ p = some o := by
  unfold rg
  rw [if_neg (fun z => g.ownSome z.2 hp)]
  unfold gr
  rw [g.ext.free hp, upd_same]
  cases o <;> first | rfl | exact absurd rfl (nt _)
/-- a tuple is in every region -/
theorem rg_tup (g : GOk T K Z H σ Γ) {p : Addr} {xs : List V} (hp : H p = some (.tup xs)) : rg m Z H Γ p = some (.tup xs) := by
  unfold rg
  rw [if_neg (fun z => by rcases g.own z.2 with ⟨_, e⟩ | ⟨_, e⟩ | ⟨_, e⟩ <;> (rw [hp] at e; cases e))]
  unfold gr
  cases q : Z.H0 p with
  | none => dsimp only; rw [hp]
  | some u =>
    by_cases t : ∃ ps, u = .tbl ps
    · obtain ⟨ps, rfl⟩ := t
      obtain ⟨qs, z⟩ := g.ext.2 p ps q
      rw [hp] at z; cases z
    · have z := g.ext.1 p u q (fun ps c => t ⟨ps, c⟩)
      rw [hp] at z
      cases z
      rfl
theorem rg_tups (g : GOk T K Z H σ Γ) {m' : Bool} : TupSame K (rg m Z H Γ) (rg m' Z H Γ) := fun a xs h => by
  rcases h with (h | ⟨o, h⟩) | h
  · exact .inl (.inl (rg_tup g (g.sub _ _ h)))
  · refine .inl (.inr ⟨o, ?_⟩)
    have hH := g.sub _ _ h
    have hg := rg_gr _ _ h
    unfold rg
    rw [if_neg (fun z => by rcases g.own z.2 with ⟨_, e⟩ | ⟨_, e⟩ | ⟨_, e⟩ <;> (rw [hH] at e; cases e))]
    exact hg
  · exact .inr h
theorem SlOk.mono {G G' : Hp} (s : Same G G') (e : Ext H H') {v : V} {sl : Sl} (h : SlOk K G H v sl) : SlOk K G' H' v sl := by
  cases sl with
  | sh d => exact Da.to h s
  | ow p d =>
    obtain ⟨rfl, q⟩ := h
    refine ⟨rfl, ?_⟩
    cases d with
    | lst ds => obtain ⟨vs, e1, e2⟩ := q; exact ⟨vs, e.1 _ _ e1 (fun ps z => by cases z), e2.to s⟩
    | dic ks ds => obtain ⟨vs, e1, e3, e2⟩ := q; exact ⟨vs, e.1 _ _ e1 (fun ps z => by cases z), e3, e2.to s⟩
    | dit ks ds => obtain ⟨vs, e1, e3, e2⟩ := q; exact ⟨vs, e.1 _ _ e1 (fun ps z => by cases z), e3, e2.to s⟩
    | _ => exact False.elim q
theorem GOk.to (g : GOk T K Z H σ Γ) (e : Ext H H') (t : LamX.Tabs T H') : GOk T K Z H' σ Γ :=
  ⟨g.g0, g.gt, g.ext.trans e, t, g.nd, g.old, fun p hp => by obtain ⟨xs, q⟩ := g.exl p hp; exact ⟨xs, e.1 _ _ q (fun ps z => by cases z)⟩, g.len,
    fun i s h => by obtain ⟨v, q1, q2⟩ := g.slots i s h; exact ⟨v, q1, q2.mono (rg_ext e) e⟩, g.base.trans (rg_ext e)⟩
theorem GOk.new (g : GOk T K Z H σ Γ) {p : Addr} {o : HO} (hp : H p = none) : GOk T K Z (upd H p o) σ Γ :=
  g.to (Ext.upd hp) (g.tab.ext (same_upd hp))
end
/-! ### environments -/
section
variable {T : Tb} {K : PySem.W.Frag} {Z : Zn} {H H' : Hp} {σ : St} {Γ Γ' : Ev} {m : Bool}
theorem owns_drop : ∀ (Γ : Ev) (i : Nat) (s : Option Sl), (∀ p d, s ≠ some (.ow p d)) → List.Sublist (owns (Γ.set i s)) (owns Γ)
  | [], _, _, _ => by simp [owns]
  | t :: r, 0, s, h => by
    have e : owns ((t :: r).set 0 s) = owns r := by
      cases s with
      | none => rfl
      | some s =>
        cases s with
        | sh d => rfl
        | ow p d => exact absurd rfl (h p d)
    rw [e]
    cases t with
    | none => exact List.Sublist.refl _
    | some t =>
      cases t with
      | sh d => exact List.Sublist.refl _
      | ow p d => exact List.sublist_cons_self _ _
  | t :: r, i + 1, s, h => by
    have ih := owns_drop r i s h
    show List.Sublist (owns (t :: r.set i s)) (owns (t :: r))
    cases t with
    | none => exact ih
    | some t =>
      cases t with
      | sh d => exact ih
      | ow p d => exact List.Sublist.cons_cons p ih
/-- pointwise forgetting -/
inductive Wk : Ev → Ev → Prop
  | nil : Wk [] []
  | drop {s : Option Sl} {Γ Γ' : Ev} : Wk Γ Γ' → Wk (s :: Γ) (none :: Γ')
  | same {s : Option Sl} {Γ Γ' : Ev} : Wk Γ Γ' → Wk (s :: Γ) (s :: Γ')
theorem Wk.refl : ∀ Γ : Ev, Wk Γ Γ
  | [] => .nil
  | _ :: r => .same (Wk.refl r)
theorem Wk.eq {Γ Γ' : Ev} (h : Γ = Γ') : Wk Γ Γ' := by subst h; exact Wk.refl _
theorem Wk.sh {d d' : D} {Γ Γ' : Ev} (e : d = d') (w : Wk Γ Γ') : Wk (some (.sh d) :: Γ) (some (.sh d') :: Γ') := by subst e; exact .same w
theorem Wk.ow {p : Addr} {d d' : D} {Γ Γ' : Ev} (e : d = d') (w : Wk Γ Γ') : Wk (some (.ow p d) :: Γ) (some (.ow p d') :: Γ') := by subst e; exact .same w
theorem Wk.len : ∀ {Γ Γ' : Ev}, Wk Γ Γ' → Γ.length = Γ'.length
  | _, _, .nil => rfl
  | _, _, .drop w => congrArg Nat.succ w.len
  | _, _, .same w => congrArg Nat.succ w.len
theorem Wk.get : ∀ {Γ Γ' : Ev} {i : Nat} {s : Sl}, Wk Γ Γ' → Γ'[i]? = some (some s) → Γ[i]? = some (some s)
  | _, _, _, _, .nil, e => by simp at e
  | _, _, 0, _, .drop w, e => by simp at e
  | _, _, 0, _, .same w, e => by simpa using e
  | _, _, i + 1, _, .drop w, e => by simpa using w.get (i := i) (by simpa using e)
  | _, _, i + 1, _, .same w, e => by simpa using w.get (i := i) (by simpa using e)
theorem Wk.owns : ∀ {Γ Γ' : Ev}, Wk Γ Γ' → List.Sublist (owns Γ') (owns Γ)
  | _, _, .nil => List.Sublist.refl _
  | _, _, .drop (s := s) w => by
    cases s with
    | none => exact w.owns
    | some s =>
      cases s with
      | sh d => exact w.owns
      | ow p d => exact List.Sublist.cons p w.owns
  | _, _, .same (s := s) w => by
    cases s with
    | none => exact w.owns
    | some s =>
      cases s with
      | sh d => exact w.owns
      | ow p d => exact List.Sublist.cons_cons p w.owns
theorem rg_less {Z : Zn} (h : ∀ p, p ∈ owns Γ' → p ∈ owns Γ) : Same (rg true Z H Γ) (rg true Z H Γ') := fun a o e => by
  unfold rg at e ⊢
  split at e
  · cases e
  · rename_i hn
    rw [if_neg]
    · exact e
    · rintro ⟨_, q⟩
      refine hn ⟨rfl, ?_⟩
      rcases List.mem_append.mp q with q | q
      · exact List.mem_append_left _ q
      · exact List.mem_append_right _ (h a q)
theorem GOk.wk (g : GOk T K Z H σ Γ) (w : Wk Γ Γ') : GOk T K Z H σ Γ' :=
  ⟨g.g0, g.gt, g.ext, g.tab, g.nd.sublist (List.Sublist.append (List.Sublist.refl _) w.owns),
    fun p hp => g.old p ((List.Sublist.append (List.Sublist.refl Z.ex) w.owns).subset hp), g.exl, g.len.trans w.len,
    fun i s e => by obtain ⟨v, q1, q2⟩ := g.slots i s (w.get e); exact ⟨v, q1, q2.mono (rg_less fun p hp => w.owns.subset hp) (Ext.refl H)⟩, g.base.trans (rg_less fun p hp => w.owns.subset hp)⟩
theorem GOk.set (g : GOk T K Z H σ Γ) {i : Nat} {v : V} {d : D} (hi : i < Γ.length) (h : Da K (rg true Z H Γ) v d) : GOk T K Z H (σ.set i (some v)) (Γ.set i (some (.sh d))) := by
  have sub := owns_drop Γ i (some (.sh d)) (fun p d z => by cases z)
  have sm : Same (rg true Z H Γ) (rg true Z H (Γ.set i (some (.sh d)))) := rg_less fun p hp => sub.subset hp
  refine ⟨g.g0, g.gt, g.ext, g.tab, g.nd.sublist (List.Sublist.append (List.Sublist.refl _) sub), fun p hp => g.old p ((List.Sublist.append (List.Sublist.refl Z.ex) sub).subset hp), g.exl,
    by rw [List.length_set, List.length_set]; exact g.len, fun j s e => ?_, g.base.trans sm⟩
  by_cases hj : i = j
  · subst hj
    rw [List.getElem?_set_self hi] at e
    cases e
    exact ⟨v, List.getElem?_set_self (by rw [g.len]; exact hi), h.to sm⟩
  · rw [List.getElem?_set_ne hj] at e
    obtain ⟨u, q1, q2⟩ := g.slots j s e
    exact ⟨u, by rw [List.getElem?_set_ne hj]; exact q1, q2.mono sm (Ext.refl H)⟩
theorem owns_put : ∀ (Γ : Ev) (i : Nat) (p : Addr) (d : D), (owns Γ).Nodup → p ∉ owns Γ → (owns (Γ.set i (some (.ow p d)))).Nodup ∧ ∀ q, q ∈ owns (Γ.set i (some (.ow p d))) → q = p ∨ q ∈ owns Γ
  | [], _, _, _, _, _ => by simp [owns]
  | t :: r, 0, p, d, h1, h2 => by
    have sub : List.Sublist (owns r) (owns (t :: r)) := by
      cases t with
      | none => exact List.Sublist.refl _
      | some t =>
        cases t with
        | sh d => exact List.Sublist.refl _
        | ow p d => exact List.sublist_cons_self _ _
    show (p :: owns r).Nodup ∧ ∀ q, q ∈ p :: owns r → q = p ∨ q ∈ owns (t :: r)
    refine ⟨List.nodup_cons.mpr ⟨fun z => h2 (sub.subset z), h1.sublist sub⟩, fun q hq => ?_⟩
    rcases List.mem_cons.mp hq with e | hq
    · exact .inl e
    · exact .inr (sub.subset hq)
  | t :: r, i + 1, p, d, h1, h2 => by
    cases t with
    | none => exact owns_put r i p d h1 h2
    | some t =>
      cases t with
      | sh d' => exact owns_put r i p d h1 h2
      | ow p' d' =>
        have h1' : (p' :: owns r).Nodup := h1
        have h2' : p ∉ p' :: owns r := h2
        obtain ⟨a1, a2⟩ := List.nodup_cons.mp h1'
        obtain ⟨b1, b2⟩ : p ≠ p' ∧ p ∉ owns r := by simpa using h2'
        obtain ⟨c1, c2⟩ := owns_put r i p d a2 b2
        show (p' :: owns (r.set i (some (.ow p d)))).Nodup ∧ ∀ q, q ∈ p' :: owns (r.set i (some (.ow p d))) → q = p ∨ q ∈ p' :: owns r
        refine ⟨List.nodup_cons.mpr ⟨fun z => ?_, c1⟩, fun q hq => ?_⟩
        · rcases c2 p' z with e | e
          · exact b1 e.symm
          · exact a1 e
        · rcases List.mem_cons.mp hq with e | hq
          · exact .inr (by rw [e]; exact List.mem_cons_self ..)
          · rcases c2 q hq with e | e
            · exact .inl e
            · exact .inr (List.mem_cons_of_mem _ e)
/-- what a new owned thing may be -/
theorem tabs_upd {T : Tb} {H : Hp} {p : Addr} {o : HO} (t : LamX.Tabs T H) (h : (∃ xs, H p = some (.lst xs)) ∨ (∃ kvs, H p = some (.dK kvs)) ∨ (∃ kvs, H p = some (.dT kvs)) ∨ H p = none) : LamX.Tabs T (upd H p o) := fun q hq => by
  obtain ⟨ps, h1, h2, h3⟩ := t q hq
  have ne : ∀ {b : Addr} {u : HO}, H b = some u → (∀ xs, u ≠ .lst xs) → (∀ xs, u ≠ .dK xs) → (∀ xs, u ≠ .dT xs) → b ≠ p := fun {b u} e n1 n2 n3 z => by
    subst z
    rcases h with ⟨x, q⟩ | ⟨x, q⟩ | ⟨x, q⟩ | q <;> rw [e] at q
    · exact n1 x (Option.some.inj q)
    · exact n2 x (Option.some.inj q)
    · exact n3 x (Option.some.inj q)
    · cases q
  refine ⟨ps, by rw [upd_ne (ne h1 (fun _ z => by cases z) (fun _ z => by cases z) (fun _ z => by cases z))]; exact h1, h2, fun pos cv hc => ?_⟩
  obtain ⟨c, e1, e2⟩ := h3 pos cv hc
  exact ⟨c, e1, by rw [upd_ne (ne e2 (fun _ z => by unfold LamX.CodeO at z; cases z) (fun _ z => by unfold LamX.CodeO at z; cases z) (fun _ z => by unfold LamX.CodeO at z; cases z))]; exact e2⟩
theorem ext_upd_new {H0 H : Hp} {p : Addr} {o : HO} (e : Ext H0 H) (h : H0 p = none) : Ext H0 (upd H p o) :=
  ⟨fun b u q n => by rw [upd_ne (ne_of_none q h)]; exact e.1 b u q n, fun b ps q => by rw [upd_ne (ne_of_none q h)]; exact e.2 b ps q⟩
theorem rg_none (g : GOk T K Z H σ Γ) {p : Addr} (hp : H p = none) : gr Z.G0 Z.H0 H p = none := by
  unfold gr
  rw [g.ext.free hp]
  dsimp only
  rw [hp]
theorem GOk.newOw (g : GOk T K Z H σ Γ) {i : Nat} {p : Addr} {o : HO} {d : D} (hi : i < Γ.length) (hp : H p = none) (h : OwOk K (rg true Z H Γ) (upd H p o) p d) :
    GOk T K Z (upd H p o) (σ.set i (some (.ref p))) (Γ.set i (some (.ow p d))) := by
  have np : p ∉ Z.ex ++ owns Γ := fun z => g.ownSome z hp
  have np1 : p ∉ Z.ex := fun z => np (List.mem_append_left _ z)
  have np2 : p ∉ owns Γ := fun z => np (List.mem_append_right _ z)
  obtain ⟨nd1, nd2, nd3⟩ := List.nodup_append.mp g.nd
  obtain ⟨c1, c2⟩ := owns_put Γ i p d nd2 np2
  have sm : Same (rg true Z H Γ) (rg true Z (upd H p o) (Γ.set i (some (.ow p d)))) := fun a u e => by
    have hap : a ≠ p := fun z => by
      have e' := rg_gr _ _ e
      rw [z, rg_none g hp] at e'
      cases e'
    have e2 := rg_ext (m := true) (Z := Z) (Γ := Γ) (Ext.upd (o := o) hp) a u e
    unfold rg at e2 ⊢
    split at e2
    · cases e2
    · rename_i hn
      rw [if_neg]
      · exact e2
      · rintro ⟨_, q⟩
        refine hn ⟨rfl, ?_⟩
        rcases List.mem_append.mp q with q | q
        · exact List.mem_append_left _ q
        · rcases c2 a q with z | z
          · exact absurd z hap
          · exact List.mem_append_right _ z
  refine ⟨g.g0, g.gt, ext_upd_new g.ext (g.ext.free hp), tabs_upd g.tab (.inr (.inr (.inr hp))), ?_, fun q hq => ?_, fun q hq => ?_, by rw [List.length_set, List.length_set]; exact g.len, fun j s e => ?_, g.base.trans sm⟩
  · refine List.nodup_append.mpr ⟨nd1, c1, fun a ha b hb z => ?_⟩
    subst z
    rcases c2 a hb with z | z
    · subst z; exact np1 ha
    · exact nd3 a ha a z rfl
  · rcases List.mem_append.mp hq with hq | hq
    · exact g.old q (List.mem_append_left _ hq)
    · rcases c2 q hq with z | z
      · subst z; exact g.ext.free hp
      · exact g.old q (List.mem_append_right _ z)
  · obtain ⟨xs, e⟩ := g.exl q hq
    exact ⟨xs, by rw [upd_ne (ne_of_none e hp)]; exact e⟩
  · by_cases hj : i = j
    · subst hj
      rw [List.getElem?_set_self hi] at e
      cases e
      refine ⟨.ref p, List.getElem?_set_self (by rw [g.len]; exact hi), rfl, ?_⟩
      cases d with
      | lst ds => obtain ⟨vs, e1, e2⟩ := h; exact ⟨vs, e1, e2.to sm⟩
      | dic ks ds => obtain ⟨vs, e1, e3, e2⟩ := h; exact ⟨vs, e1, e3, e2.to sm⟩
      | dit ks ds => obtain ⟨vs, e1, e3, e2⟩ := h; exact ⟨vs, e1, e3, e2.to sm⟩
      | _ => exact False.elim h
    · rw [List.getElem?_set_ne hj] at e
      obtain ⟨u, q1, q2⟩ := g.slots j s e
      exact ⟨u, by rw [List.getElem?_set_ne hj]; exact q1, q2.mono sm (Ext.upd hp)⟩
theorem owns_same : ∀ (Γ : Ev) (i : Nat) (p : Addr) (d d' : D), Γ[i]? = some (some (.ow p d)) → owns (Γ.set i (some (.ow p d'))) = owns Γ
  | [], _, _, _, _, e => by simp at e
  | t :: r, 0, p, d, d', e => by
    have e : t = some (.ow p d) := by simpa using e
    subst e
    rfl
  | t :: r, i + 1, p, d, d', e => by
    have ih := owns_same r i p d d' (by simpa using e)
    show owns (t :: r.set i (some (.ow p d'))) = owns (t :: r)
    cases t with
    | none => exact ih
    | some t =>
      cases t with
      | sh d => exact ih
      | ow q d => exact congrArg (List.cons q) ih
theorem owns_ix : ∀ {Γ : Ev} {i j : Nat} {p : Addr} {d d' : D}, (owns Γ).Nodup → Γ[i]? = some (some (.ow p d)) → Γ[j]? = some (some (.ow p d')) → i = j
  | [], _, _, _, _, _, _, e, _ => by simp at e
  | t :: r, 0, 0, p, d, d', _, _, _ => rfl
  | t :: r, 0, j + 1, p, d, d', h, e, e' => by
    have e : t = some (.ow p d) := by simpa using e
    subst e
    have h' : (p :: owns r).Nodup := h
    exact absurd (mem_owns.mpr ⟨j, d', by simpa using e'⟩) (List.nodup_cons.mp h').1
  | t :: r, i + 1, 0, p, d, d', h, e, e' => by
    have e' : t = some (.ow p d') := by simpa using e'
    subst e'
    have h' : (p :: owns r).Nodup := h
    exact absurd (mem_owns.mpr ⟨i, d, by simpa using e⟩) (List.nodup_cons.mp h').1
  | t :: r, i + 1, j + 1, p, d, d', h, e, e' => by
    have sub : List.Sublist (owns r) (owns (t :: r)) := by
      cases t with
      | none => exact List.Sublist.refl _
      | some t =>
        cases t with
        | sh d => exact List.Sublist.refl _
        | ow p d => exact List.sublist_cons_self _ _
    exact congrArg Nat.succ (owns_ix (h.sublist sub) (by simpa using e) (by simpa using e'))
theorem rg_upd_own {p : Addr} {o : HO} (h : p ∈ Z.ex ++ owns Γ) : rg true Z (upd H p o) Γ = rg true Z H Γ := by
  funext a
  unfold rg
  split
  · rfl
  · rename_i hn
    have hap : a ≠ p := fun z => hn ⟨rfl, by rw [z]; exact h⟩
    unfold gr
    cases q : Z.H0 a with
    | none => dsimp only; rw [upd_ne hap]
    | some u => cases u <;> rfl
/-- an owned thing is changed -/
theorem GOk.updOw (g : GOk T K Z H σ Γ) {i : Nat} {p : Addr} {o : HO} {d d' : D} (hi : Γ[i]? = some (some (.ow p d))) (h : OwOk K (rg true Z H Γ) (upd H p o) p d') :
    GOk T K Z (upd H p o) σ (Γ.set i (some (.ow p d'))) := by
  have hm : p ∈ owns Γ := mem_owns.mpr ⟨i, d, hi⟩
  have hm' : p ∈ Z.ex ++ owns Γ := List.mem_append_right _ hm
  have eo := owns_same Γ i p d d' hi
  have hl : i < Γ.length := (List.getElem?_eq_some_iff.mp hi).1
  obtain ⟨nd1, nd2, nd3⟩ := List.nodup_append.mp g.nd
  have er : rg true Z (upd H p o) (Γ.set i (some (.ow p d'))) = rg true Z H Γ := by
    have e1 : rg true Z (upd H p o) (Γ.set i (some (.ow p d'))) = rg true Z (upd H p o) Γ := by
      funext a
      unfold rg
      rw [eo]
    rw [e1, rg_upd_own hm']
  have hw := g.own hm'
  refine ⟨g.g0, g.gt, ext_upd_new g.ext (g.old p hm'), tabs_upd g.tab (by rcases hw with z | z | z; exact .inl z; exact .inr (.inl z); exact .inr (.inr (.inl z))), by rw [eo]; exact g.nd, fun q hq => g.old q (by rw [eo] at hq; exact hq), fun q hq => ?_, by rw [List.length_set]; exact g.len, fun j s e => ?_, by rw [er]; exact g.base⟩
  · obtain ⟨xs, e⟩ := g.exl q hq
    refine ⟨xs, ?_⟩
    rw [upd_ne (fun z => nd3 q hq p hm z)]
    exact e
  · rw [er]
    by_cases hj : i = j
    · subst hj
      rw [List.getElem?_set_self hl] at e
      cases e
      obtain ⟨v, q1, q2, q3⟩ := g.slots i _ hi
      exact ⟨v, q1, q2, h⟩
    · rw [List.getElem?_set_ne hj] at e
      obtain ⟨u, q1, q2⟩ := g.slots j s e
      refine ⟨u, q1, ?_⟩
      cases s with
      | sh d => exact q2
      | ow r d2 =>
        obtain ⟨a1, a2⟩ := q2
        have hrp : r ≠ p := fun z => hj (owns_ix nd2 hi (by rw [z] at e; exact e))
        refine ⟨a1, ?_⟩
        cases d2 with
        | lst ds => obtain ⟨vs, e1, e2⟩ := a2; exact ⟨vs, by rw [upd_ne hrp]; exact e1, e2⟩
        | dic ks ds => obtain ⟨vs, e1, e3, e2⟩ := a2; exact ⟨vs, by rw [upd_ne hrp]; exact e1, e3, e2⟩
        | dit ks ds => obtain ⟨vs, e1, e3, e2⟩ := a2; exact ⟨vs, by rw [upd_ne hrp]; exact e1, e3, e2⟩
        | _ => exact False.elim a2
/-- the base of what stands moved up -/
theorem GOk.rebase (g : GOk T K Z H σ Γ) {B : Hp} (h : Same B (rg true Z H Γ)) : GOk T K { Z with B := B } H σ Γ := ⟨g.g0, g.gt, g.ext, g.tab, g.nd, g.old, g.exl, g.len, g.slots, h⟩
end
end DD

/-! Expressions that give data. -/
namespace DD
open PySem PySem.Spec L2

theorem PE.imp' {X : Cx} {e : Expr} {t t' : TE} (h : PE X e t) (w : ∀ σ H Q, t' σ H Q → t σ H Q) : PE X e t' := ⟨fun pins s σ H Q I q => h.run pins s σ H Q I (w σ H Q q)⟩
theorem PT.imp' {X : Cx} {e : Expr} {t t' : TT} (h : PT X e t) (w : ∀ σ H Q, t' σ H Q → t σ H Q) : PT X e t' := ⟨fun pins s σ H Q I q => h.run pins s σ H Q I (w σ H Q q)⟩
theorem PW.imp' {X : Cx} {e : Expr} {t t' : TT} (h : PW X e t) (w : ∀ σ H Q, t' σ H Q → t σ H Q) : PW X e t' := ⟨fun wh pins s σ H Q I q => h.run wh pins s σ H Q I (w σ H Q q)⟩
theorem PA.imp' {X : Cx} {e : List Expr} {t t' : TA} (h : PA X e t) (w : ∀ σ H Q, t' σ H Q → t σ H Q) : PA X e t' := ⟨fun pos pins s σ H Q I q => h.run pos pins s σ H Q I (w σ H Q q)⟩
theorem PS.imp' {X : Cx} {e : Stmt} {t t' : TS} (h : PS X e t) (w : ∀ D σ H, t' D σ H → t D σ H) : PS X e t' := ⟨fun pins s σ H D I q => h.run pins s σ H D I (w D σ H q)⟩
theorem PSs.imp' {X : Cx} {e : List Stmt} {t t' : TS} (h : PSs X e t) (w : ∀ D σ H, t' D σ H → t D σ H) : PSs X e t' := ⟨fun pins s σ H D I q => h.run pins s σ H D I (w D σ H q)⟩
theorem PC.imp' {X : Cx} {op : CmpOp} {a b : Expr} {t t' : TE} (h : PC X op a b t) (w : ∀ σ H Q, t' σ H Q → t σ H Q) : PC X op a b t' := ⟨fun pins s σ H Q I q => h.run pins s σ H Q I (w σ H Q q)⟩

/-! ### the readings -/
section
variable (T : Tb) (K : PySem.W.Frag)
def tE (m : Bool) (Γ : Ev) (d : D) : TE := fun σ H Q => ∃ Z, GOk T K Z H σ Γ ∧ ∀ v H', GOk T K Z H' σ Γ → Ext H H' → Da K (rg m Z H' Γ) v d → Q v H'
/-- a list that stands, its items stable -/
def tI (Γ : Ev) (ds : List D) : TE := fun σ H Q => ∃ Z, GOk T K Z H σ Γ ∧ ∀ a vs H', GOk T K Z H' σ Γ → Ext H H' → rg false Z H' Γ a = some (.lst vs) → DaAll K (rg true Z H' Γ) vs ds → Q (.ref a) H'
/-- a new list -/
def tL (Γ : Ev) (ds : List D) : TE := fun σ H Q => ∃ Z, GOk T K Z H σ Γ ∧ ∀ p vs H', GOk T K Z H' σ Γ → Ext H H' → H' p = none → DaAll K (rg true Z H' Γ) vs ds → Q (.ref p) (upd H' p (.lst vs))
def tB (Γ : Ev) (b : Bool) : TT := fun σ H Q => ∃ Z, GOk T K Z H σ Γ ∧ ∀ H', GOk T K Z H' σ Γ → Ext H H' → Q b H'
def tA (m : Bool) (Γ : Ev) (ds : List D) : TA := fun σ H Q => ∃ Z, GOk T K Z H σ Γ ∧ ∀ vs H', GOk T K Z H' σ Γ → Ext H H' → DaAll K (rg m Z H' Γ) vs ds → Q vs H'
end
abbrev ED (T : Tb) (X : Cx) (m : Bool) (Γ : Ev) (e : Expr) (d : D) : Prop := PE X e (tE T X.K m Γ d)
abbrev ID (T : Tb) (X : Cx) (Γ : Ev) (e : Expr) (ds : List D) : Prop := PE X e (tI T X.K Γ ds)
abbrev LD (T : Tb) (X : Cx) (Γ : Ev) (e : Expr) (ds : List D) : Prop := PE X e (tL T X.K Γ ds)
abbrev BD (T : Tb) (X : Cx) (Γ : Ev) (e : Expr) (b : Bool) : Prop := PT X e (tB T X.K Γ b)
abbrev AD (T : Tb) (X : Cx) (m : Bool) (Γ : Ev) (es : List Expr) (ds : List D) : Prop := PA X es (tA T X.K m Γ ds)

section
variable {T : Tb} {X : Cx} {Γ : Ev} {m ma mb mc : Bool} {e a b c : Expr} {d da db dc : D} {pos : Pos} {i : Nat} {x : Str} {ds es : List D}

/-! ### names and constants -/
theorem e_var (i : Nat) (hi : Γ[i]? = some (some (.sh d))) (hN : X.N[i]? = some x := by rfl) (hv : Vis X.env.scope x := by first | exact Or.inl rfl | exact Or.inr (Or.inl rfl) | exact Or.inr (Or.inr rfl)) (hd : (x == ("__debug__" : Str)) = false := by decide)
    (hcd : (x == ("__classdict__" : Str)) = false := by decide) : ED T X m Γ (.Name x pos) d := PE.imp' (pe_var hN hv hd hcd) fun σ H Q ⟨Z, g, q⟩ => by
  obtain ⟨v, e, s⟩ := g.slots i _ hi
  exact ⟨v, e, q v H g (Ext.refl H) (Da.to s rg_stab)⟩
/-- an owned list by its name -/
theorem i_var (i : Nat) {p : Addr} (hi : Γ[i]? = some (some (.ow p (.lst ds)))) (hN : X.N[i]? = some x := by rfl) (hv : Vis X.env.scope x := by first | exact Or.inl rfl | exact Or.inr (Or.inl rfl) | exact Or.inr (Or.inr rfl)) (hd : (x == ("__debug__" : Str)) = false := by decide)
    (hcd : (x == ("__classdict__" : Str)) = false := by decide) : ID T X Γ (.Name x pos) ds := PE.imp' (pe_var hN hv hd hcd) fun σ H Q ⟨Z, g, q⟩ => by
  obtain ⟨v, e, rfl, vs, e1, e2⟩ := g.slots i _ hi
  refine ⟨_, e, q p vs H g (Ext.refl H) ?_ e2⟩
  rw [rg_false]
  unfold gr
  rw [g.old p (List.mem_append_right _ (mem_owns.mpr ⟨i, _, hi⟩))]
  dsimp only
  rw [e1]
theorem gr_own {Z : Zn} {H : Hp} {σ : St} {p : Addr} {o : HO} (g : GOk T X.K Z H σ Γ) (hp : p ∈ owns Γ) (e : H p = some o) (nt : ∀ ps, o ≠ .tbl ps) : rg false Z H Γ p = some o := by
  rw [rg_false]
  unfold gr
  rw [g.old p (List.mem_append_right _ hp)]
  dsimp only
  rw [e]
  cases o <;> first | rfl | exact absurd rfl (nt _)
/-- an owned thing by its name, to be read -/
theorem e_own (i : Nat) {p : Addr} (hi : Γ[i]? = some (some (.ow p d))) (hN : X.N[i]? = some x := by rfl) (hv : Vis X.env.scope x := by first | exact Or.inl rfl | exact Or.inr (Or.inl rfl) | exact Or.inr (Or.inr rfl)) (hd : (x == ("__debug__" : Str)) = false := by decide)
    (hcd : (x == ("__classdict__" : Str)) = false := by decide) : ED T X false Γ (.Name x pos) d := PE.imp' (pe_var hN hv hd hcd) fun σ H Q ⟨Z, g, q⟩ => by
  obtain ⟨v, e, rfl, h⟩ := g.slots i _ hi
  have hm : p ∈ owns Γ := mem_owns.mpr ⟨i, _, hi⟩
  refine ⟨_, e, q _ H g (Ext.refl H) ?_⟩
  cases d with
  | lst ds => obtain ⟨vs, e1, e2⟩ := h; exact .lst (gr_own g hm e1 (fun _ z => by cases z)) (e2.to rg_stab)
  | dic ks ds => obtain ⟨vs, e1, e3, e2⟩ := h; exact .dic (gr_own g hm e1 (fun _ z => by cases z)) e3 (e2.to rg_stab)
  | dit ks ds => obtain ⟨vs, e1, e3, e2⟩ := h; exact .dit (gr_own g hm e1 (fun _ z => by cases z)) e3 (e2.to rg_stab)
  | _ => exact False.elim h
theorem e_int {n : Int} {j : Nat} : ED T X m Γ (.Constant (.int n) j pos) (.int n) := PE.imp' pe_int fun σ H Q ⟨Z, g, q⟩ => q _ H g (Ext.refl H) (.int n)
theorem e_bl {n : Bool} {j : Nat} : ED T X m Γ (.Constant (.bool n) j pos) (.bl n) := PE.imp' pe_bl fun σ H Q ⟨Z, g, q⟩ => q _ H g (Ext.refl H) (.bl n)
theorem e_non {j : Nat} : ED T X m Γ (.Constant .none j pos) .non := PE.imp' pe_non fun σ H Q ⟨Z, g, q⟩ => q _ H g (Ext.refl H) .non
theorem e_str {n : Str} {j : Nat} (h : SOk n := by decide +kernel) : ED T X m Γ (.Constant (.str n) j pos) (.str n) := PE.imp' pe_str fun σ H Q ⟨Z, g, q⟩ => q _ H g (Ext.refl H) (.str n h)
instance (n : Str) : Decidable (SOk n) := by unfold SOk; infer_instance
/-- a module's int, text -/
theorem e_gint {n : Int} (hm : ∃ t, X.mg x = some (.int n t)) (hg : Gl X x := by rfl) (hd : (x == ("__debug__" : Str)) = false := by decide) : ED T X m Γ (.Name x pos) (.int n) := by
  obtain ⟨t, hm⟩ := hm
  exact PE.imp' (pe_glob hg hm (v := .int n) ⟨t, rfl⟩ hd) fun σ H Q ⟨Z, g, q⟩ => q _ H g (Ext.refl H) (.int n)
theorem e_gstr {n : Str} (hm : ∃ t, X.mg x = some (.str n t)) (hs : SOk n := by decide +kernel) (hg : Gl X x := by rfl) (hd : (x == ("__debug__" : Str)) = false := by decide) : ED T X m Γ (.Name x pos) (.str n) := by
  obtain ⟨t, hm⟩ := hm
  exact PE.imp' (pe_glob hg hm (v := .str n) ⟨t, rfl⟩ hd) fun σ H Q ⟨Z, g, q⟩ => q _ H g (Ext.refl H) (.str n hs)

/-! ### from one reading to another -/
theorem e_imm (h : ED T X false Γ e d) (hi : imm d = true := by rfl) : ED T X m Γ e d := PE.imp' h fun σ H Q ⟨Z, g, q⟩ => ⟨Z, g, fun v H' g' x da => q v H' g' x (Da.imm (rg_tups g') d v hi da)⟩
theorem e_weak (h : ED T X true Γ e d) : ED T X m Γ e d := PE.imp' h fun σ H Q ⟨Z, g, q⟩ => ⟨Z, g, fun v H' g' x da => q v H' g' x (Da.to da rg_stab)⟩
theorem i_of_e (h : ED T X true Γ e (.lst ds)) : ID T X Γ e ds := PE.imp' h fun σ H Q ⟨Z, g, q⟩ => ⟨Z, g, fun v H' g' x da => by
  cases da with
  | lst e1 e2 => exact q _ _ H' g' x (rg_stab _ _ e1) e2⟩
theorem i_of_imm (h : ED T X false Γ e (.lst ds)) (hi : immAll ds = true) : ID T X Γ e ds := PE.imp' h fun σ H Q ⟨Z, g, q⟩ => ⟨Z, g, fun v H' g' x da => by
  cases da with
  | lst e1 e2 => exact q _ _ H' g' x e1 (DaAll.imm (rg_tups g') ds _ hi e2)⟩
theorem e_of_i (h : ID T X Γ e ds) : ED T X false Γ e (.lst ds) := PE.imp' h fun σ H Q ⟨Z, g, q⟩ => ⟨Z, g, fun a vs H' g' x e1 e2 => q _ H' g' x (.lst e1 (e2.to rg_stab))⟩
theorem i_of_l (h : LD T X Γ e ds) : ID T X Γ e ds := PE.imp' h fun σ H Q ⟨Z, g, q⟩ => ⟨Z, g, fun p vs H' g' x hp e2 => q p vs _ (g'.new hp) (x.trans (Ext.upd hp)) (rg_new g' hp (fun _ z => by cases z)) (e2.to (rg_ext (Ext.upd hp)))⟩
theorem e_of_l (h : LD T X Γ e ds) : ED T X m Γ e (.lst ds) := PE.imp' h fun σ H Q ⟨Z, g, q⟩ => ⟨Z, g, fun p vs H' g' x hp e2 => q _ _ (g'.new hp) (x.trans (Ext.upd hp)) (.lst (rg_new g' hp (fun _ z => by cases z)) ((e2.to (rg_ext (Ext.upd hp))).to rg_stab))⟩


/-! ### arguments -/
theorem a_nil : AD T X m Γ [] [] := PA.imp' pa_nil fun σ H Q ⟨Z, g, q⟩ => q [] H g (Ext.refl H) .nil
theorem a_cons {e : Expr} {r : List Expr} (h : ED T X m Γ e d) (hr : AD T X m Γ r ds) (hs : starEach (e :: r) X.env = (false, eval e X.env) :: starEach r X.env := by rfl) : AD T X m Γ (e :: r) (d :: ds) :=
  PA.imp' (pa_cons h hr hs) fun σ H Q ⟨Z, g, q⟩ => ⟨Z, g, fun v H1 g1 x1 d1 => ⟨Z, g1, fun vs H2 g2 x2 d2 => q _ H2 g2 (x1.trans x2) (.cons (d1.to (rg_ext x2)) d2)⟩⟩

/-! ### operators -/
/-- what an operator's rule asks of data -/
def Op2 (T : Tb) (K : PySem.W.Frag) (Γ : Ev) (r : R2) (ma mb m : Bool) (da db dc : D) : Prop := ∀ (Z : Zn) (H : Hp) (σ : St) (v u : V) (Q : VK), GOk T K Z H σ Γ → Da K (rg ma Z H Γ) v da → Da K (rg mb Z H Γ) u db →
  (∀ w H', GOk T K Z H' σ Γ → Ext H H' → Da K (rg m Z H' Γ) w dc → Q w H') → r v u H Q
theorem e_op {op : Operator} {r : R2} (ho : OpR X (binaryOp op) r) (sp : Op2 T X.K Γ r ma mb m da db dc) (ha : ED T X ma Γ a da) (hb : ED T X mb Γ b db) : ED T X m Γ (.BinOp a op b pos) dc :=
  PE.imp' (pe_op ho ha hb) fun σ H Q ⟨Z, g, q⟩ => ⟨Z, g, fun v H1 g1 x1 d1 => ⟨Z, g1, fun u H2 g2 x2 d2 => sp Z H2 σ v u Q g2 (d1.to (rg_ext x2)) d2 fun w H3 g3 x3 d3 => q w H3 g3 ((x1.trans x2).trans x3) d3⟩⟩
theorem e_add {i j : Int} (ha : ED T X true Γ a (.int i)) (hb : ED T X true Γ b (.int j)) : ED T X m Γ (.BinOp a .Add b pos) (.int (i + j)) :=
  e_op op_add (fun Z H σ v u Q g d1 d2 q => by cases d1; cases d2; exact ⟨_, _, rfl, rfl, q _ H g (Ext.refl H) (.int _)⟩) ha hb
theorem e_sub {i j : Int} (ha : ED T X true Γ a (.int i)) (hb : ED T X true Γ b (.int j)) : ED T X m Γ (.BinOp a .Sub b pos) (.int (i - j)) :=
  e_op op_sub (fun Z H σ v u Q g d1 d2 q => by cases d1; cases d2; exact ⟨_, _, rfl, rfl, q _ H g (Ext.refl H) (.int _)⟩) ha hb
theorem e_mul {i j : Int} (h : CMul i j) (ha : ED T X true Γ a (.int i)) (hb : ED T X true Γ b (.int j)) : ED T X m Γ (.BinOp a .Mult b pos) (.int (i * j)) :=
  e_op op_mul (fun Z H σ v u Q g d1 d2 q => by cases d1; cases d2; exact ⟨_, _, rfl, rfl, h, q _ H g (Ext.refl H) (.int _)⟩) ha hb
theorem e_mod {i j : Int} (h : 0 < j) (ha : ED T X true Γ a (.int i)) (hb : ED T X true Γ b (.int j)) : ED T X m Γ (.BinOp a .Mod b pos) (.int (i % j)) :=
  e_op op_mod (fun Z H σ v u Q g d1 d2 q => by cases d1; cases d2; exact ⟨_, _, rfl, rfl, h, q _ H g (Ext.refl H) (.int _)⟩) ha hb
theorem e_fdiv {i j : Int} (h : CDiv i j) (ha : ED T X true Γ a (.int i)) (hb : ED T X true Γ b (.int j)) : ED T X m Γ (.BinOp a .FloorDiv b pos) (.int (i / j)) :=
  e_op op_fdiv (fun Z H σ v u Q g d1 d2 q => by cases d1; cases d2; exact ⟨_, _, rfl, rfl, h, q _ H g (Ext.refl H) (.int _)⟩) ha hb
theorem e_neg {i : Int} (ha : ED T X true Γ a (.int i)) : ED T X m Γ (.UnaryOp .USub a pos) (.int (-i)) :=
  PE.imp' (pe_un un_neg ha) fun σ H Q ⟨Z, g, q⟩ => ⟨Z, g, fun v H1 g1 x1 d1 => by cases d1; exact ⟨_, rfl, q _ H1 g1 x1 (.int _)⟩⟩
theorem app_cps (x y : Str) : (x ++ y).cps = x.cps ++ y.cps := rfl
theorem SOk.app {x y : Str} (h : SOk x) (h' : SOk y) (hl : x.length + y.length ≤ 8388608) : SOk (x ++ y) := by
  refine ⟨?_, ?_⟩
  · have h1 := h.1
    have h2 := h'.1
    unfold PyData.strOk at h1 h2 ⊢
    rw [app_cps, Array.all_append, h1, h2]
    rfl
  · show (x ++ y).cps.size ≤ _
    rw [app_cps, Array.size_append]
    exact hl
theorem e_cat {x y : Str} (h : x.length + y.length ≤ 8388608) (ha : ED T X true Γ a (.str x)) (hb : ED T X true Γ b (.str y)) : ED T X m Γ (.BinOp a .Add b pos) (.str (x ++ y)) :=
  e_op op_add_str (fun Z H σ v u Q g d1 d2 q => by
    cases d1 with
    | str _ s1 =>
      cases d2 with
      | str _ s2 => exact ⟨_, _, rfl, rfl, by rw [sizeLine_eq]; omega, q _ H g (Ext.refl H) (.str _ (s1.app s2 h))⟩) ha hb
/-- a list behind another -/
theorem l_cat (h : ds.length + es.length ≤ 16777216) (ha : ID T X Γ a ds) (hb : ID T X Γ b es) : LD T X Γ (.BinOp a .Add b pos) (ds ++ es) :=
  PE.imp' (pe_op op_cat ha hb) fun σ H Q ⟨Z, g, q⟩ => ⟨Z, g, fun p vs H1 g1 x1 e1 e2 => ⟨Z, g1, fun p' us H2 g2 x2 f1 f2 => ⟨p, p', vs, us, rfl, rfl, g2.sub _ _ (rg_ext x2 _ _ e1), g2.sub _ _ f1,
    by rw [e2.length, f2.length, sizeLine_eq]; exact h, fun r hr => q r _ H2 g2 (x1.trans x2) hr ((e2.to (rg_ext x2)).append f2)⟩⟩⟩
theorem DaAll.rep {K : PySem.W.Frag} {G : Hp} {vs : List V} {ds : List D} (h : DaAll K G vs ds) : ∀ k : Nat, DaAll K G (List.replicate k vs).flatten (List.replicate k ds).flatten
  | 0 => .nil
  | k + 1 => by
    simp only [List.replicate_succ, List.flatten_cons]
    exact h.append (DaAll.rep h k)
theorem l_rep {k : Int} (h1 : -(2 ^ 63) ≤ k) (h2 : k < 2 ^ 63) (h : ds.length * k.toNat ≤ 16777216) (ha : ID T X Γ a ds) (hb : ED T X true Γ b (.int k)) : LD T X Γ (.BinOp a .Mult b pos) (List.replicate k.toNat ds).flatten :=
  PE.imp' (pe_op op_rep ha hb) fun σ H Q ⟨Z, g, q⟩ => ⟨Z, g, fun p vs H1 g1 x1 e1 e2 => ⟨Z, g1, fun v H2 g2 x2 d2 => by
    cases d2
    exact ⟨p, k, vs, rfl, rfl, g2.sub _ _ (rg_ext x2 _ _ e1), h1, h2, by rw [e2.length, sizeLine_eq]; exact h, fun r hr => q r _ H2 g2 (x1.trans x2) hr ((e2.to (rg_ext x2)).rep k.toNat)⟩⟩⟩

/-! ### comparisons -/
def isNon : D → Bool
  | .non => true
  | _ => false
theorem pc_opR {op : CmpOp} {r : R2} {ta tb : TE} (ho : OpR X (compareOp op) r) (ha : PE X a ta) (hb : PE X b tb) : PC X op a b (tOp r ta tb) := ⟨fun pins s σ H Q I h =>
  binT ha hb I h fun v u s2 x y H2 I2 rx ry q => ho pins s2 σ H2 x y v u Q I2 rx ry q⟩
abbrev CD (T : Tb) (X : Cx) (Γ : Ev) (op : CmpOp) (a b : Expr) (c : Bool) : Prop := PC X op a b (tE T X.K true Γ (.bl c))
theorem c_op {op : CmpOp} {r : R2} {k : Bool} (ho : OpR X (compareOp op) r) (sp : Op2 T X.K Γ r ma mb true da db (.bl k)) (ha : ED T X ma Γ a da) (hb : ED T X mb Γ b db) : CD T X Γ op a b k :=
  PC.imp' (pc_opR ho ha hb) fun σ H Q ⟨Z, g, q⟩ => ⟨Z, g, fun v H1 g1 x1 d1 => ⟨Z, g1, fun u H2 g2 x2 d2 => sp Z H2 σ v u Q g2 (d1.to (rg_ext x2)) d2 fun w H3 g3 x3 d3 => q w H3 g3 ((x1.trans x2).trans x3) d3⟩⟩
theorem e_of_c {op : CmpOp} {k : Bool} (h : CD T X Γ op a b k) (h1 : behindInMarks op b = false := by first | exact nobehind _ (by decide) (by decide) | rfl) : ED T X m Γ (.Compare a [op] [b] pos) (.bl k) :=
  PE.imp' (pe_cmp h h1) fun σ H Q ⟨Z, g, q⟩ => ⟨Z, g, fun v H' g' x da => q v H' g' x (Da.to da rg_stab)⟩
theorem b_of_c {op : CmpOp} {k : Bool} (h : CD T X Γ op a b k) (h1 : behindInMarks op b = false := by first | exact nobehind _ (by decide) (by decide) | rfl) : BD T X Γ (.Compare a [op] [b] pos) k :=
  PT.imp' (pt_cmp h h1) fun σ H Q ⟨Z, g, q⟩ => ⟨Z, g, fun v H' g' x da => by cases da; exact ⟨k, rfl, q H' g' x⟩⟩
theorem b_of_e' {k : Bool} (h : ED T X true Γ e (.bl k)) (he : ∀ whole, isTrue e X.env whole = (do let v ← whole; standAt e.pos; holding [v] (truthy v)) := by intro _; rfl) : BD T X Γ e k :=
  PT.imp' (pt_val h he) fun σ H Q ⟨Z, g, q⟩ => ⟨Z, g, fun v H' g' x da => by cases da; exact ⟨k, rfl, q H' g' x⟩⟩
theorem fin_c {Z : Zn} {H : Hp} {σ : St} {Q : VK} {k k' : Bool} (g : GOk T X.K Z H σ Γ) (q : ∀ w H', GOk T X.K Z H' σ Γ → Ext H H' → Da X.K (rg true Z H' Γ) w (.bl k) → Q w H') (e : k' = k) : Q (.bl k') H := by
  subst e
  exact q _ H g (Ext.refl H) (.bl _)
theorem c_lt {i j : Int} (ha : ED T X true Γ a (.int i)) (hb : ED T X true Γ b (.int j)) : CD T X Γ .Lt a b (decide (i < j)) :=
  c_op op_lt (fun Z H σ v u Q g d1 d2 q => by cases d1; cases d2; exact ⟨_, _, rfl, rfl, fin_c g q rfl⟩) ha hb
theorem c_le {i j : Int} (ha : ED T X true Γ a (.int i)) (hb : ED T X true Γ b (.int j)) : CD T X Γ .LtE a b (decide (i ≤ j)) :=
  c_op op_le (fun Z H σ v u Q g d1 d2 q => by cases d1; cases d2; exact ⟨_, _, rfl, rfl, fin_c g q rfl⟩) ha hb
theorem c_gt {i j : Int} (ha : ED T X true Γ a (.int i)) (hb : ED T X true Γ b (.int j)) : CD T X Γ .Gt a b (decide (j < i)) :=
  c_op op_gt (fun Z H σ v u Q g d1 d2 q => by cases d1; cases d2; exact ⟨_, _, rfl, rfl, fin_c g q rfl⟩) ha hb
theorem c_ge {i j : Int} (ha : ED T X true Γ a (.int i)) (hb : ED T X true Γ b (.int j)) : CD T X Γ .GtE a b (decide (j ≤ i)) :=
  c_op op_ge (fun Z H σ v u Q g d1 d2 q => by cases d1; cases d2; exact ⟨_, _, rfl, rfl, fin_c g q rfl⟩) ha hb
theorem c_eqI {i j : Int} (ha : ED T X true Γ a (.int i)) (hb : ED T X true Γ b (.int j)) : CD T X Γ .Eq a b (decide (i = j)) :=
  c_op op_eq (fun Z H σ v u Q g d1 d2 q => by cases d1; cases d2; exact ⟨rfl, fin_c g q (by simp)⟩) ha hb
theorem c_neI {i j : Int} (ha : ED T X true Γ a (.int i)) (hb : ED T X true Γ b (.int j)) : CD T X Γ .NotEq a b (!decide (i = j)) :=
  c_op op_ne (fun Z H σ v u Q g d1 d2 q => by cases d1; cases d2; exact ⟨rfl, fin_c g q (by simp)⟩) ha hb
theorem c_eqS {i j : Str} (ha : ED T X true Γ a (.str i)) (hb : ED T X true Γ b (.str j)) : CD T X Γ .Eq a b (decide (i = j)) :=
  c_op op_eq (fun Z H σ v u Q g d1 d2 q => by cases d1; cases d2; exact ⟨rfl, fin_c g q (by simp)⟩) ha hb
theorem c_neS {i j : Str} (ha : ED T X true Γ a (.str i)) (hb : ED T X true Γ b (.str j)) : CD T X Γ .NotEq a b (!decide (i = j)) :=
  c_op op_ne (fun Z H σ v u Q g d1 d2 q => by cases d1; cases d2; exact ⟨rfl, fin_c g q (by simp)⟩) ha hb
theorem c_geS {i j : Str} (ha : ED T X true Γ a (.str i)) (hb : ED T X true Γ b (.str j)) : CD T X Γ .GtE a b (!decide (i.cps.toList < j.cps.toList)) :=
  c_op op_ge_str (fun Z H σ v u Q g d1 d2 q => by cases d1; cases d2; exact ⟨_, _, rfl, rfl, fin_c g q rfl⟩) ha hb
theorem isNon_of {K : PySem.W.Frag} {G : Hp} {v : V} {d : D} (h : Da K G v d) : decide (v = V.non) = isNon d := by cases h <;> simp [isNon]
theorem c_isN (ha : ED T X false Γ a d) : PC X .Is a (.Constant .none i pos) (tE T X.K true Γ (.bl (isNon d))) :=
  PC.imp' (pc_isN ha) fun σ H Q ⟨Z, g, q⟩ => ⟨Z, g, fun v H1 g1 x1 d1 => by
    show Q (.bl (decide (v = V.non))) H1
    rw [isNon_of d1]
    exact q _ H1 g1 x1 (.bl _)⟩
theorem c_notN (ha : ED T X false Γ a d) : PC X .IsNot a (.Constant .none i pos) (tE T X.K true Γ (.bl (!isNon d))) :=
  PC.imp' (pc_notN ha) fun σ H Q ⟨Z, g, q⟩ => ⟨Z, g, fun v H1 g1 x1 d1 => by
    show Q (.bl (!decide (v = V.non))) H1
    rw [isNon_of d1]
    exact q _ H1 g1 x1 (.bl _)⟩
/-! one sign in a text -/
theorem c_inS {k : Nat} {z : Str} (ha : ED T X true Γ a (.str ⟨#[k]⟩)) (hb : ED T X true Γ b (.str z)) : CD T X Γ .In a b (decide (k ∈ z.cps.toList)) :=
  c_op op_in_sign (fun Z H σ v u Q g d1 d2 q => by cases d1; cases d2; exact ⟨_, _, rfl, rfl, fin_c g q rfl⟩) ha hb
theorem c_notInS {k : Nat} {z : Str} (ha : ED T X true Γ a (.str ⟨#[k]⟩)) (hb : ED T X true Γ b (.str z)) : CD T X Γ .NotIn a b (!decide (k ∈ z.cps.toList)) :=
  c_op op_notIn_sign (fun Z H σ v u Q g d1 d2 q => by cases d1; cases d2; exact ⟨_, _, rfl, rfl, fin_c g q rfl⟩) ha hb
/-! a text in a list of texts -/
theorem inV_strs (x : Str) : ∀ xs : List Str, inV (.str x) (xs.map V.str) = decide (x ∈ xs)
  | [] => by simp [inV]
  | y :: ys => by
    have ih := inV_strs x ys
    unfold inV at ih ⊢
    rw [List.map_cons, List.any_cons, ih]
    have e : eqV (V.str y) (V.str x) = decide (x = y) := by
      simp only [eqV]
      by_cases h : x = y
      · subst h; simp
      · rw [decide_eq_false h]
        first
          | (simp only [beq_eq_false_iff_ne, ne_eq]; exact fun z => h z.symm)
          | (simp [h]; exact fun z => h z.symm)
          | exact decide_eq_false fun z => h z.symm
    rw [e]
    simp [List.mem_cons, Bool.decide_or]
theorem flat_strs : ∀ xs : List Str, (xs.map V.str).all flatV = true
  | [] => rfl
  | x :: xs => by simp [flatV, flat_strs xs]
theorem c_inL {x : Str} {xs : List Str} (ha : ED T X true Γ a (.str x)) (hb : ED T X false Γ b (.lst (xs.map D.str))) : CD T X Γ .In a b (decide (x ∈ xs)) :=
  c_op op_in_seq (fun Z H σ v u Q g d1 d2 q => by
    cases d1
    cases d2 with
    | lst e1 e2 =>
      have ev := e2.strs
      subst ev
      exact ⟨_, _, rfl, .inl (SqL.of (g.sub _ _ e1)), rfl, flat_strs xs, fin_c g q (by rw [if_neg Bool.false_ne_true, inV_strs])⟩) ha hb
theorem c_notInL {x : Str} {xs : List Str} (ha : ED T X true Γ a (.str x)) (hb : ED T X false Γ b (.lst (xs.map D.str))) : CD T X Γ .NotIn a b (!decide (x ∈ xs)) :=
  c_op op_notIn_seq (fun Z H σ v u Q g d1 d2 q => by
    cases d1
    cases d2 with
    | lst e1 e2 =>
      have ev := e2.strs
      subst ev
      exact ⟨_, _, rfl, .inl (SqL.of (g.sub _ _ e1)), rfl, flat_strs xs, fin_c g q (by rw [if_pos rfl, inV_strs])⟩) ha hb
theorem c_inT {x : Str} {xs : List Str} (ha : ED T X true Γ a (.str x)) (hb : ED T X false Γ b (.tup (xs.map D.str))) : CD T X Γ .In a b (decide (x ∈ xs)) :=
  c_op op_in_seq (fun Z H σ v u Q g d1 d2 q => by
    cases d1
    cases d2 with
    | tup e1 e2 =>
      have ev := e2.strs
      subst ev
      exact ⟨_, _, rfl, .inr (SqT.mono (g.sub) e1), rfl, flat_strs xs, fin_c g q (by rw [if_neg Bool.false_ne_true, inV_strs])⟩) ha hb
theorem c_notInT {x : Str} {xs : List Str} (ha : ED T X true Γ a (.str x)) (hb : ED T X false Γ b (.tup (xs.map D.str))) : CD T X Γ .NotIn a b (!decide (x ∈ xs)) :=
  c_op op_notIn_seq (fun Z H σ v u Q g d1 d2 q => by
    cases d1
    cases d2 with
    | tup e1 e2 =>
      have ev := e2.strs
      subst ev
      exact ⟨_, _, rfl, .inr (SqT.mono (g.sub) e1), rfl, flat_strs xs, fin_c g q (by rw [if_pos rfl, inV_strs])⟩) ha hb

/-! ### tests joined -/
variable {rest : List Expr} {k l : Bool}
theorem b_and1 (ha : BD T X Γ a k) : PW X (.BoolOp .And [a] pos) (tB T X.K Γ k) := pw_and1 ha
theorem b_or1 (ha : BD T X Γ a k) : PW X (.BoolOp .Or [a] pos) (tB T X.K Γ k) := pw_or1 ha
theorem b_and (ha : BD T X Γ a k) (hb : k = true → PW X (.BoolOp .And (b :: rest) pos) (tB T X.K Γ l)) : PW X (.BoolOp .And (a :: b :: rest) pos) (tB T X.K Γ (k && l)) := by
  cases k with
  | true => exact PW.imp' (pw_and ha (hb rfl)) fun σ H Q ⟨Z, g, q⟩ => ⟨Z, g, fun H1 g1 x1 => iteT ⟨Z, g1, fun H2 g2 x2 => q H2 g2 (x1.trans x2)⟩⟩
  | false => exact PW.imp' (pw_and ha (PW.mk (t := fun _ _ _ => False) fun _ _ _ _ _ _ _ h => h.elim)) fun σ H Q ⟨Z, g, q⟩ => ⟨Z, g, fun H1 g1 x1 => iteF (q H1 g1 x1)⟩
theorem b_or (ha : BD T X Γ a k) (hb : k = false → PW X (.BoolOp .Or (b :: rest) pos) (tB T X.K Γ l)) : PW X (.BoolOp .Or (a :: b :: rest) pos) (tB T X.K Γ (k || l)) := by
  cases k with
  | false => exact PW.imp' (pw_or ha (hb rfl)) fun σ H Q ⟨Z, g, q⟩ => ⟨Z, g, fun H1 g1 x1 => iteF ⟨Z, g1, fun H2 g2 x2 => q H2 g2 (x1.trans x2)⟩⟩
  | true => exact PW.imp' (pw_or ha (PW.mk (t := fun _ _ _ => False) fun _ _ _ _ _ _ _ h => h.elim)) fun σ H Q ⟨Z, g, q⟩ => ⟨Z, g, fun H1 g1 x1 => iteT (q H1 g1 x1)⟩
theorem b_pw (h : PW X e (tB T X.K Γ k)) : BD T X Γ e k := h.pt
theorem b_not (ha : BD T X Γ a k) : BD T X Γ (.UnaryOp .Not a pos) (!k) := PT.imp' (pt_not ha) fun σ H Q ⟨Z, g, q⟩ => ⟨Z, g, fun H1 g1 x1 => q H1 g1 x1⟩
/-! as values -/
theorem e_one {op : BoolOp} (ha : ED T X m Γ a d) : ED T X m Γ (.BoolOp op [a] pos) d := pe_one ha
theorem e_and (ha : ED T X true Γ a (.bl k)) (hb : k = true → ED T X m Γ (.BoolOp .And (b :: rest) pos) (.bl l)) : ED T X m Γ (.BoolOp .And (a :: b :: rest) pos) (.bl (k && l)) := by
  cases k with
  | true => exact PE.imp' (pe_and ha (hb rfl)) fun σ H Q ⟨Z, g, q⟩ => ⟨Z, g, fun v H1 g1 x1 d1 => by
      cases d1
      exact ⟨true, rfl, iteT ⟨Z, g1, fun w H2 g2 x2 d2 => q w H2 g2 (x1.trans x2) d2⟩⟩⟩
  | false => exact PE.imp' (pe_and ha (PE.mk (t := fun _ _ _ => False) fun _ _ _ _ _ _ h => h.elim)) fun σ H Q ⟨Z, g, q⟩ => ⟨Z, g, fun v H1 g1 x1 d1 => by
      cases d1
      exact ⟨false, rfl, iteF (q _ H1 g1 x1 (.bl _))⟩⟩
theorem e_or (ha : ED T X true Γ a (.bl k)) (hb : k = false → ED T X m Γ (.BoolOp .Or (b :: rest) pos) (.bl l)) : ED T X m Γ (.BoolOp .Or (a :: b :: rest) pos) (.bl (k || l)) := by
  cases k with
  | false => exact PE.imp' (pe_or ha (hb rfl)) fun σ H Q ⟨Z, g, q⟩ => ⟨Z, g, fun v H1 g1 x1 d1 => by
      cases d1
      exact ⟨false, rfl, iteF ⟨Z, g1, fun w H2 g2 x2 d2 => q w H2 g2 (x1.trans x2) d2⟩⟩⟩
  | true => exact PE.imp' (pe_or ha (PE.mk (t := fun _ _ _ => False) fun _ _ _ _ _ _ h => h.elim)) fun σ H Q ⟨Z, g, q⟩ => ⟨Z, g, fun v H1 g1 x1 d1 => by
      cases d1
      exact ⟨true, rfl, iteT (q _ H1 g1 x1 (.bl _))⟩⟩
theorem e_not (ha : ED T X true Γ a (.bl k)) : ED T X m Γ (.UnaryOp .Not a pos) (.bl (!k)) := PE.imp' (pe_not ha) fun σ H Q ⟨Z, g, q⟩ => ⟨Z, g, fun v H1 g1 x1 d1 => by cases d1; exact ⟨k, rfl, q _ H1 g1 x1 (.bl _)⟩⟩

/-! ### truth of lists, tuples, texts -/
theorem b_lst (h : ED T X false Γ e (.lst ds)) (he : ∀ whole, isTrue e X.env whole = (do let v ← whole; standAt e.pos; holding [v] (truthy v)) := by intro _; rfl) : BD T X Γ e (!ds.isEmpty) :=
  PT.imp' (pt_truth h he) fun σ H Q ⟨Z, g, q⟩ => ⟨Z, g, fun v H1 g1 x1 d1 => by
    cases d1 with
    | lst e1 e2 =>
      refine ⟨_, .inl ⟨_, SqL.of (g1.sub _ _ e1), rfl⟩, ?_⟩
      have hl := e2.length
      rename_i vs
      have e : (!vs.isEmpty) = !ds.isEmpty := by cases vs <;> cases ds <;> simp_all
      rw [e]
      exact q H1 g1 x1⟩

/-! ### subscripts -/
theorem e_ixL {n : Int} (h : atI ds n = some d) (ha : ID T X Γ a ds) (hb : ED T X true Γ b (.int n)) (hs : PlainIx b := by exact fun _ _ => rfl) : ED T X m Γ (.Subscript a b pos) d :=
  PE.imp' (pe_ix ix_list ha hb hs) fun σ H Q ⟨Z, g, q⟩ => ⟨Z, g, fun p vs H1 g1 x1 e1 e2 => ⟨Z, g1, fun v H2 g2 x2 d2 => by
    cases d2
    have e3 := e2.to (rg_ext x2)
    unfold atI at h
    cases hj : ixN ds.length n with
    | none => rw [hj] at h; cases h
    | some j =>
      rw [hj] at h
      have h' : ds[j]? = some d := h
      obtain ⟨w, hw, hd⟩ := e3.get h'
      refine ⟨p, vs, n, w, rfl, rfl, SqL.of (g2.sub _ _ (rg_ext x2 _ _ e1)), ?_, q w H2 g2 (x1.trans x2) (hd.to rg_stab)⟩
      unfold atI
      rw [e3.length, hj]
      exact hw⟩⟩
theorem e_ixR {n : Int} (h : atI ds n = some d) (ha : ED T X m Γ a (.lst ds)) (hb : ED T X true Γ b (.int n)) (hs : PlainIx b := by exact fun _ _ => rfl) : ED T X m Γ (.Subscript a b pos) d :=
  PE.imp' (pe_ix ix_list ha hb hs) fun σ H Q ⟨Z, g, q⟩ => ⟨Z, g, fun v H1 g1 x1 d1 => ⟨Z, g1, fun u H2 g2 x2 d2 => by
    cases d2
    cases d1 with
    | lst e1 e2 =>
      have e3 := e2.to (rg_ext x2)
      unfold atI at h
      cases hj : ixN ds.length n with
      | none => rw [hj] at h; cases h
      | some j =>
        rw [hj] at h
        have h' : ds[j]? = some d := h
        obtain ⟨w, hw, hd⟩ := e3.get h'
        refine ⟨_, _, n, w, rfl, rfl, SqL.of (g2.sub _ _ (rg_ext x2 _ _ e1)), ?_, q w H2 g2 (x1.trans x2) hd⟩
        unfold atI
        rw [e3.length, hj]
        exact hw⟩⟩
theorem e_ixT {n : Int} (h : atI ds n = some d) (ha : ED T X m Γ a (.tup ds)) (hb : ED T X true Γ b (.int n)) (hs : PlainIx b := by exact fun _ _ => rfl) : ED T X m Γ (.Subscript a b pos) d :=
  PE.imp' (pe_ix ix_tup ha hb hs) fun σ H Q ⟨Z, g, q⟩ => ⟨Z, g, fun v H1 g1 x1 d1 => ⟨Z, g1, fun u H2 g2 x2 d2 => by
    cases d2
    cases d1 with
    | tup e1 e2 =>
      have e3 := e2.to (rg_ext x2)
      unfold atI at h
      cases hj : ixN ds.length n with
      | none => rw [hj] at h; cases h
      | some j =>
        rw [hj] at h
        have h' : ds[j]? = some d := h
        obtain ⟨w, hw, hd⟩ := e3.get h'
        refine ⟨_, _, n, w, rfl, rfl, SqT.mono g2.sub (SqT.mono (rg_ext x2) e1), ?_, q w H2 g2 (x1.trans x2) hd⟩
        unfold atI
        rw [e3.length, hj]
        exact hw⟩⟩
theorem mem_of_atI {α : Type} {xs : List α} {n : Int} {a : α} (h : atI xs n = some a) : a ∈ xs := by
  unfold atI at h
  cases hj : ixN xs.length n with
  | none => rw [hj] at h; cases h
  | some j => rw [hj] at h; exact List.mem_of_getElem? h
theorem SOk.sign {z : Str} {k : Nat} (h : SOk z) (hk : k ∈ z.cps.toList) : SOk ⟨#[k]⟩ := by
  refine ⟨?_, by show 1 ≤ 8388608; decide⟩
  have h1 := h.1
  unfold PyData.strOk at h1 ⊢
  rw [← Array.all_toList, List.all_eq_true] at h1
  have h2 := h1 k hk
  simpa using h2
theorem e_ixS {n : Int} {z : Str} {k : Nat} (h : atI z.cps.toList n = some k) (ha : ED T X true Γ a (.str z)) (hb : ED T X true Γ b (.int n)) (hs : PlainIx b := by exact fun _ _ => rfl) : ED T X m Γ (.Subscript a b pos) (.str ⟨#[k]⟩) :=
  PE.imp' (pe_ix ix_str ha hb hs) fun σ H Q ⟨Z, g, q⟩ => ⟨Z, g, fun v H1 g1 x1 d1 => ⟨Z, g1, fun u H2 g2 x2 d2 => by
    cases d2
    cases d1 with
    | str _ s1 => exact ⟨z, n, k, rfl, rfl, by rw [sizeLine_eq]; have := s1.2; omega, h, q _ H2 g2 (x1.trans x2) (.str _ (s1.sign (mem_of_atI h)))⟩⟩⟩

/-! ### slices -/
def tP (T : Tb) (K : PySem.W.Frag) (Γ : Ev) (o : Option Int) : TO := fun σ H Q => ∃ Z, GOk T K Z H σ Γ ∧ ∀ H', GOk T K Z H' σ Γ → Ext H H' → Q o H'
theorem PO.imp' {e : Option Expr} {t t' : TO} (h : PO X e t) (w : ∀ σ H Q, t' σ H Q → t σ H Q) : PO X e t' := ⟨fun pins s σ H Q I q => h.run pins s σ H Q I (w σ H Q q)⟩
theorem p_none : PO X none (tP T X.K Γ none) := PO.imp' po_none fun σ H Q ⟨Z, g, q⟩ => q H g (Ext.refl H)
theorem p_some {n : Int} (h : ED T X true Γ e (.int n)) : PO X (some e) (tP T X.K Γ (some n)) := PO.imp' (po_some h) fun σ H Q ⟨Z, g, q⟩ => ⟨Z, g, fun v H1 g1 x1 d1 => by cases d1; exact ⟨n, rfl, q H1 g1 x1⟩⟩
def cutD {α : Type} (xs : List α) (lo hi : Option Int) : List α := (xs.drop (HT.sIx xs.length 0 lo)).take (HT.sIx xs.length xs.length hi - HT.sIx xs.length 0 lo)
theorem cutD_map {α β : Type} (f : α → β) (xs : List α) (lo hi : Option Int) : cutD (xs.map f) lo hi = (cutD xs lo hi).map f := by
  unfold cutD
  rw [List.length_map, List.map_take, List.map_drop]
variable {lo hi : Option Expr} {o1 o2 : Option Int} {p2 : Pos}
theorem DaAll.cut {K : PySem.W.Frag} {G : Hp} {vs : List V} (h : DaAll K G vs ds) (o1 o2 : Option Int) : DaAll K G (cutV vs o1 o2) (cutD ds o1 o2) := by
  unfold cutV cutD
  rw [h.length]
  exact (h.drop _).take _
theorem l_slice (ha : ID T X Γ e ds) (hl : PO X lo (tP T X.K Γ o1)) (hh : PO X hi (tP T X.K Γ o2)) : LD T X Γ (.Subscript e (.Slice lo hi none p2) pos) (cutD ds o1 o2) :=
  PE.imp' (pe_slice sl_list ha hl hh) fun σ H Q ⟨Z, g, q⟩ => ⟨Z, g, fun p vs H1 g1 x1 e1 e2 => ⟨Z, g1, fun H2 g2 x2 => ⟨Z, g2, fun H3 g3 x3 =>
    ⟨p, vs, rfl, SqL.of (g3.sub _ _ (rg_ext (x2.trans x3) _ _ e1)), fun r hr => q r _ H3 g3 ((x1.trans x2).trans x3) hr ((e2.to (rg_ext (x2.trans x3))).cut o1 o2)⟩⟩⟩⟩
theorem cutV_ints (ns : List Int) (o1 o2 : Option Int) : cutV (ns.map V.int) o1 o2 = (cutD ns o1 o2).map V.int := by
  unfold cutV cutD
  rw [List.length_map, List.map_take, List.map_drop]
/-- a slice of the script -/
theorem l_sliceScr {ns : List Int} (ha : ED T X m Γ e (.scr ns)) (hl : PO X lo (tP T X.K Γ o1)) (hh : PO X hi (tP T X.K Γ o2)) : LD T X Γ (.Subscript e (.Slice lo hi none p2) pos) ((cutD ns o1 o2).map D.int) :=
  PE.imp' (pe_slice sl_list ha hl hh) fun σ H Q ⟨Z, g, q⟩ => ⟨Z, g, fun v H1 g1 x1 d1 => by
    cases d1 with
    | scr _ hs => exact ⟨Z, g1, fun H2 g2 x2 => ⟨Z, g2, fun H3 g3 x3 => ⟨_, _, rfl, SqL.mono (g3.sub) (SqL.mono (rg_ext (x2.trans x3)) hs), fun r hr => q r _ H3 g3 ((x1.trans x2).trans x3) hr (by rw [cutV_ints]; exact DaAll.of_ints _)⟩⟩⟩⟩
theorem SOk.cut {z : Str} (h : SOk z) (o1 o2 : Option Int) : SOk (cutS z o1 o2) := by
  refine ⟨?_, Nat.le_trans (cutS_length z o1 o2) h.2⟩
  have h1 := h.1
  unfold PyData.strOk at h1 ⊢
  rw [← Array.all_toList, List.all_eq_true] at h1 ⊢
  intro c hc
  refine h1 c ?_
  unfold cutS at hc
  first
    | exact List.mem_of_mem_drop (List.mem_of_mem_take (by simpa using hc))
    | (simp only [] at hc; exact List.mem_of_mem_drop (List.mem_of_mem_take hc))
theorem e_sliceS {z : Str} (ha : ED T X true Γ e (.str z)) (hl : PO X lo (tP T X.K Γ o1)) (hh : PO X hi (tP T X.K Γ o2)) : ED T X m Γ (.Subscript e (.Slice lo hi none p2) pos) (.str (cutS z o1 o2)) :=
  PE.imp' (pe_slice sl_str ha hl hh) fun σ H Q ⟨Z, g, q⟩ => ⟨Z, g, fun v H1 g1 x1 d1 => by
    cases d1 with
    | str _ s1 => exact ⟨Z, g1, fun H2 g2 x2 => ⟨Z, g2, fun H3 g3 x3 => ⟨z, rfl, by rw [sizeLine_eq]; have := s1.2; omega, q _ H3 g3 ((x1.trans x2).trans x3) (.str _ (s1.cut o1 o2))⟩⟩⟩⟩

/-! ### displays -/
theorem e_tup {xs : List Expr} {x1 : Nat} (hl : ds.length ≤ 16777216 := by first | decide | (simp; done)) (h : AD T X m Γ xs ds) : ED T X m Γ (.Tuple xs x1 pos) (.tup ds) :=
  PE.imp' (pe_tup h) fun σ H Q ⟨Z, g, q⟩ => ⟨Z, g, fun vs H1 g1 x1 d1 => ⟨by rw [d1.length, sizeLine_eq]; exact hl, fun p hp => q _ _ (g1.new hp) (x1.trans (Ext.upd hp)) (.tup (SqT.of (rg_new g1 hp (fun _ z => by cases z))) (d1.to (rg_ext (Ext.upd hp))))⟩⟩
theorem l_lst {xs : List Expr} (hl : ds.length ≤ 16777216 := by first | decide | (simp; done)) (h : AD T X true Γ xs ds) : LD T X Γ (.List xs pos) ds :=
  PE.imp' (pe_lst h) fun σ H Q ⟨Z, g, q⟩ => ⟨Z, g, fun vs H1 g1 x1 d1 => ⟨by rw [d1.length, sizeLine_eq]; exact hl, fun p hp => q p vs H1 g1 x1 hp d1⟩⟩

/-! ### built-in functions of one argument -/
/-- what a built-in's rule asks -/
def Cl1 (T : Tb) (K : PySem.W.Frag) (Γ : Ev) (r : List V → Hp → VK → Prop) (ma m : Bool) (das : List D) (dc : D) : Prop := ∀ (Z : Zn) (H : Hp) (σ : St) (vs : List V) (Q : VK), GOk T K Z H σ Γ → DaAll K (rg ma Z H Γ) vs das →
  (∀ w H', GOk T K Z H' σ Γ → Ext H H' → Da K (rg m Z H' Γ) w dc → Q w H') → r vs H Q
variable {es' : List Expr} {p : Pos} {id Ty : String} {r : List V → Hp → VK → Prop}
theorem e_callB (hc : CallR X (.builtin id) r) (sp : Cl1 T X.K Γ r ma m ds dc) (hg : Gl X x) (hm : X.mg x = none) (hv : bootBuiltins x = some (.builtin id)) (ha : AD T X ma Γ (a :: es') ds) (hn : x ≠ "__name__" := by decide) (hdb : (x == ("__debug__" : Str)) = false := by decide)
    (he : starEach (a :: es') X.env = (false, eval a X.env) :: starEach es' X.env := by rfl) (hpl : (backTo pos (starEach es' X.env)).any (·.1) = false := by rfl) : ED T X m Γ (.Call (.Name x p) (a :: es') [] pos) dc :=
  PE.imp' (pe_callB hc hg hm hv ha hn hdb he hpl) fun σ H Q ⟨Z, g, q⟩ => ⟨Z, g, fun vs H1 g1 x1 d1 => sp Z H1 σ vs Q g1 d1 fun w H2 g2 x2 d2 => q w H2 g2 (x1.trans x2) d2⟩
theorem e_callTy (hc : CallR X (.type Ty) r) (sp : Cl1 T X.K Γ r ma m ds dc) (hg : Gl X x) (hm : X.mg x = none) (hv : bootBuiltins x = some (.type Ty)) (ha : AD T X ma Γ (a :: es') ds) (hn : x ≠ "__name__" := by decide) (hdb : (x == ("__debug__" : Str)) = false := by decide)
    (he : starEach (a :: es') X.env = (false, eval a X.env) :: starEach es' X.env := by rfl) (hpl : (backTo pos (starEach es' X.env)).any (·.1) = false := by rfl) : ED T X m Γ (.Call (.Name x p) (a :: es') [] pos) dc :=
  PE.imp' (pe_callTy hc hg hm hv ha hn hdb he hpl) fun σ H Q ⟨Z, g, q⟩ => ⟨Z, g, fun vs H1 g1 x1 d1 => sp Z H1 σ vs Q g1 d1 fun w H2 g2 x2 d2 => q w H2 g2 (x1.trans x2) d2⟩
theorem a_one {ma : Bool} (h : ED T X ma Γ a da) (hs : starEach [a] X.env = (false, eval a X.env) :: starEach [] X.env := by rfl) : AD T X ma Γ [a] [da] := a_cons h a_nil hs
theorem a_two {ma : Bool} (h : ED T X ma Γ a da) (h2 : ED T X ma Γ b db) (hs2 : starEach [b] X.env = (false, eval b X.env) :: starEach [] X.env := by rfl) (hs : starEach [a, b] X.env = (false, eval a X.env) :: starEach [b] X.env := by rfl) : AD T X ma Γ [a, b] [da, db] := a_cons h (a_cons h2 a_nil hs2) hs
/-- len -/
theorem e_lenL (hm : X.mg "len" = none) (h : ED T X false Γ a (.lst ds)) (hg : Gl X "len" := by rfl) (hs : starEach [a] X.env = (false, eval a X.env) :: starEach [] X.env := by rfl) : ED T X m Γ (.Call (.Name "len" p) [a] [] pos) (.int ds.length) :=
  e_callB call_len_seq (fun Z H σ vs Q g d1 q => by
    cases d1 with
    | cons h1 h2 =>
      cases h2
      cases h1 with
      | lst e1 e2 => exact ⟨_, _, rfl, .inl (SqL.of (g.sub _ _ e1)), by rw [e2.length]; exact q _ H g (Ext.refl H) (.int _)⟩) hg hm PySem.boot_len (a_one h hs) (he := hs)
theorem e_lenScr {ns : List Int} (hm : X.mg "len" = none) (h : ED T X false Γ a (.scr ns)) (hg : Gl X "len" := by rfl) (hs : starEach [a] X.env = (false, eval a X.env) :: starEach [] X.env := by rfl) : ED T X m Γ (.Call (.Name "len" p) [a] [] pos) (.int ns.length) :=
  e_callB call_len_seq (fun Z H σ vs Q g d1 q => by
    cases d1 with
    | cons h1 h2 =>
      cases h2
      cases h1 with
      | scr _ hs => exact ⟨_, _, rfl, .inl (SqL.mono g.sub hs), by rw [List.length_map]; exact q _ H g (Ext.refl H) (.int _)⟩) hg hm PySem.boot_len (a_one h hs) (he := hs)
theorem e_lenT (hm : X.mg "len" = none) (h : ED T X false Γ a (.tup ds)) (hg : Gl X "len" := by rfl) (hs : starEach [a] X.env = (false, eval a X.env) :: starEach [] X.env := by rfl) : ED T X m Γ (.Call (.Name "len" p) [a] [] pos) (.int ds.length) :=
  e_callB call_len_seq (fun Z H σ vs Q g d1 q => by
    cases d1 with
    | cons h1 h2 =>
      cases h2
      cases h1 with
      | tup e1 e2 => exact ⟨_, _, rfl, .inr (SqT.mono g.sub e1), by rw [e2.length]; exact q _ H g (Ext.refl H) (.int _)⟩) hg hm PySem.boot_len (a_one h hs) (he := hs)
theorem e_lenS {z : Str} (hm : X.mg "len" = none) (h : ED T X true Γ a (.str z)) (hg : Gl X "len" := by rfl) (hs : starEach [a] X.env = (false, eval a X.env) :: starEach [] X.env := by rfl) : ED T X m Γ (.Call (.Name "len" p) [a] [] pos) (.int z.length) :=
  e_callB call_len_str (fun Z H σ vs Q g d1 q => by
    cases d1 with
    | cons h1 h2 =>
      cases h2
      cases h1 with
      | str _ s1 => exact ⟨_, rfl, by rw [sizeLine_eq]; have := s1.2; omega, q _ H g (Ext.refl H) (.int _)⟩) hg hm PySem.boot_len (a_one h hs) (he := hs)
/-- all, any of a list of bools -/
theorem e_all {bs : List Bool} (hm : X.mg "all" = none) (h : ED T X false Γ a (.lst (bs.map D.bl))) (hc : X.calm = true := by rfl) (hg : Gl X "all" := by rfl) (hs : starEach [a] X.env = (false, eval a X.env) :: starEach [] X.env := by rfl) : ED T X m Γ (.Call (.Name "all" p) [a] [] pos) (.bl (bs.all fun z => z)) :=
  e_callB (cr_all hc) (fun Z H σ vs Q g d1 q => by
    cases d1 with
    | cons h1 h2 =>
      cases h2
      cases h1 with
      | lst e1 e2 =>
        have ev := e2.bls
        subst ev
        exact ⟨_, bs, rfl, SqL.of (g.sub _ _ e1), q _ H g (Ext.refl H) (.bl _)⟩) hg hm (by decide +kernel) (a_one h hs) (he := hs)
theorem e_any {bs : List Bool} (hm : X.mg "any" = none) (h : ED T X false Γ a (.lst (bs.map D.bl))) (hc : X.calm = true := by rfl) (hg : Gl X "any" := by rfl) (hs : starEach [a] X.env = (false, eval a X.env) :: starEach [] X.env := by rfl) : ED T X m Γ (.Call (.Name "any" p) [a] [] pos) (.bl (bs.any fun z => z)) :=
  e_callB (cr_any hc) (fun Z H σ vs Q g d1 q => by
    cases d1 with
    | cons h1 h2 =>
      cases h2
      cases h1 with
      | lst e1 e2 =>
        have ev := e2.bls
        subst ev
        exact ⟨_, bs, rfl, SqL.of (g.sub _ _ e1), q _ H g (Ext.refl H) (.bl _)⟩) hg hm (by decide +kernel) (a_one h hs) (he := hs)
theorem e_min2 {i j : Int} (hm : X.mg "min" = none) (h : ED T X true Γ a (.int i)) (h2 : ED T X true Γ b (.int j)) (hc : X.calm = true := by rfl) (hg : Gl X "min" := by rfl) (hs2 : starEach [b] X.env = (false, eval b X.env) :: starEach [] X.env := by rfl) (hs : starEach [a, b] X.env = (false, eval a X.env) :: starEach [b] X.env := by rfl) (hpl : (backTo pos (starEach [b] X.env)).any (·.1) = false := by rfl) :
    ED T X m Γ (.Call (.Name "min" p) [a, b] [] pos) (.int (if j < i then j else i)) :=
  e_callB (call_min2 hc) (fun Z H σ vs Q g d1 q => by
    cases d1 with
    | cons h1 h2 =>
      cases h2 with
      | cons h2 h3 =>
        cases h3
        cases h1
        cases h2
        exact ⟨_, _, rfl, q _ H g (Ext.refl H) (.int _)⟩) hg hm (by decide +kernel) (a_two h h2 hs2 hs) (by decide) (by decide) hs hpl
theorem e_max2 {i j : Int} (hm : X.mg "max" = none) (h : ED T X true Γ a (.int i)) (h2 : ED T X true Γ b (.int j)) (hc : X.calm = true := by rfl) (hg : Gl X "max" := by rfl) (hs2 : starEach [b] X.env = (false, eval b X.env) :: starEach [] X.env := by rfl) (hs : starEach [a, b] X.env = (false, eval a X.env) :: starEach [b] X.env := by rfl) (hpl : (backTo pos (starEach [b] X.env)).any (·.1) = false := by rfl) :
    ED T X m Γ (.Call (.Name "max" p) [a, b] [] pos) (.int (if j > i then j else i)) :=
  e_callB (call_max2 hc) (fun Z H σ vs Q g d1 q => by
    cases d1 with
    | cons h1 h2 =>
      cases h2 with
      | cons h2 h3 =>
        cases h3
        cases h1
        cases h2
        exact ⟨_, _, rfl, q _ H g (Ext.refl H) (.int _)⟩) hg hm (by decide +kernel) (a_two h h2 hs2 hs) (by decide) (by decide) hs hpl
end
end DD

/-! Promises over data, sources of loops, comprehensions, statements. -/
namespace DD
open PySem PySem.Spec L2

/-! ### promises -/
def spE (T : Tb) (K : PySem.W.Frag) (R : List D → D → Prop) : Sp := fun vs H Q _ => ∃ G ds d, Same G H ∧ NoTbl G ∧ DaAll K G vs ds ∧ R ds d ∧ LamX.Tabs T H ∧ ∀ v H', Ext H H' → LamX.Tabs T H' → Da K (gr G H H') v d → Q v H'
/-- a new list comes back -/
def spL (T : Tb) (K : PySem.W.Frag) (R : List D → List D → Prop) : Sp := fun vs H Q _ => ∃ G ds es, Same G H ∧ NoTbl G ∧ DaAll K G vs ds ∧ R ds es ∧ LamX.Tabs T H ∧ ∀ p ws H', Ext H H' → LamX.Tabs T H' → H' p = none → DaAll K (gr G H H') ws es → Q (.ref p) (upd H' p (.lst ws))
/-- the function object at f -/
def KeepF (K : PySem.W.Frag) (f : Addr) (fd : FuncData) : Prop := PySem.W.keepIn K (.ref f) = true ∧ ∃ oc od osl, K.lookup f = some ⟨oc, od, .func fd, osl⟩
/-- a def that may be called -/
structure Cal (P : Program) (w : World) (K : PySem.W.Frag) (mg : Str → Option Value) (base : Heap) (x : Str) (ps : List Str) (k : Nat) (sp : Sp) : Prop where
  ex : ∃ f fd, mg x = some (.ref f) ∧ KeepF K f fd ∧ Binds K fd ps [] ∧ FnOk P w K mg base CX0 k f fd ps sp
theorem Cal.mono {P : Program} {w : World} {K : PySem.W.Frag} {mg : Str → Option Value} {base : Heap} {x : Str} {ps : List Str} {j k : Nat} {sp : Sp} (C : Cal P w K mg base x ps j sp) (h : j ≤ k) : Cal P w K mg base x ps k sp := by
  obtain ⟨f, fd, a, b, c, F⟩ := C.ex
  exact ⟨f, fd, a, b, c, F.mono h⟩

section
variable {T : Tb} {X : Cx} {Γ : Ev} {m ma mb mc : Bool} {e a b c : Expr} {d da db dc : D} {pos : Pos} {i : Nat} {x : Str} {ds es : List D} {es' : List Expr} {p : Pos} {ps : List Str} {k : Nat}
theorem rg_after {Z : Zn} {H H' : Hp} {σ : St} (g : GOk T X.K Z H σ Γ) (e : Ext H H') : Same (gr (rg m Z H Γ) H H') (rg m Z H' Γ) := fun q o h => by
  unfold gr at h
  cases r : H q with
  | none =>
    rw [r] at h
    dsimp only at h
    have nm : ¬ (m = true ∧ q ∈ Z.ex ++ owns Γ) := fun z => g.ownSome z.2 r
    unfold rg
    rw [if_neg nm]
    unfold gr
    rw [g.ext.free r]
    exact h
  | some u =>
    rw [r] at h
    by_cases t : ∃ xs, u = .tup xs
    · obtain ⟨xs, rfl⟩ := t
      have h : some (HO.tup xs) = some o := h
      cases h
      exact rg_ext e _ _ (rg_tup g r)
    · have h' : rg m Z H Γ q = some o := by
        cases u <;> first | exact h | exact absurd ⟨_, rfl⟩ t
      exact rg_ext e _ _ h'
theorem e_call {R : List D → D → Prop} (C : Cal X.prog X.w X.K X.mg X.base x ps k (spE T X.K R)) (hr : Room k X.A) (h : R ds d) (ha : AD T X m Γ (a :: es') ds) (hg : Gl X x := by rfl) (hdb : (x == ("__debug__" : Str)) = false := by decide)
    (he : starEach (a :: es') X.env = (false, eval a X.env) :: starEach es' X.env := by rfl) (hpl : (backTo pos (starEach es' X.env)).any (·.1) = false := by rfl) : ED T X m Γ (.Call (.Name x p) (a :: es') [] pos) d := by
  obtain ⟨f, fd, hm, hk, hb, F⟩ := C.ex
  refine PE.imp' (pe_call F hr hg hm hk.1 hb .nil pass0 ha hdb he hpl) fun σ H Q ⟨Z, g, q⟩ => ⟨Z, g, fun vs H1 g1 x1 d1 => ?_⟩
  dsimp only
  rw [List.append_nil]
  exact ⟨rg m Z H1 Γ, ds, d, g1.sub, rg_noTbl g1, d1, h, g1.tab, fun v H2 x2 t2 d2 => q v H2 (g1.to x2 t2) (x1.trans x2) (d2.to (rg_after g1 x2))⟩
theorem l_call {R : List D → List D → Prop} (C : Cal X.prog X.w X.K X.mg X.base x ps k (spL T X.K R)) (hr : Room k X.A) (h : R ds es) (ha : AD T X true Γ (a :: es') ds) (hg : Gl X x := by rfl) (hdb : (x == ("__debug__" : Str)) = false := by decide)
    (he : starEach (a :: es') X.env = (false, eval a X.env) :: starEach es' X.env := by rfl) (hpl : (backTo pos (starEach es' X.env)).any (·.1) = false := by rfl) : LD T X Γ (.Call (.Name x p) (a :: es') [] pos) es := by
  obtain ⟨f, fd, hm, hk, hb, F⟩ := C.ex
  refine PE.imp' (pe_call F hr hg hm hk.1 hb .nil pass0 ha hdb he hpl) fun σ H Q ⟨Z, g, q⟩ => ⟨Z, g, fun vs H1 g1 x1 d1 => ?_⟩
  dsimp only
  rw [List.append_nil]
  exact ⟨rg true Z H1 Γ, ds, es, g1.sub, rg_noTbl g1, d1, h, g1.tab, fun r ws H2 x2 t2 hr2 d2 => q r ws H2 (g1.to x2 t2) (x1.trans x2) hr2 (d2.to (rg_after g1 x2))⟩
/-- the same, what comes back is without lists: the arguments may be owned -/
theorem l_callI {R : List D → List D → Prop} (C : Cal X.prog X.w X.K X.mg X.base x ps k (spL T X.K R)) (hr : Room k X.A) (h : R ds es) (hi : immAll es = true) (ha : AD T X false Γ (a :: es') ds) (hg : Gl X x := by rfl) (hdb : (x == ("__debug__" : Str)) = false := by decide)
    (he : starEach (a :: es') X.env = (false, eval a X.env) :: starEach es' X.env := by rfl) (hpl : (backTo pos (starEach es' X.env)).any (·.1) = false := by rfl) : LD T X Γ (.Call (.Name x p) (a :: es') [] pos) es := by
  obtain ⟨f, fd, hm, hk, hb, F⟩ := C.ex
  refine PE.imp' (pe_call F hr hg hm hk.1 hb .nil pass0 ha hdb he hpl) fun σ H Q ⟨Z, g, q⟩ => ⟨Z, g, fun vs H1 g1 x1 d1 => ?_⟩
  dsimp only
  rw [List.append_nil]
  exact ⟨rg false Z H1 Γ, ds, es, g1.sub, rg_noTbl g1, d1, h, g1.tab, fun r ws H2 x2 t2 hr2 d2 => q r ws H2 (g1.to x2 t2) (x1.trans x2) hr2 (DaAll.imm (rg_tups (g1.to x2 t2)) es _ hi (d2.to (rg_after g1 x2)))⟩
end

/-! ### what is walked -/
/-- at turn i < n the target takes the i-th item: the environment is up i Γ -/
structure Stp (T : Tb) (K : PySem.W.Frag) (J : It) (g : TG) (n : Nat) (js : List Nat) (up : Nat → Ev → Ev) (Good : Zn → Hp → Ev → Prop) : Prop where
  stop : ∀ Z H σ Γ, GOk T K Z H σ Γ → Good Z H Γ → J.stop n H
  turn : ∀ Z i H σ Γ, i < n → GOk T K Z H σ Γ → Good Z H Γ → (∀ j ∈ js, j < Γ.length) → J.go i H ∧ ∀ v H', J.yld i H v H' → ∀ Q : St → Hp → Prop,
    (∀ σ2 H2, GOk T K Z H2 σ2 (up i Γ) → Ext H H2 → (∀ vs, (∀ j ∈ js, j ∈ vs) → wipe σ2 vs = wipe σ vs) → Q σ2 H2) → g v σ H' Q
def tSrc (T : Tb) (K : PySem.W.Frag) (Γ : Ev) (g : TG) (n : Nat) (js : List Nat) (up : Nat → Ev → Ev) (Keep : Ev → Prop) : TI := fun σ H R => ∃ Z, GOk T K Z H σ Γ ∧ ∀ J Good H1, GOk T K Z H1 σ Γ → Ext H H1 → Stp T K J g n js up Good →
  (∀ Z2 H2 σ2 Γ2, GOk T K Z2 H2 σ2 Γ2 → Same (rg true Z H1 Γ) Z2.B → Keep Γ2 → Ext H1 H2 ∨ True → Good Z2 H2 Γ2) → R J H1
theorem PI.imp' {X : Cx} {tg iter : Expr} {t t' : TI} (h : PI X tg iter t) (w : ∀ σ H R, t' σ H R → t σ H R) : PI X tg iter t' := ⟨fun pins s σ H R I q => h.run pins s σ H R I (w σ H R q)⟩
theorem wipe_set1 {σ : St} {j : Nat} {v : Option V} : ∀ {vs : List Nat}, j ∈ vs → wipe (σ.set j v) vs = wipe σ vs
  | [], h => by simp at h
  | u :: vs, h => by
    by_cases hj : j ∈ vs
    · unfold wipe
      rw [wipe_set1 hj]
    · have e : j = u := by
        rcases List.mem_cons.mp h with z | z
        · exact z
        · exact absurd z hj
      subst e
      have key : ∀ vs : List Nat, j ∉ vs → wipe (σ.set j v) vs = (wipe σ vs).set j v := by
        intro vs
        induction vs with
        | nil => intro _; rfl
        | cons u vs ih =>
          intro hn
          simp only [List.mem_cons, not_or] at hn
          unfold wipe
          rw [ih hn.2, List.set_comm _ _ hn.1]
      unfold wipe
      rw [key vs hj, List.set_set]
abbrev upN (j : Nat) (it : Nat → D) : Nat → Ev → Ev := fun i Γ => Γ.set j (some (.sh (it i)))
abbrev upN2 (j1 j2 : Nat) (it1 it2 : Nat → D) : Nat → Ev → Ev := fun i Γ => (Γ.set j1 (some (.sh (it1 i)))).set j2 (some (.sh (it2 i)))
/-- the list at a tells ds -/
def GoodL (K : PySem.W.Frag) (a : Addr) (ds : List D) : Zn → Hp → Ev → Prop := fun Z H Γ => ∃ vs, H a = some (.lst vs) ∧ DaAll K (rg true Z H Γ) vs ds
section
variable {T : Tb} {X : Cx} {Γ : Ev} {e : Expr} {ds es : List D} {tg : Expr} {j j1 j2 : Nat}
theorem stp_list {K : PySem.W.Frag} {a : Addr} : Stp T K (Itl K a) (gName j) ds.length [j] (upN j fun i => ds.getD i .non) (GoodL K a ds) where
  stop := fun Z H σ Γ g ⟨vs, e1, e2⟩ => ⟨vs, SqL.of e1, by rw [e2.length]; exact Nat.le_refl _⟩
  turn := fun Z i H σ Γ hi g ⟨vs, e1, e2⟩ hj => by
    have hl := e2.length
    have hv : i < vs.length := by omega
    refine ⟨⟨vs, vs[i], SqL.of e1, by simp [hv]⟩, fun v H' y Q q => ?_⟩
    obtain ⟨rfl, y⟩ := y
    have hx := y vs (SqL.of e1)
    obtain ⟨d, hd, h⟩ := e2.get' hx
    have ed : ds.getD i .non = d := by simp [List.getD, hd]
    refine q _ _ (g.set (hj j (by simp)) (by dsimp only; rw [ed]; exact h)) (Ext.refl _) fun vs hvs => wipe_set1 (hvs j (by simp))
/-- a stable list -/
theorem src_list (h : ED T X true Γ e (.lst ds)) : PI X tg e (tSrc T X.K Γ (gName j) ds.length [j] (upN j fun i => ds.getD i .non) fun _ => True) :=
  PI.imp' (pi_list h) fun σ H R ⟨Z, g, q⟩ => ⟨Z, g, fun v H1 g1 x1 d1 => by
    cases d1 with
    | lst e1 e2 =>
      exact ⟨_, rfl, ⟨_, SqL.of (g1.sub _ _ e1)⟩, q _ (GoodL X.K _ ds) H1 g1 x1 stp_list fun Z2 H2 σ2 Γ2 g2 sm _ _ => ⟨_, g2.sub _ _ (g2.base _ _ (sm _ _ e1)), (e2.to sm).to g2.base⟩⟩⟩
/-- an owned list that the loop leaves as it is -/
theorem src_own {i : Nat} {p : Addr} {x : Str} {pos : Pos} (hi : Γ[i]? = some (some (.ow p (.lst ds)))) (hN : X.N[i]? = some x := by rfl) (hv : Vis X.env.scope x := by first | exact Or.inl rfl | exact Or.inr (Or.inl rfl) | exact Or.inr (Or.inr rfl)) (hd : (x == ("__debug__" : Str)) = false := by decide)
    (hcd : (x == ("__classdict__" : Str)) = false := by decide) : PI X tg (.Name x pos) (tSrc T X.K Γ (gName j) ds.length [j] (upN j fun i => ds.getD i .non) fun Γ2 => Γ2[i]? = some (some (.ow p (.lst ds)))) :=
  PI.imp' (pi_list (pe_var hN hv hd hcd)) fun σ H R ⟨Z, g, q⟩ => by
    obtain ⟨v, e, rfl, vs, e1, e2⟩ := g.slots i _ hi
    exact ⟨_, e, _, rfl, ⟨vs, SqL.of e1⟩, q _ (GoodL X.K _ ds) H g (Ext.refl H) stp_list fun Z2 H2 σ2 Γ2 g2 sm kp _ => by
      obtain ⟨v, e, _, vs, e1, e2⟩ := g2.slots i _ kp
      exact ⟨vs, e1, e2⟩⟩
/-- a new list that nothing else tells -/
theorem src_new (h : LD T X Γ e ds) : PI X tg e (tSrc T X.K Γ (gName j) ds.length [j] (upN j fun i => ds.getD i .non) fun _ => True) := src_list (e_of_l h)
theorem stp_range {K : PySem.W.Frag} {lo : Int} {n : Nat} : Stp T K (Itr lo n) (gName j) n [j] (upN j fun i => .int (lo + i)) fun _ _ _ => True where
  stop := fun Z H σ Γ g _ => Nat.le_refl n
  turn := fun Z i H σ Γ hi g _ hj => ⟨hi, fun v H' y Q q => by
    obtain ⟨rfl, rfl⟩ := y
    exact q _ _ (g.set (hj j (by simp)) (.int _)) (Ext.refl _) fun vs hvs => wipe_set1 (hvs j (by simp))⟩
theorem src_range {n : Int} {a : Expr} {p pos : Pos} (hm : X.mg "range" = none) (h1 : -(2 ^ 62) ≤ n) (h2 : n < 2 ^ 62) (h : ED T X true Γ a (.int n)) (hg : Gl X "range" := by rfl) (hs : starEach [a] X.env = [(false, eval a X.env)] := by rfl) :
    PI X tg (.Call (.Name "range" p) [a] [] pos) (tSrc T X.K Γ (gName j) n.toNat [j] (upN j fun i => .int (0 + i)) fun _ => True) :=
  PI.imp' (pi_range1 hg hm (a_one h hs) hs) fun σ H R ⟨Z, g, q⟩ => ⟨Z, g, fun vs H1 g1 x1 d1 => by
    cases d1 with
    | cons h1' h2' =>
      cases h2'
      cases h1'
      exact ⟨n, rfl, h1, h2, q _ (fun _ _ _ => True) H1 g1 x1 stp_range fun _ _ _ _ _ _ _ _ => trivial⟩⟩
theorem stp_str {K : PySem.W.Frag} {z : Str} (hz : SOk z) : Stp T K (Its z) (gName j) z.cps.size [j] (upN j fun i => .str ⟨#[z.cps.toList.getD i 0]⟩) fun _ _ _ => True where
  stop := fun Z H σ Γ g _ => Nat.le_refl _
  turn := fun Z i H σ Γ hi g _ hj => ⟨hi, fun v H' y Q q => by
    obtain ⟨rfl, c, hc, rfl⟩ := y
    have ec : z.cps.toList.getD i 0 = c := by
      rw [List.getD_eq_getElem?_getD, Array.getElem?_toList, hc]
      rfl
    have hm : c ∈ z.cps.toList := by
      rw [← Array.getElem?_toList] at hc
      exact List.mem_of_getElem? hc
    refine q _ _ (g.set (hj j (by simp)) ?_) (Ext.refl _) fun vs hvs => wipe_set1 (hvs j (by simp))
    show Da K _ _ (.str ⟨#[z.cps.toList.getD i 0]⟩)
    rw [ec]
    exact .str _ (hz.sign hm)⟩
theorem src_str {z : Str} (hz : SOk z) (h : ED T X true Γ e (.str z)) : PI X tg e (tSrc T X.K Γ (gName j) z.cps.size [j] (upN j fun i => .str ⟨#[z.cps.toList.getD i 0]⟩) fun _ => True) :=
  PI.imp' (pi_str h) fun σ H R ⟨Z, g, q⟩ => ⟨Z, g, fun v H1 g1 x1 d1 => by
    cases d1 with
    | str _ s1 => exact ⟨z, rfl, q _ (fun _ _ _ => True) H1 g1 x1 (stp_str hz) fun _ _ _ _ _ _ _ _ => trivial⟩⟩
/-! two names at once -/
abbrev g2 (K : PySem.W.Frag) (j1 j2 : Nat) : TG := gTup K 2 (gCons (gName j1) (gCons (gName j2) gNil))
theorem take_pair {K : PySem.W.Frag} {Z : Zn} {H : Hp} {σ : St} {Γ : Ev} {t : Addr} {v u : V} {d1 d2 : D} {Q : St → Hp → Prop} (g : GOk T K Z H σ Γ) (ht : SqT K H t [v, u]) (h1 : Da K (rg true Z H Γ) v d1) (h2 : Da K (rg true Z H Γ) u d2) (l1 : j1 < Γ.length) (l2 : j2 < Γ.length)
    (q : ∀ σ2, GOk T K Z H σ2 ((Γ.set j1 (some (.sh d1))).set j2 (some (.sh d2))) → (∀ vs, (∀ j ∈ [j1, j2], j ∈ vs) → wipe σ2 vs = wipe σ vs) → Q σ2 H) : g2 K j1 j2 (.ref t) σ H Q := by
  have g1 := g.set l1 h1
  have sub := owns_drop Γ j1 (some (.sh d1)) (fun p d z => by cases z)
  have g2 := g1.set (d := d2) (v := u) (by rw [List.length_set]; exact l2) (h2.to (rg_less fun p hp => sub.subset hp))
  refine ⟨t, [v, u], rfl, ht, rfl, v, [u], rfl, u, [], rfl, rfl, q _ g2 fun vs hvs => ?_⟩
  rw [wipe_set1 (hvs j2 (by simp)), wipe_set1 (hvs j1 (by simp))]
/-- enumerate -/
theorem stp_enum {K : PySem.W.Frag} {a : Addr} : Stp T K (Ite K a) (g2 K j1 j2) ds.length [j1, j2] (upN2 j1 j2 (fun i => .int (i : Nat)) fun i => ds.getD i .non) (GoodL K a ds) where
  stop := fun Z H σ Γ g ⟨vs, e1, e2⟩ => ⟨vs, SqL.of e1, by rw [e2.length]; exact Nat.le_refl _⟩
  turn := fun Z i H σ Γ hi g ⟨vs, e1, e2⟩ hj => by
    have hl := e2.length
    have hv : i < vs.length := by omega
    refine ⟨⟨vs, vs[i], SqL.of e1, by simp [hv]⟩, fun v H' y Q q => ?_⟩
    obtain ⟨t, x, rfl, ht, rfl, y⟩ := y
    have hx := y vs (SqL.of e1)
    obtain ⟨d, hd, h⟩ := e2.get' hx
    have ed : ds.getD i .non = d := by simp [List.getD, hd]
    refine take_pair (g.new ht) (SqT.of upd_same) (.int _) (h.to (rg_ext (Ext.upd ht))) (hj j1 (by simp)) (hj j2 (by simp)) fun σ2 g2 hw => q σ2 _ ?_ (Ext.upd ht) hw
    show GOk T K Z _ σ2 ((Γ.set j1 (some (.sh (.int (i : Nat))))).set j2 (some (.sh (ds.getD i .non))))
    rw [ed]
    exact g2
variable {elts : List Expr} {kk : Nat} {tpos p pos : Pos}
theorem src_enum {a : Expr} (hm : X.mg "enumerate" = none) (h : ED T X true Γ a (.lst ds)) (hg : Gl X "enumerate" := by rfl) (hs : starEach [a] X.env = [(false, eval a X.env)] := by rfl) :
    PI X (.Tuple elts kk tpos) (.Call (.Name "enumerate" p) [a] [] pos) (tSrc T X.K Γ (g2 X.K j1 j2) ds.length [j1, j2] (upN2 j1 j2 (fun i => .int (i : Nat)) fun i => ds.getD i .non) fun _ => True) :=
  PI.imp' (pi_enum hg hm (a_one h hs) hs) fun σ H R ⟨Z, g, q⟩ => ⟨Z, g, fun vs H1 g1 x1 d1 => by
    cases d1 with
    | cons h1 h2 =>
      cases h2
      cases h1 with
      | lst e1 e2 =>
        exact ⟨_, _, rfl, SqL.of (g1.sub _ _ e1), q _ (GoodL X.K _ ds) H1 g1 x1 stp_enum fun Z2 H2 σ2 Γ2 g2 sm _ _ => ⟨_, g2.sub _ _ (g2.base _ _ (sm _ _ e1)), (e2.to sm).to g2.base⟩⟩⟩
/-- zip of two lists of one length -/
theorem stp_zip {K : PySem.W.Frag} {a b : Addr} (hl : ds.length = es.length) : Stp T K (Itz K a b) (g2 K j1 j2) ds.length [j1, j2] (upN2 j1 j2 (fun i => ds.getD i .non) fun i => es.getD i .non) (fun Z H Γ => GoodL K a ds Z H Γ ∧ GoodL K b es Z H Γ) where
  stop := fun Z H σ Γ g ⟨⟨vs, e1, e2⟩, ⟨ws, f1, f2⟩⟩ => ⟨vs, ws, SqL.of e1, SqL.of f1, .inl (by rw [e2.length]; exact Nat.le_refl _)⟩
  turn := fun Z i H σ Γ hi g ⟨⟨vs, e1, e2⟩, ⟨ws, f1, f2⟩⟩ hj => by
    have l1 := e2.length
    have l2 := f2.length
    have hv : i < vs.length := by omega
    have hw : i < ws.length := by omega
    refine ⟨⟨vs, ws, vs[i], ws[i], SqL.of e1, SqL.of f1, by simp [hv], by simp [hw]⟩, fun v H' y Q q => ?_⟩
    obtain ⟨t, x, u, rfl, ht, rfl, y1, y2⟩ := y
    obtain ⟨d, hd, h⟩ := e2.get' (y1 vs (SqL.of e1))
    obtain ⟨d', hd', h'⟩ := f2.get' (y2 ws (SqL.of f1))
    have ed : ds.getD i .non = d := by simp [List.getD, hd]
    have ed' : es.getD i .non = d' := by simp [List.getD, hd']
    refine take_pair (g.new ht) (SqT.of upd_same) (h.to (rg_ext (Ext.upd ht))) (h'.to (rg_ext (Ext.upd ht))) (hj j1 (by simp)) (hj j2 (by simp)) fun σ2 g2 hw => q σ2 _ ?_ (Ext.upd ht) hw
    show GOk T K Z _ σ2 ((Γ.set j1 (some (.sh (ds.getD i .non)))).set j2 (some (.sh (es.getD i .non))))
    rw [ed, ed']
    exact g2
theorem src_zip {a b : Expr} (hm : X.mg "zip" = none) (hl : ds.length = es.length) (ha : ED T X true Γ a (.lst ds)) (hb : ED T X true Γ b (.lst es)) (hg : Gl X "zip" := by rfl) (hs2 : starEach [b] X.env = (false, eval b X.env) :: starEach [] X.env := by rfl)
    (hs : starEach [a, b] X.env = (false, eval a X.env) :: starEach [b] X.env := by rfl) (hpl : (backTo pos (starEach [b] X.env)).any (·.1) = false := by rfl) :
    PI X (.Tuple elts kk tpos) (.Call (.Name "zip" p) [a, b] [] pos) (tSrc T X.K Γ (g2 X.K j1 j2) ds.length [j1, j2] (upN2 j1 j2 (fun i => ds.getD i .non) fun i => es.getD i .non) fun _ => True) :=
  PI.imp' (pi_zip hg hm (a_two ha hb hs2 hs) hs hpl) fun σ H R ⟨Z, g, q⟩ => ⟨Z, g, fun vs H1 g1 x1 d1 => by
    cases d1 with
    | cons h1 h2 =>
      cases h2 with
      | cons h2 h3 =>
        cases h3
        cases h1 with
        | lst e1 e2 =>
          cases h2 with
          | lst f1 f2 =>
            exact ⟨_, _, _, _, rfl, SqL.of (g1.sub _ _ e1), SqL.of (g1.sub _ _ f1), q _ (fun Z H Γ => GoodL X.K _ ds Z H Γ ∧ GoodL X.K _ es Z H Γ) H1 g1 x1 (stp_zip hl) fun Z2 H2 σ2 Γ2 g2 sm _ _ =>
              ⟨⟨_, g2.sub _ _ (g2.base _ _ (sm _ _ e1)), (e2.to sm).to g2.base⟩, ⟨_, g2.sub _ _ (g2.base _ _ (sm _ _ f1)), (f2.to sm).to g2.base⟩⟩⟩⟩
end

/-! ### list comprehensions -/
def minus (H : Hp) (p : Addr) : Hp := fun a => if a = p then none else H a
theorem minus_same {H : Hp} {p : Addr} : minus H p p = none := by unfold minus; rw [if_pos rfl]
theorem minus_ne {H : Hp} {p a : Addr} (h : a ≠ p) : minus H p a = H a := by unfold minus; rw [if_neg h]
theorem upd_minus {H : Hp} {p : Addr} {o : HO} (h : H p = some o) : upd (minus H p) p o = H := by
  funext a
  by_cases e : a = p
  · subst e; rw [upd_same, h]
  · rw [upd_ne e, minus_ne e]
theorem ext_minus {H H' : Hp} {p : Addr} (e : Ext H H') (h : H p = none) : Ext H (minus H' p) :=
  ⟨fun b o q n => by rw [minus_ne (ne_of_none q h)]; exact e.1 b o q n, fun b ps q => by rw [minus_ne (ne_of_none q h)]; exact e.2 b ps q⟩
theorem tabs_minus {T : Tb} {H : Hp} {p : Addr} {xs : List V} (t : LamX.Tabs T H) (h : H p = some (.lst xs)) : LamX.Tabs T (minus H p) := fun q hq => by
  obtain ⟨ps, h1, h2, h3⟩ := t q hq
  refine ⟨ps, by rw [minus_ne (fun z => by rw [z, h] at h1; cases h1)]; exact h1, h2, fun pos cv hc => ?_⟩
  obtain ⟨c, e1, e2⟩ := h3 pos cv hc
  exact ⟨c, e1, by rw [minus_ne (fun z => by rw [z, h] at e2; unfold LamX.CodeO at e2; cases e2)]; exact e2⟩
def wipeE : Ev → List Nat → Ev
  | Γ, [] => Γ
  | Γ, v :: vs => (wipeE Γ vs).set v none
theorem wipeE_len : ∀ (Γ : Ev) (vs : List Nat), (wipeE Γ vs).length = Γ.length
  | _, [] => rfl
  | Γ, v :: vs => by unfold wipeE; rw [List.length_set, wipeE_len Γ vs]
theorem GOk.setNone {T : Tb} {K : PySem.W.Frag} {Z : Zn} {H : Hp} {σ : St} {Γ : Ev} (g : GOk T K Z H σ Γ) (i : Nat) (v : Option V) : GOk T K Z H (σ.set i v) (Γ.set i none) := by
  have sub := owns_drop Γ i none (fun p d z => by cases z)
  have sm : Same (rg true Z H Γ) (rg true Z H (Γ.set i none)) := rg_less fun p hp => sub.subset hp
  refine ⟨g.g0, g.gt, g.ext, g.tab, g.nd.sublist (List.Sublist.append (List.Sublist.refl _) sub), fun p hp => g.old p ((List.Sublist.append (List.Sublist.refl Z.ex) sub).subset hp), g.exl,
    by rw [List.length_set, List.length_set]; exact g.len, fun j s e => ?_, g.base.trans sm⟩
  by_cases hj : i = j
  · subst hj
    by_cases hi : i < Γ.length
    · rw [List.getElem?_set_self hi] at e
      cases e
    · rw [List.getElem?_eq_none (by rw [List.length_set]; omega)] at e
      cases e
  · rw [List.getElem?_set_ne hj] at e
    obtain ⟨u, q1, q2⟩ := g.slots j s e
    exact ⟨u, by rw [List.getElem?_set_ne hj]; exact q1, q2.mono sm (Ext.refl H)⟩
theorem GOk.wiped {T : Tb} {K : PySem.W.Frag} {Z : Zn} {H : Hp} {σ : St} {Γ : Ev} (g : GOk T K Z H σ Γ) : ∀ vs : List Nat, GOk T K Z H (wipe σ vs) (wipeE Γ vs)
  | [] => g
  | v :: vs => by
    unfold L2.wipe wipeE
    exact (g.wiped vs).setNone v none
/-- the list under construction at D is set apart -/
theorem GOk.apart {T : Tb} {K : PySem.W.Frag} {Z : Zn} {H : Hp} {σ : St} {Γ Γw : Ev} {vs : List Nat} {D : Addr} (g : GOk T K Z H σ Γ) (hD : H D = none) (hw : Γw = wipeE Γ vs) (ho : owns Γw = owns Γ) :
    GOk T K { Z with ex := D :: Z.ex, B := rg true Z H Γ } (upd H D (.lst [])) (wipe σ vs) Γw := by
  have g1 : GOk T K Z H (wipe σ vs) Γw := by rw [hw]; exact g.wiped vs
  have nD : D ∉ Z.ex ++ owns Γw := fun z => g1.ownSome z hD
  have er : ∀ a, a ≠ D → rg true { Z with ex := D :: Z.ex, B := rg true Z H Γ } (upd H D (.lst [])) Γw a = rg true Z H Γw a := fun a ha => by
    unfold rg
    have e1 : (a ∈ D :: Z.ex ++ owns Γw) ↔ a ∈ Z.ex ++ owns Γw := by simp [ha]
    by_cases hm : a ∈ Z.ex ++ owns Γw
    · rw [if_pos ⟨rfl, e1.mpr hm⟩, if_pos ⟨rfl, hm⟩]
    · rw [if_neg (fun z => hm (e1.mp z.2)), if_neg (fun z => hm z.2)]
      unfold gr
      cases q : Z.H0 a with
      | none => dsimp only; rw [upd_ne ha]
      | some u => cases u <;> rfl
  have sm : Same (rg true Z H Γw) (rg true { Z with ex := D :: Z.ex, B := rg true Z H Γ } (upd H D (.lst [])) Γw) := fun a o e => by
    rw [er a (fun z => by
      have e' := rg_gr _ _ e
      rw [z, rg_none g hD] at e'
      cases e')]
    exact e
  refine ⟨g.g0, g.gt, g.ext.trans (Ext.upd hD), g.tab.ext (same_upd hD), ?_, ?_, ?_, g1.len, fun i s e => ?_, ?_⟩
  · show (D :: (Z.ex ++ owns Γw)).Nodup
    exact List.nodup_cons.mpr ⟨nD, g1.nd⟩
  · intro p hp
    rcases List.mem_cons.mp (show p ∈ D :: (Z.ex ++ owns Γw) from hp) with z | z
    · rw [z]; exact g.ext.free hD
    · exact g1.old p z
  · intro p hp
    rcases List.mem_cons.mp hp with z | z
    · exact ⟨[], by rw [z, upd_same]⟩
    · obtain ⟨xs, q⟩ := g.exl p z
      exact ⟨xs, by rw [upd_ne (ne_of_none q hD)]; exact q⟩
  · obtain ⟨v, q1, q2⟩ := g1.slots i s e
    exact ⟨v, q1, q2.mono sm (Ext.upd hD)⟩
  · have s1 : Same (rg true Z H Γ) (rg true Z H Γw) := rg_less fun p hp => by rw [ho] at hp; exact hp
    exact s1.trans sm
theorem GOk.grow {T : Tb} {K : PySem.W.Frag} {Z : Zn} {H : Hp} {σ : St} {Γ : Ev} {D : Addr} {xs ys : List V} (g : GOk T K Z H σ Γ) (hm : D ∈ Z.ex) (h : H D = some (.lst xs)) : GOk T K Z (upd H D (.lst ys)) σ Γ := by
  have hm' : D ∈ Z.ex ++ owns Γ := List.mem_append_left _ hm
  obtain ⟨nd1, nd2, nd3⟩ := List.nodup_append.mp g.nd
  have er := rg_upd_own (H := H) (o := .lst ys) hm'
  refine ⟨g.g0, g.gt, ext_upd_new g.ext (g.old D hm'), tabs_upd g.tab (.inl ⟨xs, h⟩), g.nd, g.old, fun p hp => ?_, g.len, fun i s e => ?_, by rw [er]; exact g.base⟩
  · by_cases z : p = D
    · exact ⟨ys, by rw [z, upd_same]⟩
    · obtain ⟨zs, q⟩ := g.exl p hp
      exact ⟨zs, by rw [upd_ne z]; exact q⟩
  · obtain ⟨v, q1, q2⟩ := g.slots i s e
    refine ⟨v, q1, ?_⟩
    rw [er]
    cases s with
    | sh d => exact q2
    | ow r d2 =>
      obtain ⟨a1, a2⟩ := q2
      have hrp : r ≠ D := fun z => nd3 D hm r (mem_owns.mpr ⟨i, _, e⟩) z.symm
      refine ⟨a1, ?_⟩
      cases d2 with
      | lst ds => obtain ⟨vs, e1, e2⟩ := a2; exact ⟨vs, by rw [upd_ne hrp]; exact e1, e2⟩
      | dic ks ds => obtain ⟨vs, e1, e3, e2⟩ := a2; exact ⟨vs, by rw [upd_ne hrp]; exact e1, e3, e2⟩
      | dit ks ds => obtain ⟨vs, e1, e3, e2⟩ := a2; exact ⟨vs, by rw [upd_ne hrp]; exact e1, e3, e2⟩
      | _ => exact False.elim a2
/-- what a comprehension keeps of the first i items -/
def compD (keep : Nat → Bool) (val : Nat → D) (i : Nat) : List D := ((List.range i).filter keep).map val
theorem compD_succ (keep : Nat → Bool) (val : Nat → D) (i : Nat) : compD keep val (i + 1) = if keep i = true then compD keep val i ++ [val i] else compD keep val i := by
  unfold compD
  rw [List.range_succ, List.filter_append, List.map_append]
  by_cases h : keep i = true
  · simp [h]
  · simp [h]
theorem compD_le (keep : Nat → Bool) (val : Nat → D) (i : Nat) : (compD keep val i).length ≤ i := by
  unfold compD
  rw [List.length_map]
  exact Nat.le_trans (List.length_filter_le _ _) (by simp)
section
variable {T : Tb} {X : Cx} {Γ : Ev} {elt tg iter : Expr} {ifs : List Expr} {scope : Scope} {own : List (Str × Nat)} {pos : Pos} {g : TG} {n : Nat} {js : List Nat} {up : Nat → Ev → Ev} {Keep : Ev → Prop} {keep : Nat → Bool} {val : Nat → D}
/-- a comprehension's tests and elements as readings -/
def ttC (T : Tb) (K : PySem.W.Frag) (n : Nat) (up : Nat → Ev → Ev) (Γw : Ev) (keep : Nat → Bool) : TT := fun σ H Q => ∃ i, i < n ∧ tB T K (up i Γw) (keep i) σ H Q
def teC (T : Tb) (K : PySem.W.Frag) (n : Nat) (up : Nat → Ev → Ev) (Γw : Ev) (keep : Nat → Bool) (val : Nat → D) : TE := fun σ H Q => ∃ i, i < n ∧ keep i = true ∧ tE T K true (up i Γw) (val i) σ H Q
theorem lc_reading (hn : n ≤ 16777216) (hjs : ∀ j ∈ js, j < Γ.length) (hjo : ∀ j ∈ js, j ∈ own.map (·.2)) (hko : Keep (wipeE Γ (own.map (·.2)))) (ho : owns (wipeE Γ (own.map (·.2))) = owns Γ)
    (hup : ∀ i, owns (up i (wipeE Γ (own.map (·.2)))) = owns (wipeE Γ (own.map (·.2)))) (σ : St) (H : Hp) (Q : VK) (h : tL T X.K Γ (compD keep val n) σ H Q) :
    tLc (tSrc T X.K Γ g n js up Keep) g (ttC T X.K n up (wipeE Γ (own.map (·.2))) keep) (teC T X.K n up (wipeE Γ (own.map (·.2))) keep val) (own.map (·.2)) σ H Q := by
  obtain ⟨Z, gz, q⟩ := h
  generalize hvs : own.map (·.2) = vs at *
  refine ⟨Z, gz, fun J Good H1 g1 x1 st good D hD => ?_⟩
  have gA := g1.apart (vs := vs) hD rfl ho
  generalize hZ' : ({ Z with ex := D :: Z.ex, B := rg true Z H1 Γ } : Zn) = Z' at gA
  have exZ : D ∈ Z'.ex := by rw [← hZ']; exact List.mem_cons_self ..
  have bZ : Z'.B = rg true Z H1 Γ := by rw [← hZ']
  have goodAt : ∀ H, GOk T X.K Z' H (wipe σ vs) (wipeE Γ vs) → Good Z' H (wipeE Γ vs) := fun H gH => good _ _ _ _ gH (by rw [bZ]; exact Same.refl _) hko (.inr trivial)
  have hjw : ∀ j ∈ js, j < (wipeE Γ vs).length := fun j hj => by rw [wipeE_len]; exact hjs j hj
  refine ⟨fun i m H => m = n - i ∧ i ≤ n ∧ GOk T X.K Z' H (wipe σ vs) (wipeE Γ vs) ∧ Ext H1 H ∧ ∃ acc, H D = some (.lst acc) ∧ DaAll X.K (rg true Z' H (wipeE Γ vs)) acc (compD keep val i), ⟨n, by simp, Nat.zero_le _, gA, Ext.upd hD, [], upd_same, .nil⟩, ?_⟩
  rintro i m H2 ⟨rfl, hi, g2, x2, acc, hacc, hda⟩
  by_cases hlt : i < n
  · obtain ⟨go, turn⟩ := st.turn Z' i H2 (wipe σ vs) (wipeE Γ vs) hlt g2 (goodAt H2 g2) hjw
    refine .inr ⟨go, fun H => GOk T X.K Z' H (wipe σ vs) (wipeE Γ vs) ∧ Ext H1 H ∧ ∃ acc, H D = some (.lst acc) ∧ DaAll X.K (rg true Z' H (wipeE Γ vs)) acc (compD keep val (i + 1)),
      fun H' p' => ⟨n - (i + 1), by omega, rfl, hlt, p'⟩, fun v H' y => turn v H' y _ fun σ2 H3 g3 x3 hw => ?_⟩
    have hw' : wipe σ2 vs = wipe σ vs := by
      rw [hw vs fun j hj => hjo j hj]
      have key : ∀ (us : List Nat) (σ : St), (∀ u ∈ us, u ∈ vs) → wipe (wipe σ us) vs = wipe σ vs := by
        intro us
        induction us with
        | nil => intro σ _; rfl
        | cons u us ih =>
          intro σ hu
          show wipe ((wipe σ us).set u none) vs = _
          rw [wipe_set1 (hu u (List.mem_cons_self ..))]
          exact ih σ fun z hz => hu z (List.mem_cons_of_mem _ hz)
      exact key vs σ fun u hu => hu
    have up_ok : owns (up i (wipeE Γ vs)) = owns (wipeE Γ vs) := hup i
    have rgE : ∀ H, rg true Z' H (up i (wipeE Γ vs)) = rg true Z' H (wipeE Γ vs) := fun H => by
      funext a
      unfold rg
      rw [up_ok]
    have back : ∀ H, Ext H2 H → LamX.Tabs T H → GOk T X.K Z' H (wipe σ vs) (wipeE Γ vs) := fun H e t => g2.to e t
    refine ⟨hw', i, hlt, Z', g3, fun H4 g4 x4 => ?_⟩
    have x24 := x3.trans x4
    by_cases hk : keep i = true
    · dsimp only
      rw [if_pos hk]
      refine ⟨i, hlt, hk, Z', g4, fun y H5 g5 x5 d5 => ?_⟩
      have x25 := x24.trans x5
      have hD5 : H5 D = some (.lst acc) := x25.1 D _ hacc (fun ps z => by cases z)
      have g6 := back H5 x25 g5.tab
      have hda5 : DaAll X.K (rg true Z' H5 (wipeE Γ vs)) acc (compD keep val i) := hda.to (rg_ext x25)
      rw [rgE] at d5
      refine ⟨acc, hD5, ?_, g6.grow exZ hD5, ?_, _, upd_same, ?_⟩
      · have l1 := hda.length
        have l2 := compD_le keep val i
        rw [sizeLine_eq]
        omega
      · exact ext_upd_new (x2.trans x25) hD
      · rw [rg_upd_own (List.mem_append_left _ exZ), compD_succ, if_pos hk]
        exact hda5.append (.one d5)
    · dsimp only
      rw [if_neg hk]
      refine ⟨back H4 x24 g4.tab, x2.trans x24, acc, x24.1 D _ hacc (fun ps z => by cases z), ?_⟩
      rw [compD_succ, if_neg hk]
      exact hda.to (rg_ext x24)
  · have e : i = n := by omega
    subst e
    refine .inl ⟨st.stop Z' H2 (wipe σ vs) (wipeE Γ vs) g2 (goodAt H2 g2), ?_⟩
    have gm : GOk T X.K Z (minus H2 D) σ Γ := g1.to (ext_minus x2 hD) (tabs_minus g2.tab hacc)
    have hm := q D acc (minus H2 D) gm (x1.trans (ext_minus x2 hD)) minus_same (hda.to fun a o e => by
      unfold rg at e ⊢
      split at e
      · cases e
      · rename_i hn'
        have ha : a ≠ D := fun z => hn' ⟨rfl, by rw [z]; exact List.mem_append_left _ exZ⟩
        rw [if_neg]
        · have e0 : Z'.G0 = Z.G0 := by rw [← hZ']
          have e00 : Z'.H0 = Z.H0 := by rw [← hZ']
          rw [e0, e00] at e
          unfold gr at e ⊢
          cases r : Z.H0 a with
          | none => rw [r] at e; dsimp only at e ⊢; rw [minus_ne ha]; exact e
          | some u => rw [r] at e; cases u <;> exact e
        · rintro ⟨_, z⟩
          refine hn' ⟨rfl, ?_⟩
          have ez : Z'.ex = D :: Z.ex := by rw [← hZ']
          rw [ez, ho]
          exact List.mem_cons_of_mem _ z)
    rw [upd_minus hacc] at hm
    exact hm
/-- [elt for tg in iter if ..]: every turn i by its item -/
theorem l_comp (hc : X.calm = true) (nd : X.N.Nodup) (hi : PI X tg iter (tSrc T X.K Γ g n js up Keep)) (ok : BlkOk X.N X.env.scope scope own)
    (hg : ∀ (s : Shared) (H : Hp) (C : Addr) (cl : List (Str × Addr)) (fp : List Addr), PG (X.blk s H scope (compEnvC scope cl C X.env) fp) tg g)
    (ht : ∀ (s : Shared) (H : Hp) (C : Addr) (cl : List (Str × Addr)) (fp : List Addr) (i : Nat), i < n → PTs (X.blk s H scope (compEnvC scope cl C X.env) fp) ifs (tB T X.K (up i (wipeE Γ (own.map (·.2)))) (keep i)))
    (he : ∀ (s : Shared) (H : Hp) (C : Addr) (cl : List (Str × Addr)) (fp : List Addr) (i : Nat), i < n → keep i = true → ED T (X.blk s H scope (compEnvC scope cl C X.env) fp) true (up i (wipeE Γ (own.map (·.2)))) elt (val i))
    (hn : n ≤ 16777216) (hjs : ∀ j ∈ js, j < Γ.length) (hjo : ∀ j ∈ js, j ∈ own.map (·.2)) (hko : Keep (wipeE Γ (own.map (·.2)))) (ho : owns (wipeE Γ (own.map (·.2))) = owns Γ)
    (hup : ∀ i, owns (up i (wipeE Γ (own.map (·.2)))) = owns (wipeE Γ (own.map (·.2)))) (hs : ∀ x, foldedSetIterable iter X.env x = pure x := by intro _; rfl) :
    LD T X Γ (.ListComp elt [⟨tg, iter, ifs, 0⟩] scope pos) (compD keep val n) :=
  PE.imp' (pe_lc (tt := ttC T X.K n up (wipeE Γ (own.map (·.2))) keep) (te := teC T X.K n up (wipeE Γ (own.map (·.2))) keep val) hc nd hi ok hg
    (fun s H C cl fp => ⟨fun pins s' σ H' Q I ⟨i, hi, h⟩ => (ht s H C cl fp i hi).run pins s' σ H' Q I h⟩)
    (fun s H C cl fp => ⟨fun pins s' σ H' Q I ⟨i, hi, hk, h⟩ => (he s H C cl fp i hi hk).run pins s' σ H' Q I h⟩) hs)
    fun σ H Q h => lc_reading hn hjs hjo hko ho hup σ H Q h
end
end DD

/-! Statements over data, defs by their bodies. -/
namespace DD
open PySem PySem.Spec L2

structure Pst where
  nx : Ev → Prop := fun _ => False
  rt : D → Prop := fun _ => False
  rl : List D → Prop := fun _ => False
structure FinP (T : Tb) (K : PySem.W.Frag) (Z : Zn) (P : Pst) (E : Ends) : Prop where
  nx : ∀ Γ' σ' H', P.nx Γ' → GOk T K Z H' σ' Γ' → E.nx σ' H'
  rt : ∀ d v H', P.rt d → Ext Z.H0 H' → LamX.Tabs T H' → Da K (gr Z.G0 Z.H0 H') v d → E.rt v H'
  rl : ∀ es p ws H', P.rl es → Ext Z.H0 H' → LamX.Tabs T H' → H' p = none → DaAll K (gr Z.G0 Z.H0 H') ws es → E.rt (.ref p) (upd H' p (.lst ws))
def tSt (T : Tb) (K : PySem.W.Frag) (Γ : Ev) (P : Pst) : TS := fun E σ H => ∃ Z, GOk T K Z H σ Γ ∧ FinP T K Z P E
abbrev SD (T : Tb) (X : Cx) (Γ : Ev) (sts : List Stmt) (P : Pst) : Prop := PSs X sts (tSt T X.K Γ P)
/-- one statement, what follows as u wants it -/
theorem s_seq {X : Cx} {st : Stmt} {rest : List Stmt} {t u t' : TS} (h1 : PS X st t) (h2 : PSs X rest u) (w : ∀ E σ H, t' E σ H → t { E with nx := u E } σ H) : PSs X (st :: rest) t' := PSs.imp' (pss_cons h1 h2) w

section
variable {T : Tb} {X : Cx} {Γ : Ev} {m : Bool} {e a b c : Expr} {d da db dc d1 d2 d3 : D} {pos px : Pos} {i j : Nat} {x : Str} {ds es : List D} {rest body th el : List Stmt} {P : Pst} {k : Bool}
theorem s_nil (h : P.nx Γ) : SD T X Γ [] P := PSs.imp' pss_nil fun E σ H ⟨Z, g, f⟩ => f.nx Γ σ H h g
/-- forgetting ahead of a block -/
theorem s_wk {Γ' : Ev} {sts : List Stmt} (w : Wk Γ Γ') (h : SD T X Γ' sts P) : SD T X Γ sts P := PSs.imp' h fun E σ H ⟨Z, g, f⟩ => ⟨Z, g.wk w, f⟩
theorem s_eq {Γ' : Ev} {sts : List Stmt} (w : Γ = Γ') (h : SD T X Γ' sts P) : SD T X Γ sts P := by subst w; exact h
/-- an owned thing is given to all -/
theorem GOk.rel {K : PySem.W.Frag} {Z : Zn} {H : Hp} {σ : St} {p : Addr} (g : GOk T K Z H σ Γ) (hi : Γ[i]? = some (some (.ow p d))) : GOk T K Z H σ (Γ.set i (some (.sh d))) := by
  obtain ⟨v, e, rfl, h⟩ := g.slots i _ hi
  have hl : i < Γ.length := (List.getElem?_eq_some_iff.mp hi).1
  have sub := owns_drop Γ i (some (.sh d)) (fun p d z => by cases z)
  have sm : Same (rg true Z H Γ) (rg true Z H (Γ.set i (some (.sh d)))) := rg_less fun q hq => sub.subset hq
  obtain ⟨nd1, nd2, nd3⟩ := List.nodup_append.mp g.nd
  have hm : p ∈ owns Γ := mem_owns.mpr ⟨i, d, hi⟩
  have np : p ∉ owns (Γ.set i (some (.sh d))) := fun z => by
    obtain ⟨j, d', e'⟩ := mem_owns.mp z
    by_cases hj : i = j
    · subst hj
      rw [List.getElem?_set_self hl] at e'
      cases e'
    · rw [List.getElem?_set_ne hj] at e'
      exact hj (owns_ix nd2 hi e')
  have at_p : ∀ {o : HO}, H p = some o → (∀ ps, o ≠ .tbl ps) → rg true Z H (Γ.set i (some (.sh d))) p = some o := fun {o} e nt => by
    unfold rg
    rw [if_neg (fun z => by
      rcases List.mem_append.mp z.2 with z | z
      · exact nd3 p z p hm rfl
      · exact np z)]
    unfold gr
    rw [g.old p (List.mem_append_right _ hm)]
    dsimp only
    rw [e]
    cases o <;> first | rfl | exact absurd rfl (nt _)
  refine ⟨g.g0, g.gt, g.ext, g.tab, g.nd.sublist (List.Sublist.append (List.Sublist.refl _) sub), fun p hp => g.old p ((List.Sublist.append (List.Sublist.refl Z.ex) sub).subset hp), g.exl,
    by rw [List.length_set]; exact g.len, fun j s e' => ?_, g.base.trans sm⟩
  by_cases hj : i = j
  · subst hj
    rw [List.getElem?_set_self hl] at e'
    cases e'
    refine ⟨_, e, ?_⟩
    cases d with
    | lst ds => obtain ⟨vs, e1, e2⟩ := h; exact .lst (at_p e1 (fun _ z => by cases z)) (e2.to sm)
    | dic ks ds => obtain ⟨vs, e1, e3, e2⟩ := h; exact .dic (at_p e1 (fun _ z => by cases z)) e3 (e2.to sm)
    | dit ks ds => obtain ⟨vs, e1, e3, e2⟩ := h; exact .dit (at_p e1 (fun _ z => by cases z)) e3 (e2.to sm)
    | _ => exact False.elim h
  · rw [List.getElem?_set_ne hj] at e'
    obtain ⟨u, q1, q2⟩ := g.slots j s e'
    exact ⟨u, q1, q2.mono sm (Ext.refl H)⟩
theorem s_rel {sts : List Stmt} {p : Addr} (hi : Γ[i]? = some (some (.ow p d))) (h : SD T X (Γ.set i (some (.sh d))) sts P) : SD T X Γ sts P := PSs.imp' h fun E σ H ⟨Z, g, f⟩ => ⟨Z, g.rel hi, f⟩

/-! ### stores -/
/-- name = e -/
theorem s_set (i : Nat) (nd : X.N.Nodup) (he : ED T X true Γ e d) (hr : SD T X (Γ.set i (some (.sh d))) rest P) (hl : i < Γ.length := by exact Nat.le_of_ble_eq_true rfl) (hi : X.N[i]? = some x := by rfl) (hx : Loc X.env.scope x := by first | exact .inl rfl | exact .inr rfl)
    (hs : swapsWith e (some (.Name x px)) pos.line X.env = pure false := by rfl) (hf : X.fn x = true ∨ X.env.scope.names.lookup x = some .local := by first | exact .inl rfl | exact .inr rfl) : SD T X Γ (.Assign [.Name x px] e pos :: rest) P :=
  s_seq (ps_set nd hi hx he hs hf) hr fun E σ H ⟨Z, g, f⟩ => ⟨Z, g, fun v H1 g1 x1 d1 => ⟨Z, g1.set hl d1, f⟩⟩
/-- name = a new list that this name alone tells -/
theorem s_new (i : Nat) (nd : X.N.Nodup) (he : LD T X Γ e ds) (hr : ∀ p, SD T X (Γ.set i (some (.ow p (.lst ds)))) rest P) (hl : i < Γ.length := by exact Nat.le_of_ble_eq_true rfl) (hi : X.N[i]? = some x := by rfl) (hx : Loc X.env.scope x := by first | exact .inl rfl | exact .inr rfl)
    (hs : swapsWith e (some (.Name x px)) pos.line X.env = pure false := by rfl) (hf : X.fn x = true ∨ X.env.scope.names.lookup x = some .local := by first | exact .inl rfl | exact .inr rfl) : SD T X Γ (.Assign [.Name x px] e pos :: rest) P :=
  s_seq (u := fun E σ H => ∃ p, tSt T X.K (Γ.set i (some (.ow p (.lst ds)))) P E σ H) (ps_set nd hi hx he hs hf) ⟨fun pins s σ H E I ⟨p, h⟩ => (hr p).run pins s σ H E I h⟩
    fun E σ H ⟨Z, g, f⟩ => ⟨Z, g, fun p vs H1 g1 x1 hp d1 => ⟨p, Z, g1.newOw hl hp ⟨vs, upd_same, d1⟩, f⟩⟩
/-- name = {} -/
theorem s_dict (i : Nat) (nd : X.N.Nodup) {kp : Pos} (hr : ∀ p, SD T X (Γ.set i (some (.ow p (.dic [] [])))) rest P) (hl : i < Γ.length := by exact Nat.le_of_ble_eq_true rfl) (hi : X.N[i]? = some x := by rfl) (hx : Loc X.env.scope x := by first | exact .inl rfl | exact .inr rfl)
    (hs : swapsWith (.Dict [] [] kp) (some (.Name x px)) pos.line X.env = pure false := by rfl) (hf : X.fn x = true ∨ X.env.scope.names.lookup x = some .local := by first | exact .inl rfl | exact .inr rfl) : SD T X Γ (.Assign [.Name x px] (.Dict [] [] kp) pos :: rest) P :=
  s_seq (u := fun E σ H => ∃ p, tSt T X.K (Γ.set i (some (.ow p (.dic [] [])))) P E σ H) (ps_set nd hi hx pe_dnewK hs hf) ⟨fun pins s σ H E I ⟨p, h⟩ => (hr p).run pins s σ H E I h⟩
    fun E σ H ⟨Z, g, f⟩ p hp => ⟨p, Z, g.newOw hl hp ⟨[], upd_same, rfl, .nil⟩, f⟩
theorem s_dictT (i : Nat) (nd : X.N.Nodup) {kp : Pos} (hr : ∀ p, SD T X (Γ.set i (some (.ow p (.dit [] [])))) rest P) (hl : i < Γ.length := by exact Nat.le_of_ble_eq_true rfl) (hi : X.N[i]? = some x := by rfl) (hx : Loc X.env.scope x := by first | exact .inl rfl | exact .inr rfl)
    (hs : swapsWith (.Dict [] [] kp) (some (.Name x px)) pos.line X.env = pure false := by rfl) (hf : X.fn x = true ∨ X.env.scope.names.lookup x = some .local := by first | exact .inl rfl | exact .inr rfl) : SD T X Γ (.Assign [.Name x px] (.Dict [] [] kp) pos :: rest) P :=
  s_seq (u := fun E σ H => ∃ p, tSt T X.K (Γ.set i (some (.ow p (.dit [] [])))) P E σ H) (ps_set nd hi hx pe_dnewT hs hf) ⟨fun pins s σ H E I ⟨p, h⟩ => (hr p).run pins s σ H E I h⟩
    fun E σ H ⟨Z, g, f⟩ p hp => ⟨p, Z, g.newOw hl hp ⟨[], upd_same, rfl, .nil⟩, f⟩
/-- name = [..] on one line: the comprehension stores it -/
theorem s_setLc (i : Nat) {elt tg iter : Expr} {ifs : List Expr} {scope : Scope} {own : List (Str × Nat)} {cpos : Pos} {g : TG} {n : Nat} {js : List Nat} {up : Nat → Ev → Ev} {Keep : Ev → Prop} {keep : Nat → Bool} {val : Nat → D} (nd : X.N.Nodup)
    (hi : PI X tg iter (tSrc T X.K Γ g n js up Keep)) (ok : BlkOk X.N X.env.scope scope own)
    (hg : ∀ (s : Shared) (H : Hp) (C : Addr) (cl : List (Str × Addr)) (fp : List Addr), PG (X.blk s H scope (compEnvC scope cl C X.env) fp) tg g)
    (ht : ∀ (s : Shared) (H : Hp) (C : Addr) (cl : List (Str × Addr)) (fp : List Addr) (i : Nat), i < n → PTs (X.blk s H scope (compEnvC scope cl C X.env) fp) ifs (tB T X.K (up i (wipeE Γ (own.map (·.2)))) (keep i)))
    (he : ∀ (s : Shared) (H : Hp) (C : Addr) (cl : List (Str × Addr)) (fp : List Addr) (i : Nat), i < n → keep i = true → ED T (X.blk s H scope (compEnvC scope cl C X.env) fp) true (up i (wipeE Γ (own.map (·.2)))) elt (val i))
    (hr : ∀ p, SD T X (Γ.set i (some (.ow p (.lst (compD keep val n))))) rest P)
    (hn : n ≤ 16777216) (hjs : ∀ j ∈ js, j < Γ.length) (hjo : ∀ j ∈ js, j ∈ own.map (·.2)) (hko : Keep (wipeE Γ (own.map (·.2)))) (ho : owns (wipeE Γ (own.map (·.2))) = owns Γ)
    (hup : ∀ i, owns (up i (wipeE Γ (own.map (·.2)))) = owns (wipeE Γ (own.map (·.2)))) (hl : i < Γ.length := by exact Nat.le_of_ble_eq_true rfl) (hy : X.N[i]? = some x := by rfl) (hyl : X.env.scope.names.lookup x = some .local := by rfl)
    (hsw : swapsWith (.ListComp elt [⟨tg, iter, ifs, 0⟩] scope cpos) (some (.Name x px)) pos.line X.env = pure true := by exact sw_true rfl rfl rfl (by decide +kernel)) (hc : X.calm = true := by rfl) (hs : ∀ x, foldedSetIterable iter X.env x = pure x := by intro _; rfl) :
    SD T X Γ (.Assign [.Name x px] (.ListComp elt [⟨tg, iter, ifs, 0⟩] scope cpos) pos :: rest) P :=
  s_seq (u := fun E σ H => ∃ p, tSt T X.K (Γ.set i (some (.ow p (.lst (compD keep val n))))) P E σ H)
    (ps_setLc (tt := ttC T X.K n up (wipeE Γ (own.map (·.2))) keep) (te := teC T X.K n up (wipeE Γ (own.map (·.2))) keep val) hc nd hy hyl hsw hi ok hg
      (fun s H C cl fp => ⟨fun pins s' σ H' Q I ⟨i, hi, h⟩ => (ht s H C cl fp i hi).run pins s' σ H' Q I h⟩)
      (fun s H C cl fp => ⟨fun pins s' σ H' Q I ⟨i, hi, hk, h⟩ => (he s H C cl fp i hi hk).run pins s' σ H' Q I h⟩) hs)
    ⟨fun pins s σ H E I ⟨p, h⟩ => (hr p).run pins s σ H E I h⟩
    fun E σ H ⟨Z, g, f⟩ => lc_reading hn hjs hjo hko ho hup σ H _ ⟨Z, g, fun p vs H1 g1 x1 hp d1 => ⟨p, Z, g1.newOw hl hp ⟨vs, upd_same, d1⟩, f⟩⟩
/-- an expression whose value is dropped -/
theorem s_expr (he : ED T X false Γ e d) (hr : SD T X Γ rest P) (hs : swapsWith e none pos.line X.env = pure false := by rfl) : SD T X Γ (.Expr e pos :: rest) P :=
  s_seq (ps_expr he hs) hr fun E σ H ⟨Z, g, f⟩ => ⟨Z, g, fun v H1 g1 x1 d1 => ⟨Z, g1, f⟩⟩
theorem pv' (i : Nat) {x : Str} {pos : Pos} (hN : X.N[i]? = some x := by rfl) (hv : Vis X.env.scope x := by first | exact Or.inl rfl | exact Or.inr (Or.inl rfl) | exact Or.inr (Or.inr rfl)) (hd : (x == ("__debug__" : Str)) = false := by decide)
    (hcd : (x == ("__classdict__" : Str)) = false := by decide) : PE X (.Name x pos) (tVar i) := pe_var hN hv hd hcd
variable {apos cpos xp : Pos} {p : Addr}
/-- name.append(e) -/
theorem s_append (i : Nat) (hi : Γ[i]? = some (some (.ow p (.lst ds)))) (hn : ds.length < 16777216) (he : ED T X true Γ e d) (hr : SD T X (Γ.set i (some (.ow p (.lst (ds ++ [d]))))) rest P)
    (hN : X.N[i]? = some x := by rfl) (hv : Vis X.env.scope x := by first | exact Or.inl rfl | exact Or.inr (Or.inl rfl) | exact Or.inr (Or.inr rfl)) (hd : (x == ("__debug__" : Str)) = false := by decide)
    (hcd : (x == ("__classdict__" : Str)) = false := by decide) (hs1 : starEach [e] X.env = (false, eval e X.env) :: starEach [] X.env := by rfl) (hbase : attributeBase (.Name x xp) "append" X.env (eval (.Name x xp) X.env) = eval (.Name x xp) X.env := by rfl)
    (hfew : ((backTo cpos (starEach [e] X.env)).all (fun x => !x.1) && (backToKw cpos (keywordEach [] X.env)).all (fun x => x.1.isSome) && decide ([e].length + ([] : List Keyword).length + (if ([] : List Keyword).isEmpty then 0 else 1) < 30)) = true := by rfl)
    (hline : (apos.endLine == cpos.line) = true := by rfl) (hs : swapsWith (.Call (.Attribute (.Name x xp) "append" apos) [e] [] cpos) none pos.line X.env = pure false := by rfl) :
    SD T X Γ (.Expr (.Call (.Attribute (.Name x xp) "append" apos) [e] [] cpos) pos :: rest) P :=
  s_seq (ps_expr (pe_bm PySem.F.plainAttrs_list PySem.F.slot_list_append PySem.F.type_list_append mt_append (pe_var hN hv hd hcd) (pa_cons he pa_nil hs1) hbase hfew hline hs1) hs) hr fun E σ H ⟨Z, g, f⟩ => by
    obtain ⟨v, e1, rfl, vs, h1, h2⟩ := g.slots i _ hi
    refine ⟨_, e1, .inl ⟨rfl, _, SqL.of h1⟩, Z, g, fun v H1 g1 x1 d1 => ?_⟩
    obtain ⟨v', e1', rfl', vs1, h1', h2'⟩ := g1.slots i _ hi
    exact ⟨p, vs1, v, rfl, rfl, h1', by rw [h2'.length, sizeLine_eq]; exact hn, Z, g1.updOw hi ⟨vs1 ++ [v], upd_same, h2'.append (.one d1)⟩, f⟩
/-- name.extend(e) -/
theorem s_extend (i : Nat) (hi : Γ[i]? = some (some (.ow p (.lst ds)))) (hn : ds.length + es.length ≤ 16777216) (he : ED T X true Γ e (.lst es)) (hr : SD T X (Γ.set i (some (.ow p (.lst (ds ++ es))))) rest P)
    (hN : X.N[i]? = some x := by rfl) (hv : Vis X.env.scope x := by first | exact Or.inl rfl | exact Or.inr (Or.inl rfl) | exact Or.inr (Or.inr rfl)) (hd : (x == ("__debug__" : Str)) = false := by decide)
    (hcd : (x == ("__classdict__" : Str)) = false := by decide) (hs1 : starEach [e] X.env = (false, eval e X.env) :: starEach [] X.env := by rfl) (hbase : attributeBase (.Name x xp) "extend" X.env (eval (.Name x xp) X.env) = eval (.Name x xp) X.env := by rfl)
    (hfew : ((backTo cpos (starEach [e] X.env)).all (fun x => !x.1) && (backToKw cpos (keywordEach [] X.env)).all (fun x => x.1.isSome) && decide ([e].length + ([] : List Keyword).length + (if ([] : List Keyword).isEmpty then 0 else 1) < 30)) = true := by rfl)
    (hline : (apos.endLine == cpos.line) = true := by rfl) (hs : swapsWith (.Call (.Attribute (.Name x xp) "extend" apos) [e] [] cpos) none pos.line X.env = pure false := by rfl) :
    SD T X Γ (.Expr (.Call (.Attribute (.Name x xp) "extend" apos) [e] [] cpos) pos :: rest) P :=
  s_seq (ps_expr (pe_bm PySem.F.plainAttrs_list PySem.F.slot_list_extend PySem.F.type_list_extend mt_extend (pe_var hN hv hd hcd) (pa_cons he pa_nil hs1) hbase hfew hline hs1) hs) hr fun E σ H ⟨Z, g, f⟩ => by
    obtain ⟨v, e1, rfl, vs, h1, h2⟩ := g.slots i _ hi
    refine ⟨_, e1, .inl ⟨rfl, _, SqL.of h1⟩, Z, g, fun v H1 g1 x1 d1 => ?_⟩
    obtain ⟨v', e1', rfl', vs1, h1', h2'⟩ := g1.slots i _ hi
    cases d1 with
    | lst q1 q2 =>
      rename_i pa ws
      exact ⟨p, _, vs1, ws, rfl, rfl, h1', g1.sub _ _ q1, by rw [h2'.length, q2.length, sizeLine_eq]; exact hn, Z, g1.updOw hi ⟨vs1 ++ ws, upd_same, h2'.append q2⟩, f⟩
/-- y = name.pop() -/
theorem s_pop (i j : Nat) {y : Str} (nd : X.N.Nodup) (hi : Γ[i]? = some (some (.ow p (.lst ds)))) (hlast : ds[ds.length - 1]? = some d) (hr : SD T X ((Γ.set i (some (.ow p (.lst ds.dropLast)))).set j (some (.sh d))) rest P)
    (hN : X.N[i]? = some x := by rfl) (hv : Vis X.env.scope x := by first | exact Or.inl rfl | exact Or.inr (Or.inl rfl) | exact Or.inr (Or.inr rfl)) (hd : (x == ("__debug__" : Str)) = false := by decide)
    (hcd : (x == ("__classdict__" : Str)) = false := by decide) (hbase : attributeBase (.Name x xp) "pop" X.env (eval (.Name x xp) X.env) = eval (.Name x xp) X.env := by rfl) (hline : (apos.endLine == cpos.line) = true := by rfl)
    (hl : j < Γ.length := by exact Nat.le_of_ble_eq_true rfl) (hy : X.N[j]? = some y := by rfl) (hyx : Loc X.env.scope y := by first | exact .inl rfl | exact .inr rfl)
    (hs : swapsWith (.Call (.Attribute (.Name x xp) "pop" apos) [] [] cpos) (some (.Name y px)) pos.line X.env = pure false := by rfl) (hf : X.fn y = true ∨ X.env.scope.names.lookup y = some .local := by first | exact .inl rfl | exact .inr rfl) :
    SD T X Γ (.Assign [.Name y px] (.Call (.Attribute (.Name x xp) "pop" apos) [] [] cpos) pos :: rest) P :=
  s_seq (ps_set nd hy hyx (pe_bm0 PySem.F.plainAttrs_list PySem.F.slot_list_pop PySem.F.type_list_pop mt_pop (pe_var hN hv hd hcd) hbase hline) hs hf) hr fun E σ H ⟨Z, g, f⟩ => by
    obtain ⟨v, e1, rfl, vs, h1, h2⟩ := g.slots i _ hi
    obtain ⟨w, hw, hd'⟩ := h2.get hlast
    have hlen := h2.length
    refine ⟨_, e1, .inl ⟨rfl, _, SqL.of h1⟩, p, vs, w, rfl, rfl, h1, by rw [hlen]; exact hw, Z, ?_, f⟩
    have dl : DaAll X.K (rg true Z H Γ) vs.dropLast ds.dropLast := by
      rw [List.dropLast_eq_take, List.dropLast_eq_take, hlen]
      exact h2.take _
    have g1 := g.updOw (o := .lst vs.dropLast) (d' := .lst ds.dropLast) hi ⟨_, upd_same, dl⟩
    have eo := owns_same Γ i p (.lst ds) (.lst ds.dropLast) hi
    refine g1.set (by rw [List.length_set]; exact hl) ?_
    have er : rg true Z (upd H p (.lst vs.dropLast)) (Γ.set i (some (.ow p (.lst ds.dropLast)))) = rg true Z H Γ := by
      have e1 : rg true Z (upd H p (.lst vs.dropLast)) (Γ.set i (some (.ow p (.lst ds.dropLast)))) = rg true Z (upd H p (.lst vs.dropLast)) Γ := by
        funext a
        unfold rg
        rw [eo]
      rw [e1, rg_upd_own (List.mem_append_right _ (mem_owns.mpr ⟨i, _, hi⟩))]
    rw [er]
    exact hd'
/-- name[n] = e -/
theorem s_setItem (i : Nat) {n : Int} {jj : Nat} {sp : Pos} (hi : Γ[i]? = some (some (.ow p (.lst ds)))) (he : ED T X true Γ e d) (hb : ED T X true Γ b (.int n)) (hj : ixN ds.length n = some jj) (hr : SD T X (Γ.set i (some (.ow p (.lst (ds.set jj d))))) rest P)
    (hN : X.N[i]? = some x := by rfl) (hv : Vis X.env.scope x := by first | exact Or.inl rfl | exact Or.inr (Or.inl rfl) | exact Or.inr (Or.inr rfl)) (hd : (x == ("__debug__" : Str)) = false := by decide)
    (hcd : (x == ("__classdict__" : Str)) = false := by decide)
    (ha : ∀ v, assign (.Subscript (.Name x xp) b sp) X.env v = (do
      let ov ← holding [v] (eval (.Name x xp) X.env)
      let iv ← holding [v, ov] (eval b X.env)
      standAt sp
      holding [v, ov, iv] (setItem ov iv v)
      release [v, ov, iv] []) := by intro _; rfl)
    (hs : swapsWithSole [.Subscript (.Name x xp) b sp] e pos.line X.env = pure false := by rfl) (hw : swappedStores [.Subscript (.Name x xp) b sp] e X.env = pure none := by rfl)
    (h1 : (assignEach [.Subscript (.Name x xp) b sp] X.env).map (·.2) = [assign (.Subscript (.Name x xp) b sp) X.env] := by rfl) :
    SD T X Γ (.Assign [.Subscript (.Name x xp) b sp] e pos :: rest) P :=
  s_seq (ps_asg he (pg_sub (pe_var hN hv hd hcd) hb set_list ha) hs hw h1) hr fun E σ H ⟨Z, g, f⟩ => ⟨Z, g, fun v H1 g1 x1 d1 => by
    obtain ⟨u, e1, rfl, vs, h1, h2⟩ := g1.slots i _ hi
    refine ⟨_, e1, Z, g1, fun w H2 g2 x2 d2 => ?_⟩
    cases d2
    obtain ⟨u', e1', _, vs2, h1', h2'⟩ := g2.slots i _ hi
    exact ⟨p, vs2, n, jj, rfl, rfl, h1', by rw [h2'.length]; exact hj, Z, g2.updOw hi ⟨_, upd_same, h2'.set jj (d1.to (rg_ext x2))⟩, f⟩⟩

/-! ### a tuple taken apart -/
theorem s_un2 (j1 j2 : Nat) {es : List Expr} {kk : Nat} {tpos : Pos} (he : ED T X true Γ e (.tup [d1, d2])) (hg : PG X (.Tuple es kk tpos) (g2 X.K j1 j2)) (hr : SD T X ((Γ.set j1 (some (.sh d1))).set j2 (some (.sh d2))) rest P) (l1 : j1 < Γ.length := by exact Nat.le_of_ble_eq_true rfl) (l2 : j2 < Γ.length := by exact Nat.le_of_ble_eq_true rfl)
    (hs : swapsWithSole [.Tuple es kk tpos] e pos.line X.env = pure false := by rfl) (hw : swappedStores [.Tuple es kk tpos] e X.env = pure none := by rfl) (h1 : (assignEach [.Tuple es kk tpos] X.env).map (·.2) = [assign (.Tuple es kk tpos) X.env] := by rfl) :
    SD T X Γ (.Assign [.Tuple es kk tpos] e pos :: rest) P :=
  s_seq (ps_asg he hg hs hw h1) hr fun E σ H ⟨Z, g, f⟩ => ⟨Z, g, fun v H1 g1 x1 dd => by
    cases dd with
    | tup t1 t2 =>
      cases t2 with
      | cons a1 a2 =>
        cases a2 with
        | cons a2 a3 =>
          cases a3
          exact take_pair g1 (SqT.mono g1.sub t1) a1 a2 l1 l2 fun σ2 g2 _ => ⟨Z, g2, f⟩⟩
abbrev g3 (K : PySem.W.Frag) (j1 j2 j3 : Nat) : TG := gTup K 3 (gCons (gName j1) (gCons (gName j2) (gCons (gName j3) gNil)))
theorem s_un3 (j1 j2 j3 : Nat) {es : List Expr} {kk : Nat} {tpos : Pos} (he : ED T X true Γ e (.tup [d1, d2, d3])) (hg : PG X (.Tuple es kk tpos) (g3 X.K j1 j2 j3)) (hr : SD T X (((Γ.set j1 (some (.sh d1))).set j2 (some (.sh d2))).set j3 (some (.sh d3))) rest P) (l1 : j1 < Γ.length := by exact Nat.le_of_ble_eq_true rfl) (l2 : j2 < Γ.length := by exact Nat.le_of_ble_eq_true rfl) (l3 : j3 < Γ.length := by exact Nat.le_of_ble_eq_true rfl)
    (hs : swapsWithSole [.Tuple es kk tpos] e pos.line X.env = pure false := by rfl) (hw : swappedStores [.Tuple es kk tpos] e X.env = pure none := by rfl) (h1 : (assignEach [.Tuple es kk tpos] X.env).map (·.2) = [assign (.Tuple es kk tpos) X.env] := by rfl) :
    SD T X Γ (.Assign [.Tuple es kk tpos] e pos :: rest) P :=
  s_seq (ps_asg he hg hs hw h1) hr fun E σ H ⟨Z, g, f⟩ => ⟨Z, g, fun v H1 g1 x1 dd => by
    cases dd with
    | tup t1 t2 =>
      cases t2 with
      | cons a1 a2 =>
        cases a2 with
        | cons a2 a3 =>
          cases a3 with
          | cons a3 a4 =>
            cases a4
            have s1 := g1.set l1 a1
            have sub1 := owns_drop Γ j1 (some (.sh d1)) (fun p d z => by cases z)
            have a2' := a2.to (rg_less (Z := Z) (H := H1) fun p hp => sub1.subset hp)
            have a3' := a3.to (rg_less (Z := Z) (H := H1) fun p hp => sub1.subset hp)
            have s2 := s1.set (by rw [List.length_set]; exact l2) a2'
            have sub2 := owns_drop (Γ.set j1 (some (.sh d1))) j2 (some (.sh d2)) (fun p d z => by cases z)
            have s3 := s2.set (by rw [List.length_set, List.length_set]; exact l3) (a3'.to (rg_less (Z := Z) (H := H1) fun p hp => sub2.subset hp))
            exact ⟨_, _, rfl, SqT.mono g1.sub t1, rfl, _, _, rfl, _, _, rfl, _, _, rfl, rfl, Z, s3, f⟩⟩

/-! ### branches -/
theorem s_ifj (Γj : Ev) (hc : BD T X Γ c k) (h1 : k = true → SD T X Γ th { P with nx := fun Γ' => Wk Γ' Γj }) (h2 : k = false → SD T X Γ el { P with nx := fun Γ' => Wk Γ' Γj }) (hr : SD T X Γj rest P) : SD T X Γ (.If c th el pos :: rest) P := by
  cases k with
  | true => exact s_seq (ps_if hc (h1 rfl) pss_never) hr fun E σ H ⟨Z, g, f⟩ => ⟨Z, g, fun H1 g1 x1 => iteT ⟨Z, g1, ⟨fun Γ' σ' H' w g' => ⟨Z, g'.wk w, f⟩, f.rt, f.rl⟩⟩⟩
  | false => exact s_seq (ps_if hc pss_never (h2 rfl)) hr fun E σ H ⟨Z, g, f⟩ => ⟨Z, g, fun H1 g1 x1 => iteF ⟨Z, g1, ⟨fun Γ' σ' H' w g' => ⟨Z, g'.wk w, f⟩, f.rt, f.rl⟩⟩⟩
/-- if c: .. that goes nowhere further; then the rest -/
theorem s_ift (hc : BD T X Γ c k) (h1 : k = true → SD T X Γ th { P with nx := fun _ => False }) (hr : k = false → SD T X Γ rest P) : SD T X Γ (.If c th [] pos :: rest) P := by
  cases k with
  | true => exact s_seq (ps_if hc (h1 rfl) pss_never) pss_never fun E σ H ⟨Z, g, f⟩ => ⟨Z, g, fun H1 g1 x1 => iteT ⟨Z, g1, ⟨fun Γ' σ' H' w g' => False.elim w, f.rt, f.rl⟩⟩⟩
  | false => exact s_seq (ps_if hc pss_never pss_nil) (hr rfl) fun E σ H ⟨Z, g, f⟩ => ⟨Z, g, fun H1 g1 x1 => iteF ⟨Z, g1, f⟩⟩
/-- the last statement of a block -/
theorem s_if2 (hc : BD T X Γ c k) (h1 : k = true → SD T X Γ th P) (h2 : k = false → SD T X Γ el P) : SD T X Γ [.If c th el pos] P := by
  cases k with
  | true => exact PSs.imp' (pss_one (ps_if hc (h1 rfl) pss_never)) fun E σ H ⟨Z, g, f⟩ => ⟨Z, g, fun H1 g1 x1 => iteT ⟨Z, g1, f⟩⟩
  | false => exact PSs.imp' (pss_one (ps_if hc pss_never (h2 rfl))) fun E σ H ⟨Z, g, f⟩ => ⟨Z, g, fun H1 g1 x1 => iteF ⟨Z, g1, f⟩⟩

/-! ### returns -/
theorem s_ret (he : ED T X false Γ e d) (h : P.rt d) : SD T X Γ (.Return (some e) pos :: rest) P :=
  s_seq (ps_ret he) pss_never fun E σ H ⟨Z, g, f⟩ => ⟨Z, g, fun v H1 g1 x1 d1 => f.rt d v H1 h g1.ext g1.tab (by rw [rg_false] at d1; exact d1)⟩
theorem s_retL (he : LD T X Γ e ds) (h : P.rl ds) : SD T X Γ (.Return (some e) pos :: rest) P :=
  s_seq (ps_ret he) pss_never fun E σ H ⟨Z, g, f⟩ => ⟨Z, g, fun p vs H1 g1 x1 hp d1 => f.rl ds p vs H1 h g1.ext g1.tab hp (d1.to rg_gr)⟩
/-- return name, an owned list -/
theorem s_retO (i : Nat) (hi : Γ[i]? = some (some (.ow p (.lst ds)))) (h : P.rl ds) (hN : X.N[i]? = some x := by rfl) (hv : Vis X.env.scope x := by first | exact Or.inl rfl | exact Or.inr (Or.inl rfl) | exact Or.inr (Or.inr rfl)) (hd : (x == ("__debug__" : Str)) = false := by decide)
    (hcd : (x == ("__classdict__" : Str)) = false := by decide) : SD T X Γ (.Return (some (.Name x xp)) pos :: rest) P :=
  s_seq (ps_ret (pe_var hN hv hd hcd)) pss_never fun E σ H ⟨Z, g, f⟩ => by
    obtain ⟨u, e1, rfl, vs, h1, h2⟩ := g.slots i _ hi
    have hm : p ∈ Z.ex ++ owns Γ := List.mem_append_right _ (mem_owns.mpr ⟨i, _, hi⟩)
    have q := f.rl ds p vs (minus H p) h (ext_minus g.ext (g.old p hm)) (tabs_minus g.tab h1) minus_same (h2.to fun a o e => by
      unfold rg at e
      split at e
      · cases e
      · rename_i hn
        have ha : a ≠ p := fun z => hn ⟨rfl, by rw [z]; exact hm⟩
        unfold gr at e ⊢
        cases r : Z.H0 a with
        | none => rw [r] at e; dsimp only at e ⊢; rw [minus_ne ha]; exact e
        | some u => rw [r] at e; cases u <;> exact e)
    rw [upd_minus h1] at q
    exact ⟨_, e1, q⟩
theorem s_retN (h : P.rt .non) : SD T X Γ (.Return none pos :: rest) P :=
  s_seq ps_retN pss_never fun E σ H ⟨Z, g, f⟩ => f.rt .non .non H h g.ext g.tab .non

/-! ### loops -/
theorem s_for {tg iter : Expr} {g : TG} {n : Nat} {js : List Nat} {up : Nat → Ev → Ev} {Keep : Ev → Prop} (Γs : Nat → Ev) (L : Nat) (hi : PI X tg iter (tSrc T X.K Γ g n js up Keep)) (hg : PG X tg g) (h0 : Wk Γ (Γs 0)) (hk : ∀ k, k ≤ n → Keep (Γs k)) (hL : ∀ k, (Γs k).length = L) (hj : ∀ j ∈ js, j < L)
    (hb : ∀ k, k < n → SD T X (up k (Γs k)) body { P with nx := fun Γ' => Wk Γ' (Γs (k + 1)) }) (hr : SD T X (Γs n) rest P) (hp : PassesOwn (model X.prog X.w) X.A X.env X.xe := by exact PassesOwn.never) (hc : X.calm = true := by rfl) (hs : ∀ x, foldedSetIterable iter X.env x = pure x := by intro _; rfl) :
    SD T X Γ (.For tg iter body [] pos :: rest) P :=
  s_seq (ps_for (tb := fun E σ H => ∃ k, k < n ∧ tSt T X.K (up k (Γs k)) { P with nx := fun Γ' => Wk Γ' (Γs (k + 1)) } E σ H) hp hc hi hg ⟨fun pins s σ H E I ⟨k, hk, h⟩ => (hb k hk).run pins s σ H E I h⟩ hs) hr fun E σ H ⟨Z, gz, f⟩ =>
    ⟨Z, gz, fun J Good H1 g1 x1 st good => by
      have gA : GOk T X.K { Z with B := rg true Z H1 Γ } H1 σ (Γs 0) := (g1.rebase (Same.refl _)).wk h0
      refine ⟨fun i m σ H => m = n - i ∧ i ≤ n ∧ GOk T X.K { Z with B := rg true Z H1 Γ } H σ (Γs i), ⟨n, by simp, Nat.zero_le _, gA⟩, ?_⟩
      rintro i m σ2 H2 ⟨rfl, hi2, g2⟩
      have gd := good { Z with B := rg true Z H1 Γ } H2 σ2 (Γs i) g2 (Same.refl _) (hk i hi2) (.inr trivial)
      by_cases hlt : i < n
      · obtain ⟨go, turn⟩ := st.turn { Z with B := rg true Z H1 Γ } i H2 σ2 (Γs i) hlt g2 gd (fun j q => by rw [hL]; exact hj j q)
        refine .inr ⟨go, fun σ H => GOk T X.K { Z with B := rg true Z H1 Γ } H σ (Γs (i + 1)), fun σ' H' p' => ⟨n - (i + 1), by omega, rfl, hlt, p'⟩, fun v H' y => turn v H' y _ fun σ3 H3 g3 x3 _ => ⟨i, hlt, { Z with B := rg true Z H1 Γ }, g3, ?_⟩⟩
        exact ⟨fun Γ' σ' H' w g' => g'.wk w, f.rt, f.rl⟩
      · have e : i = n := by omega
        subst e
        exact .inl ⟨st.stop { Z with B := rg true Z H1 Γ } H2 σ2 (Γs i) g2 gd, Z, g2.rebase (B := Z.B) (g1.base.trans g2.base), f⟩⟩
theorem s_while {α : Type} (Γs : α → Ev) (μ : α → Nat) (inv : α → Prop) (cnd : α → Bool) (a0 : α) (h0 : Wk Γ (Γs a0)) (hi0 : inv a0) (hc : ∀ a, inv a → BD T X (Γs a) c (cnd a))
    (hb : ∀ a, inv a → cnd a = true → SD T X (Γs a) body { P with nx := fun Γ' => ∃ a', inv a' ∧ μ a' < μ a ∧ Wk Γ' (Γs a') }) (hr : ∀ a, inv a → cnd a = false → SD T X (Γs a) rest P) (hp : PassesOwn (model X.prog X.w) X.A X.env X.xe := by exact PassesOwn.never) :
    SD T X Γ (.While c body [] pos :: rest) P :=
  s_seq (u := fun E σ H => ∃ a, inv a ∧ cnd a = false ∧ tSt T X.K (Γs a) P E σ H)
    (ps_while (tc := fun σ H Q => ∃ a, inv a ∧ tB T X.K (Γs a) (cnd a) σ H Q) (tb := fun E σ H => ∃ a, inv a ∧ cnd a = true ∧ tSt T X.K (Γs a) { P with nx := fun Γ' => ∃ a', inv a' ∧ μ a' < μ a ∧ Wk Γ' (Γs a') } E σ H) hp
      ⟨fun pins s σ H Q I ⟨a, ha, h⟩ => (hc a ha).run pins s σ H Q I h⟩ ⟨fun pins s σ H E I ⟨a, ha, hk, h⟩ => (hb a ha hk).run pins s σ H E I h⟩)
    ⟨fun pins s σ H E I ⟨a, ha, hk, h⟩ => (hr a ha hk).run pins s σ H E I h⟩ fun E σ H ⟨Z, gz, f⟩ => by
      refine ⟨fun m σ H => ∃ a, inv a ∧ m = μ a ∧ GOk T X.K Z H σ (Γs a), ⟨_, a0, hi0, rfl, gz.wk h0⟩, ?_⟩
      rintro m σ1 H1 ⟨a, ha, rfl, g1⟩
      refine ⟨a, ha, Z, g1, fun H2 g2 x2 => ?_⟩
      cases hk : cnd a with
      | true =>
        refine iteT ⟨fun σ' H' => ∃ a', inv a' ∧ μ a' < μ a ∧ GOk T X.K Z H' σ' (Γs a'), fun σ' H' ⟨a', q1, q2, q3⟩ => ⟨_, q2, a', q1, rfl, q3⟩, a, ha, hk, Z, g2, ?_⟩
        exact ⟨fun Γ' σ' H' ⟨a', q1, q2, w⟩ g' => ⟨a', q1, q2, g'.wk w⟩, f.rt, f.rl⟩
      | false => exact iteF ⟨a, ha, hk, Z, g2, f⟩
end

/-! ### a def by its body -/
/-- the def x of the top, as the head leaves it -/
structure Df (K : PySem.W.Frag) (mg : Str → Option Value) (x : Str) (st : Stmt) : Prop where
  ex : ∃ f fd, mg x = some (.ref f) ∧ FunD K x x (defArgs st) (defBody st) (defScope st) [] [] f fd
abbrev cxN (P : Program) (w : World) (K : PySem.W.Frag) (mg : Str → Option Value) (base : Heap) (N : List Str) (q : Str) (scope : Scope) (f : Addr) (cdv : Value) (A : Around) (outer : List Env) (s : Shared) (H : Hp) (E : XK) : Cx :=
  (cxOf CX0 P w K mg base N q scope f cdv A outer s H E).nox
def env0 (n : Nat) (ds : List D) : Ev := ds.map (fun d => some (.sh d)) ++ List.replicate (n - ds.length) none
theorem owns_env0 (n : Nat) : ∀ ds : List D, owns (env0 n ds) = [] := by
  have h0 : ∀ k : Nat, owns (List.replicate k none) = [] := fun k => by
    induction k with
    | zero => rfl
    | succ k ih => exact ih
  have h1 : ∀ (ds : List D) (k : Nat), owns (ds.map (fun d => some (.sh d)) ++ List.replicate k none) = [] := fun ds => by
    induction ds with
    | nil => intro k; exact h0 k
    | cons d ds ih => intro k; exact ih k
  intro ds
  exact h1 ds _
theorem start_ok {T : Tb} {K : PySem.W.Frag} {G H : Hp} {N : List Str} {vs : List V} {ds : List D} (hs : Same G H) (hn : NoTbl G) (hd : DaAll K G vs ds) (ht : LamX.Tabs T H) (hl : vs.length ≤ N.length) :
    GOk T K ⟨G, H, fun _ => none, []⟩ H (L2.start N vs) (env0 N.length ds) := by
  have eo := owns_env0 N.length ds
  have hlen := hd.length
  refine ⟨hs, hn, Ext.refl H, ht, by rw [eo]; exact List.nodup_nil, fun p hp => ?_, fun p hp => ?_, ?_, fun i s e => ?_, fun a o e => ?_⟩
  · rw [eo] at hp
    exact absurd (show p ∈ ([] : List Addr) from hp) (by simp)
  · exact absurd (show p ∈ ([] : List Addr) from hp) (by simp)
  · unfold L2.start env0
    simp [hlen]
  · have hi : i < ds.length := by
      unfold env0 at e
      by_cases hi : i < ds.length
      · exact hi
      · rw [List.getElem?_append_right (by simpa using hi), List.getElem?_replicate] at e
        split at e <;> cases e
    unfold env0 at e
    rw [List.getElem?_append_left (by simpa using hi), List.getElem?_map, List.getElem?_eq_getElem hi] at e
    cases e
    obtain ⟨v, hv, q⟩ := hd.get (List.getElem?_eq_getElem hi)
    refine ⟨v, ?_, q.to fun a o e => ?_⟩
    · unfold L2.start
      rw [List.getElem?_append_left (by simp; omega), List.getElem?_map, hv]
      rfl
    · unfold rg
      rw [if_neg (by rintro ⟨_, z⟩; rw [eo] at z; exact absurd (show a ∈ ([] : List Addr) from z) (by simp))]
      show gr G H H a = some o
      unfold gr
      rw [hs a o e]
      cases o <;> first | rfl | exact e
  · cases e
section
variable {T : Tb} {P : Program} {w : World} {K : PySem.W.Frag} {mg : Str → Option Value} {base : Heap} {x : Str} {st : Stmt} {N ps : List Str} {k : Nat}
theorem FunD.keepF {K : PySem.W.Frag} {x q : Str} {a : Arguments} {b : List Stmt} {s : Scope} {dv : List V} {kw : List (Str × V)} {f : Addr} {fd : FuncData} (F : FunD K x q a b s dv kw f fd) : KeepF K f fd := by
  obtain ⟨oc, od, dV, kV, doc, pm, an, cdv, ct, osl, rfl, lk, _⟩ := F.ex
  exact ⟨F.kp, oc, od, osl, lk⟩
theorem cal_E {R : List D → D → Prop} (F : Df K mg x st) (S : FnScope N ps (defScope st)) (hb : ∀ (kV doc pm : Value) (an : Option Addr) (cdv ct : Value) (us : List Value), us.length = ps.length → bindArgs (PySem.W.fnOf x x (defArgs st) (defBody st) (defScope st) .none kV doc pm an cdv ct) ⟨us, []⟩ = pure (ps.zip us))
    (hlen : ∀ ds d, R ds d → ds.length = ps.length) (hpn : ps.length ≤ N.length)
    (hbody : ∀ (f : Addr) (cdv : Value) (A : Around) (outer : List Env) (s : Shared) (H : Hp) (E : XK), Room k (cxN P w K mg base N x (defScope st) f cdv A outer s H E).A → ∀ ds d, R ds d → SD T (cxN P w K mg base N x (defScope st) f cdv A outer s H E) (env0 N.length ds) (defBody st) { nx := fun _ => d = .non, rt := fun d' => d' = d, rl := fun es => d = .lst es }) :
    Cal P w K mg base x ps (k + 1) (spE T K R) := by
  obtain ⟨f, fd, hm, F⟩ := F.ex
  refine ⟨f, fd, hm, (DD.FunD.keepF F), F.bindsN hb, F.ok S (fun vs H Q E ⟨G, ds, d, h1, h2, h3, h4, _⟩ => by rw [h3.length]; exact hlen _ _ h4) fun cdv A outer s H vs Q E hr h => ?_⟩
  obtain ⟨G, ds, d, h1, h2, h3, h4, h5, q⟩ := h
  have hl := hlen _ _ h4
  have hl3 := h3.length
  refine ⟨_, (hbody f cdv A outer s H E hr ds d h4).nox, ⟨G, H, fun _ => none, []⟩, start_ok h1 h2 h3 h5 (by omega), ?_⟩
  refine ⟨fun Γ' σ' H' e g' => ?_, fun d' v H' e x t da => ?_, fun es p ws H' e x t hp da => ?_⟩
  · refine q _ _ g'.ext g'.tab ?_
    rw [e]
    exact .non
  · subst e
    exact q v H' x t da
  · refine q _ _ (x.trans (Ext.upd hp)) (t.ext (same_upd hp)) ?_
    rw [e]
    have hg : gr G H (upd H' p (.lst ws)) p = some (.lst ws) := by
      unfold gr
      rw [show H p = none from x.free hp]
      dsimp only
      rw [upd_same]
    exact .lst hg (da.to (gr_ext (Ext.upd hp)))
theorem cal_L {R : List D → List D → Prop} (F : Df K mg x st) (S : FnScope N ps (defScope st)) (hb : ∀ (kV doc pm : Value) (an : Option Addr) (cdv ct : Value) (us : List Value), us.length = ps.length → bindArgs (PySem.W.fnOf x x (defArgs st) (defBody st) (defScope st) .none kV doc pm an cdv ct) ⟨us, []⟩ = pure (ps.zip us))
    (hlen : ∀ ds d, R ds d → ds.length = ps.length) (hpn : ps.length ≤ N.length)
    (hbody : ∀ (f : Addr) (cdv : Value) (A : Around) (outer : List Env) (s : Shared) (H : Hp) (E : XK), Room k (cxN P w K mg base N x (defScope st) f cdv A outer s H E).A → ∀ ds es, R ds es → SD T (cxN P w K mg base N x (defScope st) f cdv A outer s H E) (env0 N.length ds) (defBody st) { rl := fun es' => es' = es }) :
    Cal P w K mg base x ps (k + 1) (spL T K R) := by
  obtain ⟨f, fd, hm, F⟩ := F.ex
  refine ⟨f, fd, hm, (DD.FunD.keepF F), F.bindsN hb, F.ok S (fun vs H Q E ⟨G, ds, d, h1, h2, h3, h4, _⟩ => by rw [h3.length]; exact hlen _ _ h4) fun cdv A outer s H vs Q E hr h => ?_⟩
  obtain ⟨G, ds, es, h1, h2, h3, h4, h5, q⟩ := h
  have hl := hlen _ _ h4
  have hl3 := h3.length
  refine ⟨_, (hbody f cdv A outer s H E hr ds es h4).nox, ⟨G, H, fun _ => none, []⟩, start_ok h1 h2 h3 h5 (by omega), ?_⟩
  exact ⟨fun Γ' σ' H' e g' => False.elim e, fun d' v H' e x t da => False.elim e, fun es' p ws H' e x t hp da => by subst e; exact q p ws H' x t hp da⟩
/-- a new list is a list -/
theorem Cal.toE {R : List D → List D → Prop} (C : Cal P w K mg base x ps k (spL T K R)) : Cal P w K mg base x ps k (spE T K fun ds d => ∃ es, d = .lst es ∧ R ds es) := by
  obtain ⟨f, fd, a, b, c, F⟩ := C.ex
  refine ⟨f, fd, a, b, c, F.imp fun vs H Q E ⟨G, ds, d, h1, h2, h3, ⟨es, e, h4⟩, h5, q⟩ => ⟨G, ds, es, h1, h2, h3, h4, h5, fun p ws H' x t hp da => ?_⟩⟩
  refine q _ _ (x.trans (Ext.upd hp)) (t.ext (same_upd hp)) ?_
  rw [e]
  have hg : gr G H (upd H' p (.lst ws)) p = some (.lst ws) := by
    unfold gr
    rw [x.free hp]
    dsimp only
    rw [upd_same]
  exact .lst hg (da.to (gr_ext (Ext.upd hp)))
end
end DD

/-! Texts, kinds, equality of data, sorted texts, comprehensions and loops over typed lists. -/
namespace DD
open PySem PySem.Spec L2

/-! ### equality of data -/
mutual
def toPy : D → PyData
  | .non => .none
  | .bl b => .bool b
  | .int i => .int i
  | .str x => .str x
  | .lst xs => .list (toPys xs)
  | .tup xs => .tuple (toPys xs)
  | .scr _ => .dict []
  | .dic _ _ => .dict []
  | .dit _ _ => .dict []
  | .obj _ => .dict []
def toPys : List D → List PyData
  | [] => []
  | d :: ds => toPy d :: toPys ds
end
mutual
def plainD : D → Bool
  | .non => true
  | .bl _ => true
  | .int _ => true
  | .str _ => true
  | .lst xs => plainDs xs
  | .tup xs => plainDs xs
  | _ => false
def plainDs : List D → Bool
  | [] => true
  | d :: ds => plainD d && plainDs ds
end
section
variable {K : PySem.W.Frag} {G H : Hp}
mutual
theorem Da.dp (s : Same G H) : ∀ (d : D) (v : V), plainD d = true → Da K G v d → Dp K H v (toPy d) ∧ (toPy d).canLay0 = true
  | .non, _, _, h => by cases h; exact ⟨.non, by simp [toPy, PyData.canLay0]⟩
  | .bl b, _, _, h => by cases h; exact ⟨.bl b, by simp [toPy, PyData.canLay0]⟩
  | .int b, _, _, h => by cases h; exact ⟨.int b, by simp [toPy, PyData.canLay0]⟩
  | .str b, _, _, h => by
    cases h with
    | str _ q => exact ⟨.str b, by simp [toPy, PyData.canLay0, q.1]⟩
  | .lst ds, _, p, h => by
    cases h with
    | lst hs ha =>
      obtain ⟨q1, q2⟩ := DaAll.dp s ds _ (by simpa [plainD] using p) ha
      exact ⟨.lst (SqL.of (s _ _ hs)) q1, by simpa [toPy, PyData.canLay0] using q2⟩
  | .tup ds, _, p, h => by
    cases h with
    | tup hs ha =>
      obtain ⟨q1, q2⟩ := DaAll.dp s ds _ (by simpa [plainD] using p) ha
      exact ⟨.tup (SqT.mono s hs) q1, by simpa [toPy, PyData.canLay0] using q2⟩
  | .scr _, _, p, _ => by simp [plainD] at p
  | .dic _ _, _, p, _ => by simp [plainD] at p
  | .dit _ _, _, p, _ => by simp [plainD] at p
  | .obj _, _, p, _ => by simp [plainD] at p
theorem DaAll.dp (s : Same G H) : ∀ (ds : List D) (vs : List V), plainDs ds = true → DaAll K G vs ds → DpAll K H vs (toPys ds) ∧ PyData.canLayAll0 (toPys ds) = true
  | [], _, _, h => by cases h; exact ⟨.nil, by simp [toPys, PyData.canLayAll0]⟩
  | d :: ds, _, p, h => by
    have p' : plainD d = true ∧ plainDs ds = true := by simpa [plainDs] using p
    cases h with
    | cons h1 h2 =>
      obtain ⟨a1, a2⟩ := Da.dp s d _ p'.1 h1
      obtain ⟨b1, b2⟩ := DaAll.dp s ds _ p'.2 h2
      exact ⟨.cons a1 b1, by simp [toPys, PyData.canLayAll0, a2, b2]⟩
end
end
/-- f tells what it tells: equal data, equal things; at most n deep -/
structure Enc {α : Type} [DecidableEq α] (f : α → D) (n : Nat) : Prop where
  pl : ∀ a, plainD (f a) = true
  dp : ∀ a, (toPy (f a)).depth ≤ n
  eq : ∀ a b, PyData.eqv (toPy (f a)) (toPy (f b)) = decide (a = b)
theorem Enc.mono {α : Type} [DecidableEq α] {f : α → D} {n k : Nat} (E : Enc f n) (h : n ≤ k) : Enc f k := ⟨E.pl, fun a => Nat.le_trans (E.dp a) h, E.eq⟩
theorem enc_str : Enc D.str 0 := ⟨fun _ => rfl, fun _ => by simp [toPy, PyData.depth], fun a b => by
  simp only [toPy, PyData.eqv]
  exact Bool.beq_eq_decide_eq _ _⟩
theorem enc_int : Enc D.int 0 := ⟨fun _ => rfl, fun _ => by simp [toPy, PyData.depth], fun a b => by
  simp only [toPy, PyData.eqv]
  exact Bool.beq_eq_decide_eq _ _⟩
theorem plainDs_map {α : Type} {f : α → D} (h : ∀ a, plainD (f a) = true) : ∀ xs : List α, plainDs (xs.map f) = true
  | [] => rfl
  | x :: xs => by simp [plainDs, h x, plainDs_map h xs]
theorem depthAll_map {α : Type} {f : α → D} {n : Nat} (h : ∀ a, (toPy (f a)).depth ≤ n) : ∀ xs : List α, PyData.depthAll (toPys (xs.map f)) ≤ n
  | [] => by simp [toPys, PyData.depthAll]
  | x :: xs => by
    have h1 := h x
    have h2 := depthAll_map h xs
    simp only [List.map_cons, toPys, PyData.depthAll]
    omega
theorem eqvAll_map {α : Type} [DecidableEq α] {f : α → D} (h : ∀ a b, PyData.eqv (toPy (f a)) (toPy (f b)) = decide (a = b)) : ∀ xs ys : List α, PyData.eqvAll (toPys (xs.map f)) (toPys (ys.map f)) = decide (xs = ys)
  | [], [] => by simp [toPys, PyData.eqvAll]
  | [], y :: ys => by simp [toPys, PyData.eqvAll]
  | x :: xs, [] => by simp [toPys, PyData.eqvAll]
  | x :: xs, y :: ys => by
    simp only [List.map_cons, toPys, PyData.eqvAll, h, eqvAll_map h xs ys, List.cons.injEq]
    by_cases e : x = y <;> by_cases e' : xs = ys <;> simp [e, e']
theorem enc_list {α : Type} [DecidableEq α] {f : α → D} {n : Nat} (E : Enc f n) : Enc (fun xs : List α => .lst (xs.map f)) (n + 1) :=
  ⟨fun a => by show plainDs (a.map f) = true; exact plainDs_map E.pl a, fun a => by
    have := depthAll_map E.dp a
    simp only [toPy, PyData.depth]
    omega, fun a b => by simp only [toPy, PyData.eqv]; exact eqvAll_map E.eq a b⟩

section
variable {T : Tb} {X : Cx} {Γ : Ev} {m ma mb : Bool} {e a b c : Expr} {d da db dc : D} {pos p : Pos} {i : Nat} {x : Str} {ds es : List D}
theorem ED.as {d' : D} (h : ED T X m Γ e d) (q : d = d') : ED T X m Γ e d' := q ▸ h
theorem LD.as (h : LD T X Γ e ds) (q : ds = es) : LD T X Γ e es := q ▸ h
theorem ID.as (h : ID T X Γ e ds) (q : ds = es) : ID T X Γ e es := q ▸ h
theorem BD.as {k l : Bool} (h : BD T X Γ e k) (q : k = l) : BD T X Γ e l := q ▸ h
theorem shaped_of {d : PyData} (h : d.canLay0 = true) (h2 : d.depth ≤ 64) : SeqAt.shaped d = true := by
  show (d.canLay0 && decide (d.depth ≤ 64)) = true
  rw [h, decide_eq_true h2]
  rfl
/-- == of data of one kind -/
theorem c_eqD {α : Type} [DecidableEq α] {f : α → D} {n : Nat} {u v : α} (E : Enc f n) (hu : X.A.units + 64 < cLine) (ha : ED T X false Γ a (f u)) (hb : ED T X false Γ b (f v)) (hn : n ≤ 64 := by decide) : CD T X Γ .Eq a b (decide (u = v)) :=
  c_op (op_eqD hu) (fun Z H σ w y Q g d1 d2 q => by
    obtain ⟨a1, a2⟩ := Da.dp g.sub _ _ (E.pl u) d1
    obtain ⟨b1, b2⟩ := Da.dp g.sub _ _ (E.pl v) d2
    exact ⟨_, _, a1, b1, shaped_of a2 (Nat.le_trans (E.dp u) hn), shaped_of b2 (Nat.le_trans (E.dp v) hn), fin_c g q (E.eq u v)⟩) ha hb
theorem c_neD {α : Type} [DecidableEq α] {f : α → D} {n : Nat} {u v : α} (E : Enc f n) (hu : X.A.units + 64 < cLine) (ha : ED T X false Γ a (f u)) (hb : ED T X false Γ b (f v)) (hn : n ≤ 64 := by decide) : CD T X Γ .NotEq a b (!decide (u = v)) :=
  c_op (op_neD hu) (fun Z H σ w y Q g d1 d2 q => by
    obtain ⟨a1, a2⟩ := Da.dp g.sub _ _ (E.pl u) d1
    obtain ⟨b1, b2⟩ := Da.dp g.sub _ _ (E.pl v) d2
    exact ⟨_, _, a1, b1, shaped_of a2 (Nat.le_trans (E.dp u) hn), shaped_of b2 (Nat.le_trans (E.dp v) hn), fin_c g q (by rw [E.eq u v])⟩) ha hb
theorem any_eq {α : Type} [DecidableEq α] {f : α → D} {n : Nat} (E : Enc f n) (v : α) : ∀ xs : List α, ((toPys (xs.map f)).any fun z => PyData.eqv z (toPy (f v))) = decide (v ∈ xs)
  | [] => by simp [toPys]
  | x :: xs => by
    simp only [List.map_cons, toPys, List.any_cons, E.eq, any_eq E v xs, List.mem_cons]
    by_cases h : x = v
    · simp [h]
    · have h' : ¬ v = x := fun z => h z.symm
      simp [h, h']
theorem Enc.shapedL {α : Type} [DecidableEq α] {f : α → D} {n : Nat} (E : Enc f n) (hn : n ≤ 63) (xs : List α) {K : PySem.W.Frag} {G H : Hp} {v : V} (s : Same G H) (h : Da K G v (.lst (xs.map f))) : Dp K H v (.list (toPys (xs.map f))) ∧ SeqAt.shaped (.list (toPys (xs.map f))) = true := by
  obtain ⟨a1, a2⟩ := Da.dp s (.lst (xs.map f)) _ (show plainDs (xs.map f) = true from plainDs_map E.pl xs) h
  refine ⟨a1, shaped_of a2 ?_⟩
  have := depthAll_map E.dp xs
  simp only [toPy, PyData.depth]
  omega
/-- in, not in, of data in a list of such -/
theorem c_inD {α : Type} [DecidableEq α] {f : α → D} {n : Nat} {v : α} {xs : List α} (E : Enc f n) (hu : X.A.units + 65 < cLine) (ha : ED T X false Γ a (f v)) (hb : ED T X false Γ b (.lst (xs.map f))) (hn : n ≤ 63 := by decide) : CD T X Γ .In a b (decide (v ∈ xs)) :=
  c_op (op_inD hu) (fun Z H σ w y Q g d1 d2 q => by
    obtain ⟨a1, a2⟩ := Da.dp g.sub _ _ (E.pl v) d1
    obtain ⟨b1, b2⟩ := E.shapedL hn xs g.sub d2
    exact ⟨_, _, a1, b1, shaped_of a2 (Nat.le_trans (E.dp v) (by omega)), b2, fin_c g q (any_eq E v xs)⟩) ha hb
theorem c_notInD {α : Type} [DecidableEq α] {f : α → D} {n : Nat} {v : α} {xs : List α} (E : Enc f n) (hu : X.A.units + 65 < cLine) (ha : ED T X false Γ a (f v)) (hb : ED T X false Γ b (.lst (xs.map f))) (hn : n ≤ 63 := by decide) : CD T X Γ .NotIn a b (!decide (v ∈ xs)) :=
  c_op (op_notInD hu) (fun Z H σ w y Q g d1 d2 q => by
    obtain ⟨a1, a2⟩ := Da.dp g.sub _ _ (E.pl v) d1
    obtain ⟨b1, b2⟩ := E.shapedL hn xs g.sub d2
    exact ⟨_, _, a1, b1, shaped_of a2 (Nat.le_trans (E.dp v) (by omega)), b2, fin_c g q (by rw [any_eq E v xs])⟩) ha hb

/-! ### kinds -/
def tyN : D → String
  | .non => "NoneType"
  | .bl _ => "bool"
  | .int _ => "int"
  | .str _ => "str"
  | .lst _ => "list"
  | .scr _ => "list"
  | .tup _ => "tuple"
  | .dic _ _ => "dict"
  | .dit _ _ => "dict"
  | .obj _ => "Weave"
theorem tyx_of {K : PySem.W.Frag} {G H : Hp} (s : Same G H) {v : V} {d : D} (h : Da K G v d) (hp : ∀ d', d ≠ .obj d') : TyX K H v (.type (tyN d)) := by
  have sq : ∀ {a : Addr} {xs : List V}, SqL K G a xs → TyX K H (.ref a) (.type "list") := fun {a xs} h => by
    rcases h with (h | ⟨o, h⟩) | ⟨o, its, n, h, hc, _⟩
    · exact .base (.lst (s _ _ h))
    · exact .base (.frz (s _ _ h))
    · exact .kList h hc
  cases h with
  | non => exact .base .non
  | bl b => exact .base (.bl b)
  | int b => exact .base (.int b)
  | str b _ => exact .base (.str b)
  | scr ns h => exact sq h
  | lst h _ => exact sq (SqL.of h)
  | tup h _ =>
    rcases h with (h | ⟨o, h⟩) | ⟨o, its, n, h, hc, _⟩
    · exact .base (.tup (s _ _ h))
    · exact .fTuple (s _ _ h)
    · exact .kTuple h hc
  | dic h _ _ => exact .base (.dK (s _ _ h))
  | dit h _ _ => exact .base (.dT (s _ _ h))
  | obj _ _ => exact absurd rfl (hp _)
theorem e_isi {tn : Str} {Tn : String} {q : Bool} {p1 p2 : Pos} (hm : X.mg "isinstance" = none) (ht : X.mg tn = none) (hv : bootBuiltins tn = some (.type Tn)) (h : ED T X false Γ a d) (hb : kitB (tyN d) Tn = some q) (hp : ∀ d', d ≠ .obj d' := by intro _ z; cases z) (hg : Gl X "isinstance" := by rfl) (hgt : Gl X tn := by rfl)
    (hs2 : starEach [Expr.Name tn p2] X.env = (false, eval (.Name tn p2) X.env) :: starEach [] X.env := by rfl) (hs : starEach [a, .Name tn p2] X.env = (false, eval a X.env) :: starEach [.Name tn p2] X.env := by rfl) (hpl : (backTo pos (starEach [Expr.Name tn p2] X.env)).any (·.1) = false := by rfl)
    (hn : tn ≠ "__name__" := by decide) (hd : (tn == ("__debug__" : Str)) = false := by decide) : ED T X m Γ (.Call (.Name "isinstance" p1) [a, .Name tn p2] [] pos) (.bl q) :=
  PE.imp' (pe_callB call_isi hg hm (by decide +kernel) (pa_cons h (pa_cons (pe_bltn (v := .ty Tn) hgt ht hv rfl hn hd) pa_nil hs2) hs) (by decide) (by decide) hs hpl) fun σ H Q ⟨Z, g, f⟩ => ⟨Z, g, fun v H1 g1 x1 d1 =>
    ⟨v, .ty Tn, .type (tyN d), .type Tn, q, rfl, .ty Tn, tyx_of g1.sub d1 hp, kit_ty hb, f _ H1 g1 x1 (.bl _)⟩⟩

/-! ### texts -/
theorem e_strI {n : Int} (hm : X.mg "str" = none) (hb : n.natAbs.log2 < 1920) (hk : SOk (toString n : String)) (h : ED T X true Γ a (.int n)) (hg : Gl X "str" := by rfl) (hs : starEach [a] X.env = (false, eval a X.env) :: starEach [] X.env := by rfl) : ED T X m Γ (.Call (.Name "str" p) [a] [] pos) (.str (toString n : String)) :=
  e_callTy call_str_int (fun Z H σ vs Q g d1 q => by
    cases d1 with
    | cons h1 h2 =>
      cases h2
      cases h1
      exact ⟨_, rfl, hb, q _ H g (Ext.refl H) (.str _ hk)⟩) hg hm (by decide +kernel) (a_one h hs) (he := hs)
theorem e_intB {k : Bool} (hm : X.mg "int" = none) (h : ED T X true Γ a (.bl k)) (hg : Gl X "int" := by rfl) (hs : starEach [a] X.env = (false, eval a X.env) :: starEach [] X.env := by rfl) : ED T X m Γ (.Call (.Name "int" p) [a] [] pos) (.int (if k then 1 else 0)) :=
  e_callTy call_int1 (fun Z H σ vs Q g d1 q => by
    cases d1 with
    | cons h1 h2 =>
      cases h2
      cases h1
      exact .inr ⟨_, rfl, q _ H g (Ext.refl H) (.int _)⟩) hg hm (by decide +kernel) (a_one h hs) (he := hs)
theorem e_intS {z : Str} {n : Int} (hm : X.mg "int" = none) (hi : PySem.intText? z = some n) (hl : z.length ≤ 640) (h : ED T X true Γ a (.str z)) (hg : Gl X "int" := by rfl) (hs : starEach [a] X.env = (false, eval a X.env) :: starEach [] X.env := by rfl) : ED T X m Γ (.Call (.Name "int" p) [a] [] pos) (.int n) :=
  e_callTy call_int_str (fun Z H σ vs Q g d1 q => by
    cases d1 with
    | cons h1 h2 =>
      cases h2
      cases h1
      exact ⟨_, _, rfl, hi, hl, q _ H g (Ext.refl H) (.int _)⟩) hg hm (by decide +kernel) (a_one h hs) (he := hs)
variable {apos : Pos}
theorem e_join {z : Str} {ys : List Str} (hl : (ys.map (·.length)).sum + ys.length * z.length ≤ 16777216) (hk : SOk (Txt.join z ys)) (ho : ED T X true Γ e (.str z)) (h : ED T X false Γ a (.lst (ys.map D.str))) (hs : starEach [a] X.env = [(false, eval a X.env)] := by rfl) (hbase : attributeBase e "join" X.env (eval e X.env) = eval e X.env := by rfl) (hline : (apos.endLine == pos.line) = true := by rfl) :
    ED T X m Γ (.Call (.Attribute e "join" apos) [a] [] pos) (.str (Txt.join z ys)) :=
  PE.imp' (pe_join ho h hs hbase hline) fun σ H Q ⟨Z, g, q⟩ => ⟨Z, g, fun v H1 g1 x1 d1 => by
    cases d1 with
    | str _ s1 =>
      exact ⟨⟨z, rfl⟩, Z, g1, fun v H2 g2 x2 d2 => by
        cases d2 with
        | lst e1 e2 =>
          have ev := e2.strs
          subst ev
          exact ⟨z, _, ys, rfl, rfl, .inl (SqL.of (g2.sub _ _ e1)), hl, q _ H2 g2 (x1.trans x2) (.str _ hk)⟩⟩⟩
theorem l_split {z y : Str} (hy : (y.length == 0) = false) (hz : z.length + 2 ≤ 16777216) (hk : ∀ w ∈ Txt.split z y, SOk w) (ho : ED T X true Γ e (.str z)) (h : ED T X true Γ a (.str y)) (hs : starEach [a] X.env = [(false, eval a X.env)] := by rfl) (hbase : attributeBase e "split" X.env (eval e X.env) = eval e X.env := by rfl) (hline : (apos.endLine == pos.line) = true := by rfl) :
    LD T X Γ (.Call (.Attribute e "split" apos) [a] [] pos) ((Txt.split z y).map D.str) :=
  PE.imp' (pe_split ho h hs hbase hline) fun σ H Q ⟨Z, g, q⟩ => ⟨Z, g, fun v H1 g1 x1 d1 => by
    cases d1 with
    | str _ s1 =>
      exact ⟨⟨z, rfl⟩, Z, g1, fun v H2 g2 x2 d2 => by
        cases d2 with
        | str _ s2 => exact ⟨z, y, rfl, rfl, hy, by rw [sizeLine_eq]; exact hz, fun p hp => q p _ H2 g2 (x1.trans x2) hp (DaAll.of_strs _ hk)⟩⟩⟩
theorem e_part {z y : Str} (hy : (y.length == 0) = false) (hk : SOk (Txt.partition z y).1 ∧ SOk (Txt.partition z y).2.1 ∧ SOk (Txt.partition z y).2.2) (ho : ED T X true Γ e (.str z)) (h : ED T X true Γ a (.str y)) (hs : starEach [a] X.env = [(false, eval a X.env)] := by rfl) (hbase : attributeBase e "partition" X.env (eval e X.env) = eval e X.env := by rfl) (hline : (apos.endLine == pos.line) = true := by rfl) :
    ED T X m Γ (.Call (.Attribute e "partition" apos) [a] [] pos) (.tup [.str (Txt.partition z y).1, .str (Txt.partition z y).2.1, .str (Txt.partition z y).2.2]) :=
  PE.imp' (pe_partition ho h hs hbase hline) fun σ H Q ⟨Z, g, q⟩ => ⟨Z, g, fun v H1 g1 x1 d1 => by
    cases d1 with
    | str _ s1 =>
      exact ⟨⟨z, rfl⟩, Z, g1, fun v H2 g2 x2 d2 => by
        cases d2 with
        | str _ s2 => exact ⟨z, y, rfl, rfl, hy, by rw [sizeLine_eq]; have := s1.2; omega, fun p hp => q _ _ (g2.new hp) ((x1.trans x2).trans (Ext.upd hp))
            (.tup (SqT.of (rg_new g2 hp (fun _ z => by cases z))) (.cons (.str _ hk.1) (.cons (.str _ hk.2.1) (.cons (.str _ hk.2.2) .nil))))⟩⟩⟩
/-! a <= b <= c of ints, of texts, as a value -/
theorem e_chI {n1 n2 n3 : Int} (ha : ED T X true Γ a (.int n1)) (hb : ED T X true Γ b (.int n2)) (hc : ED T X true Γ c (.int n3)) (hm : lastMarks [.LtE, .LtE] [b, c] = false := by with_unfolding_all rfl) : ED T X m Γ (.Compare a [.LtE, .LtE] [b, c] pos) (.bl (decide (n1 ≤ n2) && decide (n2 ≤ n3))) :=
  PE.imp' (pe_chain op_le op_le ha hb hc hm) fun σ H Q ⟨Z, g, q⟩ => ⟨Z, g, fun v H1 g1 x1 d1 => ⟨Z, g1, fun u H2 g2 x2 d2 => by
    cases d1
    cases d2
    refine ⟨_, _, rfl, rfl, _, rfl, ?_⟩
    cases hk : decide (n1 ≤ n2) with
    | true => exact iteT ⟨Z, g2, fun w H3 g3 x3 d3 => by
        cases d3
        exact ⟨_, _, rfl, rfl, q _ H3 g3 ((x1.trans x2).trans x3) (by rw [hk]; exact .bl _)⟩⟩
    | false => exact iteF (q _ H2 g2 (x1.trans x2) (by rw [hk]; exact .bl _))⟩⟩
theorem e_chS {n1 n2 n3 : Str} (ha : ED T X true Γ a (.str n1)) (hb : ED T X true Γ b (.str n2)) (hc : ED T X true Γ c (.str n3)) (hm : lastMarks [.LtE, .LtE] [b, c] = false := by with_unfolding_all rfl) : ED T X m Γ (.Compare a [.LtE, .LtE] [b, c] pos) (.bl (!decide (n2.cps.toList < n1.cps.toList) && !decide (n3.cps.toList < n2.cps.toList))) :=
  PE.imp' (pe_chain op_le_str op_le_str ha hb hc hm) fun σ H Q ⟨Z, g, q⟩ => ⟨Z, g, fun v H1 g1 x1 d1 => ⟨Z, g1, fun u H2 g2 x2 d2 => by
    cases d1
    cases d2
    refine ⟨_, _, rfl, rfl, _, rfl, ?_⟩
    cases hk : !decide (n2.cps.toList < n1.cps.toList) with
    | true => exact iteT ⟨Z, g2, fun w H3 g3 x3 d3 => by
        cases d3
        exact ⟨_, _, rfl, rfl, q _ H3 g3 ((x1.trans x2).trans x3) (by rw [hk]; exact .bl _)⟩⟩
    | false => exact iteF (q _ H2 g2 (x1.trans x2) (by rw [hk]; exact .bl _))⟩⟩
theorem b_chI {n1 n2 n3 : Int} (ha : ED T X true Γ a (.int n1)) (hb : ED T X true Γ b (.int n2)) (hc : ED T X true Γ c (.int n3)) (hm : lastMarks [.LtE, .LtE] [b, c] = false := by with_unfolding_all rfl) : BD T X Γ (.Compare a [.LtE, .LtE] [b, c] pos) (decide (n1 ≤ n2) && decide (n2 ≤ n3)) :=
  PT.imp' (pt_chain op_le op_le ha hb hc hm) fun σ H Q ⟨Z, g, q⟩ => ⟨Z, g, fun v H1 g1 x1 d1 => ⟨Z, g1, fun u H2 g2 x2 d2 => by
    cases d1
    cases d2
    refine ⟨_, _, rfl, rfl, _, rfl, ?_⟩
    cases hk : decide (n1 ≤ n2) with
    | true => exact iteT ⟨Z, g2, fun w H3 g3 x3 d3 => by
        cases d3
        exact ⟨_, _, rfl, rfl, _, rfl, by rw [hk] at q; exact q H3 g3 ((x1.trans x2).trans x3)⟩⟩
    | false => exact iteF ⟨_, rfl, by rw [hk] at q; exact q H2 g2 (x1.trans x2)⟩⟩⟩
/-- list(xs) -/
theorem l_listOf (hm : X.mg "list" = none) (h : ID T X Γ a ds) (hg : Gl X "list" := by rfl) (hs : starEach [a] X.env = (false, eval a X.env) :: starEach [] X.env := by rfl) : LD T X Γ (.Call (.Name "list" p) [a] [] pos) ds :=
  PE.imp' (pe_callTy call_list_of hg hm (by decide +kernel) (pa_cons h pa_nil hs) (by decide) (by decide) hs (by rfl)) fun σ H Q ⟨Z, g, q⟩ => ⟨Z, g, fun r vs H1 g1 x1 e1 e2 => ⟨r, vs, rfl, .inl (SqL.of (g1.sub _ _ e1)), fun l hl => q l vs H1 g1 x1 hl e2⟩⟩
/-- xs[::-1] -/
theorem l_rev {k : Nat} {p1 p2 p3 : Pos} (h : ID T X Γ a ds) : LD T X Γ (.Subscript a (.Slice none none (some (.UnaryOp .USub (.Constant (.int 1) k p1) p2)) p3) pos) ds.reverse :=
  PE.imp' (pe_revL h) fun σ H Q ⟨Z, g, q⟩ => ⟨Z, g, fun r vs H1 g1 x1 e1 e2 => ⟨r, vs, rfl, SqL.of (g1.sub _ _ e1), fun l hl => q l _ H1 g1 x1 hl e2.reverse⟩⟩
variable {lo hi : Option Expr} {o1 o2 : Option Int} {p2 : Pos}
/-- a slice of a tuple: another one -/
theorem e_sliceT (ha : ED T X m Γ e (.tup ds)) (hl : PO X lo (tP T X.K Γ o1)) (hh : PO X hi (tP T X.K Γ o2)) (hne : ¬ (HT.sIx ds.length 0 o1 = 0 ∧ HT.sIx ds.length ds.length o2 = ds.length)) : ED T X m Γ (.Subscript e (.Slice lo hi none p2) pos) (.tup (cutD ds o1 o2)) :=
  PE.imp' (pe_slice sl_tup ha hl hh) fun σ H Q ⟨Z, g, q⟩ => ⟨Z, g, fun v H1 g1 x1 d1 => by
    cases d1 with
    | tup e1 e2 =>
      exact ⟨Z, g1, fun H2 g2 x2 => ⟨Z, g2, fun H3 g3 x3 => by
        have e3 := e2.to (rg_ext (x2.trans x3))
        have hc := e3.cut o1 o2
        refine ⟨_, _, rfl, SqT.mono g3.sub (SqT.mono (rg_ext (x2.trans x3)) e1), by rw [e3.length]; exact hne, fun p hp => q _ _ (g3.new hp) (((x1.trans x2).trans x3).trans (Ext.upd hp)) (.tup (SqT.of (rg_new g3 hp (fun _ z => by cases z))) (hc.to (rg_ext (Ext.upd hp))))⟩⟩⟩⟩
/-- tuples, one behind the other -/
theorem e_catT (hne : ds ≠ []) (hne2 : es ≠ []) (hl : ds.length + es.length ≤ 16777216) (ha : ED T X m Γ a (.tup ds)) (hb : ED T X m Γ b (.tup es)) : ED T X m Γ (.BinOp a .Add b pos) (.tup (ds ++ es)) :=
  e_op op_catT (fun Z H σ v u Q g d1 d2 q => by
    cases d1 with
    | tup e1 e2 =>
      cases d2 with
      | tup f1 f2 =>
        refine ⟨_, _, _, _, rfl, rfl, SqT.mono g.sub e1, SqT.mono g.sub f1, ?_, ?_, ?_, ?_⟩
        · intro z
          have := e2.length
          rw [z] at this
          exact hne (List.length_eq_zero_iff.mp this.symm)
        · rw [e2.length, f2.length, sizeLine_eq]
          exact hl
        · intro z
          have := f2.length
          rw [z] at this
          exact absurd (List.length_eq_zero_iff.mp this.symm) hne2
        · intro _ p hp
          exact q _ _ (g.new hp) (Ext.upd hp) (.tup (SqT.of (rg_new g hp (fun _ z => by cases z))) ((e2.append f2).to (rg_ext (Ext.upd hp))))) ha hb
end

/-! ### sorted texts -/
def sle (a b : Str) : Bool := !decide (b.cps.toList < a.cps.toList)
def ssort (xs : List Str) : List Str := xs.mergeSort sle
theorem sle_total (a b : Str) : (sle a b || sle b a) = true := by
  unfold sle
  simp only [Bool.or_eq_true, Bool.not_eq_true', decide_eq_false_iff_not]
  by_cases h : b.cps.toList < a.cps.toList
  · exact .inr (List.lt_asymm h)
  · exact .inl h
theorem sle_trans (a b c : Str) (h1 : sle a b = true) (h2 : sle b c = true) : sle a c = true := by
  unfold sle at *
  simp only [Bool.not_eq_true', decide_eq_false_iff_not] at *
  exact List.le_trans h1 h2
theorem sle_anti {a b : Str} (h1 : sle a b = true) (h2 : sle b a = true) : a = b := by
  unfold sle at *
  simp only [Bool.not_eq_true', decide_eq_false_iff_not] at *
  exact TL.ext_tl (List.le_antisymm h1 h2)
theorem sorted_pair : ∀ {ys : List Str}, PyProof.Rows.sortedS ys = true → ys.Pairwise fun a b => sle a b = true := by
  have key : ∀ (ys : List Str) (p : Str), PyProof.Rows.risingS p ys = true → (p :: ys).Pairwise fun a b => sle a b = true := by
    intro ys
    induction ys with
    | nil => intro p _; simp
    | cons y ys ih =>
      intro p h
      unfold PyProof.Rows.risingS at h
      have h' : sle p y = true ∧ PyProof.Rows.risingS y ys = true := by
        simp only [Bool.and_eq_true] at h
        exact ⟨by unfold sle; rw [PyProof.Rows.le_meets]; exact h.1, h.2⟩
      have q := ih y h'.2
      refine List.pairwise_cons.mpr ⟨fun z hz => ?_, q⟩
      rcases List.mem_cons.mp hz with e | hz
      · subst e; exact h'.1
      · exact sle_trans _ _ _ h'.1 ((List.pairwise_cons.mp q).1 z hz)
  intro ys h
  cases ys with
  | nil => exact .nil
  | cons y ys => exact key ys y h
theorem ssort_eq {xs ys : List Str} (h : ys.Perm xs) (hs : ys.Pairwise fun a b => sle a b = true) : ys = ssort xs := by
  refine List.Perm.eq_of_pairwise (le := fun a b => sle a b = true) (fun a b _ _ h1 h2 => sle_anti h1 h2) hs ?_ (h.trans (List.mergeSort_perm xs sle).symm)
  exact List.pairwise_mergeSort (le := sle) (fun a b c => sle_trans a b c) (fun a b => sle_total a b) xs
section
variable {T : Tb} {X : Cx} {Γ : Ev} {m : Bool} {e a : Expr} {pos p : Pos}
theorem l_sorted {xs : List Str} (hm : X.mg "sorted" = none) (hl : xs.length < 64) (h : ED T X false Γ a (.lst (xs.map D.str))) (hg : Gl X "sorted" := by rfl) (hs : starEach [a] X.env = (false, eval a X.env) :: starEach [] X.env := by rfl) : LD T X Γ (.Call (.Name "sorted" p) [a] [] pos) ((ssort xs).map D.str) :=
  PE.imp' (pe_callB cr_sortedS hg hm (by decide +kernel) (pa_cons h pa_nil hs) (by decide) (by decide) hs (by rfl)) fun σ H Q ⟨Z, g, q⟩ => ⟨Z, g, fun v H1 g1 x1 d1 => by
    cases d1 with
    | lst e1 e2 =>
      have ev := e2.strs
      subst ev
      refine ⟨_, xs, rfl, SqL.of (g1.sub _ _ e1), hl, fun ys p hperm hsrt hp => ?_⟩
      have ey := ssort_eq hperm (sorted_pair hsrt)
      subst ey
      exact q p _ H1 g1 x1 hp (DaAll.of_strs _ fun z hz => e2.sok z (hperm.mem_iff.mp hz))⟩
end

/-! ### comprehensions over typed lists -/
theorem compD_list {α : Type} (as : List α) (p : α → Bool) (h : α → D) (keep : Nat → Bool) (val : Nat → D) (hk : ∀ (i : Nat) (a : α), as[i]? = some a → keep i = p a) (hv : ∀ (i : Nat) (a : α), as[i]? = some a → val i = h a) :
    ∀ n, n ≤ as.length → compD keep val n = ((as.take n).filter p).map h
  | 0, _ => rfl
  | n + 1, hn => by
    have hlt : n < as.length := hn
    have e : as[n]? = some as[n] := by simp [hlt]
    rw [compD_succ, compD_list as p h keep val hk hv n (Nat.le_of_lt hlt), List.take_add_one, e, List.filter_append, List.map_append, hk n _ e, hv n _ e]
    cases q : p as[n] <;> simp [q]
theorem getD_map {α : Type} {f : α → D} {as : List α} {i : Nat} {a : α} (h : as[i]? = some a) : (as.map f).getD i .non = f a := by
  simp [List.getD, h]
section
variable {T : Tb} {X : Cx} {Γ : Ev} {elt iter : Expr} {ifs : List Expr} {scope : Scope} {pos tp : Pos} {x : Str} {j : Nat} {α : Type} {as : List α} {f : α → D}
/-- what the comprehension's block is told of -/
abbrev blkOf (X : Cx) (scope : Scope) (s : Shared) (H : Hp) (C : Addr) (cl : List (Str × Addr)) (fp : List Addr) : Cx := X.blk s H scope (compEnvC scope cl C X.env) fp
theorem l_mapL (j : Nat) (h : α → D) (nd : X.N.Nodup) (hn : as.length ≤ 16777216) (hi : ED T X true Γ iter (.lst (as.map f))) (ok : BlkOk X.N X.env.scope scope [(x, j)])
    (hg : ∀ (s : Shared) (H : Hp) (C : Addr) (cl : List (Str × Addr)) (fp : List Addr), PG (blkOf X scope s H C cl fp) (.Name x tp) (gName j))
    (he : ∀ (s : Shared) (H : Hp) (C : Addr) (cl : List (Str × Addr)) (fp : List Addr) (a : α), a ∈ as → ED T (blkOf X scope s H C cl fp) true ((Γ.set j none).set j (some (.sh (f a)))) elt (h a))
    (hj : j < Γ.length := by exact Nat.le_of_ble_eq_true rfl) (ho : owns (Γ.set j none) = owns Γ := by rfl) (hup : ∀ d, owns ((Γ.set j none).set j (some (.sh d))) = owns (Γ.set j none) := by intro _; rfl) (hc : X.calm = true := by rfl) (hs : ∀ x, foldedSetIterable iter X.env x = pure x := by intro _; rfl) :
    LD T X Γ (.ListComp elt [⟨.Name x tp, iter, [], 0⟩] scope pos) (as.map h) := by
  have hl : (as.map f).length = as.length := by simp
  refine LD.as (l_comp (g := gName j) (keep := fun _ => true) (val := fun i => (as[i]?.map h).getD .non) hc nd (src_list hi) ok hg (fun s H C cl fp i _ => PTs.mk fun pins s' σ H' Q I ⟨Z, g, q⟩ => (pts_nil (X := blkOf X scope s H C cl fp)).run pins s' σ H' Q I (q H' g (Ext.refl H'))) (fun s H C cl fp i hi' _ => ?_) (by rw [hl]; exact hn) (by simpa using hj) (by simp) trivial ho (fun i => hup _) hs) ?_
  · have hlt : i < as.length := by rw [← hl]; exact hi'
    have e : as[i]? = some as[i] := by simp [hlt]
    show ED T (blkOf X scope s H C cl fp) true ((Γ.set j none).set j (some (.sh ((as.map f).getD i .non)))) elt ((as[i]?.map h).getD .non)
    rw [getD_map e, e]
    exact he s H C cl fp as[i] (List.getElem_mem hlt)
  · rw [hl, compD_list as (fun _ => true) h _ _ (fun _ _ _ => rfl) (fun i a e => by simp [e]) as.length (Nat.le_refl _), List.take_length, List.filter_eq_self.mpr (by simp)]
theorem l_filL (j : Nat) (p : α → Bool) (h : α → D) {t : Expr} (nd : X.N.Nodup) (hn : as.length ≤ 16777216) (hi : ED T X true Γ iter (.lst (as.map f))) (ok : BlkOk X.N X.env.scope scope [(x, j)])
    (hg : ∀ (s : Shared) (H : Hp) (C : Addr) (cl : List (Str × Addr)) (fp : List Addr), PG (blkOf X scope s H C cl fp) (.Name x tp) (gName j))
    (ht : ∀ (s : Shared) (H : Hp) (C : Addr) (cl : List (Str × Addr)) (fp : List Addr) (a : α), a ∈ as → BD T (blkOf X scope s H C cl fp) ((Γ.set j none).set j (some (.sh (f a)))) t (p a))
    (he : ∀ (s : Shared) (H : Hp) (C : Addr) (cl : List (Str × Addr)) (fp : List Addr) (a : α), a ∈ as → p a = true → ED T (blkOf X scope s H C cl fp) true ((Γ.set j none).set j (some (.sh (f a)))) elt (h a))
    (hj : j < Γ.length := by exact Nat.le_of_ble_eq_true rfl) (ho : owns (Γ.set j none) = owns Γ := by rfl) (hup : ∀ d, owns ((Γ.set j none).set j (some (.sh d))) = owns (Γ.set j none) := by intro _; rfl) (hc : X.calm = true := by rfl) (hs : ∀ x, foldedSetIterable iter X.env x = pure x := by intro _; rfl) :
    LD T X Γ (.ListComp elt [⟨.Name x tp, iter, [t], 0⟩] scope pos) ((as.filter p).map h) := by
  have hl : (as.map f).length = as.length := by simp
  refine LD.as (l_comp (g := gName j) (keep := fun i => (as[i]?.map p).getD false) (val := fun i => (as[i]?.map h).getD .non) hc nd (src_list hi) ok hg (fun s H C cl fp i hi' => pts_one ?_) (fun s H C cl fp i hi' hk => ?_) (by rw [hl]; exact hn) (by simpa using hj) (by simp) trivial ho (fun i => hup _) hs) ?_
  · have hlt : i < as.length := by rw [← hl]; exact hi'
    have e : as[i]? = some as[i] := by simp [hlt]
    show BD T (blkOf X scope s H C cl fp) ((Γ.set j none).set j (some (.sh ((as.map f).getD i .non)))) t ((as[i]?.map p).getD false)
    rw [getD_map e, e]
    exact ht s H C cl fp as[i] (List.getElem_mem hlt)
  · have hlt : i < as.length := by rw [← hl]; exact hi'
    have e : as[i]? = some as[i] := by simp [hlt]
    show ED T (blkOf X scope s H C cl fp) true ((Γ.set j none).set j (some (.sh ((as.map f).getD i .non)))) elt ((as[i]?.map h).getD .non)
    rw [e] at hk
    rw [getD_map e, e]
    exact he s H C cl fp as[i] (List.getElem_mem hlt) hk
  · rw [hl, compD_list as p h _ _ (fun i a e => by simp [e]) (fun i a e => by simp [e]) as.length (Nat.le_refl _)]
    simp
/-- over range(n) -/
theorem l_mapR (j : Nat) (h : Nat → D) {n : Int} {a : Expr} {rp rpos : Pos} (nd : X.N.Nodup) (hm : X.mg "range" = none) (hn : n.toNat ≤ 16777216) (hi : ED T X true Γ a (.int n)) (ok : BlkOk X.N X.env.scope scope [(x, j)])
    (hg : ∀ (s : Shared) (H : Hp) (C : Addr) (cl : List (Str × Addr)) (fp : List Addr), PG (blkOf X scope s H C cl fp) (.Name x tp) (gName j))
    (he : ∀ (s : Shared) (H : Hp) (C : Addr) (cl : List (Str × Addr)) (fp : List Addr) (i : Nat), i < n.toNat → ED T (blkOf X scope s H C cl fp) true ((Γ.set j none).set j (some (.sh (.int (i : Nat))))) elt (h i))
    (hneg : -(2 ^ 62) ≤ n := by omega) (hj : j < Γ.length := by exact Nat.le_of_ble_eq_true rfl) (ho : owns (Γ.set j none) = owns Γ := by rfl) (hup : ∀ d, owns ((Γ.set j none).set j (some (.sh d))) = owns (Γ.set j none) := by intro _; rfl) (hc : X.calm = true := by rfl) (hgl : Gl X "range" := by rfl) (hst : starEach [a] X.env = [(false, eval a X.env)] := by rfl)
    (hs : ∀ x, foldedSetIterable (.Call (.Name "range" rp) [a] [] rpos) X.env x = pure x := by intro _; rfl) :
    LD T X Γ (.ListComp elt [⟨.Name x tp, .Call (.Name "range" rp) [a] [] rpos, [], 0⟩] scope pos) ((List.range n.toNat).map h) := by
  refine LD.as (l_comp (g := gName j) (keep := fun _ => true) (val := h) hc nd (src_range hm hneg (by omega) hi hgl hst) ok hg (fun s H C cl fp i _ => PTs.mk fun pins s' σ H' Q I ⟨Z, g, q⟩ => (pts_nil (X := blkOf X scope s H C cl fp)).run pins s' σ H' Q I (q H' g (Ext.refl H'))) (fun s H C cl fp i hi' _ => ?_) hn (by simpa using hj) (by simp) trivial ho (fun i => hup _) hs) ?_
  · show ED T (blkOf X scope s H C cl fp) true ((Γ.set j none).set j (some (.sh (.int (0 + (i : Int)))))) elt (h i)
    rw [Int.zero_add]
    exact he s H C cl fp i hi'
  · unfold compD
    rw [List.filter_eq_self.mpr (by simp)]
theorem l_filR (j : Nat) (p : Nat → Bool) (h : Nat → D) {n : Int} {a t : Expr} {rp rpos : Pos} (nd : X.N.Nodup) (hm : X.mg "range" = none) (hn : n.toNat ≤ 16777216) (hi : ED T X true Γ a (.int n)) (ok : BlkOk X.N X.env.scope scope [(x, j)])
    (hg : ∀ (s : Shared) (H : Hp) (C : Addr) (cl : List (Str × Addr)) (fp : List Addr), PG (blkOf X scope s H C cl fp) (.Name x tp) (gName j))
    (ht : ∀ (s : Shared) (H : Hp) (C : Addr) (cl : List (Str × Addr)) (fp : List Addr) (i : Nat), i < n.toNat → BD T (blkOf X scope s H C cl fp) ((Γ.set j none).set j (some (.sh (.int (i : Nat))))) t (p i))
    (he : ∀ (s : Shared) (H : Hp) (C : Addr) (cl : List (Str × Addr)) (fp : List Addr) (i : Nat), i < n.toNat → p i = true → ED T (blkOf X scope s H C cl fp) true ((Γ.set j none).set j (some (.sh (.int (i : Nat))))) elt (h i))
    (hneg : -(2 ^ 62) ≤ n := by omega) (hj : j < Γ.length := by exact Nat.le_of_ble_eq_true rfl) (ho : owns (Γ.set j none) = owns Γ := by rfl) (hup : ∀ d, owns ((Γ.set j none).set j (some (.sh d))) = owns (Γ.set j none) := by intro _; rfl) (hc : X.calm = true := by rfl) (hgl : Gl X "range" := by rfl) (hst : starEach [a] X.env = [(false, eval a X.env)] := by rfl)
    (hs : ∀ x, foldedSetIterable (.Call (.Name "range" rp) [a] [] rpos) X.env x = pure x := by intro _; rfl) :
    LD T X Γ (.ListComp elt [⟨.Name x tp, .Call (.Name "range" rp) [a] [] rpos, [t], 0⟩] scope pos) (((List.range n.toNat).filter p).map h) := by
  refine l_comp (g := gName j) (keep := p) (val := h) hc nd (src_range hm hneg (by omega) hi hgl hst) ok hg (fun s H C cl fp i hi' => pts_one ?_) (fun s H C cl fp i hi' hk => ?_) hn (by simpa using hj) (by simp) trivial ho (fun i => hup _) hs
  · show BD T (blkOf X scope s H C cl fp) ((Γ.set j none).set j (some (.sh (.int (0 + (i : Int)))))) t (p i)
    rw [Int.zero_add]
    exact ht s H C cl fp i hi'
  · show ED T (blkOf X scope s H C cl fp) true ((Γ.set j none).set j (some (.sh (.int (0 + (i : Int)))))) elt (h i)
    rw [Int.zero_add]
    exact he s H C cl fp i hi' hk
/-- over the signs of a text -/
theorem l_mapS (j : Nat) (h : Nat → D) {z : Str} (nd : X.N.Nodup) (hz : SOk z) (hi : ED T X true Γ iter (.str z)) (ok : BlkOk X.N X.env.scope scope [(x, j)])
    (hg : ∀ (s : Shared) (H : Hp) (C : Addr) (cl : List (Str × Addr)) (fp : List Addr), PG (blkOf X scope s H C cl fp) (.Name x tp) (gName j))
    (he : ∀ (s : Shared) (H : Hp) (C : Addr) (cl : List (Str × Addr)) (fp : List Addr) (k : Nat), k ∈ z.cps.toList → ED T (blkOf X scope s H C cl fp) true ((Γ.set j none).set j (some (.sh (.str ⟨#[k]⟩)))) elt (h k))
    (hj : j < Γ.length := by exact Nat.le_of_ble_eq_true rfl) (ho : owns (Γ.set j none) = owns Γ := by rfl) (hup : ∀ d, owns ((Γ.set j none).set j (some (.sh d))) = owns (Γ.set j none) := by intro _; rfl) (hc : X.calm = true := by rfl) (hs : ∀ x, foldedSetIterable iter X.env x = pure x := by intro _; rfl) :
    LD T X Γ (.ListComp elt [⟨.Name x tp, iter, [], 0⟩] scope pos) (z.cps.toList.map h) := by
  have hl : z.cps.toList.length = z.cps.size := by simp
  refine LD.as (l_comp (g := gName j) (keep := fun _ => true) (val := fun i => (z.cps.toList[i]?.map h).getD .non) hc nd (src_str hz hi) ok hg (fun s H C cl fp i _ => PTs.mk fun pins s' σ H' Q I ⟨Z, g, q⟩ => (pts_nil (X := blkOf X scope s H C cl fp)).run pins s' σ H' Q I (q H' g (Ext.refl H'))) (fun s H C cl fp i hi' _ => ?_) (by have := hz.2; show z.cps.size ≤ _; have q : z.length = z.cps.size := rfl; omega) (by simpa using hj) (by simp) trivial ho (fun i => hup _) hs) ?_
  · have hlt : i < z.cps.toList.length := by rw [hl]; exact hi'
    have e : z.cps.toList[i]? = some z.cps.toList[i] := by simp [hlt]
    show ED T (blkOf X scope s H C cl fp) true ((Γ.set j none).set j (some (.sh (.str ⟨#[z.cps.toList.getD i 0]⟩)))) elt ((z.cps.toList[i]?.map h).getD .non)
    have e2 : z.cps.toList.getD i 0 = z.cps.toList[i] := by simp [List.getD, e]
    rw [e2, e]
    exact he s H C cl fp _ (List.getElem_mem hlt)
  · rw [← hl, compD_list z.cps.toList (fun _ => true) h _ _ (fun _ _ _ => rfl) (fun i a e => by simp [e]) _ (Nat.le_refl _), List.take_length, List.filter_eq_self.mpr (by simp)]
end
section
variable {T : Tb} {X : Cx} {Γ : Ev} {iter : Expr} {pos tp : Pos} {x : Str} {α : Type} {as : List α} {f : α → D} {rest body : List Stmt} {P : Pst}
/-- for x in a stable list -/
theorem s_forL (j : Nat) (Γs : Nat → Ev) (L : Nat) (hi : ED T X true Γ iter (.lst (as.map f))) (hg : PG X (.Name x tp) (gName j)) (h0 : Wk Γ (Γs 0)) (hL : ∀ k, (Γs k).length = L) (hj : j < L)
    (hb : ∀ (k : Nat) (a : α), as[k]? = some a → SD T X ((Γs k).set j (some (.sh (f a)))) body { P with nx := fun Γ' => Wk Γ' (Γs (k + 1)) }) (hr : SD T X (Γs as.length) rest P) (hp : PassesOwn (model X.prog X.w) X.A X.env X.xe := by exact PassesOwn.never) (hc : X.calm = true := by rfl) (hs : ∀ x, foldedSetIterable iter X.env x = pure x := by intro _; rfl) :
    SD T X Γ (.For (.Name x tp) iter body [] pos :: rest) P := by
  have hl : (as.map f).length = as.length := by simp
  refine s_for Γs L (src_list hi) hg h0 (fun _ _ => trivial) hL (by simpa using hj) (fun k hk => ?_) (by rw [hl]; exact hr) hp hc hs
  have hlt : k < as.length := by rw [← hl]; exact hk
  have e : as[k]? = some as[k] := by simp [hlt]
  show SD T X ((Γs k).set j (some (.sh ((as.map f).getD k .non)))) body _
  rw [getD_map e]
  exact hb k _ e
/-- for x in an owned list (slot i) that the loop leaves -/
theorem s_forO (i j : Nat) {p : Addr} {y : Str} {yp : Pos} (Γs : Nat → Ev) (L : Nat) (hi : Γ[i]? = some (some (.ow p (.lst (as.map f))))) (hg : PG X (.Name x tp) (gName j)) (h0 : Wk Γ (Γs 0)) (hk : ∀ k, (Γs k)[i]? = some (some (.ow p (.lst (as.map f))))) (hL : ∀ k, (Γs k).length = L) (hj : j < L)
    (hb : ∀ (k : Nat) (a : α), as[k]? = some a → SD T X ((Γs k).set j (some (.sh (f a)))) body { P with nx := fun Γ' => Wk Γ' (Γs (k + 1)) }) (hr : SD T X (Γs as.length) rest P)
    (hN : X.N[i]? = some y := by rfl) (hv : Vis X.env.scope y := by first | exact Or.inl rfl | exact Or.inr (Or.inl rfl) | exact Or.inr (Or.inr rfl)) (hd : (y == ("__debug__" : Str)) = false := by decide) (hcd : (y == ("__classdict__" : Str)) = false := by decide)
    (hp : PassesOwn (model X.prog X.w) X.A X.env X.xe := by exact PassesOwn.never) (hc : X.calm = true := by rfl) (hs : ∀ x, foldedSetIterable (.Name y yp) X.env x = pure x := by intro _; rfl) :
    SD T X Γ (.For (.Name x tp) (.Name y yp) body [] pos :: rest) P := by
  have hl : (as.map f).length = as.length := by simp
  refine s_for Γs L (src_own hi hN hv hd hcd) hg h0 (fun k _ => hk k) hL (by simpa using hj) (fun k hk => ?_) (by rw [hl]; exact hr) hp hc hs
  have hlt : k < as.length := by rw [← hl]; exact hk
  have e : as[k]? = some as[k] := by simp [hlt]
  show SD T X ((Γs k).set j (some (.sh ((as.map f).getD k .non)))) body _
  rw [getD_map e]
  exact hb k _ e
/-- for x in range(n) -/
theorem s_forR (j : Nat) {n : Int} {a : Expr} {rp rpos : Pos} (Γs : Nat → Ev) (L : Nat) (hm : X.mg "range" = none) (hi : ED T X true Γ a (.int n)) (hg : PG X (.Name x tp) (gName j)) (h0 : Wk Γ (Γs 0)) (hL : ∀ k, (Γs k).length = L) (hj : j < L)
    (hb : ∀ (k : Nat), k < n.toNat → SD T X ((Γs k).set j (some (.sh (.int (k : Nat))))) body { P with nx := fun Γ' => Wk Γ' (Γs (k + 1)) }) (hr : SD T X (Γs n.toNat) rest P)
    (h1 : -(2 ^ 62) ≤ n := by omega) (h2 : n < 2 ^ 62 := by omega) (hp : PassesOwn (model X.prog X.w) X.A X.env X.xe := by exact PassesOwn.never) (hc : X.calm = true := by rfl) (hgl : Gl X "range" := by rfl) (hst : starEach [a] X.env = [(false, eval a X.env)] := by rfl)
    (hs : ∀ x, foldedSetIterable (.Call (.Name "range" rp) [a] [] rpos) X.env x = pure x := by intro _; rfl) :
    SD T X Γ (.For (.Name x tp) (.Call (.Name "range" rp) [a] [] rpos) body [] pos :: rest) P := by
  refine s_for Γs L (src_range hm h1 h2 hi hgl hst) hg h0 (fun _ _ => trivial) hL (by simpa using hj) (fun k hk => ?_) hr hp hc hs
  show SD T X ((Γs k).set j (some (.sh (.int (0 + (k : Int)))))) body _
  rw [Int.zero_add]
  exact hb k hk
/-- for i, x in enumerate(a stable list) -/
theorem s_forE (j1 j2 : Nat) {a : Expr} {ep epos : Pos} {elts : List Expr} {kk : Nat} (Γs : Nat → Ev) (L : Nat) (hm : X.mg "enumerate" = none) (hi : ED T X true Γ a (.lst (as.map f))) (hg : PG X (.Tuple elts kk tp) (g2 X.K j1 j2)) (h0 : Wk Γ (Γs 0)) (hL : ∀ k, (Γs k).length = L) (hj1 : j1 < L) (hj2 : j2 < L)
    (hb : ∀ (k : Nat) (a : α), as[k]? = some a → SD T X (((Γs k).set j1 (some (.sh (.int (k : Nat))))).set j2 (some (.sh (f a)))) body { P with nx := fun Γ' => Wk Γ' (Γs (k + 1)) }) (hr : SD T X (Γs as.length) rest P)
    (hp : PassesOwn (model X.prog X.w) X.A X.env X.xe := by exact PassesOwn.never) (hc : X.calm = true := by rfl) (hgl : Gl X "enumerate" := by rfl) (hst : starEach [a] X.env = [(false, eval a X.env)] := by rfl)
    (hs : ∀ x, foldedSetIterable (.Call (.Name "enumerate" ep) [a] [] epos) X.env x = pure x := by intro _; rfl) :
    SD T X Γ (.For (.Tuple elts kk tp) (.Call (.Name "enumerate" ep) [a] [] epos) body [] pos :: rest) P := by
  have hl : (as.map f).length = as.length := by simp
  refine s_for Γs L (src_enum hm hi hgl hst) hg h0 (fun _ _ => trivial) hL (by intro j hj; simp only [List.mem_cons, List.not_mem_nil, or_false] at hj; rcases hj with rfl | rfl <;> assumption) (fun k hk => ?_) (by rw [hl]; exact hr) hp hc hs
  have hlt : k < as.length := by rw [← hl]; exact hk
  have e : as[k]? = some as[k] := by simp [hlt]
  show SD T X (((Γs k).set j1 (some (.sh (.int (k : Nat))))).set j2 (some (.sh ((as.map f).getD k .non)))) body _
  rw [getD_map e]
  exact hb k _ e
/-- for a, b in zip(two stable lists of one length) -/
theorem s_forZ (j1 j2 : Nat) {β : Type} {bs : List β} {g : β → D} {a b : Expr} {ep epos : Pos} {elts : List Expr} {kk : Nat} (Γs : Nat → Ev) (L : Nat) (hm : X.mg "zip" = none) (hlen : as.length = bs.length) (ha : ED T X true Γ a (.lst (as.map f))) (hb' : ED T X true Γ b (.lst (bs.map g))) (hg : PG X (.Tuple elts kk tp) (g2 X.K j1 j2)) (h0 : Wk Γ (Γs 0)) (hL : ∀ k, (Γs k).length = L) (hj1 : j1 < L) (hj2 : j2 < L)
    (hb : ∀ (k : Nat) (a : α) (b : β), as[k]? = some a → bs[k]? = some b → SD T X (((Γs k).set j1 (some (.sh (f a)))).set j2 (some (.sh (g b)))) body { P with nx := fun Γ' => Wk Γ' (Γs (k + 1)) }) (hr : SD T X (Γs as.length) rest P)
    (hp : PassesOwn (model X.prog X.w) X.A X.env X.xe := by exact PassesOwn.never) (hc : X.calm = true := by rfl) (hgl : Gl X "zip" := by rfl) (hs2 : starEach [b] X.env = (false, eval b X.env) :: starEach [] X.env := by rfl)
    (hst : starEach [a, b] X.env = (false, eval a X.env) :: starEach [b] X.env := by rfl) (hpl : (backTo epos (starEach [b] X.env)).any (·.1) = false := by rfl) (hs : ∀ x, foldedSetIterable (.Call (.Name "zip" ep) [a, b] [] epos) X.env x = pure x := by intro _; rfl) :
    SD T X Γ (.For (.Tuple elts kk tp) (.Call (.Name "zip" ep) [a, b] [] epos) body [] pos :: rest) P := by
  have hl : (as.map f).length = as.length := by simp
  refine s_for Γs L (src_zip hm (by simp [hlen]) ha hb' hgl hs2 hst hpl) hg h0 (fun _ _ => trivial) hL (by intro j hj; simp only [List.mem_cons, List.not_mem_nil, or_false] at hj; rcases hj with rfl | rfl <;> assumption) (fun k hk => ?_) (by rw [hl]; exact hr) hp hc hs
  have hlt : k < as.length := by rw [← hl]; exact hk
  have hlt2 : k < bs.length := by omega
  have e : as[k]? = some as[k] := by simp [hlt]
  have e2 : bs[k]? = some bs[k] := by simp [hlt2]
  show SD T X (((Γs k).set j1 (some (.sh ((as.map f).getD k .non)))).set j2 (some (.sh ((bs.map g).getD k .non)))) body _
  rw [getD_map e, getD_map e2]
  exact hb k _ _ e e2
end
end DD

/-! Names of built-ins, lists of numbers handed in, states of loops, small facts. -/
namespace DD
open PySem PySem.Spec L2

/-- the names of the built-ins are free -/
structure Bt (mg : Str → Option Value) : Prop where
  len : mg "len" = none
  all : mg "all" = none
  any : mg "any" = none
  sorted : mg "sorted" = none
  range : mg "range" = none
  str : mg "str" = none
  int : mg "int" = none
  list : mg "list" = none
  dict : mg "dict" = none
  set : mg "set" = none
  min : mg "min" = none
  max : mg "max" = none
  zip : mg "zip" = none
  enumerate : mg "enumerate" = none
  repr : mg "repr" = none
  isinstance : mg "isinstance" = none
  bool : mg "bool" = none
  tuple : mg "tuple" = none

/-! ### a list of numbers: the script or one of our own -/
def ILd (d : D) (ns : List Int) : Prop := d = .scr ns ∨ d = .lst (ns.map D.int)
section
variable {T : Tb} {X : Cx} {Γ : Ev} {m ma mb : Bool} {e a b c : Expr} {d da db dc : D} {pos p : Pos} {i : Nat} {x : Str} {ds es : List D}
theorem atI_map {α β : Type} (f : α → β) {xs : List α} {n : Int} {a : α} (h : atI xs n = some a) : atI (xs.map f) n = some (f a) := by
  unfold atI at *
  rw [List.length_map]
  cases hj : ixN xs.length n with
  | none => rw [hj] at h; cases h
  | some j =>
    rw [hj] at h
    have h' : xs[j]? = some a := h
    show (xs.map f)[j]? = some (f a)
    rw [List.getElem?_map, h']
    rfl
theorem atI_nat {α : Type} {xs : List α} {n : Int} {a : α} (h0 : 0 ≤ n) (h : xs[n.toNat]? = some a) : atI xs n = some a := by
  have hl : n.toNat < xs.length := (List.getElem?_eq_some_iff.mp h).1
  unfold atI ixN
  rw [if_pos h0, if_pos (by omega)]
  exact h
theorem atI_getD {α : Type} {xs : List α} {n : Int} (z : α) (h0 : 0 ≤ n) (h : n < xs.length) : atI xs n = some (xs.getD n.toNat z) := by
  have hl : n.toNat < xs.length := by omega
  exact atI_nat h0 (by simp [List.getD, hl])
theorem atI_last {α : Type} {xs : List α} (h : xs ≠ []) : atI xs (-1) = some (xs.getLast h) := by
  have hl : 0 < xs.length := List.length_pos_iff.mpr h
  unfold atI ixN
  rw [if_neg (by omega), if_pos (by omega)]
  show xs[(-1 + (xs.length : Int)).toNat]? = _
  have e : (-1 + (xs.length : Int)).toNat = xs.length - 1 := by omega
  rw [e, List.getLast_eq_getElem, List.getElem?_eq_getElem]
theorem e_ixScr {n k : Int} {ns : List Int} (h : atI ns n = some k) (ha : ED T X m Γ a (.scr ns)) (hb : ED T X true Γ b (.int n)) (hs : PlainIx b := by exact fun _ _ => rfl) : ED T X m Γ (.Subscript a b pos) (.int k) :=
  PE.imp' (pe_ix ix_list ha hb hs) fun σ H Q ⟨Z, g, q⟩ => ⟨Z, g, fun v H1 g1 x1 d1 => ⟨Z, g1, fun u H2 g2 x2 d2 => by
    cases d2
    cases d1 with
    | scr _ e1 =>
      exact ⟨_, _, n, .int k, rfl, rfl, SqL.mono g2.sub (SqL.mono (rg_ext x2) e1), atI_map V.int h, q _ H2 g2 (x1.trans x2) (.int k)⟩⟩⟩
theorem e_ixIL {n k : Int} {ns : List Int} (hd : ILd d ns) (h : atI ns n = some k) (ha : ED T X m Γ a d) (hb : ED T X true Γ b (.int n)) (hs : PlainIx b := by exact fun _ _ => rfl) : ED T X m Γ (.Subscript a b pos) (.int k) := by
  rcases hd with rfl | rfl
  · exact e_ixScr h ha hb hs
  · exact e_ixR (atI_map D.int h) ha hb hs
theorem e_lenIL {ns : List Int} (hd : ILd d ns) (hm : X.mg "len" = none) (h : ED T X false Γ a d) (hg : Gl X "len" := by rfl) (hs : starEach [a] X.env = (false, eval a X.env) :: starEach [] X.env := by rfl) : ED T X m Γ (.Call (.Name "len" p) [a] [] pos) (.int ns.length) := by
  rcases hd with rfl | rfl
  · exact e_lenScr hm h hg hs
  · have := e_lenL (m := m) (p := p) (pos := pos) hm h hg hs
    rwa [List.length_map] at this
variable {lo hi : Option Expr} {o1 o2 : Option Int} {p2 : Pos}
theorem l_sliceIL {ns : List Int} (hd : ILd d ns) (ha : ED T X true Γ e d) (hl : PO X lo (tP T X.K Γ o1)) (hh : PO X hi (tP T X.K Γ o2)) : LD T X Γ (.Subscript e (.Slice lo hi none p2) pos) ((cutD ns o1 o2).map D.int) := by
  rcases hd with rfl | rfl
  · exact l_sliceScr ha hl hh
  · exact (l_slice (i_of_e ha) hl hh).as (cutD_map _ _ _ _)
/-- tuples, one behind the other, empty ones too -/
theorem e_catA (hl : ds.length + es.length ≤ 16777216) (ha : ED T X m Γ a (.tup ds)) (hb : ED T X m Γ b (.tup es)) : ED T X m Γ (.BinOp a .Add b pos) (.tup (ds ++ es)) :=
  e_op op_catA (fun Z H σ v u Q g d1 d2 q => by
    cases d1 with
    | tup e1 e2 =>
      cases d2 with
      | tup f1 f2 =>
        rename_i a1 vs b1 ws
        refine ⟨_, _, _, _, rfl, rfl, SqT.mono g.sub e1, SqT.mono g.sub f1, ?_, ?_, ?_, ?_⟩
        · rw [e2.length, f2.length, sizeLine_eq]
          exact hl
        · intro z
          subst z
          cases e2
          exact q _ _ g (Ext.refl H) (by rw [List.nil_append]; exact .tup f1 f2)
        · intro _ z
          subst z
          cases f2
          exact q _ _ g (Ext.refl H) (by rw [List.append_nil]; exact .tup e1 e2)
        · intro _ _ p hp
          exact q _ _ (g.new hp) (Ext.upd hp) (.tup (SqT.of (rg_new g hp (fun _ z => by cases z))) ((e2.append f2).to (rg_ext (Ext.upd hp))))) ha hb
/-- a slice of a tuple, the whole of it too -/
theorem e_sliceA (ha : ED T X m Γ e (.tup ds)) (hl : PO X lo (tP T X.K Γ o1)) (hh : PO X hi (tP T X.K Γ o2)) : ED T X m Γ (.Subscript e (.Slice lo hi none p2) pos) (.tup (cutD ds o1 o2)) :=
  PE.imp' (pe_slice sl_tupA ha hl hh) fun σ H Q ⟨Z, g, q⟩ => ⟨Z, g, fun v H1 g1 x1 d1 => by
    cases d1 with
    | tup e1 e2 =>
      exact ⟨Z, g1, fun H2 g2 x2 => ⟨Z, g2, fun H3 g3 x3 => by
        have e3 := e2.to (rg_ext (x2.trans x3))
        have hc := e3.cut o1 o2
        refine ⟨_, _, rfl, SqT.mono g3.sub (SqT.mono (rg_ext (x2.trans x3)) e1), fun z => ?_, fun _ p hp => q _ _ (g3.new hp) (((x1.trans x2).trans x3).trans (Ext.upd hp)) (.tup (SqT.of (rg_new g3 hp (fun _ z => by cases z))) (hc.to (rg_ext (Ext.upd hp))))⟩
        have ec : cutD ds o1 o2 = ds := by
          rw [e3.length] at z
          unfold cutD
          rw [z.1, z.2, List.drop_zero, Nat.sub_zero, List.take_length]
        rw [ec] at q
        exact q _ _ g3 ((x1.trans x2).trans x3) (.tup (SqT.mono (rg_ext (x2.trans x3)) e1) e3)⟩⟩⟩
end

/-! ### the state of a loop -/
def nst {α σ : Type} (step : Nat → α → σ → σ) (s0 : σ) (as : List α) : Nat → σ
  | 0 => s0
  | k + 1 => match as[k]? with
    | some a => step k a (nst step s0 as k)
    | none => nst step s0 as k
theorem nst_succ {α σ : Type} {step : Nat → α → σ → σ} {s0 : σ} {as : List α} {k : Nat} {a : α} (h : as[k]? = some a) : nst step s0 as (k + 1) = step k a (nst step s0 as k) := by
  rw [nst, h]
theorem nst_inv {α σ : Type} {step : Nat → α → σ → σ} {s0 : σ} {as : List α} (I : Nat → σ → Prop) (h0 : I 0 s0) (hs : ∀ k a s, as[k]? = some a → I k s → I (k + 1) (step k a s)) : ∀ k, k ≤ as.length → I k (nst step s0 as k)
  | 0, _ => h0
  | k + 1, h => by
    have hk : k < as.length := h
    have e : as[k]? = some as[k] := by simp [hk]
    rw [nst_succ e]
    exact hs k _ _ e (nst_inv I h0 hs k (Nat.le_of_lt hk))
/-- over range(n) -/
def nrg {σ : Type} (step : Nat → σ → σ) (s0 : σ) : Nat → σ
  | 0 => s0
  | k + 1 => step k (nrg step s0 k)
theorem nrg_inv {σ : Type} {step : Nat → σ → σ} {s0 : σ} {n : Nat} (I : Nat → σ → Prop) (h0 : I 0 s0) (hs : ∀ k s, k < n → I k s → I (k + 1) (step k s)) : ∀ k, k ≤ n → I k (nrg step s0 k)
  | 0, _ => h0
  | k + 1, h => hs k _ h (nrg_inv I h0 hs k (Nat.le_of_lt h))

/-! ### small facts about texts -/
theorem len_app (x y : Str) : (x ++ y).length = x.length + y.length := by
  show (x.cps ++ y.cps).size = _
  rw [Array.size_append]; rfl
theorem cps_app (x y : Str) : (x ++ y).cps.toList = x.cps.toList ++ y.cps.toList := by
  show (x.cps ++ y.cps).toList = _
  simp
theorem len_cps (x : Str) : x.length = x.cps.toList.length := by simp [Str.length]
end DD

/-! The defs of the joined program. -/
namespace KK
open PySem PySem.Spec L2 DD
def top (i : Nat) : Stmt := PySem.Challenge.pw_patchweave_k02_changes_written.main.body.getD i (.Pass ⟨0, 0, 0, 0⟩)
abbrev st_is_name : Stmt := top 11
abbrev nm_is_name : List Str := ["thing", "sign"]
theorem sc_is_name : FnScope nm_is_name ["thing"] (defScope st_is_name) := ⟨rfl, rfl, rfl, by decide +kernel, rfl, by decide +kernel, by decide +kernel⟩
theorem nd_is_name : (nm_is_name : List Str).Nodup := by decide +kernel
abbrev st_is_line : Stmt := top 12
abbrev nm_is_line : List Str := ["thing", "sign"]
theorem sc_is_line : FnScope nm_is_line ["thing"] (defScope st_is_line) := ⟨rfl, rfl, rfl, by decide +kernel, rfl, by decide +kernel, by decide +kernel⟩
theorem nd_is_line : (nm_is_line : List Str).Nodup := by decide +kernel
abbrev st_is_rising : Stmt := top 13
abbrev nm_is_rising : List Str := ["names", "one", "other"]
theorem sc_is_rising : FnScope nm_is_rising ["names"] (defScope st_is_rising) := ⟨rfl, rfl, rfl, by decide +kernel, rfl, by decide +kernel, by decide +kernel⟩
theorem nd_is_rising : (nm_is_rising : List Str).Nodup := by decide +kernel
abbrev st_is_deed : Stmt := top 14
abbrev nm_is_deed : List Str := ["deed"]
theorem sc_is_deed : FnScope nm_is_deed ["deed"] (defScope st_is_deed) := ⟨rfl, rfl, rfl, by decide +kernel, rfl, by decide +kernel, by decide +kernel⟩
theorem nd_is_deed : (nm_is_deed : List Str).Nodup := by decide +kernel
abbrev st_check : Stmt := top 15
abbrev nm_check : List Str := ["change", "name", "leans", "deeds", "deed", "lean"]
theorem sc_check : FnScope nm_check ["change"] (defScope st_check) := ⟨rfl, rfl, rfl, by decide +kernel, rfl, by decide +kernel, by decide +kernel⟩
theorem nd_check : (nm_check : List Str).Nodup := by decide +kernel
abbrev st_mark_written : Stmt := top 19
abbrev nm_mark_written : List Str := ["mark"]
theorem sc_mark_written : FnScope nm_mark_written ["mark"] (defScope st_mark_written) := ⟨rfl, rfl, rfl, by decide +kernel, rfl, by decide +kernel, by decide +kernel⟩
theorem nd_mark_written : (nm_mark_written : List Str).Nodup := by decide +kernel
abbrev st_deed_written : Stmt := top 20
abbrev nm_deed_written : List Str := ["deed", "row"]
theorem sc_deed_written : FnScope nm_deed_written ["deed"] (defScope st_deed_written) := ⟨rfl, rfl, rfl, by decide +kernel, rfl, by decide +kernel, by decide +kernel⟩
theorem nd_deed_written : (nm_deed_written : List Str).Nodup := by decide +kernel
abbrev st_written : Stmt := top 21
abbrev nm_written : List Str := ["change", "head", "deed"]
theorem sc_written : FnScope nm_written ["change"] (defScope st_written) := ⟨rfl, rfl, rfl, by decide +kernel, rfl, by decide +kernel, by decide +kernel⟩
theorem nd_written : (nm_written : List Str).Nodup := by decide +kernel
abbrev st_number_read : Stmt := top 22
abbrev nm_number_read : List Str := ["word", "sign"]
theorem sc_number_read : FnScope nm_number_read ["word"] (defScope st_number_read) := ⟨rfl, rfl, rfl, by decide +kernel, rfl, by decide +kernel, by decide +kernel⟩
theorem nd_number_read : (nm_number_read : List Str).Nodup := by decide +kernel
abbrev st_mark_read : Stmt := top 23
abbrev nm_mark_read : List Str := ["told", "name", "blank", "number"]
theorem sc_mark_read : FnScope nm_mark_read ["told"] (defScope st_mark_read) := ⟨rfl, rfl, rfl, by decide +kernel, rfl, by decide +kernel, by decide +kernel⟩
theorem nd_mark_read : (nm_mark_read : List Str).Nodup := by decide +kernel
abbrev st_deed_read : Stmt := top 24
abbrev nm_deed_read : List Str := ["row", "word", "blank", "rest", "told", "colon", "line"]
theorem sc_deed_read : FnScope nm_deed_read ["row"] (defScope st_deed_read) := ⟨rfl, rfl, rfl, by decide +kernel, rfl, by decide +kernel, by decide +kernel⟩
theorem nd_deed_read : (nm_deed_read : List Str).Nodup := by decide +kernel
abbrev st_head_read : Stmt := top 25
abbrev nm_head_read : List Str := ["row", "words"]
theorem sc_head_read : FnScope nm_head_read ["row"] (defScope st_head_read) := ⟨rfl, rfl, rfl, by decide +kernel, rfl, by decide +kernel, by decide +kernel⟩
theorem nd_head_read : (nm_head_read : List Str).Nodup := by decide +kernel
abbrev st_read : Stmt := top 26
abbrev nm_read : List Str := ["text", "rows", "name", "leans", "change", "row"]
theorem sc_read : FnScope nm_read ["text"] (defScope st_read) := ⟨rfl, rfl, rfl, by decide +kernel, rfl, by decide +kernel, by decide +kernel⟩
theorem nd_read : (nm_read : List Str).Nodup := by decide +kernel
abbrev st_l_cell : Stmt := top 28
abbrev nm_l_cell : List Str := ["_law_script", "_law_k"]
theorem sc_l_cell : FnScope nm_l_cell ["_law_script", "_law_k"] (defScope st_l_cell) := ⟨rfl, rfl, rfl, by decide +kernel, rfl, by decide +kernel, by decide +kernel⟩
theorem nd_l_cell : (nm_l_cell : List Str).Nodup := by decide +kernel
abbrev st_l_mixed : Stmt := top 29
abbrev nm_l_mixed : List Str := ["_law_cell_here", "_law_k"]
theorem sc_l_mixed : FnScope nm_l_mixed ["_law_cell_here", "_law_k"] (defScope st_l_mixed) := ⟨rfl, rfl, rfl, by decide +kernel, rfl, by decide +kernel, by decide +kernel⟩
theorem nd_l_mixed : (nm_l_mixed : List Str).Nodup := by decide +kernel
abbrev st_l_name : Stmt := top 30
abbrev nm_l_name : List Str := ["_law_cell_here", "_law_taken", "_law_signs", "_law_left", "_law_found", "_law_at", "_law_j"]
theorem sc_l_name : FnScope nm_l_name ["_law_cell_here", "_law_taken"] (defScope st_l_name) := ⟨rfl, rfl, rfl, by decide +kernel, rfl, by decide +kernel, by decide +kernel⟩
theorem nd_l_name : (nm_l_name : List Str).Nodup := by decide +kernel
abbrev st_l_line : Stmt := top 31
abbrev nm_l_line : List Str := ["_law_cell_here", "_law_some", "_law_size", "_law_found", "_law_j"]
theorem sc_l_line : FnScope nm_l_line ["_law_cell_here"] (defScope st_l_line) := ⟨rfl, rfl, rfl, by decide +kernel, rfl, by decide +kernel, by decide +kernel⟩
theorem nd_l_line : (nm_l_line : List Str).Nodup := by decide +kernel
abbrev st_l_leans : Stmt := top 32
abbrev nm_l_leans : List Str := ["_law_cell_here", "_law_ahead", "_law_left", "_law_found", "_law_k", "_law_change", "_law_last"]
theorem sc_l_leans : FnScope nm_l_leans ["_law_cell_here", "_law_ahead"] (defScope st_l_leans) := ⟨rfl, rfl, rfl, by decide +kernel, rfl, by decide +kernel, by decide +kernel⟩
theorem nd_l_leans : (nm_l_leans : List Str).Nodup := by decide +kernel
abbrev st_l_marks : Stmt := top 33
abbrev nm_l_marks : List Str := ["_law_change", "_law_many", "_law_deed", "_law_j"]
theorem sc_l_marks : FnScope nm_l_marks ["_law_change"] (defScope st_l_marks) := ⟨rfl, rfl, rfl, by decide +kernel, rfl, by decide +kernel, by decide +kernel⟩
theorem nd_l_marks : (nm_l_marks : List Str).Nodup := by decide +kernel
abbrev st_l_deeds : Stmt := top 34
abbrev nm_l_deeds : List Str := ["_law_name_here", "_law_cell_here", "_law_many", "_law_marks_here", "_law_deeds_here", "_law_own", "_law_k", "_law_known", "_law_left", "_law_at", "_law_line_here", "_law_mark", "_law_j"]
theorem sc_l_deeds : FnScope nm_l_deeds ["_law_name_here", "_law_cell_here", "_law_many", "_law_marks_here"] (defScope st_l_deeds) := ⟨rfl, rfl, rfl, by decide +kernel, rfl, by decide +kernel, by decide +kernel⟩
theorem nd_l_deeds : (nm_l_deeds : List Str).Nodup := by decide +kernel
abbrev st_l_changes : Stmt := top 35
abbrev nm_l_changes : List Str := ["_law_cells", "_law_most", "_law_found", "_law_taken", "_law_k", "_law_name_here", "_law_leans_here", "_law_marks_here", "_law_change", "_law_many"]
theorem sc_l_changes : FnScope nm_l_changes ["_law_cells", "_law_most"] (defScope st_l_changes) := ⟨rfl, rfl, rfl, by decide +kernel, rfl, by decide +kernel, by decide +kernel⟩
theorem nd_l_changes : (nm_l_changes : List Str).Nodup := by decide +kernel
abbrev st_l_numbered : Stmt := top 36
abbrev nm_l_numbered : List Str := ["_law_change", "_law_cell_here", "_law_deeds_here", "_law_k", "_law_deed", "_law_mark"]
theorem sc_l_numbered : FnScope nm_l_numbered ["_law_change", "_law_cell_here"] (defScope st_l_numbered) := ⟨rfl, rfl, rfl, by decide +kernel, rfl, by decide +kernel, by decide +kernel⟩
theorem nd_l_numbered : (nm_l_numbered : List Str).Nodup := by decide +kernel
abbrev st_l_one : Stmt := top 37
abbrev nm_l_one : List Str := ["_law_script", "_law_most", "_law_changes_here", "_law_cell_here"]
theorem sc_l_one : FnScope nm_l_one ["_law_script", "_law_most"] (defScope st_l_one) := ⟨rfl, rfl, rfl, by decide +kernel, rfl, by decide +kernel, by decide +kernel⟩
theorem nd_l_one : (nm_l_one : List Str).Nodup := by decide +kernel
abbrev st_l_mark_row : Stmt := top 38
abbrev nm_l_mark_row : List Str := ["_law_mark"]
theorem sc_l_mark_row : FnScope nm_l_mark_row ["_law_mark"] (defScope st_l_mark_row) := ⟨rfl, rfl, rfl, by decide +kernel, rfl, by decide +kernel, by decide +kernel⟩
theorem nd_l_mark_row : (nm_l_mark_row : List Str).Nodup := by decide +kernel
abbrev st_l_deed_row : Stmt := top 39
abbrev nm_l_deed_row : List Str := ["_law_deed"]
theorem sc_l_deed_row : FnScope nm_l_deed_row ["_law_deed"] (defScope st_l_deed_row) := ⟨rfl, rfl, rfl, by decide +kernel, rfl, by decide +kernel, by decide +kernel⟩
theorem nd_l_deed_row : (nm_l_deed_row : List Str).Nodup := by decide +kernel
abbrev st_l_written : Stmt := top 40
abbrev nm_l_written : List Str := ["_law_change", "_law_rows", "_law_deed"]
theorem sc_l_written : FnScope nm_l_written ["_law_change"] (defScope st_l_written) := ⟨rfl, rfl, rfl, by decide +kernel, rfl, by decide +kernel, by decide +kernel⟩
theorem nd_l_written : (nm_l_written : List Str).Nodup := by decide +kernel
abbrev st_l_deed_like : Stmt := top 41
abbrev nm_l_deed_like : List Str := ["_law_found", "_law_due", "_law_mark", "_law_one_here"]
theorem sc_l_deed_like : FnScope nm_l_deed_like ["_law_found", "_law_due"] (defScope st_l_deed_like) := ⟨rfl, rfl, rfl, by decide +kernel, rfl, by decide +kernel, by decide +kernel⟩
theorem nd_l_deed_like : (nm_l_deed_like : List Str).Nodup := by decide +kernel
abbrev st_l_change_like : Stmt := top 42
abbrev nm_l_change_like : List Str := ["_law_found", "_law_due", "_law_lean", "_law_one_here", "_law_other"]
theorem sc_l_change_like : FnScope nm_l_change_like ["_law_found", "_law_due"] (defScope st_l_change_like) := ⟨rfl, rfl, rfl, by decide +kernel, rfl, by decide +kernel, by decide +kernel⟩
theorem nd_l_change_like : (nm_l_change_like : List Str).Nodup := by decide +kernel
abbrev st_l_copy : Stmt := top 43
abbrev nm_l_copy : List Str := ["_law_change"]
theorem sc_l_copy : FnScope nm_l_copy ["_law_change"] (defScope st_l_copy) := ⟨rfl, rfl, rfl, by decide +kernel, rfl, by decide +kernel, by decide +kernel⟩
theorem nd_l_copy : (nm_l_copy : List Str).Nodup := by decide +kernel
abbrev st_law : Stmt := top 44
abbrev nm_law : List Str := ["_law_script", "_law_change", "_law_handed", "_law_found", "_law_held", "_law_again"]
theorem sc_law : FnScope nm_law ["_law_script"] (defScope st_law) := ⟨rfl, rfl, rfl, by decide +kernel, rfl, by decide +kernel, by decide +kernel⟩
theorem nd_law : (nm_law : List Str).Nodup := by decide +kernel
/-- what the walk over the head tells -/
structure Pr (K : PySem.W.Frag) (mg : Str → Option Value) : Prop where
  bt : Bt mg
  f_is_name : Df K mg "is_name" st_is_name
  f_is_line : Df K mg "is_line" st_is_line
  f_is_rising : Df K mg "is_rising" st_is_rising
  f_is_deed : Df K mg "is_deed" st_is_deed
  f_check : Df K mg "check" st_check
  f_mark_written : Df K mg "mark_written" st_mark_written
  f_deed_written : Df K mg "deed_written" st_deed_written
  f_written : Df K mg "written" st_written
  f_number_read : Df K mg "number_read" st_number_read
  f_mark_read : Df K mg "mark_read" st_mark_read
  f_deed_read : Df K mg "deed_read" st_deed_read
  f_head_read : Df K mg "head_read" st_head_read
  f_read : Df K mg "read" st_read
  f_l_cell : Df K mg "_law_cell" st_l_cell
  f_l_mixed : Df K mg "_law_mixed" st_l_mixed
  f_l_name : Df K mg "_law_name" st_l_name
  f_l_line : Df K mg "_law_line" st_l_line
  f_l_leans : Df K mg "_law_leans" st_l_leans
  f_l_marks : Df K mg "_law_marks" st_l_marks
  f_l_deeds : Df K mg "_law_deeds" st_l_deeds
  f_l_changes : Df K mg "_law_changes" st_l_changes
  f_l_numbered : Df K mg "_law_numbered" st_l_numbered
  f_l_one : Df K mg "_law_one" st_l_one
  f_l_mark_row : Df K mg "_law_mark_row" st_l_mark_row
  f_l_deed_row : Df K mg "_law_deed_row" st_l_deed_row
  f_l_written : Df K mg "_law_written" st_l_written
  f_l_deed_like : Df K mg "_law_deed_like" st_l_deed_like
  f_l_change_like : Df K mg "_law_change_like" st_l_change_like
  f_l_copy : Df K mg "_law_copy" st_l_copy
  f_law : Df K mg "law" st_law
  k_SIGNS : ∃ t, mg "SIGNS" = some (.str "abcdefghijklmnopqrstuvwxyz0123456789" t)
  k_WORDS : ∃ a, mg "WORDS" = some (.ref a) ∧ ∀ G, SqT K G a ((["add", "cut", "set"] : List Str).map V.str)
  k_MOST_SIGNS : ∃ t, mg "MOST_SIGNS" = some (.int 12 t)
  k_MOST_LINE : ∃ t, mg "MOST_LINE" = some (.int 200 t)
  k_MOST_DEEDS : ∃ t, mg "MOST_DEEDS" = some (.int 20 t)
  k_FIGURES : ∃ t, mg "FIGURES" = some (.str "0123456789" t)
  k_MOST_FIGURES : ∃ t, mg "MOST_FIGURES" = some (.int 9 t)
end KK

/-! Marks, deeds, changes as data. -/
namespace DD
open PySem PySem.Spec L2

theorem enc_pair {α β : Type} [DecidableEq α] [DecidableEq β] {f : α → D} {g : β → D} {n : Nat} (E : Enc f n) (E' : Enc g n) : Enc (fun p : α × β => .tup [f p.1, g p.2]) (n + 1) :=
  ⟨fun a => by simp [plainD, plainDs, E.pl, E'.pl], fun a => by
    have h1 := E.dp a.1
    have h2 := E'.dp a.2
    simp only [toPy, toPys, PyData.depth, PyData.depthAll]
    omega, fun a b => by
    obtain ⟨a1, a2⟩ := a
    obtain ⟨b1, b2⟩ := b
    simp only [toPy, toPys, PyData.eqv, PyData.eqvAll, E.eq, E'.eq, Prod.mk.injEq]
    by_cases h : a1 = b1 <;> by_cases h' : a2 = b2 <;> simp [h, h']⟩
def eOp {α : Type} (f : α → D) : Option α → D
  | none => .non
  | some a => f a
theorem enc_opt {α : Type} [DecidableEq α] {f : α → D} {n : Nat} (E : Enc f n) (h1 : ∀ a, PyData.eqv .none (toPy (f a)) = false) (h2 : ∀ a, PyData.eqv (toPy (f a)) .none = false) : Enc (eOp f) n :=
  ⟨fun a => by cases a with
    | none => rfl
    | some a => exact E.pl a, fun a => by cases a with
    | none => simp [eOp, toPy, PyData.depth]
    | some a => exact E.dp a, fun a b => by
    cases a with
    | none => cases b with
      | none => simp [eOp, toPy, PyData.eqv]
      | some b => simp [eOp, toPy, h1 b]
    | some a => cases b with
      | none => simp [eOp, toPy, h2 a]
      | some b => simp [eOp, E.eq]⟩

abbrev Mk := Str × Int
/-- word, mark, line -/
abbrev Dd := Str × Option Mk × Option Str
/-- name, leans, deeds -/
abbrev Ch := Str × List Str × List Dd
def eMk (m : Mk) : D := .tup [.str m.1, .int m.2]
abbrev eOM : Option Mk → D := eOp eMk
def eLn : Option Str → List D
  | none => []
  | some z => [.str z]
def eDd (d : Dd) : D := .tup (.str d.1 :: eOM d.2.1 :: eLn d.2.2)
def eCh (c : Ch) : D := .tup [.str c.1, .lst (c.2.1.map D.str), .lst (c.2.2.map eDd)]
theorem enc_mk : Enc eMk 1 := enc_pair enc_str enc_int
theorem enc_om : Enc eOM 1 := enc_opt enc_mk (fun a => by simp [eMk, toPy, PyData.eqv]) (fun a => by simp [eMk, toPy, PyData.eqv])
instance instDecDd : DecidableEq Dd := instDecidableEqProd
instance instDecCh : DecidableEq Ch := instDecidableEqProd
theorem enc_dd : Enc eDd 2 := ⟨fun a => by
    obtain ⟨w, m, l⟩ := a
    have h := enc_om.pl m
    cases l <;> simp [eDd, eLn, plainD, plainDs, h], fun a => by
    obtain ⟨w, m, l⟩ := a
    have h := enc_om.dp m
    have h2 := enc_str.dp w
    cases l with
    | none => simp only [eDd, eLn, toPy, toPys, PyData.depth, PyData.depthAll] at *; omega
    | some z => simp only [eDd, eLn, toPy, toPys, PyData.depth, PyData.depthAll] at *; omega, fun a b => by
    obtain ⟨w, m, l⟩ := a
    obtain ⟨w', m', l'⟩ := b
    cases l with
    | none => cases l' with
      | none =>
        simp only [eDd, eLn, toPy, toPys, PyData.eqv, PyData.eqvAll, enc_om.eq, Prod.mk.injEq]
        by_cases h1 : w = w' <;> by_cases h2 : m = m' <;> simp [h1, h2]
      | some z =>
        simp only [eDd, eLn, toPy, toPys, PyData.eqv, PyData.eqvAll, enc_om.eq, Prod.mk.injEq]
        simp
    | some y => cases l' with
      | none =>
        simp only [eDd, eLn, toPy, toPys, PyData.eqv, PyData.eqvAll, enc_om.eq, Prod.mk.injEq]
        simp
      | some z =>
        simp only [eDd, eLn, toPy, toPys, PyData.eqv, PyData.eqvAll, enc_om.eq, Prod.mk.injEq]
        by_cases h1 : w = w' <;> by_cases h2 : m = m' <;> by_cases h3 : y = z <;> simp [h1, h2, h3]⟩
theorem enc_ch : Enc eCh 4 := by
  have h1 := (enc_list enc_str).mono (k := 3) (by decide)
  have h2 := enc_list enc_dd
  refine ⟨fun a => ?_, fun a => ?_, fun a b => ?_⟩
  · have q1 := h1.pl a.2.1
    have q2 := h2.pl a.2.2
    simp [eCh, plainD, plainDs] at *
    first | done | exact ⟨q1, q2⟩
  · have q1 := h1.dp a.2.1
    have q2 := h2.dp a.2.2
    have q3 := enc_str.dp a.1
    simp only [eCh, toPy, toPys, PyData.depth, PyData.depthAll] at *
    omega
  · obtain ⟨a1, a2, a3⟩ := a
    obtain ⟨b1, b2, b3⟩ := b
    have q1 := h1.eq a2 b2
    have q2 := h2.eq a3 b3
    have q3 := enc_str.eq a1 b1
    simp only [toPy] at q1 q2 q3
    simp only [eCh, toPy, toPys, PyData.eqv, PyData.eqvAll, Prod.mk.injEq] at *
    rw [q1, q2]
    by_cases h1 : a1 = b1 <;> by_cases h2 : a2 = b2 <;> by_cases h3 : a3 = b3 <;> simp [h1, h2, h3]
theorem imm_mk (m : Mk) : imm (eMk m) = true := rfl
theorem imm_om (m : Option Mk) : imm (eOM m) = true := by cases m <;> rfl
theorem imm_dd (d : Dd) : imm (eDd d) = true := by
  obtain ⟨w, m, l⟩ := d
  have := imm_om m
  cases l <;> simp [eDd, eLn, imm, immAll, this]
theorem imm_dds (ds : List Dd) : immAll (ds.map eDd) = true := immAll_map imm_dd ds
theorem imm_strs (ds : List Str) : immAll (ds.map D.str) = true := immAll_map (fun _ => rfl) ds
theorem imm_mks (ds : List Mk) : immAll (ds.map eMk) = true := immAll_map imm_mk ds
def dL (d : Dd) : List D := .str d.1 :: eOM d.2.1 :: eLn d.2.2
theorem dd0 (d : Dd) : atI (.str d.1 :: eOM d.2.1 :: eLn d.2.2) 0 = some (D.str d.1) := by
  obtain ⟨w, m, l⟩ := d
  cases l <;> rfl
theorem dd1 (d : Dd) : atI (.str d.1 :: eOM d.2.1 :: eLn d.2.2) 1 = some (eOM d.2.1) := by
  obtain ⟨w, m, l⟩ := d
  cases l <;> rfl
theorem dd2 {d : Dd} {z : Str} (h : d.2.2 = some z) : atI (.str d.1 :: eOM d.2.1 :: eLn d.2.2) 2 = some (D.str z) := by
  obtain ⟨w, m, l⟩ := d
  simp only at h
  subst h
  rfl

/-! ### comprehensions whose things are all of one kind -/
section
variable {T : Tb} {X : Cx} {Γ : Ev} {elt iter : Expr} {ifs : List Expr} {scope : Scope} {pos tp : Pos} {x : Str} {α β : Type} {as : List α} {f : α → D} {t : Expr}
theorem mpL (j : Nat) (f' : β → D) {h : α → β} (nd : X.N.Nodup) (hn : as.length ≤ 16777216) (hi : ED T X true Γ iter (.lst (as.map f))) (ok : BlkOk X.N X.env.scope scope [(x, j)])
    (hg : ∀ (s : Shared) (H : Hp) (C : Addr) (cl : List (Str × Addr)) (fp : List Addr), PG (blkOf X scope s H C cl fp) (.Name x tp) (gName j))
    (he : ∀ (s : Shared) (H : Hp) (C : Addr) (cl : List (Str × Addr)) (fp : List Addr) (a : α), a ∈ as → ED T (blkOf X scope s H C cl fp) true ((Γ.set j none).set j (some (.sh (f a)))) elt (f' (h a)))
    (hj : j < Γ.length := by exact Nat.le_of_ble_eq_true rfl) (ho : owns (Γ.set j none) = owns Γ := by rfl) (hup : ∀ d, owns ((Γ.set j none).set j (some (.sh d))) = owns (Γ.set j none) := by intro _; rfl) (hc : X.calm = true := by rfl) (hs : ∀ x, foldedSetIterable iter X.env x = pure x := by intro _; rfl) :
    LD T X Γ (.ListComp elt [⟨.Name x tp, iter, [], 0⟩] scope pos) ((as.map h).map f') :=
  (l_mapL j (fun a => f' (h a)) nd hn hi ok hg he hj ho hup hc hs).as (by rw [List.map_map]; rfl)
theorem flL (j : Nat) (f' : β → D) {h : α → β} {p : α → Bool} (nd : X.N.Nodup) (hn : as.length ≤ 16777216) (hi : ED T X true Γ iter (.lst (as.map f))) (ok : BlkOk X.N X.env.scope scope [(x, j)])
    (hg : ∀ (s : Shared) (H : Hp) (C : Addr) (cl : List (Str × Addr)) (fp : List Addr), PG (blkOf X scope s H C cl fp) (.Name x tp) (gName j))
    (ht : ∀ (s : Shared) (H : Hp) (C : Addr) (cl : List (Str × Addr)) (fp : List Addr) (a : α), a ∈ as → BD T (blkOf X scope s H C cl fp) ((Γ.set j none).set j (some (.sh (f a)))) t (p a))
    (he : ∀ (s : Shared) (H : Hp) (C : Addr) (cl : List (Str × Addr)) (fp : List Addr) (a : α), a ∈ as → p a = true → ED T (blkOf X scope s H C cl fp) true ((Γ.set j none).set j (some (.sh (f a)))) elt (f' (h a)))
    (hj : j < Γ.length := by exact Nat.le_of_ble_eq_true rfl) (ho : owns (Γ.set j none) = owns Γ := by rfl) (hup : ∀ d, owns ((Γ.set j none).set j (some (.sh d))) = owns (Γ.set j none) := by intro _; rfl) (hc : X.calm = true := by rfl) (hs : ∀ x, foldedSetIterable iter X.env x = pure x := by intro _; rfl) :
    LD T X Γ (.ListComp elt [⟨.Name x tp, iter, [t], 0⟩] scope pos) (((as.filter p).map h).map f') :=
  (l_filL j p (fun a => f' (h a)) nd hn hi ok hg ht he hj ho hup hc hs).as (by rw [List.map_map]; rfl)
theorem mpR (j : Nat) (f' : β → D) {h : Nat → β} {n : Int} {a : Expr} {rp rpos : Pos} (nd : X.N.Nodup) (hm : X.mg "range" = none) (hn : n.toNat ≤ 16777216) (hneg : -(2 ^ 62) ≤ n) (hi : ED T X true Γ a (.int n)) (ok : BlkOk X.N X.env.scope scope [(x, j)])
    (hg : ∀ (s : Shared) (H : Hp) (C : Addr) (cl : List (Str × Addr)) (fp : List Addr), PG (blkOf X scope s H C cl fp) (.Name x tp) (gName j))
    (he : ∀ (s : Shared) (H : Hp) (C : Addr) (cl : List (Str × Addr)) (fp : List Addr) (i : Nat), i < n.toNat → ED T (blkOf X scope s H C cl fp) true ((Γ.set j none).set j (some (.sh (.int (i : Nat))))) elt (f' (h i)))
    (hj : j < Γ.length := by exact Nat.le_of_ble_eq_true rfl) (ho : owns (Γ.set j none) = owns Γ := by rfl) (hup : ∀ d, owns ((Γ.set j none).set j (some (.sh d))) = owns (Γ.set j none) := by intro _; rfl) (hc : X.calm = true := by rfl) (hgl : Gl X "range" := by rfl) (hst : starEach [a] X.env = [(false, eval a X.env)] := by rfl)
    (hs : ∀ x, foldedSetIterable (.Call (.Name "range" rp) [a] [] rpos) X.env x = pure x := by intro _; rfl) :
    LD T X Γ (.ListComp elt [⟨.Name x tp, .Call (.Name "range" rp) [a] [] rpos, [], 0⟩] scope pos) (((List.range n.toNat).map h).map f') :=
  (l_mapR j (fun a => f' (h a)) nd hm hn hi ok hg he hneg hj ho hup hc hgl hst hs).as (by rw [List.map_map]; rfl)
theorem flR (j : Nat) (f' : β → D) {h : Nat → β} {p : Nat → Bool} {n : Int} {a : Expr} {rp rpos : Pos} (nd : X.N.Nodup) (hm : X.mg "range" = none) (hn : n.toNat ≤ 16777216) (hneg : -(2 ^ 62) ≤ n) (hi : ED T X true Γ a (.int n)) (ok : BlkOk X.N X.env.scope scope [(x, j)])
    (hg : ∀ (s : Shared) (H : Hp) (C : Addr) (cl : List (Str × Addr)) (fp : List Addr), PG (blkOf X scope s H C cl fp) (.Name x tp) (gName j))
    (ht : ∀ (s : Shared) (H : Hp) (C : Addr) (cl : List (Str × Addr)) (fp : List Addr) (i : Nat), i < n.toNat → BD T (blkOf X scope s H C cl fp) ((Γ.set j none).set j (some (.sh (.int (i : Nat))))) t (p i))
    (he : ∀ (s : Shared) (H : Hp) (C : Addr) (cl : List (Str × Addr)) (fp : List Addr) (i : Nat), i < n.toNat → p i = true → ED T (blkOf X scope s H C cl fp) true ((Γ.set j none).set j (some (.sh (.int (i : Nat))))) elt (f' (h i)))
    (hj : j < Γ.length := by exact Nat.le_of_ble_eq_true rfl) (ho : owns (Γ.set j none) = owns Γ := by rfl) (hup : ∀ d, owns ((Γ.set j none).set j (some (.sh d))) = owns (Γ.set j none) := by intro _; rfl) (hc : X.calm = true := by rfl) (hgl : Gl X "range" := by rfl) (hst : starEach [a] X.env = [(false, eval a X.env)] := by rfl)
    (hs : ∀ x, foldedSetIterable (.Call (.Name "range" rp) [a] [] rpos) X.env x = pure x := by intro _; rfl) :
    LD T X Γ (.ListComp elt [⟨.Name x tp, .Call (.Name "range" rp) [a] [] rpos, [t], 0⟩] scope pos) ((((List.range n.toNat).filter p).map h).map f') :=
  (l_filR j p (fun a => f' (h a)) nd hm hn hi ok hg ht he hneg hj ho hup hc hgl hst hs).as (by rw [List.map_map]; rfl)
theorem mpS (j : Nat) (f' : β → D) {h : Nat → β} {z : Str} (nd : X.N.Nodup) (hz : SOk z) (hi : ED T X true Γ iter (.str z)) (ok : BlkOk X.N X.env.scope scope [(x, j)])
    (hg : ∀ (s : Shared) (H : Hp) (C : Addr) (cl : List (Str × Addr)) (fp : List Addr), PG (blkOf X scope s H C cl fp) (.Name x tp) (gName j))
    (he : ∀ (s : Shared) (H : Hp) (C : Addr) (cl : List (Str × Addr)) (fp : List Addr) (k : Nat), k ∈ z.cps.toList → ED T (blkOf X scope s H C cl fp) true ((Γ.set j none).set j (some (.sh (.str ⟨#[k]⟩)))) elt (f' (h k)))
    (hj : j < Γ.length := by exact Nat.le_of_ble_eq_true rfl) (ho : owns (Γ.set j none) = owns Γ := by rfl) (hup : ∀ d, owns ((Γ.set j none).set j (some (.sh d))) = owns (Γ.set j none) := by intro _; rfl) (hc : X.calm = true := by rfl) (hs : ∀ x, foldedSetIterable iter X.env x = pure x := by intro _; rfl) :
    LD T X Γ (.ListComp elt [⟨.Name x tp, iter, [], 0⟩] scope pos) ((z.cps.toList.map h).map f') :=
  (l_mapS j (fun a => f' (h a)) nd hz hi ok hg he hj ho hup hc hs).as (by rw [List.map_map]; rfl)
end
end DD

/-! Loops that may return early, zips of any lengths, tuples of the module, try that runs through. -/
namespace DD
open PySem PySem.Spec L2
section
variable {T : Tb} {X : Cx} {Γ : Ev} {m : Bool} {e a b c : Expr} {d da db dc d1 d2 d3 : D} {pos px p tpos : Pos} {i j j1 j2 : Nat} {x : Str} {ds es : List D} {rest body th el : List Stmt} {P : Pst} {k : Bool} {elts : List Expr} {kk : Nat}
theorem s_forI {tg iter : Expr} {g : TG} {n : Nat} {js : List Nat} {up : Nat → Ev → Ev} {Keep : Ev → Prop} (I : Nat → Prop) (Γs : Nat → Ev) (L : Nat) (hi : PI X tg iter (tSrc T X.K Γ g n js up Keep)) (hg : PG X tg g) (h0 : Wk Γ (Γs 0)) (i0 : I 0) (hk : ∀ k, k ≤ n → Keep (Γs k)) (hL : ∀ k, (Γs k).length = L) (hj : ∀ j ∈ js, j < L)
    (hb : ∀ k, k < n → I k → SD T X (up k (Γs k)) body { P with nx := fun Γ' => Wk Γ' (Γs (k + 1)) ∧ I (k + 1) }) (hr : I n → SD T X (Γs n) rest P) (hp : PassesOwn (model X.prog X.w) X.A X.env X.xe := by exact PassesOwn.never) (hc : X.calm = true := by rfl) (hs : ∀ x, foldedSetIterable iter X.env x = pure x := by intro _; rfl) :
    SD T X Γ (.For tg iter body [] pos :: rest) P :=
  s_seq (u := fun E σ H => I n ∧ tSt T X.K (Γs n) P E σ H) (ps_for (tb := fun E σ H => ∃ k, k < n ∧ I k ∧ tSt T X.K (up k (Γs k)) { P with nx := fun Γ' => Wk Γ' (Γs (k + 1)) ∧ I (k + 1) } E σ H) hp hc hi hg ⟨fun pins s σ H E J ⟨k, hk, ik, h⟩ => (hb k hk ik).run pins s σ H E J h⟩ hs) ⟨fun pins s σ H E J ⟨ik, h⟩ => (hr ik).run pins s σ H E J h⟩ fun E σ H ⟨Z, gz, f⟩ =>
    ⟨Z, gz, fun J Good H1 g1 x1 st good => by
      have gA : GOk T X.K { Z with B := rg true Z H1 Γ } H1 σ (Γs 0) := (g1.rebase (Same.refl _)).wk h0
      refine ⟨fun i m σ H => m = n - i ∧ i ≤ n ∧ I i ∧ GOk T X.K { Z with B := rg true Z H1 Γ } H σ (Γs i), ⟨n, by simp, Nat.zero_le _, i0, gA⟩, ?_⟩
      rintro i m σ2 H2 ⟨rfl, hi2, ii, g2⟩
      have gd := good { Z with B := rg true Z H1 Γ } H2 σ2 (Γs i) g2 (Same.refl _) (hk i hi2) (.inr trivial)
      by_cases hlt : i < n
      · obtain ⟨go, turn⟩ := st.turn { Z with B := rg true Z H1 Γ } i H2 σ2 (Γs i) hlt g2 gd (fun j q => by rw [hL]; exact hj j q)
        refine .inr ⟨go, fun σ H => I (i + 1) ∧ GOk T X.K { Z with B := rg true Z H1 Γ } H σ (Γs (i + 1)), fun σ' H' p' => ⟨n - (i + 1), by omega, rfl, hlt, p'.1, p'.2⟩, fun v H' y => turn v H' y _ fun σ3 H3 g3 x3 _ => ⟨i, hlt, ii, { Z with B := rg true Z H1 Γ }, g3, ?_⟩⟩
        exact ⟨fun Γ' σ' H' w g' => ⟨w.2, g'.wk w.1⟩, f.rt, f.rl⟩
      · have e : i = n := by omega
        subst e
        exact .inl ⟨st.stop { Z with B := rg true Z H1 Γ } H2 σ2 (Γs i) g2 gd, ii, Z, g2.rebase (B := Z.B) (g1.base.trans g2.base), f⟩⟩
/-- zip of two lists of any lengths -/
theorem stp_zipN {K : PySem.W.Frag} {a b : Addr} {n : Nat} (h1 : n ≤ ds.length) (h2 : n ≤ es.length) (h3 : ds.length ≤ n ∨ es.length ≤ n) : Stp T K (Itz K a b) (g2 K j1 j2) n [j1, j2] (upN2 j1 j2 (fun i => ds.getD i .non) fun i => es.getD i .non) (fun Z H Γ => GoodL K a ds Z H Γ ∧ GoodL K b es Z H Γ) where
  stop := fun Z H σ Γ g ⟨⟨vs, e1, e2⟩, ⟨ws, f1, f2⟩⟩ => ⟨vs, ws, SqL.of e1, SqL.of f1, by rw [e2.length, f2.length]; exact h3⟩
  turn := fun Z i H σ Γ hi g ⟨⟨vs, e1, e2⟩, ⟨ws, f1, f2⟩⟩ hj => by
    have l1 := e2.length
    have l2 := f2.length
    have hv : i < vs.length := by omega
    have hw : i < ws.length := by omega
    refine ⟨⟨vs, ws, vs[i], ws[i], SqL.of e1, SqL.of f1, by simp [hv], by simp [hw]⟩, fun v H' y Q q => ?_⟩
    obtain ⟨t, x, u, rfl, ht, rfl, y1, y2⟩ := y
    obtain ⟨d, hd, h⟩ := e2.get' (y1 vs (SqL.of e1))
    obtain ⟨d', hd', h'⟩ := f2.get' (y2 ws (SqL.of f1))
    have ed : ds.getD i .non = d := by simp [List.getD, hd]
    have ed' : es.getD i .non = d' := by simp [List.getD, hd']
    refine take_pair (g.new ht) (SqT.of upd_same) (h.to (rg_ext (Ext.upd ht))) (h'.to (rg_ext (Ext.upd ht))) (hj j1 (by simp)) (hj j2 (by simp)) fun σ2 g2 hw => q σ2 _ ?_ (Ext.upd ht) hw
    show GOk T K Z _ σ2 ((Γ.set j1 (some (.sh (ds.getD i .non)))).set j2 (some (.sh (es.getD i .non))))
    rw [ed, ed']
    exact g2
theorem src_zipN {a b : Expr} {n : Nat} (hm : X.mg "zip" = none) (h1 : n ≤ ds.length) (h2 : n ≤ es.length) (h3 : ds.length ≤ n ∨ es.length ≤ n) (ha : ED T X true Γ a (.lst ds)) (hb : ED T X true Γ b (.lst es)) (hg : Gl X "zip" := by rfl) (hs2 : starEach [b] X.env = (false, eval b X.env) :: starEach [] X.env := by rfl)
    (hs : starEach [a, b] X.env = (false, eval a X.env) :: starEach [b] X.env := by rfl) (hpl : (backTo pos (starEach [b] X.env)).any (·.1) = false := by rfl) :
    PI X (.Tuple elts kk tpos) (.Call (.Name "zip" p) [a, b] [] pos) (tSrc T X.K Γ (g2 X.K j1 j2) n [j1, j2] (upN2 j1 j2 (fun i => ds.getD i .non) fun i => es.getD i .non) fun _ => True) :=
  PI.imp' (pi_zip hg hm (a_two ha hb hs2 hs) hs hpl) fun σ H R ⟨Z, g, q⟩ => ⟨Z, g, fun vs H1 g1 x1 d1 => by
    cases d1 with
    | cons h1' h2' =>
      cases h2' with
      | cons h2' h3' =>
        cases h3'
        cases h1' with
        | lst e1 e2 =>
          cases h2' with
          | lst f1 f2 =>
            exact ⟨_, _, _, _, rfl, SqL.of (g1.sub _ _ e1), SqL.of (g1.sub _ _ f1), q _ (fun Z H Γ => GoodL X.K _ ds Z H Γ ∧ GoodL X.K _ es Z H Γ) H1 g1 x1 (stp_zipN h1 h2 h3) fun Z2 H2 σ2 Γ2 g2 sm _ _ =>
              ⟨⟨_, g2.sub _ _ (g2.base _ _ (sm _ _ e1)), (e2.to sm).to g2.base⟩, ⟨_, g2.sub _ _ (g2.base _ _ (sm _ _ f1)), (f2.to sm).to g2.base⟩⟩⟩⟩
/-- a tuple of texts of the module -/
theorem e_gtup {xs : List Str} (hm : ∃ a, X.mg x = some (.ref a) ∧ ∀ G, SqT X.K G a (xs.map V.str)) (hk : ∀ z ∈ xs, SOk z := by decide +kernel) (hg : Gl X x := by rfl) (hd : (x == ("__debug__" : Str)) = false := by decide) : ED T X m Γ (.Name x pos) (.tup (xs.map D.str)) := by
  obtain ⟨a, hm, hq⟩ := hm
  exact PE.imp' (pe_glob hg hm (v := .ref a) rfl hd) fun σ H Q ⟨Z, g, q⟩ => q _ H g (Ext.refl H) (.tup (hq _) (DaAll.of_strs _ hk))
/-- try: a body that raises nothing -/
theorem s_try {hh : ExceptHandler} {hs : List ExceptHandler} (Γj : Ev) (hb : SD T X.nox Γ body { P with nx := fun Γ' => Wk Γ' Γj }) (hr : SD T X Γj rest P) : SD T X Γ (.Try body (hh :: hs) [] [] pos :: rest) P :=
  s_seq (ps_try_thru0 hb) hr fun E σ H ⟨Z, g, f⟩ => ⟨Z, g, ⟨fun Γ' σ' H' w g' => ⟨Z, g'.wk w, f⟩, f.rt, f.rl⟩⟩
end
section
variable {T : Tb} {X : Cx} {Γ : Ev} {iter : Expr} {pos tp : Pos} {x : Str} {α β : Type} {as : List α} {bs : List β} {f : α → D} {g : β → D} {rest body : List Stmt} {P : Pst} {elt : Expr} {scope : Scope}
/-- for x in a stable list, left early -/
theorem s_forLI (I : Nat → Prop) (j : Nat) (Γs : Nat → Ev) (L : Nat) (hi : ED T X true Γ iter (.lst (as.map f))) (hg : PG X (.Name x tp) (gName j)) (h0 : Wk Γ (Γs 0)) (i0 : I 0) (hL : ∀ k, (Γs k).length = L) (hj : j < L)
    (hb : ∀ (k : Nat) (a : α), as[k]? = some a → I k → SD T X ((Γs k).set j (some (.sh (f a)))) body { P with nx := fun Γ' => Wk Γ' (Γs (k + 1)) ∧ I (k + 1) }) (hr : I as.length → SD T X (Γs as.length) rest P) (hp : PassesOwn (model X.prog X.w) X.A X.env X.xe := by exact PassesOwn.never) (hc : X.calm = true := by rfl) (hs : ∀ x, foldedSetIterable iter X.env x = pure x := by intro _; rfl) :
    SD T X Γ (.For (.Name x tp) iter body [] pos :: rest) P := by
  have hl : (as.map f).length = as.length := by simp
  refine s_forI I Γs L (src_list hi) hg h0 i0 (fun _ _ => trivial) hL (by simpa using hj) (fun k hk ik => ?_) (by rw [hl]; exact hr) hp hc hs
  have hlt : k < as.length := by rw [← hl]; exact hk
  have e : as[k]? = some as[k] := by simp [hlt]
  show SD T X ((Γs k).set j (some (.sh ((as.map f).getD k .non)))) body _
  rw [getD_map e]
  exact hb k _ e ik
/-- for a, b in zip(..), left early -/
theorem s_forZI (I : Nat → Prop) (j1 j2 : Nat) {a b : Expr} {ep epos : Pos} {elts : List Expr} {kk n : Nat} (Γs : Nat → Ev) (L : Nat) (hm : X.mg "zip" = none) (h1 : n ≤ as.length) (h2 : n ≤ bs.length) (h3 : as.length ≤ n ∨ bs.length ≤ n) (ha : ED T X true Γ a (.lst (as.map f))) (hb' : ED T X true Γ b (.lst (bs.map g))) (hg : PG X (.Tuple elts kk tp) (g2 X.K j1 j2)) (h0 : Wk Γ (Γs 0)) (i0 : I 0) (hL : ∀ k, (Γs k).length = L) (hj1 : j1 < L) (hj2 : j2 < L)
    (hb : ∀ (k : Nat) (a : α) (b : β), as[k]? = some a → bs[k]? = some b → I k → SD T X (((Γs k).set j1 (some (.sh (f a)))).set j2 (some (.sh (g b)))) body { P with nx := fun Γ' => Wk Γ' (Γs (k + 1)) ∧ I (k + 1) }) (hr : I n → SD T X (Γs n) rest P)
    (hp : PassesOwn (model X.prog X.w) X.A X.env X.xe := by exact PassesOwn.never) (hc : X.calm = true := by rfl) (hgl : Gl X "zip" := by rfl) (hs2 : starEach [b] X.env = (false, eval b X.env) :: starEach [] X.env := by rfl)
    (hst : starEach [a, b] X.env = (false, eval a X.env) :: starEach [b] X.env := by rfl) (hpl : (backTo epos (starEach [b] X.env)).any (·.1) = false := by rfl) (hs : ∀ x, foldedSetIterable (.Call (.Name "zip" ep) [a, b] [] epos) X.env x = pure x := by intro _; rfl) :
    SD T X Γ (.For (.Tuple elts kk tp) (.Call (.Name "zip" ep) [a, b] [] epos) body [] pos :: rest) P := by
  refine s_forI I Γs L (src_zipN (n := n) hm (by simpa using h1) (by simpa using h2) (by simpa using h3) ha hb' hgl hs2 hst hpl) hg h0 i0 (fun _ _ => trivial) hL (by intro j hj; simp only [List.mem_cons, List.not_mem_nil, or_false] at hj; rcases hj with rfl | rfl <;> assumption) (fun k hk ik => ?_) hr hp hc hs
  have hlt : k < as.length := by omega
  have hlt2 : k < bs.length := by omega
  have e : as[k]? = some as[k] := by simp [hlt]
  have e2 : bs[k]? = some bs[k] := by simp [hlt2]
  show SD T X (((Γs k).set j1 (some (.sh ((as.map f).getD k .non)))).set j2 (some (.sh ((bs.map g).getD k .non)))) body _
  rw [getD_map e, getD_map e2]
  exact hb k _ _ e e2 ik
/-- [.. for a, b in zip(..)] of lists of one length -/
theorem mpZ (j1 j2 : Nat) {γ : Type} (f' : γ → D) {h : Nat → γ} {x1 x2 : Str} {a b : Expr} {ep epos : Pos} {elts : List Expr} {kk : Nat} (nd : X.N.Nodup) (hm : X.mg "zip" = none) (hlen : as.length = bs.length) (hn : as.length ≤ 16777216) (ha : ED T X true Γ a (.lst (as.map f))) (hb' : ED T X true Γ b (.lst (bs.map g))) (ok : BlkOk X.N X.env.scope scope [(x1, j1), (x2, j2)])
    (hg : ∀ (s : Shared) (H : Hp) (C : Addr) (cl : List (Str × Addr)) (fp : List Addr), PG (blkOf X scope s H C cl fp) (.Tuple elts kk tp) (g2 X.K j1 j2))
    (he : ∀ (s : Shared) (H : Hp) (C : Addr) (cl : List (Str × Addr)) (fp : List Addr) (k : Nat) (a : α) (b : β), as[k]? = some a → bs[k]? = some b → ED T (blkOf X scope s H C cl fp) true (((wipeE Γ [j1, j2]).set j1 (some (.sh (f a)))).set j2 (some (.sh (g b)))) elt (f' (h k)))
    (hj1 : j1 < Γ.length := by exact Nat.le_of_ble_eq_true rfl) (hj2 : j2 < Γ.length := by exact Nat.le_of_ble_eq_true rfl) (ho : owns (wipeE Γ [j1, j2]) = owns Γ := by rfl) (hup : ∀ d d', owns (((wipeE Γ [j1, j2]).set j1 (some (.sh d))).set j2 (some (.sh d'))) = owns (wipeE Γ [j1, j2]) := by intro _ _; rfl) (hc : X.calm = true := by rfl) (hgl : Gl X "zip" := by rfl)
    (hs2 : starEach [b] X.env = (false, eval b X.env) :: starEach [] X.env := by rfl)
    (hst : starEach [a, b] X.env = (false, eval a X.env) :: starEach [b] X.env := by rfl) (hpl : (backTo epos (starEach [b] X.env)).any (·.1) = false := by rfl) (hs : ∀ x, foldedSetIterable (.Call (.Name "zip" ep) [a, b] [] epos) X.env x = pure x := by intro _; rfl) :
    LD T X Γ (.ListComp elt [⟨.Tuple elts kk tp, .Call (.Name "zip" ep) [a, b] [] epos, [], 0⟩] scope pos) (((List.range as.length).map h).map f') := by
  refine LD.as (l_comp (g := g2 X.K j1 j2) (n := as.length) (keep := fun _ => true) (val := fun i => f' (h i)) hc nd (src_zipN (n := as.length) hm (by simp) (by simp [hlen]) (by simp) ha hb' hgl hs2 hst hpl) ok hg (fun s H C cl fp i _ => PTs.mk fun pins s' σ H' Q I ⟨Z, g, q⟩ => (pts_nil (X := blkOf X scope s H C cl fp)).run pins s' σ H' Q I (q H' g (Ext.refl H'))) (fun s H C cl fp i hi' _ => ?_) hn (by intro j hj; simp only [List.mem_cons, List.not_mem_nil, or_false] at hj; rcases hj with rfl | rfl <;> assumption) (by simp) trivial ho (fun i => hup _ _) hs) ?_
  · have hlt2 : i < bs.length := by omega
    have e : as[i]? = some as[i] := by simp [hi']
    have e2 : bs[i]? = some bs[i] := by simp [hlt2]
    show ED T (blkOf X scope s H C cl fp) true (((wipeE Γ [j1, j2]).set j1 (some (.sh ((as.map f).getD i .non)))).set j2 (some (.sh ((bs.map g).getD i .non)))) elt (f' (h i))
    rw [getD_map e, getD_map e2]
    exact he s H C cl fp i _ _ e e2
  · unfold compD
    rw [List.filter_eq_self.mpr (by simp), List.map_map]
    rfl
end
end DD

/-! What the law's helpers compute, in plain Lean; facts of it. -/
namespace MM
open PySem L2 DD TL

/-! ### texts -/
theorem sok_of {z : Str} (h : ∀ k ∈ tl z, k < 256) (hl : z.length ≤ 8388608) : SOk z := by
  refine ⟨?_, hl⟩
  unfold PyData.strOk
  rw [← Array.all_toList, List.all_eq_true]
  intro k hk
  have := h k hk
  simpa using (by omega : k < 0x110000)
theorem tl_empty : tl ("" : Str) = [] := by decide +kernel
theorem joinL_nil : ∀ ps : List (List Nat), joinL [] ps = ps.flatten
  | [] => rfl
  | [p] => by simp [joinL]
  | p :: q :: r => by
    show p ++ ([] ++ joinL [] (q :: r)) = _
    rw [joinL_nil (q :: r)]
    simp
theorem tl_joinE (ps : List Str) : tl (Txt.join "" ps) = (ps.map tl).flatten := by
  rw [join_eq, tl_join, tl_empty, joinL_nil]
def sg (z : Str) (n : Int) : Str := ⟨#[z.cps.toList.getD n.toNat 0]⟩
theorem tl_sg (z : Str) (n : Int) : tl (sg z n) = [(tl z).getD n.toNat 0] := rfl
theorem sg_mem {z : Str} {n : Int} (h : n.toNat < (tl z).length) : (tl z).getD n.toNat 0 ∈ tl z := by
  have e : (tl z)[n.toNat]? = some (tl z)[n.toNat] := by simp [h]
  rw [List.getD, e]
  exact List.getElem_mem h
theorem flat_sg (f : Nat → Nat) (n : Nat) : ((List.range n).map fun i => [f i]).flatten = (List.range n).map f := by
  induction List.range n with
  | nil => rfl
  | cons a r ih => simp [ih]
theorem tl_joinSg (z : Str) (f : Nat → Int) (n : Nat) : tl (Txt.join "" ((List.range n).map fun i => sg z (f i))) = (List.range n).map fun i => (tl z).getD (f i).toNat 0 := by
  rw [tl_joinE, List.map_map]
  exact flat_sg (fun i => (tl z).getD (f i).toNat 0) n
theorem sum_sg (z : Str) (f : Nat → Int) (n : Nat) : ((((List.range n).map fun i => sg z (f i)).map (·.length)).sum + ((List.range n).map fun i => sg z (f i)).length * ("" : Str).length) = n := by
  have h : ∀ l : List Nat, ((l.map fun i => sg z (f i)).map (·.length)).sum = l.length := fun l => by
    induction l with
    | nil => rfl
    | cons a r ih =>
      simp only [List.map_cons, List.sum_cons, ih, List.length_cons]
      show 1 + r.length = _
      omega
  rw [h]
  have e : ("" : Str).length = 0 := by decide +kernel
  simp [e]
def dec (n : Int) : Str := (toString n : String)
theorem tl_dec (n : Nat) : tl (dec n) = numL n := tl_num n
theorem tl_cutS (z : Str) (o1 o2 : Option Int) : tl (cutS z o1 o2) = ((tl z).drop (HT.sIx z.length 0 o1)).take (HT.sIx z.length z.length o2 - HT.sIx z.length 0 o1) := rfl
theorem cut_take (z : Str) {n : Int} (h : 0 ≤ n) : tl (cutS z none (some n)) = (tl z).take n.toNat := by
  rw [tl_cutS]
  show ((tl z).drop 0).take ((if n < 0 then (n + (z.length : Int)).toNat else min n.toNat z.length) - 0) = _
  rw [if_neg (by omega), List.drop_zero, Nat.sub_zero, len_tl]
  by_cases hn : n.toNat ≤ (tl z).length
  · rw [Nat.min_eq_left hn]
  · rw [Nat.min_eq_right (by omega), List.take_of_length_le (Nat.le_refl _), List.take_of_length_le (by omega)]
theorem cut_drop (z : Str) {n : Int} (h : 0 ≤ n) : tl (cutS z (some n) none) = (tl z).drop n.toNat := by
  rw [tl_cutS]
  show ((tl z).drop (if n < 0 then (n + (z.length : Int)).toNat else min n.toNat z.length)).take (z.length - (if n < 0 then (n + (z.length : Int)).toNat else min n.toNat z.length)) = _
  rw [if_neg (by omega), List.take_of_length_le (by rw [List.length_drop, ← len_tl]; exact Nat.le_refl _)]
  by_cases hn : n.toNat ≤ z.length
  · rw [Nat.min_eq_left hn]
  · rw [Nat.min_eq_right (by omega), List.drop_of_length_le (by rw [← len_tl]; exact Nat.le_refl _), List.drop_of_length_le (by rw [← len_tl]; omega)]

/-! ### the numbers -/
def cell (ns : List Int) (k : Int) : Int := if k < ns.length then ns.getD k.toNat 0 else 0
def mixed (c k : Int) : Int := (c + 7919 * k) * 48271 % 2147483647
theorem mixed_lo (c k : Int) : 0 ≤ mixed c k := Int.emod_nonneg _ (by decide)
theorem mixed_hi (c k : Int) : mixed c k < 2147483647 := Int.emod_lt_of_pos _ (by decide)

/-! ### lines -/
def SOME : Str := (" !\"#$&'()*+,-./0123456789:;<=>?@ABCDEFGHIJKLMNOPQRSTUVWXYZ[\\]^_`" : Str) ++ ("abcdefghijklmnopqrstuvwxyz{|}~" : Str)
def lsize (c : Int) : Int := if c / 4 % 9 = 1 then c / 36 % 201 else c % 4
def line0 (c : Int) : Str := Txt.join "" ((List.range (lsize c).toNat).map fun (j : Nat) => sg SOME ((c / 7 + (j : Int) * (1 + c % 5)) % 94))
def line (c : Int) : Str := if c / 3 % 8 = 1 ∧ lsize c < 199 then cutS (line0 c) none (some 1) ++ (": " : Str) ++ cutS (line0 c) (some 1) none else line0 c
def isLn (z : Str) : Prop := z.length ≤ 200 ∧ ∀ k ∈ tl z, 32 ≤ k ∧ k ≤ 126
theorem SOME_len : (tl SOME).length = 94 := by decide +kernel
theorem SOME_ok : ∀ k ∈ tl SOME, 32 ≤ k ∧ k ≤ 126 := by decide +kernel
theorem lsize_lo (c : Int) : 0 ≤ lsize c := by unfold lsize; split <;> omega
theorem lsize_hi (c : Int) : lsize c ≤ 200 := by unfold lsize; split <;> omega
theorem tl_line0 (c : Int) : tl (line0 c) = (List.range (lsize c).toNat).map fun (j : Nat) => (tl SOME).getD (((c / 7 + (j : Int) * (1 + c % 5)) % 94)).toNat 0 := tl_joinSg SOME (fun (j : Nat) => (c / 7 + (j : Int) * (1 + c % 5)) % 94) _
theorem line0_len (c : Int) : (line0 c).length = (lsize c).toNat := by rw [len_tl, tl_line0]; simp
theorem line0_ok (c : Int) : ∀ k ∈ tl (line0 c), 32 ≤ k ∧ k ≤ 126 := by
  intro k hk
  rw [tl_line0] at hk
  obtain ⟨j, _, rfl⟩ := List.mem_map.mp hk
  exact SOME_ok _ (sg_mem (by rw [SOME_len]; omega))
theorem line0_sok (c : Int) : SOk (line0 c) := sok_of (fun k hk => by have := line0_ok c k hk; omega) (by rw [line0_len]; have := lsize_hi c; omega)
theorem line_tl (c : Int) : tl (line c) = if c / 3 % 8 = 1 ∧ lsize c < 199 then (tl (line0 c)).take 1 ++ [58, 32] ++ (tl (line0 c)).drop 1 else tl (line0 c) := by
  unfold line
  split
  · rw [tl_append, tl_append, cut_take _ (by decide), cut_drop _ (by decide)]
    rfl
  · rfl
theorem line_isLn (c : Int) : isLn (line c) := by
  have h1 := line0_len c
  have h2 := line0_ok c
  have h3 := lsize_hi c
  have h4 := lsize_lo c
  rw [len_tl] at h1
  refine ⟨?_, ?_⟩
  · rw [len_tl, line_tl]
    split
    · simp only [List.length_append, List.length_take, List.length_drop, List.length_cons, List.length_nil]
      omega
    · omega
  · rw [line_tl]
    split
    · intro k hk
      rcases List.mem_append.mp hk with hk | hk
      · rcases List.mem_append.mp hk with hk | hk
        · exact h2 k (List.mem_of_mem_take hk)
        · simp at hk
          omega
      · exact h2 k (List.mem_of_mem_drop hk)
    · exact h2
theorem isLn.sok {z : Str} (h : isLn z) : SOk z := sok_of (fun k hk => by have := h.2 k hk; omega) (by have := h.1; omega)
end MM

/-! Names, leans, marks, deeds, changes as the laws make them. -/
namespace MM
open PySem L2 DD TL

/-! ### names -/
def SIG : Str := "abcdefghijklmnopqrstuvwxyz0123456789"
def isNm (z : Str) : Prop := 1 ≤ z.length ∧ z.length ≤ 12 ∧ ∀ k ∈ tl z, k ∈ tl SIG
theorem SIG_len : (tl SIG).length = 36 := by decide +kernel
theorem SIG_hi : ∀ k ∈ tl SIG, 48 ≤ k ∧ k ≤ 122 := by decide +kernel
theorem SIG_dig : ∀ k : Nat, 48 ≤ k → k ≤ 57 → k ∈ tl SIG := by
  intro k h1 h2
  have : k = 48 ∨ k = 49 ∨ k = 50 ∨ k = 51 ∨ k = 52 ∨ k = 53 ∨ k = 54 ∨ k = 55 ∨ k = 56 ∨ k = 57 := by omega
  rcases this with h | h | h | h | h | h | h | h | h | h <;> subst h <;> decide +kernel
theorem isNm.sok {z : Str} (h : isNm z) : SOk z := sok_of (fun k hk => by have := SIG_hi k (h.2.2 k hk); omega) (by have := h.2.1; omega)
theorem isNm.ne {z : Str} (h : isNm z) : tl z ≠ [] := fun e => by have := h.1; rw [len_tl, e] at this; simp at this
theorem dec_digits (n : Nat) : ∀ k ∈ tl (dec n), 48 ≤ k ∧ k ≤ 57 := by rw [tl_dec]; exact numL_digits n
theorem dec_nm {n : Nat} (h : n < 10 ^ 12) : isNm (dec n) := by
  refine ⟨?_, ?_, fun k hk => ?_⟩
  · rw [len_tl, tl_dec]
    exact List.length_pos_iff.mpr (numL_ne n)
  · rw [len_tl, tl_dec]
    exact numL_len (by decide) h
  · have := dec_digits n k hk
    exact SIG_dig k this.1 this.2
theorem dec_sok {n : Int} (h0 : 0 ≤ n) (h : n < 1000000000000) : SOk (dec n) := by
  obtain ⟨k, rfl⟩ := Int.eq_ofNat_of_zero_le h0
  exact (dec_nm (by omega)).sok
theorem dec_log {n : Int} (h0 : 0 ≤ n) (h : n < 1000000000000) : n.natAbs.log2 < 1920 := by
  by_cases z : n.natAbs = 0
  · rw [z]; decide
  · have : n.natAbs.log2 < 40 := (Nat.log2_lt z).mpr (by omega)
    omega
theorem dec_inj {m n : Nat} (h : dec m = dec n) : m = n := numL_inj (by rw [← tl_dec, ← tl_dec, h])

def nm0 (c : Int) : Str := Txt.join "" ((List.range (1 + mixed c 5 % 12).toNat).map fun (j : Nat) => sg SIG (mixed c (j : Int) % 36))
def nm1 (c : Int) : Str := if c % 8 = 1 then dec (mixed c 5 % 130) else nm0 c
def nm2 (c : Int) (tk : List Str) : Str := if c % 8 = 2 ∧ tk ≠ [] then cutS (tk.getLastD "") none (some 11) ++ sg SIG (mixed c 5 % 36) else nm1 c
def npick (c : Int) (tk : List Str) : Str := tk.getD (mixed c 5 % tk.length).toNat ""
def nat (c : Int) (tk : List Str) : Int := mixed c 5 / 60 % (npick c tk).length
def nm3 (c : Int) (tk : List Str) : Str := if 4 < c % 8 ∧ tk ≠ [] then
    cutS (npick c tk) none (some (nat c tk)) ++ sg SIG (mixed c 5 / 720 % 36) ++ cutS (npick c tk) (some (nat c tk + 1)) none
  else nm2 c tk
def falls (tk : List Str) : List Str := ((List.range ((tk.length : Int) + 1).toNat).filter fun (j : Nat) => !decide (dec j ∈ tk)).map fun (j : Nat) => dec j
def fall (tk : List Str) : Str := (falls tk).getD 0 ""
def name (c : Int) (tk : List Str) : Str := if nm3 c tk ∉ tk then nm3 c tk else fall tk
theorem nm0_ok (c : Int) : isNm (nm0 c) := by
  have e : tl (nm0 c) = (List.range (1 + mixed c 5 % 12).toNat).map fun (j : Nat) => (tl SIG).getD (mixed c (j : Int) % 36).toNat 0 := tl_joinSg SIG (fun (j : Nat) => mixed c (j : Int) % 36) _
  have hl : (nm0 c).length = (1 + mixed c 5 % 12).toNat := by rw [len_tl, e]; simp
  refine ⟨by omega, by omega, fun k hk => ?_⟩
  rw [e] at hk
  obtain ⟨j, _, rfl⟩ := List.mem_map.mp hk
  exact sg_mem (by rw [SIG_len]; omega)
theorem nm1_ok (c : Int) : isNm (nm1 c) := by
  unfold nm1
  split
  · have h0 : 0 ≤ mixed c 5 % 130 := by omega
    obtain ⟨k, hk⟩ := Int.eq_ofNat_of_zero_le h0
    rw [hk]
    exact dec_nm (by omega)
  · exact nm0_ok c
theorem sg_nm (n : Int) : ∀ k ∈ tl (sg SIG (n % 36)), k ∈ tl SIG := by
  intro k hk
  rw [tl_sg] at hk
  rw [List.mem_singleton.mp hk]
  exact sg_mem (by rw [SIG_len]; omega)
theorem last_mem {tk : List Str} (h : tk ≠ []) : tk.getLastD "" ∈ tk := by
  rw [List.getLastD_eq_getLast?, List.getLast?_eq_getLast h]
  exact List.getLast_mem h
theorem nm2_ok (c : Int) {tk : List Str} (h : ∀ z ∈ tk, isNm z) : isNm (nm2 c tk) := by
  unfold nm2
  split
  · rename_i q
    have hm := h _ (last_mem q.2)
    have e : tl (cutS (tk.getLastD "") none (some 11) ++ sg SIG (mixed c 5 % 36)) = (tl (tk.getLastD "")).take 11 ++ tl (sg SIG (mixed c 5 % 36)) := by rw [tl_append, cut_take _ (by decide)]; rfl
    have l1 : (tl (sg SIG (mixed c 5 % 36))).length = 1 := rfl
    refine ⟨?_, ?_, ?_⟩
    · rw [len_tl, e, List.length_append, l1]; omega
    · rw [len_tl, e, List.length_append, l1, List.length_take]; omega
    · intro k hk
      rw [e] at hk
      rcases List.mem_append.mp hk with hk | hk
      · exact hm.2.2 k (List.mem_of_mem_take hk)
      · exact sg_nm _ k hk
  · exact nm1_ok c
theorem npick_mem (c : Int) {tk : List Str} (h : tk ≠ []) : atI tk (mixed c 5 % tk.length) = some (npick c tk) ∧ npick c tk ∈ tk := by
  have hl : 0 < tk.length := List.length_pos_iff.mpr h
  have h1 : 0 ≤ mixed c 5 % tk.length := Int.emod_nonneg _ (by omega)
  have h2 : mixed c 5 % tk.length < tk.length := Int.emod_lt_of_pos _ (by omega)
  have e := atI_getD (xs := tk) "" h1 h2
  exact ⟨e, mem_of_atI e⟩
theorem nat_ok (c : Int) {tk : List Str} (h : tk ≠ []) (hn : ∀ z ∈ tk, isNm z) : 0 ≤ nat c tk ∧ nat c tk < (npick c tk).length := by
  have q := (hn _ (npick_mem c h).2).1
  exact ⟨Int.emod_nonneg _ (by omega), Int.emod_lt_of_pos _ (by omega)⟩
theorem nm3_ok (c : Int) {tk : List Str} (h : ∀ z ∈ tk, isNm z) : isNm (nm3 c tk) := by
  unfold nm3
  split
  · rename_i q
    have hm := h _ (npick_mem c q.2).2
    obtain ⟨n0, n1⟩ := nat_ok c q.2 h
    generalize nat c tk = n at n0 n1
    generalize npick c tk = g at hm n1
    have e : tl (cutS g none (some n) ++ sg SIG (mixed c 5 / 720 % 36) ++ cutS g (some (n + 1)) none) = (tl g).take n.toNat ++ tl (sg SIG (mixed c 5 / 720 % 36)) ++ (tl g).drop (n + 1).toNat := by
      rw [tl_append, tl_append, cut_take _ n0, cut_drop _ (by omega)]
    have l1 : (tl (sg SIG (mixed c 5 / 720 % 36))).length = 1 := rfl
    have lg := len_tl g
    have m1 := hm.1
    have m2 := hm.2.1
    refine ⟨?_, ?_, ?_⟩
    · rw [len_tl, e, List.length_append, List.length_append, l1]; omega
    · rw [len_tl, e, List.length_append, List.length_append, l1, List.length_take, List.length_drop]; omega
    · intro k hk
      rw [e] at hk
      rcases List.mem_append.mp hk with hk | hk
      · rcases List.mem_append.mp hk with hk | hk
        · exact hm.2.2 k (List.mem_of_mem_take hk)
        · exact sg_nm _ k hk
      · exact hm.2.2 k (List.mem_of_mem_drop hk)
  · exact nm2_ok c h
theorem falls_ne (tk : List Str) : falls tk ≠ [] := by
  intro e
  have e' := List.map_eq_nil_iff.mp e
  have hs : ∀ j, j < tk.length + 1 → dec (j : Nat) ∈ tk := fun j hj => by
    have := List.filter_eq_nil_iff.mp e' j (List.mem_range.mpr (by omega))
    simpa using this
  have nd : ((List.range (tk.length + 1)).map fun (j : Nat) => dec j).Nodup := by
    rw [List.nodup_iff_pairwise_ne, List.pairwise_map]
    exact List.Pairwise.imp (fun h z => h (dec_inj z)) (List.nodup_iff_pairwise_ne.mp List.nodup_range)
  have sub : ((List.range (tk.length + 1)).map fun (j : Nat) => dec j) ⊆ tk := fun z hz => by
    obtain ⟨j, hj, rfl⟩ := List.mem_map.mp hz
    exact hs j (List.mem_range.mp hj)
  have := List.Nodup.length_le_of_subset nd sub
  simp at this
  omega
theorem fall_at (tk : List Str) : atI (falls tk) 0 = some (fall tk) := by
  have : 0 < (falls tk).length := List.length_pos_iff.mpr (falls_ne tk)
  exact atI_getD (xs := falls tk) "" (by decide) (by omega)
theorem fall_ok {tk : List Str} (hl : tk.length < 1000) : isNm (fall tk) ∧ fall tk ∉ tk := by
  have := mem_of_atI (fall_at tk)
  unfold falls at this
  obtain ⟨j, hj, e⟩ := List.mem_map.mp this
  obtain ⟨h1, h2⟩ := List.mem_filter.mp hj
  have h3 := List.mem_range.mp h1
  rw [← e]
  exact ⟨dec_nm (by omega), by simpa using h2⟩
theorem name_ok (c : Int) {tk : List Str} (hl : tk.length < 1000) (h : ∀ z ∈ tk, isNm z) : isNm (name c tk) ∧ name c tk ∉ tk := by
  unfold name
  split
  · exact ⟨nm3_ok c h, by assumption⟩
  · exact fall_ok hl

/-! ### leans -/
def lnLeft (c : Int) (k : Nat) (l : Int) : Int := if l / 3 < 100 then mixed c ((k : Int) + 2) else l / 3
def lnHit (c : Int) (n k : Nat) (l : Int) : Bool := (decide ((k : Int) = (n : Int) - 1) && decide (c % 7 = 3)) || (decide (l % (2 + c % 3) = 0) && (decide ((n : Int) < 20) || decide ((k : Int) % 7 = l / 4 % 7)))
def lnStep (c : Int) (n : Nat) (k : Nat) (ch : Ch) (s : Int × List Str) : Int × List Str := (lnLeft c k s.1, if lnHit c n k s.1 = true then s.2 ++ [ch.1] else s.2)
def lnSt (c : Int) (ah : List Ch) : Nat → Int × List Str := nst (lnStep c ah.length) (mixed c 1, []) ah
def leans (c : Int) (ah : List Ch) : List Str := ssort (lnSt c ah ah.length).2
theorem lnSt_inv (c : Int) (ah : List Ch) : ∀ k, k ≤ ah.length → 0 ≤ (lnSt c ah k).1 ∧ (lnSt c ah k).2.Sublist ((ah.take k).map (·.1)) :=
  nst_inv (fun (k : Nat) (s : Int × List Str) => 0 ≤ s.1 ∧ s.2.Sublist ((ah.take k).map (·.1))) ⟨mixed_lo _ _, by simp⟩ fun k a s e ⟨h1, h2⟩ => by
    refine ⟨?_, ?_⟩
    · show 0 ≤ lnLeft c k s.1
      unfold lnLeft
      split
      · exact mixed_lo _ _
      · omega
    · show (if lnHit c ah.length k s.1 = true then s.2 ++ [a.1] else s.2).Sublist _
      rw [List.take_add_one, e]
      split
      · simp only [Option.toList, List.map_append, List.map_cons, List.map_nil]
        exact h2.append (List.Sublist.refl _)
      · simp only [Option.toList, List.map_append, List.map_cons, List.map_nil]
        exact h2.trans (List.sublist_append_left _ _)
theorem leans_perm (c : Int) (ah : List Ch) : (leans c ah).Perm (lnSt c ah ah.length).2 := List.mergeSort_perm _ _
theorem leans_len (c : Int) (ah : List Ch) : (lnSt c ah ah.length).2.length ≤ ah.length := by
  have := (lnSt_inv c ah ah.length (Nat.le_refl _)).2.length_le
  simpa using this
theorem leans_sub (c : Int) (ah : List Ch) : ∀ z ∈ leans c ah, z ∈ ah.map (·.1) := fun z hz => by
  have h := (lnSt_inv c ah ah.length (Nat.le_refl _)).2.subset ((leans_perm c ah).mem_iff.mp hz)
  rwa [List.take_length] at h
def slt (a b : Str) : Prop := a.cps.toList < b.cps.toList
def rising (xs : List Str) : Prop := xs.Pairwise slt
theorem slt_of {a b : Str} (h : sle a b = true) (n : a ≠ b) : slt a b := by
  unfold sle at h
  simp only [Bool.not_eq_true', decide_eq_false_iff_not] at h
  unfold slt
  by_cases q : a.cps.toList < b.cps.toList
  · exact q
  · exact absurd (ext_tl (List.le_antisymm h q)) n
theorem slt_ne {a b : Str} (h : slt a b) : a ≠ b := fun e => by subst e; exact List.lt_irrefl _ h
theorem rising_of {xs : List Str} (nd : xs.Nodup) : rising (ssort xs) := by
  have h1 : (ssort xs).Pairwise fun a b => sle a b = true := List.pairwise_mergeSort (le := sle) (fun a b c => sle_trans a b c) (fun a b => sle_total a b) xs
  have h2 : (ssort xs).Nodup := (List.mergeSort_perm xs sle).nodup_iff.mpr nd
  exact (h1.and (List.nodup_iff_pairwise_ne.mp h2)).imp fun h => slt_of h.1 h.2
theorem leans_rising (c : Int) {ah : List Ch} (nd : (ah.map (·.1)).Nodup) : rising (leans c ah) := by
  refine rising_of ?_
  have h := (lnSt_inv c ah ah.length (Nat.le_refl _)).2
  rw [List.take_length] at h
  exact h.nodup nd
end MM

/-! Marks, deeds, changes as the laws make them. -/
namespace MM
open PySem L2 DD TL

/-! ### marks -/
def adds (ds : List Dd) : Nat := (ds.filter fun d => decide (d.1 = ("add" : Str))).length
def mks (ch : Ch) : List Mk := (List.range (adds ch.2.2)).map fun (j : Nat) => (ch.1, (j : Int))
theorem adds_le (ds : List Dd) : adds ds ≤ ds.length := List.length_filter_le _ _
theorem adds_app (xs ys : List Dd) : adds (xs ++ ys) = adds xs + adds ys := by unfold adds; rw [List.filter_append, List.length_append]
theorem adds_cut (m : Option Mk) (l : Option Str) : adds [(("cut" : Str), m, l)] = 0 := by
  unfold adds
  rw [List.filter_cons, if_neg]
  · rfl
  · simp only [decide_eq_true_eq]
    decide +kernel
theorem adds_set (m : Option Mk) (l : Option Str) : adds [(("set" : Str), m, l)] = 0 := by
  unfold adds
  rw [List.filter_cons, if_neg]
  · rfl
  · simp only [decide_eq_true_eq]
    decide +kernel
theorem mks_len (ch : Ch) : (mks ch).length = adds ch.2.2 := by simp [mks]
theorem mem_mks {ch : Ch} {m : Mk} : m ∈ mks ch ↔ m.1 = ch.1 ∧ 0 ≤ m.2 ∧ m.2 < adds ch.2.2 := by
  obtain ⟨a, b⟩ := m
  unfold mks
  rw [List.mem_map]
  constructor
  · rintro ⟨j, hj, e⟩
    cases e
    have := List.mem_range.mp hj
    exact ⟨rfl, by omega, by show ((j : Nat) : Int) < _; omega⟩
  · rintro ⟨h1, h2, h3⟩
    simp only at h1 h2 h3
    exact ⟨b.toNat, List.mem_range.mpr (by omega), by rw [h1]; simp; omega⟩

/-! ### deeds -/
def mkD : Mk := (("" : Str), 0)
def dKnown (nm : Str) (ms : List Mk) (own : Int) : List Mk := ms ++ (List.range own.toNat).map fun (j : Nat) => (nm, (j : Int))
def dAt (nm : Str) (c : Int) (ms : List Mk) (k : Nat) (own : Int) : Int := mixed c (k : Int) / 5 % ((dKnown nm ms own).length + 1)
def dPut (nm : Str) (c : Int) (ms : List Mk) (k : Nat) (own : Int) : Option Mk := if 0 < dAt nm c ms k own then some ((dKnown nm ms own).getD (dAt nm c ms k own - 1).toNat mkD) else none
def dHit (nm : Str) (c : Int) (ms : List Mk) (k : Nat) (own : Int) : Mk := (dKnown nm ms own).getD (dAt nm c ms k own % (dKnown nm ms own).length).toNat mkD
def dAdd (nm : Str) (c : Int) (ms : List Mk) (k : Nat) (own : Int) : Bool := decide (mixed c (k : Int) % 5 < 3) || (dKnown nm ms own).isEmpty
def dStep (nm : Str) (c : Int) (ms : List Mk) (k : Nat) (s : List Dd × Int) : List Dd × Int :=
  if dAdd nm c ms k s.2 = true then (s.1 ++ [(("add" : Str), dPut nm c ms k s.2, some (line (mixed c (k : Int) / 365)))], s.2 + 1)
  else if mixed c (k : Int) % 5 = 3 then (s.1 ++ [(("cut" : Str), some (dHit nm c ms k s.2), none)], s.2)
  else (s.1 ++ [(("set" : Str), some (dHit nm c ms k s.2), some (line (mixed c (k : Int) / 365)))], s.2)
def dSt (nm : Str) (c : Int) (ms : List Mk) : Nat → List Dd × Int := nrg (dStep nm c ms) ([], 0)
def deeds (nm : Str) (c many : Int) (ms : List Mk) : List Dd := (dSt nm c ms many.toNat).1
theorem dKnown_mem {nm : Str} {ms : List Mk} {own : Int} {m : Mk} (h : m ∈ dKnown nm ms own) : m ∈ ms ∨ (m.1 = nm ∧ 0 ≤ m.2 ∧ m.2 < own) := by
  unfold dKnown at h
  rcases List.mem_append.mp h with h | h
  · exact .inl h
  · obtain ⟨j, hj, e⟩ := List.mem_map.mp h
    have := List.mem_range.mp hj
    subst e
    exact .inr ⟨rfl, by simp, by simp; omega⟩
theorem dKnown_len (nm : Str) (ms : List Mk) (own : Int) : (dKnown nm ms own).length = ms.length + own.toNat := by simp [dKnown]
/-- what one deed is, known marks ms, n own ones ahead -/
def okDd (nm : Str) (ms : List Mk) (n : Nat) (d : Dd) : Prop :=
  (d.1 = ("add" : Str) ∧ (∀ m, d.2.1 = some m → m ∈ ms ∨ (m.1 = nm ∧ 0 ≤ m.2 ∧ m.2 < n)) ∧ ∃ z, d.2.2 = some z ∧ isLn z) ∨
  (∃ m, (m ∈ ms ∨ (m.1 = nm ∧ 0 ≤ m.2 ∧ m.2 < n)) ∧ ((d = (("cut" : Str), some m, none)) ∨ ∃ z, isLn z ∧ d = (("set" : Str), some m, some z)))
def okDds (nm : Str) (ms : List Mk) (ds : List Dd) : Prop := ∀ (i : Nat) (d : Dd), ds[i]? = some d → okDd nm ms (adds (ds.take i)) d
theorem okDds_snoc {nm : Str} {ms : List Mk} {ds : List Dd} {d : Dd} (h : okDds nm ms ds) (hd : okDd nm ms (adds ds) d) : okDds nm ms (ds ++ [d]) := by
  intro i e he
  by_cases hi : i < ds.length
  · rw [List.getElem?_append_left hi] at he
    rw [List.take_append_of_le_length (by omega)]
    exact h i e he
  · have hi2 : i < (ds ++ [d]).length := (List.getElem?_eq_some_iff.mp he).1
    simp at hi2
    have : i = ds.length := by omega
    subst this
    simp at he
    subst he
    rw [List.take_append_of_le_length (by omega), List.take_length]
    exact hd
theorem dAt_lo (nm : Str) (c : Int) (ms : List Mk) (k : Nat) (own : Int) : 0 ≤ dAt nm c ms k own := Int.emod_nonneg _ (by omega)
theorem dAt_hi (nm : Str) (c : Int) (ms : List Mk) (k : Nat) (own : Int) : dAt nm c ms k own ≤ (dKnown nm ms own).length := by
  have : dAt nm c ms k own < ((dKnown nm ms own).length : Int) + 1 := Int.emod_lt_of_pos _ (by omega)
  omega
theorem dPut_at (nm : Str) (c : Int) (ms : List Mk) (k : Nat) (own : Int) (h : 0 < dAt nm c ms k own) : atI (dKnown nm ms own) (dAt nm c ms k own - 1) = some ((dKnown nm ms own).getD (dAt nm c ms k own - 1).toNat mkD) :=
  atI_getD mkD (by omega) (by have := dAt_hi nm c ms k own; omega)
theorem dHit_at (nm : Str) (c : Int) (ms : List Mk) (k : Nat) (own : Int) (h : dKnown nm ms own ≠ []) : atI (dKnown nm ms own) (dAt nm c ms k own % (dKnown nm ms own).length) = some (dHit nm c ms k own) := by
  have hl : 0 < (dKnown nm ms own).length := List.length_pos_iff.mpr h
  exact atI_getD mkD (Int.emod_nonneg _ (by omega)) (Int.emod_lt_of_pos _ (by omega))
theorem dSt_inv (nm : Str) (c : Int) (ms : List Mk) (n : Nat) : ∀ k, k ≤ n → okDds nm ms (dSt nm c ms k).1 ∧ (dSt nm c ms k).2 = (adds (dSt nm c ms k).1 : Nat) ∧ (dSt nm c ms k).1.length = k :=
  nrg_inv (fun (k : Nat) (s : List Dd × Int) => okDds nm ms s.1 ∧ s.2 = (adds s.1 : Nat) ∧ s.1.length = k) ⟨fun i d h => by simp at h, rfl, rfl⟩ fun k s hk ⟨h1, h2, h3⟩ => by
    have hz := line_isLn (mixed c (k : Int) / 365)
    have kn : ∀ m, m ∈ dKnown nm ms s.2 → m ∈ ms ∨ (m.1 = nm ∧ 0 ≤ m.2 ∧ m.2 < (adds s.1 : Nat)) := fun m hm => by
      have := dKnown_mem hm
      rwa [h2] at this
    unfold dStep
    split
    · refine ⟨okDds_snoc h1 (.inl ⟨rfl, fun m hm => ?_, _, rfl, hz⟩), ?_, by simp [h3]⟩
      · unfold dPut at hm
        by_cases q : 0 < dAt nm c ms k s.2
        · simp only [if_pos q] at hm
          have e := Option.some.inj hm
          subst e
          exact kn _ (mem_of_atI (dPut_at nm c ms k s.2 q))
        · simp only [if_neg q] at hm
          cases hm
      · show s.2 + 1 = _
        rw [adds_app, h2]
        simp [adds]
    · rename_i hA
      have hne : dKnown nm ms s.2 ≠ [] := fun e => hA (by unfold dAdd; rw [e]; simp)
      have hm := kn _ (mem_of_atI (dHit_at nm c ms k s.2 hne))
      split
      · refine ⟨okDds_snoc h1 (.inr ⟨_, hm, .inl rfl⟩), ?_, by simp [h3]⟩
        show s.2 = _
        rw [adds_app, adds_cut, Nat.add_zero]
        exact h2
      · refine ⟨okDds_snoc h1 (.inr ⟨_, hm, .inr ⟨_, hz, rfl⟩⟩), ?_, by simp [h3]⟩
        show s.2 = _
        rw [adds_app, adds_set, Nat.add_zero]
        exact h2
theorem deeds_ok (nm : Str) (c many : Int) (ms : List Mk) : okDds nm ms (deeds nm c many ms) ∧ (deeds nm c many ms).length = many.toNat := by
  have := dSt_inv nm c ms many.toNat many.toNat (Nat.le_refl _)
  exact ⟨this.1, this.2.2⟩

/-! ### changes -/
def mkStep (ln : List Str) (k : Nat) (ch : Ch) (s : List Mk) : List Mk := if ch.1 ∈ ln then s ++ mks ch else s
def mkSt (ln : List Str) (fs : List Ch) : Nat → List Mk := nst (mkStep ln) [] fs
def mksOf (ln : List Str) (fs : List Ch) : List Mk := mkSt ln fs fs.length
theorem mkSt_mem (ln : List Str) (fs : List Ch) : ∀ k, k ≤ fs.length → ∀ m ∈ mkSt ln fs k, ∃ ch ∈ fs, ch.1 ∈ ln ∧ m ∈ mks ch :=
  nst_inv (fun (k : Nat) (s : List Mk) => ∀ m ∈ s, ∃ ch ∈ fs, ch.1 ∈ ln ∧ m ∈ mks ch) (by simp) fun k a s e h m hm => by
    unfold mkStep at hm
    split at hm
    · rcases List.mem_append.mp hm with hm | hm
      · exact h m hm
      · exact ⟨a, List.mem_of_getElem? e, by assumption, hm⟩
    · exact h m hm
theorem mksOf_mem {ln : List Str} {fs : List Ch} {m : Mk} (h : m ∈ mksOf ln fs) : ∃ ch ∈ fs, ch.1 ∈ ln ∧ m ∈ mks ch := mkSt_mem ln fs _ (Nat.le_refl _) m h
theorem mkSt_len (ln : List Str) (fs : List Ch) (b : Nat) (hb : ∀ ch ∈ fs, adds ch.2.2 ≤ b) : ∀ k, k ≤ fs.length → (mkSt ln fs k).length ≤ k * b :=
  nst_inv (fun (k : Nat) (s : List Mk) => s.length ≤ k * b) (by simp) fun k a s e h => by
    have := hb a (List.mem_of_getElem? e)
    unfold mkStep
    rw [Nat.add_mul]
    split
    · rw [List.length_append, mks_len]; omega
    · omega
def many (c : Int) : Int := if c / 5 % 16 = 1 then 20 - c / 80 % 16 else c % 5
theorem many_lo (c : Int) : 0 ≤ many c := by unfold many; split <;> omega
theorem many_hi (c : Int) : many c ≤ 20 := by unfold many; split <;> omega
def cAt (cs : List Int) (k : Nat) (j : Int) : Int := cs.getD (4 * (k : Int) + j).toNat 0
def chNew (cs : List Int) (k : Nat) (s : List Ch × List Str) : Ch :=
  (name (cAt cs k 0) s.2, leans (cAt cs k 1) s.1, deeds (name (cAt cs k 0) s.2) (cAt cs k 2) (many (cAt cs k 3)) (mksOf (leans (cAt cs k 1) s.1) s.1))
def chStep (cs : List Int) (k : Nat) (s : List Ch × List Str) : List Ch × List Str := (s.1 ++ [chNew cs k s], s.2 ++ [name (cAt cs k 0) s.2])
def chSt (cs : List Int) : Nat → List Ch × List Str := nrg (chStep cs) ([], ["0"])
def chN (cs : List Int) (most : Int) : Int := min ((cs.length : Int) / 4) most
def changes (cs : List Int) (most : Int) : List Ch := (chSt cs (chN cs most).toNat).1
/-- a change that stands behind those of fs -/
structure okCh (fs : List Ch) (ch : Ch) : Prop where
  nm : isNm ch.1
  new : ∀ f ∈ fs, f.1 ≠ ch.1
  lns : ∀ z ∈ ch.2.1, z ∈ fs.map (·.1)
  ris : rising ch.2.1
  dds : ∃ ms, (∀ m ∈ ms, ∃ f ∈ fs, f.1 ∈ ch.2.1 ∧ m ∈ mks f) ∧ okDds ch.1 ms ch.2.2
  len : ch.2.2.length ≤ 20
/-- changes, each upon those ahead -/
def okChs (cs : List Ch) : Prop := ∀ (i : Nat) (ch : Ch), cs[i]? = some ch → okCh (cs.take i) ch
theorem okChs_snoc {cs : List Ch} {ch : Ch} (h : okChs cs) (hc : okCh cs ch) : okChs (cs ++ [ch]) := by
  intro i e he
  by_cases hi : i < cs.length
  · rw [List.getElem?_append_left hi] at he
    rw [List.take_append_of_le_length (by omega)]
    exact h i e he
  · have hi2 : i < (cs ++ [ch]).length := (List.getElem?_eq_some_iff.mp he).1
    simp at hi2
    have : i = cs.length := by omega
    subst this
    simp at he
    subst he
    rw [List.take_append_of_le_length (by omega), List.take_length]
    exact hc
theorem zero_nm : isNm ("0" : Str) := ⟨by decide +kernel, by decide +kernel, by decide +kernel⟩
structure ChInv (k : Nat) (s : List Ch × List Str) : Prop where
  ok : okChs s.1
  nd : (s.1.map (·.1)).Nodup
  tk : s.2 = ("0" : Str) :: s.1.map (·.1)
  tn : ∀ z ∈ s.2, isNm z
  len : s.1.length = k
theorem ChInv.step {cs : List Int} {k : Nat} {s : List Ch × List Str} (hk : k < 900) (I : ChInv k s) : ChInv (k + 1) (chStep cs k s) := by
  have hl : s.2.length < 1000 := by rw [I.tk]; simp [I.len]; omega
  obtain ⟨n1, n2⟩ := name_ok (cAt cs k 0) hl I.tn
  have n3 : name (cAt cs k 0) s.2 ∉ s.1.map (·.1) := fun h => n2 (by rw [I.tk] at h ⊢; exact List.mem_cons_of_mem _ h)
  refine ⟨okChs_snoc I.ok ⟨n1, fun f hf e => n3 (List.mem_map.mpr ⟨f, hf, e⟩), leans_sub _ _, leans_rising _ I.nd, ⟨_, fun m hm => mksOf_mem hm, (deeds_ok _ _ _ _).1⟩, ?_⟩, ?_, ?_, ?_, ?_⟩
  · show (deeds _ _ _ _).length ≤ 20
    rw [(deeds_ok _ _ _ _).2]
    have := many_hi (cAt cs k 3)
    omega
  · show ((s.1 ++ [chNew cs k s]).map (·.1)).Nodup
    rw [List.map_append]
    refine List.nodup_append.mpr ⟨I.nd, by simp, fun a ha b hb e => ?_⟩
    subst e
    simp at hb
    subst hb
    exact n3 ha
  · show s.2 ++ [_] = _ :: (s.1 ++ [chNew cs k s]).map (·.1)
    rw [List.map_append, ← List.cons_append, ← I.tk]
    rfl
  · intro z hz
    rcases List.mem_append.mp hz with hz | hz
    · exact I.tn z hz
    · rw [List.mem_singleton.mp hz]; exact n1
  · show (s.1 ++ [_]).length = _
    simp [I.len]
theorem chSt_inv (cs : List Int) {n : Nat} (hn : n < 900) : ∀ k, k ≤ n → ChInv k (chSt cs k) :=
  nrg_inv (fun k s => ChInv k s) ⟨fun i d h => by simp at h, by simp, rfl, fun z hz => by rw [List.mem_singleton.mp hz]; exact zero_nm, rfl⟩ fun k s hk I => I.step (by omega)
theorem changes_inv (cs : List Int) {most : Int} (h : most < 900) : ChInv (chN cs most).toNat (chSt cs (chN cs most).toNat) := chSt_inv cs (n := (chN cs most).toNat) (by unfold chN; omega) _ (Nat.le_refl _)
end MM

/-! What is a change by itself; a change written. -/
namespace MM
open PySem L2 DD TL

/-! ### names, lines, rising, as the program looks at them -/
theorem all_map {α : Type} (p : α → Bool) (l : List α) : ((l.map p).all fun b => b) = true ↔ ∀ x ∈ l, p x = true := by
  rw [List.all_map, List.all_eq_true]
  rfl
def nmB (z : Str) : Bool := (decide ((1 : Int) ≤ z.length) && decide ((z.length : Int) ≤ 12)) && ((z.cps.toList.map fun k => decide (k ∈ SIG.cps.toList)).all fun b => b)
theorem nmB_iff (z : Str) : nmB z = true ↔ isNm z := by
  unfold nmB isNm
  rw [Bool.and_eq_true, Bool.and_eq_true, decide_eq_true_eq, decide_eq_true_eq, all_map]
  simp only [decide_eq_true_eq]
  constructor
  · rintro ⟨⟨h1, h2⟩, h3⟩
    exact ⟨by omega, by omega, h3⟩
  · rintro ⟨h1, h2, h3⟩
    exact ⟨⟨by omega, by omega⟩, h3⟩
def lnK (k : Nat) : Bool := !decide ((⟨#[k]⟩ : Str).cps.toList < (" " : Str).cps.toList) && !decide (("~" : Str).cps.toList < (⟨#[k]⟩ : Str).cps.toList)
theorem one_lt (a b : Nat) : ([a] < [b]) ↔ a < b := by
  constructor
  · intro h
    rcases List.cons_lt_cons_iff.mp h with h | ⟨_, h⟩
    · exact h
    · exact absurd h (by simp)
  · intro h
    exact List.cons_lt_cons_iff.mpr (.inl h)
theorem lnK_iff (k : Nat) : lnK k = true ↔ 32 ≤ k ∧ k ≤ 126 := by
  unfold lnK
  have e1 : (" " : Str).cps.toList = [32] := by decide +kernel
  have e2 : ("~" : Str).cps.toList = [126] := by decide +kernel
  rw [e1, e2]
  show (!decide ([k] < [32]) && !decide ([126] < [k])) = true ↔ _
  rw [Bool.and_eq_true, Bool.not_eq_true', Bool.not_eq_true', decide_eq_false_iff_not, decide_eq_false_iff_not, one_lt, one_lt]
  omega
def lnB (z : Str) : Bool := decide ((z.length : Int) ≤ 200) && ((z.cps.toList.map lnK).all fun b => b)
theorem lnB_iff (z : Str) : lnB z = true ↔ isLn z := by
  unfold lnB isLn
  rw [Bool.and_eq_true, decide_eq_true_eq, all_map]
  simp only [lnK_iff]
  constructor
  · rintro ⟨h1, h2⟩
    exact ⟨by omega, h2⟩
  · rintro ⟨h1, h2⟩
    exact ⟨by omega, h2⟩
instance instDecSlt (a b : Str) : Decidable (slt a b) := inferInstanceAs (Decidable (a.cps.toList < b.cps.toList))
instance instDecRising (xs : List Str) : Decidable (rising xs) := inferInstanceAs (Decidable (xs.Pairwise slt))
theorem slt_trans {a b c : Str} (h : slt a b) (h' : slt b c) : slt a c := List.lt_trans h h'
theorem rising_adj {xs : List Str} (h : ∀ (i : Nat) (a b : Str), xs[i]? = some a → xs[i + 1]? = some b → slt a b) : rising xs := by
  refine List.pairwise_iff_getElem.mpr fun i j hi hj hij => ?_
  obtain ⟨k, rfl⟩ : ∃ k, j = i + 1 + k := ⟨j - (i + 1), by omega⟩
  induction k with
  | zero => exact h i _ _ (by simp [hi]) (by simp [hj])
  | succ k ih =>
    exact slt_trans (ih (by omega) (by omega)) (h (i + 1 + k) _ _ (List.getElem?_eq_getElem (by omega)) (List.getElem?_eq_getElem hj))
theorem rising_get {xs : List Str} (h : rising xs) {i : Nat} {a b : Str} (ha : xs[i]? = some a) (hb : xs[i + 1]? = some b) : slt a b := by
  obtain ⟨h1, e1⟩ := List.getElem?_eq_some_iff.mp ha
  obtain ⟨h2, e2⟩ := List.getElem?_eq_some_iff.mp hb
  rw [← e1, ← e2]
  exact List.pairwise_iff_getElem.mp h i (i + 1) h1 h2 (by omega)
theorem cutD_from {α : Type} (xs : List α) {n : Int} (h : 0 ≤ n) : cutD xs (some n) none = xs.drop n.toNat := by
  unfold cutD
  show (xs.drop (if n < 0 then (n + (xs.length : Int)).toNat else min n.toNat xs.length)).take (xs.length - (if n < 0 then (n + (xs.length : Int)).toNat else min n.toNat xs.length)) = _
  rw [if_neg (by omega), List.take_of_length_le (by rw [List.length_drop]; exact Nat.le_refl _)]
  by_cases hn : n.toNat ≤ xs.length
  · rw [Nat.min_eq_left hn]
  · rw [Nat.min_eq_right (by omega), List.drop_of_length_le (Nat.le_refl _), List.drop_of_length_le (by omega)]

/-! ### a change by itself -/
def dkB (d : Dd) : Bool := if d.1 ∉ [("add" : Str), "cut", "set"] then false else if d.1 = ("cut" : Str) then d.2.1.isSome else (lnB (d.2.2.getD "") && (decide (d.1 = ("add" : Str)) || d.2.1.isSome))
/-- a deed: word, mark, line -/
def shDd (d : Dd) : Prop := (d.1 = ("add" : Str) ∧ ∃ z, d.2.2 = some z ∧ isLn z) ∨ (∃ m, d = (("cut" : Str), some m, none)) ∨ ∃ m z, isLn z ∧ d = (("set" : Str), some m, some z)
structure wfCh (ch : Ch) : Prop where
  nm : isNm ch.1
  lns : ∀ z ∈ ch.2.1, isNm z
  ris : rising ch.2.1
  own : ch.1 ∉ ch.2.1
  dds : ∀ d ∈ ch.2.2, shDd d
  len : ch.2.2.length ≤ 20
  mks : ∀ d ∈ ch.2.2, ∀ m, d.2.1 = some m → m.1 = ch.1 ∨ m.1 ∈ ch.2.1
theorem ne_ac : ("add" : Str) ≠ ("cut" : Str) := by decide +kernel
theorem ne_sc : ("set" : Str) ≠ ("cut" : Str) := by decide +kernel
theorem ne_sa : ("set" : Str) ≠ ("add" : Str) := by decide +kernel
theorem shDd.ok {d : Dd} (h : shDd d) : dkB d = true := by
  unfold dkB
  rcases h with ⟨h1, z, h2, h3⟩ | ⟨m, rfl⟩ | ⟨m, z, hz, rfl⟩
  · rw [h1, h2, if_neg (by simp), if_neg ne_ac]
    simp [(lnB_iff z).mpr h3]
  · rw [if_neg (by simp), if_pos rfl]
    rfl
  · rw [if_neg (by simp), if_neg ne_sc]
    simp [(lnB_iff z).mpr hz]
theorem shDd.line {d : Dd} (h : shDd d) (hc : d.1 ≠ ("cut" : Str)) : ∃ z, d.2.2 = some z ∧ isLn z := by
  rcases h with ⟨h1, z, h2, h3⟩ | ⟨m, rfl⟩ | ⟨m, z, hz, rfl⟩
  · exact ⟨z, h2, h3⟩
  · exact absurd rfl hc
  · exact ⟨z, rfl, hz⟩
theorem shDd.word {d : Dd} (h : shDd d) : d.1 = ("add" : Str) ∨ d.1 = ("cut" : Str) ∨ d.1 = ("set" : Str) := by
  rcases h with ⟨h1, z, h2, h3⟩ | ⟨m, rfl⟩ | ⟨m, z, hz, rfl⟩
  · exact .inl h1
  · exact .inr (.inl rfl)
  · exact .inr (.inr rfl)
theorem okDd.sh {nm : Str} {ms : List Mk} {n : Nat} {d : Dd} (h : okDd nm ms n d) : shDd d := by
  rcases h with ⟨h1, _, h3⟩ | ⟨m, _, rfl | ⟨z, hz, rfl⟩⟩
  · exact .inl ⟨h1, h3⟩
  · exact .inr (.inl ⟨m, rfl⟩)
  · exact .inr (.inr ⟨m, z, hz, rfl⟩)
theorem okDd.mk {nm : Str} {ms : List Mk} {n : Nat} {d : Dd} (h : okDd nm ms n d) {m : Mk} (hm : d.2.1 = some m) : m ∈ ms ∨ (m.1 = nm ∧ 0 ≤ m.2 ∧ m.2 < n) := by
  rcases h with ⟨_, h2, _⟩ | ⟨m', h', rfl | ⟨z, hz, rfl⟩⟩
  · exact h2 m hm
  · cases Option.some.inj hm; exact h'
  · cases Option.some.inj hm; exact h'
theorem isNon_om (m : Option Mk) : isNon (eOM m) = m.isNone := by cases m <;> rfl

/-! ### a change written -/
def asc (z : Str) : Prop := ∀ k ∈ tl z, k < 256
theorem asc.app {x y : Str} (h : asc x) (h' : asc y) : asc (x ++ y) := fun k hk => by
  rw [tl_append] at hk
  rcases List.mem_append.mp hk with hk | hk
  · exact h k hk
  · exact h' k hk
theorem joinL_mem {S : List Nat} : ∀ {ps : List (List Nat)} {k : Nat}, k ∈ joinL S ps → k ∈ S ∨ ∃ p ∈ ps, k ∈ p
  | [], k, h => by simp [joinL] at h
  | [p], k, h => .inr ⟨p, by simp, h⟩
  | p :: q :: r, k, h => by
    have h' : k ∈ p ++ (S ++ joinL S (q :: r)) := h
    rcases List.mem_append.mp h' with h | h
    · exact .inr ⟨p, by simp, h⟩
    · rcases List.mem_append.mp h with h | h
      · exact .inl h
      · rcases joinL_mem h with h | ⟨p', hp, h⟩
        · exact .inl h
        · exact .inr ⟨p', List.mem_cons_of_mem _ hp, h⟩
theorem tl_joinT (y : Str) (ps : List Str) : tl (Txt.join y ps) = joinL (tl y) (ps.map tl) := by rw [join_eq, tl_join]
theorem asc.join {y : Str} {ps : List Str} (h : asc y) (hp : ∀ p ∈ ps, asc p) : asc (Txt.join y ps) := fun k hk => by
  rw [tl_joinT] at hk
  rcases joinL_mem hk with hk | ⟨p, hp', hk⟩
  · exact h k hk
  · obtain ⟨z, hz, rfl⟩ := List.mem_map.mp hp'
    exact hp z hz k hk
theorem joinL_len {S : List Nat} : ∀ {ps : List (List Nat)}, (joinL S ps).length ≤ (ps.map List.length).sum + ps.length * S.length
  | [] => by simp [joinL]
  | [p] => by simp [joinL]
  | p :: q :: r => by
    have := joinL_len (S := S) (ps := q :: r)
    show (p ++ (S ++ joinL S (q :: r))).length ≤ _
    rw [List.length_append, List.length_append]
    simp only [List.map_cons, List.sum_cons, List.length_cons, Nat.add_mul, Nat.one_mul] at *
    omega
theorem sum_le {l : List Nat} {b : Nat} (h : ∀ x ∈ l, x ≤ b) : l.sum ≤ l.length * b := by
  induction l with
  | nil => simp
  | cons a r ih =>
    have h1 := h a (by simp)
    have h2 := ih fun x hx => h x (by simp [hx])
    simp only [List.sum_cons, List.length_cons, Nat.add_mul, Nat.one_mul]
    omega
theorem join_cost {y : Str} {ps : List Str} {b : Nat} (h : ∀ p ∈ ps, p.length ≤ b) : (ps.map (·.length)).sum + ps.length * y.length ≤ ps.length * (b + y.length) := by
  have := sum_le (l := ps.map (·.length)) (b := b) (by intro x hx; obtain ⟨p, hp, rfl⟩ := List.mem_map.mp hx; exact h p hp)
  rw [List.length_map] at this
  rw [Nat.mul_add]
  omega
theorem join_len {y : Str} {ps : List Str} {b : Nat} (h : ∀ p ∈ ps, p.length ≤ b) : (Txt.join y ps).length ≤ ps.length * (b + y.length) := by
  have h1 := join_cost (y := y) h
  rw [len_tl, tl_joinT]
  have h2 := joinL_len (S := tl y) (ps := ps.map tl)
  rw [List.length_map, List.map_map] at h2
  have e : (ps.map (List.length ∘ tl)) = ps.map (·.length) := by
    refine List.map_congr_left fun p _ => ?_
    show (tl p).length = _
    rw [len_tl]
  rw [e, ← len_tl] at h2
  omega
theorem isLn.asc {z : Str} (h : isLn z) : asc z := fun k hk => by have := h.2 k hk; omega
theorem isNm.asc {z : Str} (h : isNm z) : asc z := fun k hk => by have := SIG_hi k (h.2.2 k hk); omega
theorem dec_asc {n : Int} (h : 0 ≤ n) : asc (dec n) := fun k hk => by
  obtain ⟨m, rfl⟩ := Int.eq_ofNat_of_zero_le h
  have := dec_digits m k hk
  omega
theorem dec_len {n : Int} (h : 0 ≤ n) (h2 : n < 1000000000000) : (dec n).length ≤ 12 := by
  obtain ⟨m, rfl⟩ := Int.eq_ofNat_of_zero_le h
  exact (dec_nm (n := m) (by omega)).2.1
def mwr : Option Mk → Str
  | none => "-"
  | some m => m.1 ++ (" " : Str) ++ dec m.2
/-- a mark that may be written -/
def okMk (m : Mk) : Prop := isNm m.1 ∧ 0 ≤ m.2 ∧ m.2 < 1000000000
def okOM (o : Option Mk) : Prop := ∀ m, o = some m → okMk m
theorem l1 : (" " : Str).length = 1 := by decide +kernel
theorem mwr_ok {o : Option Mk} (h : okOM o) : (mwr o).length ≤ 30 ∧ asc (mwr o) := by
  cases o with
  | none => exact ⟨by decide +kernel, by unfold asc; decide +kernel⟩
  | some m =>
    obtain ⟨h1, h2, h3⟩ := h m rfl
    refine ⟨?_, (h1.asc.app (by unfold asc; decide +kernel)).app (dec_asc h2)⟩
    show (m.1 ++ (" " : Str) ++ dec m.2).length ≤ 30
    have := dec_len h2 (by omega)
    have := h1.2.1
    rw [len_app, len_app, l1]
    omega
def dwr (d : Dd) : Str := if d.1 = ("cut" : Str) then d.1 ++ (" " : Str) ++ mwr d.2.1 else d.1 ++ (" " : Str) ++ mwr d.2.1 ++ (": " : Str) ++ d.2.2.getD ""
theorem word_ok {d : Dd} (h : shDd d) : d.1.length ≤ 3 ∧ asc d.1 := by
  rcases h.word with e | e | e <;> rw [e] <;> exact ⟨by decide +kernel, by unfold asc; decide +kernel⟩
theorem l2' : (": " : Str).length = 2 := by decide +kernel
theorem dwr_ok {d : Dd} (h : shDd d) (hm : okOM d.2.1) : (dwr d).length ≤ 300 ∧ asc (dwr d) := by
  obtain ⟨w1, w2⟩ := word_ok h
  obtain ⟨m1, m2⟩ := mwr_ok hm
  have s1 : asc (" " : Str) := by unfold asc; decide +kernel
  have s2 : asc (": " : Str) := by unfold asc; decide +kernel
  unfold dwr
  split
  · refine ⟨?_, (w2.app s1).app m2⟩
    rw [len_app, len_app, l1]
    omega
  · rename_i hc
    obtain ⟨z, hz, hl⟩ := h.line hc
    rw [hz]
    refine ⟨?_, (((w2.app s1).app m2).app s2).app hl.asc⟩
    show (_ ++ z).length ≤ 300
    rw [len_app, len_app, len_app, len_app, l1, l2']
    have := hl.1
    omega
def hwr (ch : Ch) : Str := if ch.2.1 = [] then ("change " : Str) ++ ch.1 else ("change " : Str) ++ ch.1 ++ (" on " : Str) ++ Txt.join " " ch.2.1
def cwr (ch : Ch) : Str := Txt.join "\n" (hwr ch :: ch.2.2.map dwr)
/-- a change that may be written -/
structure wrCh (ch : Ch) : Prop where
  wf : wfCh ch
  few : ch.2.1.length ≤ 100
  num : ∀ d ∈ ch.2.2, okOM d.2.1
theorem lns_ok {ch : Ch} (h : wrCh ch) : (Txt.join " " ch.2.1).length ≤ 1300 ∧ asc (Txt.join " " ch.2.1) := by
  have := join_len (y := (" " : Str)) (ps := ch.2.1) (b := 12) fun p hp => (h.wf.lns p hp).2.1
  rw [l1] at this
  have := h.few
  exact ⟨by omega, asc.join (by unfold asc; decide +kernel) fun p hp => (h.wf.lns p hp).asc⟩
theorem l7 : ("change " : Str).length = 7 := by decide +kernel
theorem l4 : (" on " : Str).length = 4 := by decide +kernel
theorem hwr_ok {ch : Ch} (h : wrCh ch) : (hwr ch).length ≤ 1400 ∧ asc (hwr ch) := by
  obtain ⟨j1, j2⟩ := lns_ok h
  have n1 := h.wf.nm.2.1
  have n2 := h.wf.nm.asc
  have s1 : asc ("change " : Str) := by unfold asc; decide +kernel
  have s2 : asc (" on " : Str) := by unfold asc; decide +kernel
  unfold hwr
  split
  · exact ⟨by rw [len_app, l7]; omega, s1.app n2⟩
  · exact ⟨by rw [len_app, len_app, len_app, l7, l4]; omega, ((s1.app n2).app s2).app j2⟩
theorem rows_ok {ch : Ch} (h : wrCh ch) : ∀ p ∈ hwr ch :: ch.2.2.map dwr, p.length ≤ 1400 ∧ asc p := fun p hp => by
  rcases List.mem_cons.mp hp with rfl | hp
  · exact hwr_ok h
  · obtain ⟨d, hd, rfl⟩ := List.mem_map.mp hp
    have := dwr_ok (h.wf.dds d hd) (h.num d hd)
    exact ⟨by omega, this.2⟩
theorem ln : ("\n" : Str).length = 1 := by decide +kernel
theorem cwr_ok {ch : Ch} (h : wrCh ch) : (cwr ch).length ≤ 40000 ∧ asc (cwr ch) := by
  have := join_len (y := ("\n" : Str)) (ps := hwr ch :: ch.2.2.map dwr) (b := 1400) fun p hp => (rows_ok h p hp).1
  have hl := h.wf.len
  simp only [List.length_cons, List.length_map, ln] at this
  exact ⟨by unfold cwr; omega, asc.join (by unfold asc; decide +kernel) fun p hp => (rows_ok h p hp).2⟩
theorem cwr_sok {ch : Ch} (h : wrCh ch) : SOk (cwr ch) := sok_of (cwr_ok h).2 (by have := (cwr_ok h).1; omega)
end MM

/-! A change written, read again. -/
namespace MM
open PySem L2 DD TL
def prn (z : Str) : Prop := ∀ k ∈ tl z, 32 ≤ k ∧ k ≤ 126
theorem prn.app {x y : Str} (h : prn x) (h' : prn y) : prn (x ++ y) := fun k hk => by
  rw [tl_append] at hk
  rcases List.mem_append.mp hk with hk | hk
  · exact h k hk
  · exact h' k hk
theorem prn.join {y : Str} {ps : List Str} (h : prn y) (hp : ∀ p ∈ ps, prn p) : prn (Txt.join y ps) := fun k hk => by
  rw [tl_joinT] at hk
  rcases joinL_mem hk with hk | ⟨p, hp', hk⟩
  · exact h k hk
  · obtain ⟨z, hz, rfl⟩ := List.mem_map.mp hp'
    exact hp z hz k hk
theorem isNm.prn {z : Str} (h : isNm z) : prn z := fun k hk => by have := SIG_hi k (h.2.2 k hk); omega
theorem dec_prn {n : Int} (h : 0 ≤ n) : prn (dec n) := fun k hk => by
  obtain ⟨m, rfl⟩ := Int.eq_ofNat_of_zero_le h
  have := dec_digits m k hk
  omega
theorem s1p : prn (" " : Str) := by unfold prn; decide +kernel
theorem mwr_prn {o : Option Mk} (h : okOM o) : prn (mwr o) := by
  cases o with
  | none => unfold prn; decide +kernel
  | some m =>
    obtain ⟨h1, h2, h3⟩ := h m rfl
    exact (h1.prn.app s1p).app (dec_prn h2)
theorem word_prn {d : Dd} (h : shDd d) : prn d.1 := by
  rcases h.word with e | e | e <;> rw [e] <;> unfold prn <;> decide +kernel
theorem dwr_prn {d : Dd} (h : shDd d) (hm : okOM d.2.1) : prn (dwr d) := by
  have w2 := word_prn h
  have m2 := mwr_prn hm
  have s2 : prn (": " : Str) := by unfold prn; decide +kernel
  unfold dwr
  split
  · exact (w2.app s1p).app m2
  · rename_i hc
    obtain ⟨z, hz, hl⟩ := h.line hc
    rw [hz]
    exact (((w2.app s1p).app m2).app s2).app hl.2
theorem hwr_prn {ch : Ch} (h : wrCh ch) : prn (hwr ch) := by
  have n2 := h.wf.nm.prn
  have s1 : prn ("change " : Str) := by unfold prn; decide +kernel
  have s2 : prn (" on " : Str) := by unfold prn; decide +kernel
  unfold hwr
  split
  · exact s1.app n2
  · exact ((s1.app n2).app s2).app (s1p.join fun p hp => (h.wf.lns p hp).prn)
theorem prn.no {z : Str} (h : prn z) : 10 ∉ tl z := fun hk => by have := h 10 hk; omega
theorem tl_nl : tl ("\n" : Str) = [10] := by decide +kernel
theorem tl_sp : tl (" " : Str) = [32] := by decide +kernel
theorem tl_co : tl (": " : Str) = [58, 32] := by decide +kernel
theorem cwr_split {ch : Ch} (h : wrCh ch) : Txt.split (cwr ch) "\n" = hwr ch :: ch.2.2.map dwr := by
  refine split_join (s := 10) (S := []) tl_nl (by decide +kernel) (by simp) fun p hp => ?_
  rcases List.mem_cons.mp hp with rfl | hp
  · exact (hwr_prn h).no
  · obtain ⟨d, hd, rfl⟩ := List.mem_map.mp hp
    exact (dwr_prn (h.wf.dds d hd) (h.num d hd)).no
theorem isNm.nosp {z : Str} (h : isNm z) : 32 ∉ tl z := fun hk => by have := SIG_hi 32 (h.2.2 32 hk); omega
theorem isNm.noco {z : Str} (h : isNm z) : 58 ∉ tl z := fun hk => by
  have h1 := h.2.2 58 hk
  revert h1
  decide +kernel
def hparts (ch : Ch) : List Str := if ch.2.1 = [] then [("change" : Str), ch.1] else ("change" : Str) :: ch.1 :: ("on" : Str) :: ch.2.1
theorem hwr_join (ch : Ch) : hwr ch = Txt.join " " (hparts ch) := by
  refine ext_tl ?_
  rw [tl_joinT, tl_sp]
  have e1 : tl ("change " : Str) = tl ("change" : Str) ++ [32] := by decide +kernel
  have e2 : tl (" on " : Str) = 32 :: (tl ("on" : Str) ++ [32]) := by decide +kernel
  unfold hwr hparts
  split
  · rw [tl_append, e1]
    simp [joinL]
  · rename_i hne
    rw [tl_append, tl_append, tl_append, tl_joinT, e1, e2, tl_sp]
    cases hl : ch.2.1 with
    | nil => exact absurd hl hne
    | cons a r => simp [joinL]
theorem hwr_split {ch : Ch} (h : wrCh ch) : Txt.split (hwr ch) " " = hparts ch := by
  rw [hwr_join]
  refine split_join (s := 32) (S := []) tl_sp (by decide +kernel) (by unfold hparts; split <;> simp) fun p hp => ?_
  unfold hparts at hp
  have n1 : 32 ∉ tl ("change" : Str) := by decide +kernel
  have n2 : 32 ∉ tl ("on" : Str) := by decide +kernel
  split at hp
  · simp only [List.mem_cons, List.not_mem_nil, or_false] at hp
    rcases hp with rfl | rfl
    · exact n1
    · exact h.wf.nm.nosp
  · simp only [List.mem_cons] at hp
    rcases hp with rfl | rfl | rfl | hp
    · exact n1
    · exact h.wf.nm.nosp
    · exact n2
    · exact (h.wf.lns p hp).nosp
theorem hparts_sok {ch : Ch} (h : wrCh ch) : ∀ z ∈ hparts ch, SOk z := by
  intro z hz
  unfold hparts at hz
  have n1 : SOk ("change" : Str) := by decide +kernel
  have n2 : SOk ("on" : Str) := by decide +kernel
  split at hz
  · simp only [List.mem_cons, List.not_mem_nil, or_false] at hz
    rcases hz with rfl | rfl
    · exact n1
    · exact h.wf.nm.sok
  · simp only [List.mem_cons] at hz
    rcases hz with rfl | rfl | rfl | hz
    · exact n1
    · exact h.wf.nm.sok
    · exact n2
    · exact (h.wf.lns z hz).sok
theorem mwr_ne (m : Mk) : mwr (some m) ≠ ("-" : Str) := fun e => by
  have h := congrArg tl e
  have e1 : tl ("-" : Str) = [45] := by decide +kernel
  have e2 : tl (mwr (some m)) = tl m.1 ++ [32] ++ tl (dec m.2) := by
    show tl (m.1 ++ (" " : Str) ++ dec m.2) = _
    rw [tl_append, tl_append, tl_sp]
  rw [e1, e2] at h
  have : 32 ∈ [45] := by rw [← h]; simp
  simp at this
theorem mwr_part {m : Mk} (h : okMk m) : Txt.partition (mwr (some m)) " " = (m.1, (" " : Str), dec m.2) := partition_app tl_sp h.1.nosp
theorem mwr_noco {o : Option Mk} (h : okOM o) : 58 ∉ tl (mwr o) := by
  cases o with
  | none => decide +kernel
  | some m =>
    obtain ⟨h1, h2, h3⟩ := h m rfl
    have e2 : tl (mwr (some m)) = tl m.1 ++ [32] ++ tl (dec m.2) := by
      show tl (m.1 ++ (" " : Str) ++ dec m.2) = _
      rw [tl_append, tl_append, tl_sp]
    rw [e2]
    intro hk
    rcases List.mem_append.mp hk with hk | hk
    · rcases List.mem_append.mp hk with hk | hk
      · exact h1.noco hk
      · simp at hk
    · obtain ⟨n, hn⟩ := Int.eq_ofNat_of_zero_le h2
      rw [hn] at hk
      have := dec_digits n 58 hk
      omega
def drest (d : Dd) : Str := if d.1 = ("cut" : Str) then mwr d.2.1 else mwr d.2.1 ++ (": " : Str) ++ d.2.2.getD ""
theorem app_assoc (x y z : Str) : x ++ y ++ z = x ++ (y ++ z) := ext_tl (by simp only [tl_append, List.append_assoc])
theorem dwr_eq (d : Dd) : dwr d = d.1 ++ (" " : Str) ++ drest d := by
  unfold dwr drest
  split
  · rfl
  · simp only [app_assoc]
theorem word_nosp {d : Dd} (h : shDd d) : 32 ∉ tl d.1 := by
  rcases h.word with e | e | e <;> rw [e] <;> decide +kernel
theorem dwr_part {d : Dd} (h : shDd d) : Txt.partition (dwr d) " " = (d.1, (" " : Str), drest d) := by
  rw [dwr_eq]
  exact partition_app tl_sp (word_nosp h)
theorem drest_part {d : Dd} (hm : okOM d.2.1) (hc : d.1 ≠ ("cut" : Str)) : Txt.partition (drest d) ": " = (mwr d.2.1, (": " : Str), d.2.2.getD "") := by
  unfold drest
  rw [if_neg hc]
  exact partition_app tl_co (mwr_noco hm)
theorem drest_ok {d : Dd} (h : shDd d) (hm : okOM d.2.1) : (drest d).length ≤ 300 ∧ SOk (drest d) := by
  obtain ⟨h1, h2⟩ := dwr_ok h hm
  rw [dwr_eq] at h1 h2
  rw [len_app] at h1
  refine ⟨by omega, sok_of (fun k hk => h2 k ?_) (by omega)⟩
  rw [tl_append]
  exact List.mem_append_right _ hk
theorem numL_head : ∀ n : Nat, 0 < n → (numL n).head? ≠ some 48 := by
  intro n
  induction n using Nat.strongRecOn with
  | _ n ih =>
    intro h0
    by_cases h : n < 10
    · rw [numL_lt h]
      simp
      omega
    · rw [numL_step (by omega)]
      have := ih (n / 10) (by omega) (by omega)
      have hne := numL_ne (n / 10)
      cases hq : numL (n / 10) with
      | nil => exact absurd hq hne
      | cons a r => rw [hq] at this; simpa using this
end MM

/-! One change, its marks with other numbers. -/
namespace MM
open PySem L2 DD TL
def nm1k (c : Int) (k : Nat) : Option Mk → Option Mk
  | none => none
  | some m => some (if (c + (k : Int)) % 3 = 1 then (m.1, mixed c (k : Int) % 1000000000) else m)
def nm2k (nm : Str) (c : Int) (k : Nat) : Option Mk → Option Mk
  | none => none
  | some m => some (if (c + (k : Int)) % 5 = 2 then (nm, m.2) else m)
def numD (nm : Str) (c : Int) (k : Nat) (d : Dd) : Dd := (d.1, nm2k nm c k (nm1k c k d.2.1), d.2.2)
def numSt (nm : Str) (c : Int) (ds : List Dd) : Nat → List Dd := nst (fun k d s => s ++ [numD nm c k d]) [] ds
def numbered (ch : Ch) (c : Int) : Ch := (ch.1, ch.2.1, numSt ch.1 c ch.2.2 ch.2.2.length)
theorem numSt_mem (nm : Str) (c : Int) (ds : List Dd) : ∀ k, k ≤ ds.length → (numSt nm c ds k).length = k ∧ ∀ e ∈ numSt nm c ds k, ∃ (j : Nat) (d : Dd), ds[j]? = some d ∧ e = numD nm c j d :=
  nst_inv (fun (k : Nat) (s : List Dd) => s.length = k ∧ ∀ e ∈ s, ∃ (j : Nat) (d : Dd), ds[j]? = some d ∧ e = numD nm c j d) ⟨rfl, by simp⟩ fun k d s e ⟨h1, h2⟩ => by
    refine ⟨by simp [h1], fun x hx => ?_⟩
    rcases List.mem_append.mp hx with hx | hx
    · exact h2 x hx
    · rw [List.mem_singleton.mp hx]
      exact ⟨k, d, e, rfl⟩
theorem okDd.some_cut {nm : Str} {ms : List Mk} {n : Nat} {d : Dd} (h : okDd nm ms n d) : shDd d := h.sh
theorem numD_sh {nm : Str} {c : Int} {k : Nat} {d : Dd} (h : shDd d) : shDd (numD nm c k d) := by
  rcases h with ⟨h1, z, h2, h3⟩ | ⟨m, rfl⟩ | ⟨m, z, hz, rfl⟩
  · exact .inl ⟨h1, z, h2, h3⟩
  · exact .inr (.inl ⟨_, rfl⟩)
  · exact .inr (.inr ⟨_, z, hz, rfl⟩)
theorem numD_mk {nm : Str} {c : Int} {k : Nat} {d : Dd} {P : Mk → Prop} (h : ∀ m, d.2.1 = some m → P m) (h1 : ∀ m, P m → P (m.1, mixed c (k : Int) % 1000000000)) (h2 : ∀ m, P m → P (nm, m.2)) : ∀ m, (numD nm c k d).2.1 = some m → P m := by
  intro m hm
  obtain ⟨w, o, l⟩ := d
  cases o with
  | none => cases hm
  | some m0 =>
    have p0 := h m0 rfl
    have e := Option.some.inj hm
    have p1 : P (if (c + (k : Int)) % 3 = 1 then (m0.1, mixed c (k : Int) % 1000000000) else m0) := by split; exact h1 _ p0; exact p0
    rw [← e]
    split
    · exact h2 _ p1
    · exact p1
/-- one that was made, of those ahead fs (with names) -/
theorem numbered_wr {fs : List Ch} {ch : Ch} (c : Int) (hn : ∀ f ∈ fs, isNm f.1) (hl : fs.length ≤ 100) (h : okCh fs ch) (hf : ∀ f ∈ fs, adds f.2.2 ≤ 20) : wrCh (numbered ch c) := by
  obtain ⟨ms, m1, m2⟩ := h.dds
  have hmem := numSt_mem ch.1 c ch.2.2 ch.2.2.length (Nat.le_refl _)
  have lnm : ∀ z ∈ ch.2.1, isNm z := fun z hz => by
    obtain ⟨f, hf1, rfl⟩ := List.mem_map.mp (h.lns z hz)
    exact hn f hf1
  have mkOk : ∀ d ∈ ch.2.2, ∀ m, d.2.1 = some m → (m.1 = ch.1 ∨ m.1 ∈ ch.2.1) ∧ okMk m := fun d hd m hm => by
    obtain ⟨i, e⟩ := List.getElem?_of_mem hd
    have od := m2 i d e
    have al := adds_le (ch.2.2.take i)
    have ll : (ch.2.2.take i).length ≤ 20 := by have := h.len; simp; omega
    rcases od.mk hm with q | ⟨q1, q2, q3⟩
    · obtain ⟨f, f1, f2, f3⟩ := m1 m q
      obtain ⟨g1, g2, g3⟩ := mem_mks.mp f3
      have := hf f f1
      exact ⟨.inr (by rw [g1]; exact f2), by rw [g1]; exact hn f f1, g2, by omega⟩
    · exact ⟨.inl q1, by rw [q1]; exact h.nm, q2, by omega⟩
  have numOk : ∀ e ∈ numSt ch.1 c ch.2.2 ch.2.2.length, ∀ m, e.2.1 = some m → (m.1 = ch.1 ∨ m.1 ∈ ch.2.1) ∧ okMk m := fun e he => by
    obtain ⟨j, d, hd, rfl⟩ := hmem.2 e he
    refine numD_mk (mkOk d (List.mem_of_getElem? hd)) (fun m ⟨a, b1, b2, b3⟩ => ⟨a, b1, ?_, ?_⟩) (fun m ⟨a, b1, b2, b3⟩ => ⟨.inl rfl, h.nm, b2, b3⟩)
    · exact Int.emod_nonneg _ (by decide)
    · exact Int.emod_lt_of_pos _ (by decide)
  refine ⟨⟨h.nm, lnm, h.ris, fun q => ?_, fun e he => ?_, ?_, fun e he m hm => (numOk e he m hm).1⟩, ?_, fun e he m hm => (numOk e he m hm).2⟩
  · obtain ⟨f, f1, f2⟩ := List.mem_map.mp (h.lns _ q)
    exact h.new f f1 f2
  · obtain ⟨j, d, hd, rfl⟩ := hmem.2 e he
    exact numD_sh (m2 j d hd).sh
  · show (numSt ch.1 c ch.2.2 ch.2.2.length).length ≤ 20
    rw [hmem.1]
    exact h.len
  · have nd : ch.2.1.Nodup := List.nodup_iff_pairwise_ne.mpr (h.ris.imp fun h => slt_ne h)
    have := List.Nodup.length_le_of_subset nd (fun z hz => h.lns z hz)
    rw [List.length_map] at this
    show ch.2.1.length ≤ 100
    omega
def one (cs : List Int) (most : Int) : Ch := if changes cs most = [] then (("a" : Str), [], []) else numbered ((changes cs most).getD (cell cs 1 % (changes cs most).length).toNat (("a" : Str), [], [])) (cell cs 1 / 7)
theorem one_at (cs : List Int) (most : Int) (h : changes cs most ≠ []) : atI (changes cs most) (cell cs 1 % (changes cs most).length) = some ((changes cs most).getD (cell cs 1 % (changes cs most).length).toNat (("a" : Str), [], [])) := by
  have hl : 0 < (changes cs most).length := List.length_pos_iff.mpr h
  exact atI_getD _ (Int.emod_nonneg _ (by omega)) (Int.emod_lt_of_pos _ (by omega))
theorem one_wr (cs : List Int) {most : Int} (hm : most ≤ 63) : wrCh (one cs most) := by
  unfold one
  split
  · exact ⟨⟨by unfold isNm; decide +kernel, by simp, by simp [rising], by simp, by simp, by simp, by simp⟩, by simp, by simp⟩
  · rename_i h
    have I := changes_inv cs (most := most) (by omega)
    have e := one_at cs most h
    have hk : (changes cs most).length ≤ 63 := by
      have := I.len
      show (chSt cs (chN cs most).toNat).1.length ≤ 63
      rw [this]
      unfold chN
      omega
    obtain ⟨i, hi⟩ := List.getElem?_of_mem (mem_of_atI e)
    have oc : okCh ((changes cs most).take i) _ := I.ok i _ hi
    have mem : ∀ f ∈ (changes cs most).take i, f ∈ changes cs most := fun f hf => List.mem_of_mem_take hf
    refine numbered_wr _ (fun f hf => ?_) (by simp; omega) oc fun f hf => ?_
    · refine I.tn _ ?_
      rw [I.tk]
      exact List.mem_cons_of_mem _ (List.mem_map.mpr ⟨f, mem f hf, rfl⟩)
    · obtain ⟨j, hj⟩ := List.getElem?_of_mem (mem f hf)
      have := (I.ok j f hj).len
      have := adds_le f.2.2
      omega
theorem hwr_law (ch : Ch) (h : ch.2.1 ≠ []) : hwr ch = Txt.join " " ([("change " : Str) ++ ch.1, ("on" : Str)] ++ ch.2.1) := by
  refine ext_tl ?_
  have e2 : tl (" on " : Str) = 32 :: (tl ("on" : Str) ++ [32]) := by decide +kernel
  unfold hwr
  rw [if_neg h, tl_append, tl_append, tl_joinT, tl_joinT, tl_sp, e2]
  cases hl : ch.2.1 with
  | nil => exact absurd hl h
  | cons a r => simp [joinL]
end MM

/-! Comprehensions over tuples; lists within what was told, that are changed. -/
namespace DD
open PySem PySem.Spec L2
section
variable {T : Tb} {X : Cx} {Γ : Ev} {e : Expr} {ds es : List D} {tg : Expr} {j j1 j2 : Nat}
def GoodT (K : PySem.W.Frag) (a : Addr) (ds : List D) : Zn → Hp → Ev → Prop := fun Z H Γ => ∃ vs, SqT K H a vs ∧ DaAll K (rg true Z H Γ) vs ds
theorem stp_tup {K : PySem.W.Frag} {a : Addr} : Stp T K (Itt K a) (gName j) ds.length [j] (upN j fun i => ds.getD i .non) (GoodT K a ds) where
  stop := fun Z H σ Γ g ⟨vs, e1, e2⟩ => ⟨vs, e1, by rw [e2.length]; exact Nat.le_refl _⟩
  turn := fun Z i H σ Γ hi g ⟨vs, e1, e2⟩ hj => by
    have hl := e2.length
    have hv : i < vs.length := by omega
    refine ⟨⟨vs, vs[i], e1, by simp [hv]⟩, fun v H' y Q q => ?_⟩
    obtain ⟨rfl, y⟩ := y
    have hx := y vs e1
    obtain ⟨d, hd, h⟩ := e2.get' hx
    have ed : ds.getD i .non = d := by simp [List.getD, hd]
    refine q _ _ (g.set (hj j (by simp)) (by dsimp only; rw [ed]; exact h)) (Ext.refl _) fun vs hvs => wipe_set1 (hvs j (by simp))
/-- a tuple -/
theorem src_tup (h : ED T X true Γ e (.tup ds)) : PI X tg e (tSrc T X.K Γ (gName j) ds.length [j] (upN j fun i => ds.getD i .non) fun _ => True) :=
  PI.imp' (pi_tup h) fun σ H R ⟨Z, g, q⟩ => ⟨Z, g, fun v H1 g1 x1 d1 => by
    cases d1 with
    | tup e1 e2 =>
      exact ⟨_, rfl, ⟨_, SqT.mono g1.sub e1⟩, q _ (GoodT X.K _ ds) H1 g1 x1 stp_tup fun Z2 H2 σ2 Γ2 g2 sm _ _ => ⟨_, SqT.mono g2.sub (SqT.mono g2.base (SqT.mono sm e1)), (e2.to sm).to g2.base⟩⟩⟩
variable {elt iter : Expr} {scope : Scope} {pos tp : Pos} {x : Str} {α β : Type} {as : List α} {f : α → D} {t : Expr}
theorem mpT (j : Nat) (f' : β → D) {h : α → β} (nd : X.N.Nodup) (hn : as.length ≤ 16777216) (hi : ED T X true Γ iter (.tup (as.map f))) (ok : BlkOk X.N X.env.scope scope [(x, j)])
    (hg : ∀ (s : Shared) (H : Hp) (C : Addr) (cl : List (Str × Addr)) (fp : List Addr), PG (blkOf X scope s H C cl fp) (.Name x tp) (gName j))
    (he : ∀ (s : Shared) (H : Hp) (C : Addr) (cl : List (Str × Addr)) (fp : List Addr) (a : α), a ∈ as → ED T (blkOf X scope s H C cl fp) true ((Γ.set j none).set j (some (.sh (f a)))) elt (f' (h a)))
    (hj : j < Γ.length := by exact Nat.le_of_ble_eq_true rfl) (ho : owns (Γ.set j none) = owns Γ := by rfl) (hup : ∀ d, owns ((Γ.set j none).set j (some (.sh d))) = owns (Γ.set j none) := by intro _; rfl) (hc : X.calm = true := by rfl) (hs : ∀ x, foldedSetIterable iter X.env x = pure x := by intro _; rfl) :
    LD T X Γ (.ListComp elt [⟨.Name x tp, iter, [], 0⟩] scope pos) ((as.map h).map f') := by
  have hl : (as.map f).length = as.length := by simp
  refine LD.as (l_comp (g := gName j) (keep := fun _ => true) (val := fun i => (as[i]?.map fun a => f' (h a)).getD .non) hc nd (src_tup hi) ok hg (fun s H C cl fp i _ => PTs.mk fun pins s' σ H' Q I ⟨Z, g, q⟩ => (pts_nil (X := blkOf X scope s H C cl fp)).run pins s' σ H' Q I (q H' g (Ext.refl H'))) (fun s H C cl fp i hi' _ => ?_) (by rw [hl]; exact hn) (by simpa using hj) (by simp) trivial ho (fun i => hup _) hs) ?_
  · have hlt : i < as.length := by rw [← hl]; exact hi'
    have e : as[i]? = some as[i] := by simp [hlt]
    show ED T (blkOf X scope s H C cl fp) true ((Γ.set j none).set j (some (.sh ((as.map f).getD i .non)))) elt ((as[i]?.map fun a => f' (h a)).getD .non)
    rw [getD_map e, e]
    exact he s H C cl fp as[i] (List.getElem_mem hlt)
  · rw [hl, compD_list as (fun _ => true) (fun a => f' (h a)) _ _ (fun _ _ _ => rfl) (fun i a e => by simp [e]) as.length (Nat.le_refl _), List.take_length, List.filter_eq_self.mpr (by simp), List.map_map]
    rfl
end

/-! ### what was told, and is changed within -/
def flatD : D → Bool
  | .non => true
  | .bl _ => true
  | .int _ => true
  | .str _ => true
  | _ => false
theorem Da.flat {K : PySem.W.Frag} {G G' : Hp} {v : V} {d : D} (h : Da K G v d) (hf : flatD d = true) : Da K G' v d := by
  cases h with
  | non => exact .non
  | bl b => exact .bl b
  | int i => exact .int i
  | str x q => exact .str x q
  | _ => cases hf
theorem DaAll.flat {K : PySem.W.Frag} {G G' : Hp} : ∀ {ds : List D} {vs : List V}, DaAll K G vs ds → ds.all flatD = true → DaAll K G' vs ds
  | [], _, h, _ => by cases h; exact .nil
  | d :: ds, _, h, hf => by
    rw [List.all_cons, Bool.and_eq_true] at hf
    cases h with
    | cons h1 h2 => exact .cons (h1.flat hf.1) (DaAll.flat h2 hf.2)
theorem SqT.ext {K : PySem.W.Frag} {H H' : Hp} (x : Ext H H') {a : Addr} {xs : List V} (h : SqT K H a xs) : SqT K H' a xs := by
  rcases h with (h | ⟨o, h⟩) | h
  · exact .inl (.inl (x.1 _ _ h (fun _ z => by cases z)))
  · exact .inl (.inr ⟨o, x.1 _ _ h (fun _ z => by cases z)⟩)
  · exact .inr h
theorem owns_all {Γ : Ev} (h : owns Γ = []) {i : Nat} {p : Addr} {d : D} : Γ[i]? ≠ some (some (.ow p d)) := fun e => by
  have := mem_owns.mpr ⟨i, d, e⟩
  rw [h] at this
  simp at this
theorem owns_setNone {Γ : Ev} (h : owns Γ = []) (i : Nat) : owns (Γ.set i none) = [] := by
  have := owns_drop Γ i none (fun p d z => by cases z)
  rw [h] at this
  exact List.sublist_nil.mp this
theorem owns_setSh {Γ : Ev} (h : owns Γ = []) (i : Nat) (d : D) : owns (Γ.set i (some (.sh d))) = [] := by
  have := owns_drop Γ i (some (.sh d)) (fun p d z => by cases z)
  rw [h] at this
  exact List.sublist_nil.mp this
section
variable {T : Tb} {K : PySem.W.Frag} {Z : Zn} {H : Hp} {σ : St} {Γ : Ev}
theorem rg_none2 {G0 H0 B H : Hp} {Γ : Ev} (ow : owns Γ = []) {m : Bool} : rg m ⟨G0, H0, B, []⟩ H Γ = gr G0 H0 H := by
  funext a
  unfold rg
  rw [ow]
  simp
theorem gr_self {G H : Hp} (s : Same G H) (n : NoTbl G) : Same G (gr G H H) := fun a o e => by
  have h := s a o e
  unfold gr
  rw [h]
  cases o with
  | tup xs => rfl
  | tbl ps => exact absurd e (n a ps)
  | _ => exact e
theorem GOk.freeze (g : GOk T K Z H σ Γ) (ow : owns Γ = []) : GOk T K ⟨rg true Z H Γ, H, fun _ => none, []⟩ H σ Γ := by
  refine ⟨g.sub, rg_noTbl g, Ext.refl H, g.tab, by rw [ow]; exact List.nodup_nil, fun p hp => ?_, fun p hp => ?_, g.len, fun i s e => ?_, fun a o e => by cases e⟩
  · rw [ow] at hp; simp at hp
  · simp at hp
  · obtain ⟨v, e1, e2⟩ := g.slots i s e
    cases s with
    | sh d =>
      refine ⟨v, e1, ?_⟩
      show Da K (rg true ⟨rg true Z H Γ, H, fun _ => none, []⟩ H Γ) v d
      rw [rg_none2 ow]
      exact Da.to e2 (gr_self g.sub (rg_noTbl g))
    | ow p d => exact absurd e (owns_all ow)
end
def Nw (Z : Zn) (H : Hp) (n : Nat) (p : Addr) : Prop := Z.H0 p = none ∧ ∃ xs, H p = some (.lst xs) ∧ xs.length ≤ n
structure S2 (K : PySem.W.Frag) (Z : Zn) (H : Hp) (σ : St) (Γo : Ev) (i n : Nat) : Prop where
  ex : Z.ex = []
  b : ∀ a, Z.B a = none
  own : owns Γo = []
  len : σ.length = Γo.length
  old : ∀ (j : Nat) (d : D), Γo[j]? = some (some (.sh d)) → ∃ v, σ[j]? = some (some v) ∧ Da K Z.G0 v d
  nw : ∃ t v0 p1 p2, σ[i]? = some (some (.ref t)) ∧ SqT K H t [v0, .ref p1, .ref p2] ∧ Nw Z H n p1 ∧ Nw Z H n p2
theorem S2.ext {K : PySem.W.Frag} {Z : Zn} {H H' : Hp} {σ : St} {Γo : Ev} {i n : Nat} (s : S2 K Z H σ Γo i n) (x : Ext H H') : S2 K Z H' σ Γo i n := by
  obtain ⟨t, v0, p1, p2, h1, h2, ⟨a1, xs, a2, a3⟩, b1, ys, b2, b3⟩ := s.nw
  exact ⟨s.ex, s.b, s.own, s.len, s.old, t, v0, p1, p2, h1, SqT.ext x h2, ⟨a1, xs, x.1 _ _ a2 (fun _ z => by cases z), a3⟩, b1, ys, x.1 _ _ b2 (fun _ z => by cases z), b3⟩
def tS2 (T : Tb) (K : PySem.W.Frag) (Γ Γo : Ev) (i n : Nat) (P : Pst) : TS := fun E σ H => ∃ Z, GOk T K Z H σ Γ ∧ S2 K Z H σ Γo i n ∧ FinP T K Z P E
abbrev S2D (T : Tb) (X : Cx) (Γ Γo : Ev) (i n : Nat) (sts : List Stmt) (P : Pst) : Prop := PSs X sts (tS2 T X.K Γ Γo i n P)
section
variable {T : Tb} {X : Cx} {Γ Γo : Ev} {m : Bool} {e a b c : Expr} {d d0 : D} {pos px p : Pos} {i n : Nat} {x y : Str} {ds l1 l2 : List D} {rest body th el : List Stmt} {P : Pst} {k : Bool} {es' : List Expr} {q : Nat} {ps : List Str}
theorem FinP.freeze {Z : Zn} {H : Hp} {σ : St} {E : Ends} (g : GOk T X.K Z H σ Γ) (f : FinP T X.K Z P E) (hnx : ∀ Γ', ¬ P.nx Γ') : FinP T X.K ⟨rg true Z H Γ, H, fun _ => none, []⟩ P E :=
  ⟨fun Γ' σ' H' h _ => absurd h (hnx Γ'), fun d v H' h x t da => f.rt d v H' h (g.ext.trans x) t (da.to fun a o e => rg_gr a o (rg_after g x a o e)), fun es p ws H' h x t hp da => f.rl es p ws H' h (g.ext.trans x) t hp (da.to fun a o e => rg_gr a o (rg_after g x a o e))⟩
/-- name = f(..), a new tuple (text, list, list); what stood ahead stands by itself from here on -/
theorem s2_set (i : Nat) {R : List D → D → Prop} (nd : X.N.Nodup) (C : Cal X.prog X.w X.K X.mg X.base x ps q (spE T X.K R)) (hr : Room q X.A) (h : R ds (.tup [d0, .lst l1, .lst l2])) (hf : ds.all flatD = true) (h1 : l1.length ≤ n) (h2 : l2.length ≤ n) (ha : AD T X false Γ (a :: es') ds) (ow : owns Γ = []) (hnx : ∀ Γ', ¬ P.nx Γ')
    (hrest : S2D T X (Γ.set i (some (.sh (.tup [d0, .lst l1, .lst l2])))) (Γ.set i none) i n rest P)
    (hg : Gl X x := by rfl) (hdb : (x == ("__debug__" : Str)) = false := by decide)
    (he : starEach (a :: es') X.env = (false, eval a X.env) :: starEach es' X.env := by rfl) (hpl : (backTo pos (starEach es' X.env)).any (·.1) = false := by rfl) {spos : Pos}
    (hl : i < Γ.length := by exact Nat.le_of_ble_eq_true rfl) (hi : X.N[i]? = some y := by rfl) (hx : Loc X.env.scope y := by first | exact .inl rfl | exact .inr rfl)
    (hs : swapsWith (.Call (.Name x p) (a :: es') [] pos) (some (.Name y px)) spos.line X.env = pure false := by rfl) (hfn : X.fn y = true ∨ X.env.scope.names.lookup y = some .local := by first | exact .inl rfl | exact .inr rfl) :
    SD T X Γ (.Assign [.Name y px] (.Call (.Name x p) (a :: es') [] pos) spos :: rest) P := by
  obtain ⟨f, fd, hm, hk, hb, F⟩ := C.ex
  refine s_seq (ps_set nd hi hx (pe_call F hr hg hm hk.1 hb .nil pass0 ha hdb he hpl) hs hfn) hrest fun E σ H ⟨Z, g, ff⟩ => ⟨Z, g, fun vs H1 g1 x1 d1 => ?_⟩
  dsimp only
  rw [List.append_nil]
  refine ⟨fun _ => none, ds, _, (fun a o e => by cases e), (fun a ps e => by cases e), d1.flat hf, h, g1.tab, fun v H2 x2 t2 d2 => ?_⟩
  have gf := (g1.freeze ow).to x2 t2
  have sm : Same (gr (fun _ => none) H1 H2) (rg true ⟨rg true Z H1 Γ, H1, fun _ => none, []⟩ H2 Γ) := fun a o e => by
    rw [rg_none2 ow]
    unfold gr at e ⊢
    cases hh : H1 a with
    | none => rw [hh] at e; exact e
    | some o1 =>
      rw [hh] at e
      cases o1 with
      | tup xs => exact e
      | _ => cases e
  have fr : ∀ {p : Addr} {xs : List V}, gr (fun _ => none) H1 H2 p = some (.lst xs) → H1 p = none ∧ H2 p = some (.lst xs) := fun {p xs} e => by
    unfold gr at e
    cases hh : H1 p with
    | none =>
      rw [hh] at e
      refine ⟨rfl, ?_⟩
      cases h2 : H2 p with
      | none => rw [h2] at e; cases e
      | some o =>
        rw [h2] at e
        cases o <;> first | exact e | cases e
    | some o1 =>
      rw [hh] at e
      cases o1 <;> cases e
  have hil : i < σ.length := by rw [g1.len]; exact hl
  refine ⟨_, gf.set hl (d2.to sm), ⟨rfl, fun _ => rfl, owns_setNone ow i, by rw [List.length_set, List.length_set]; exact g1.len, fun j d hj => ?_, ?_⟩, FinP.freeze g1 ff hnx⟩
  · have hij : i ≠ j := fun e => by
      subst e
      rw [List.getElem?_set_self hl] at hj
      cases hj
    rw [List.getElem?_set_ne hij] at hj
    obtain ⟨v', e1, e2⟩ := g1.slots j _ hj
    exact ⟨v', by rw [List.getElem?_set_ne hij]; exact e1, e2⟩
  · cases d2 with
    | tup t1 t2 =>
      cases t2 with
      | cons u1 u2 =>
        cases u2 with
        | cons u2 u3 =>
          cases u3 with
          | cons u3 u4 =>
            cases u4
            cases u2 with
            | lst a1 a2 =>
              cases u3 with
              | lst b1 b2 =>
                obtain ⟨f1, f2⟩ := fr a1
                obtain ⟨f3, f4⟩ := fr b1
                refine ⟨_, _, _, _, List.getElem?_set_self hil, SqT.mono gf.sub (SqT.mono sm t1), ⟨f1, _, f2, by rw [a2.length]; exact h1⟩, f3, _, f4, by rw [b2.length]; exact h2⟩
theorem s2_ift (hc : BD T X Γ c k) (h1 : k = true → SD T X Γ th { P with nx := fun _ => False }) (hr : k = false → S2D T X Γ Γo i n rest P) : S2D T X Γ Γo i n (.If c th [] pos :: rest) P := by
  cases k with
  | true => exact s_seq (ps_if hc (h1 rfl) pss_never) pss_never fun E σ H ⟨Z, g, s, f⟩ => ⟨Z, g, fun H1 g1 x1 => iteT ⟨Z, g1, ⟨fun Γ' σ' H' w g' => False.elim w, f.rt, f.rl⟩⟩⟩
  | false => exact s_seq (ps_if hc pss_never pss_nil) (hr rfl) fun E σ H ⟨Z, g, s, f⟩ => ⟨Z, g, fun H1 g1 x1 => iteF ⟨Z, g1, s.ext x1, f⟩⟩
/-- back: what is new is forgotten -/
theorem S2.gok {Z : Zn} {H H' : Hp} {σ : St} (g : GOk T X.K Z H σ Γ) (s : S2 X.K Z H σ Γo i n) (x : Ext Z.H0 H') (t : LamX.Tabs T H') : GOk T X.K Z H' σ Γo := by
  have eo : Z.ex ++ owns Γo = [] := by rw [s.ex, s.own]; rfl
  refine ⟨g.g0, g.gt, x, t, by rw [eo]; exact List.nodup_nil, fun p hp => ?_, fun p hp => ?_, s.len, fun j sl hj => ?_, fun a o e => ?_⟩
  · rw [eo] at hp; simp at hp
  · rw [s.ex] at hp; simp at hp
  · cases sl with
    | sh d =>
      obtain ⟨v, e1, e2⟩ := s.old j d hj
      refine ⟨v, e1, ?_⟩
      show Da X.K (rg true Z H' Γo) v d
      refine e2.to fun a o e => ?_
      have h0 := g.g0 a o e
      unfold rg
      rw [eo, if_neg (by simp)]
      unfold gr
      rw [h0]
      cases o with
      | tup xs => rfl
      | tbl ps => exact absurd e (g.gt a ps)
      | _ => exact e
    | ow p d => exact absurd hj (owns_all s.own)
  · rw [s.b a] at e; cases e
theorem s2_back (h : SD T X Γo rest P) : S2D T X Γ Γo i n rest P := PSs.imp' h fun E σ H ⟨Z, g, s, f⟩ => ⟨Z, s.gok g g.ext g.tab, f⟩
theorem ext_of_upd {Z : Zn} {H : Hp} {p : Addr} {o : HO} (x : Ext Z.H0 H) (h : Z.H0 p = none) : Ext Z.H0 (upd H p o) :=
  ⟨fun b u e n => by
    rw [upd_ne (fun z => by subst z; rw [h] at e; cases e)]
    exact x.1 b u e n, fun b ps e => by
    rw [upd_ne (fun z => by subst z; rw [h] at e; cases e)]
    exact x.2 b ps e⟩
theorem S2.upd {K : PySem.W.Frag} {Z : Zn} {H : Hp} {σ : St} {n' : Nat} (s : S2 K Z H σ Γo i n) {p : Addr} {xs ys : List V} (h : H p = some (.lst xs)) (hn : n ≤ n') (hy : ys.length ≤ n') : S2 K Z (upd H p (.lst ys)) σ Γo i n' := by
  obtain ⟨t, v0, p1, p2, h1, h2, ⟨a1, as, a2, a3⟩, b1, bs, b2, b3⟩ := s.nw
  refine ⟨s.ex, s.b, s.own, s.len, s.old, t, v0, p1, p2, h1, ?_, ⟨a1, ?_⟩, b1, ?_⟩
  · rcases h2 with (h2 | ⟨o, h2⟩) | h2
    · exact .inl (.inl (by rw [upd_ne (fun z => by subst z; rw [h] at h2; cases h2)]; exact h2))
    · exact .inl (.inr ⟨o, by rw [upd_ne (fun z => by subst z; rw [h] at h2; cases h2)]; exact h2⟩)
    · exact .inr h2
  · by_cases z : p1 = p
    · subst z; exact ⟨ys, upd_same, hy⟩
    · exact ⟨as, by rw [upd_ne z]; exact a2, by omega⟩
  · by_cases z : p2 = p
    · subst z; exact ⟨ys, upd_same, hy⟩
    · exact ⟨bs, by rw [upd_ne z]; exact b2, by omega⟩
variable {apos cpos xp ixp cp : Pos} {ck : Nat}
/-- name[1].append(e) -/
theorem s2_append1 (he : ED T X true Γ e d) (hn : n < 16777216) (hrest : S2D T X Γo Γo i (n + 1) rest P)
    (hN : X.N[i]? = some x := by rfl) (hv : Vis X.env.scope x := by first | exact Or.inl rfl | exact Or.inr (Or.inl rfl) | exact Or.inr (Or.inr rfl)) (hd : (x == ("__debug__" : Str)) = false := by decide)
    (hcd : (x == ("__classdict__" : Str)) = false := by decide) (hpx : PlainIx (.Constant (.int 1) ck cp) := by exact fun _ _ => rfl) (hs1 : starEach [e] X.env = (false, eval e X.env) :: starEach [] X.env := by rfl) (hbase : attributeBase (.Subscript (.Name x xp) (.Constant (.int 1) ck cp) ixp) "append" X.env (eval (.Subscript (.Name x xp) (.Constant (.int 1) ck cp) ixp) X.env) = eval (.Subscript (.Name x xp) (.Constant (.int 1) ck cp) ixp) X.env := by rfl)
    (hfew : ((backTo cpos (starEach [e] X.env)).all (fun x => !x.1) && (backToKw cpos (keywordEach [] X.env)).all (fun x => x.1.isSome) && decide ([e].length + ([] : List Keyword).length + (if ([] : List Keyword).isEmpty then 0 else 1) < 30)) = true := by rfl)
    (hline : (apos.endLine == cpos.line) = true := by rfl) (hs : swapsWith (.Call (.Attribute (.Subscript (.Name x xp) (.Constant (.int 1) ck cp) ixp) "append" apos) [e] [] cpos) none pos.line X.env = pure false := by rfl) :
    S2D T X Γ Γo i n (.Expr (.Call (.Attribute (.Subscript (.Name x xp) (.Constant (.int 1) ck cp) ixp) "append" apos) [e] [] cpos) pos :: rest) P :=
  s_seq (ps_expr (pe_bm PySem.F.plainAttrs_list PySem.F.slot_list_append PySem.F.type_list_append mt_append (pe_ix ix_tup (pe_var hN hv hd hcd) pe_int hpx) (pa_cons he pa_nil hs1) hbase hfew hline hs1) hs) hrest fun E σ H ⟨Z, g, s, f⟩ => by
    obtain ⟨t, v0, p1, p2, h1, h2, ⟨a1, as, a2, a3⟩, b1, bs, b2, b3⟩ := s.nw
    refine ⟨_, h1, t, _, 1, .ref p1, rfl, rfl, h2, rfl, .inl ⟨rfl, _, SqL.of a2⟩, Z, g, fun v H1 g1 x1 d1 => ?_⟩
    have a2' := x1.1 _ _ a2 (fun _ z => by cases z)
    have s1 := s.ext x1
    refine ⟨p1, as, v, rfl, rfl, a2', by rw [sizeLine_eq]; omega, Z, s1.gok g1 (ext_of_upd g1.ext a1) (tabs_upd g1.tab (.inl ⟨_, a2'⟩)), s1.upd a2' (by omega) (by simp; omega), f⟩
/-- name[2].clear() -/
theorem s2_clear2 (hrest : S2D T X Γo Γo i n rest P)
    (hN : X.N[i]? = some x := by rfl) (hv : Vis X.env.scope x := by first | exact Or.inl rfl | exact Or.inr (Or.inl rfl) | exact Or.inr (Or.inr rfl)) (hd : (x == ("__debug__" : Str)) = false := by decide)
    (hcd : (x == ("__classdict__" : Str)) = false := by decide) (hpx : PlainIx (.Constant (.int 2) ck cp) := by exact fun _ _ => rfl) (hbase : attributeBase (.Subscript (.Name x xp) (.Constant (.int 2) ck cp) ixp) "clear" X.env (eval (.Subscript (.Name x xp) (.Constant (.int 2) ck cp) ixp) X.env) = eval (.Subscript (.Name x xp) (.Constant (.int 2) ck cp) ixp) X.env := by rfl)
    (hline : (apos.endLine == cpos.line) = true := by rfl) (hs : swapsWith (.Call (.Attribute (.Subscript (.Name x xp) (.Constant (.int 2) ck cp) ixp) "clear" apos) [] [] cpos) none pos.line X.env = pure false := by rfl) :
    S2D T X Γ Γo i n (.Expr (.Call (.Attribute (.Subscript (.Name x xp) (.Constant (.int 2) ck cp) ixp) "clear" apos) [] [] cpos) pos :: rest) P :=
  s_seq (ps_expr (pe_bm0 PySem.F.plainAttrs_list PySem.F.slot_list_clear PySem.F.type_list_clear mt_clear (pe_ix ix_tup (pe_var hN hv hd hcd) pe_int hpx) hbase hline) hs) hrest fun E σ H ⟨Z, g, s, f⟩ => by
    obtain ⟨t, v0, p1, p2, h1, h2, ⟨a1, as, a2, a3⟩, b1, bs, b2, b3⟩ := s.nw
    refine ⟨_, h1, t, _, 2, .ref p2, rfl, rfl, h2, rfl, .inl ⟨rfl, _, SqL.of b2⟩, p2, bs, rfl, rfl, b2, Z, s.gok g (ext_of_upd g.ext b1) (tabs_upd g.tab (.inl ⟨_, b2⟩)), s.upd b2 (Nat.le_refl _) (by simp), f⟩
end
end DD

/-! Walks over the helpers of the laws. -/
namespace KK
open PySem PySem.Spec L2 DD MM
section
variable {T : Tb} {P : Program} {w : World} {K : PySem.W.Frag} {mg : Str → Option Value} {base : Heap}
theorem c_l_mixed (R : Pr K mg) : Cal P w K mg base "_law_mixed" ["_law_cell_here", "_law_k"] 1 (spE T K fun ds d => ∃ c k : Int, ds = [.int c, .int k] ∧ d = .int (mixed c k)) :=
  cal_E R.f_l_mixed sc_l_mixed (fun _ _ _ _ _ _ us hl => match us, hl with | [_, _], _ => rfl) (by rintro _ _ ⟨c, k, rfl, rfl⟩; rfl) (by decide) fun f cdv A outer s H E hr ds d ⟨c, k, e1, e2⟩ => by
    subst e1 e2
    exact s_ret (e_mod (by decide) (e_mul (.inr (by decide)) (e_add (e_var 0 rfl) (e_mul (.inl (by decide)) e_int (e_var 1 rfl))) e_int) e_int) rfl
theorem c_l_cell (R : Pr K mg) : Cal P w K mg base "_law_cell" ["_law_script", "_law_k"] 1 (spE T K fun ds d => ∃ (x : D) (ns : List Int) (k : Int), 0 ≤ k ∧ ILd x ns ∧ ds = [x, .int k] ∧ d = .int (cell ns k)) :=
  cal_E R.f_l_cell sc_l_cell (fun _ _ _ _ _ _ us hl => match us, hl with | [_, _], _ => rfl) (by rintro _ _ ⟨x, ns, k, h0, hd, rfl, rfl⟩; rfl) (by decide) fun f cdv A outer s H E hr ds d ⟨x, ns, k, h0, hd, e1, e2⟩ => by
    subst e1 e2
    unfold cell
    exact s_ift (b_of_c (c_lt (e_var 1 rfl) (e_lenIL hd R.bt.len (e_var 0 rfl)))) (fun hb =>
        s_ret (e_ixIL hd (atI_getD 0 h0 (of_decide_eq_true hb)) (e_var 0 rfl) (e_var 1 rfl)) (by rw [if_pos (of_decide_eq_true hb)])) fun hb =>
      s_ret e_int (by rw [if_neg (of_decide_eq_false hb)])
theorem c_l_line (R : Pr K mg) : Cal P w K mg base "_law_line" ["_law_cell_here"] 1 (spE T K fun ds d => ∃ c : Int, ds = [.int c] ∧ d = .str (line c)) :=
  cal_E R.f_l_line sc_l_line (fun _ _ _ _ _ _ us hl => match us, hl with | [_], _ => rfl) (by rintro _ _ ⟨c, rfl, rfl⟩; rfl) (by decide) fun f cdv A outer s H E hr ds d ⟨c, e1, e2⟩ => by
    subst e1 e2
    have h1 := lsize_lo c
    have h2 := lsize_hi c
    have h3 := line0_len c
    have h4 := line0_sok c
    exact
      s_set 1 nd_l_line e_str <|
      s_set 1 nd_l_line (e_cat (by decide +kernel) (e_var 1 rfl) e_str) <|
      s_set 2 nd_l_line (e_mod (by decide) (e_var 0 rfl) e_int) <|
      s_ifj [some (.sh (.int c)), some (.sh (.str SOME)), some (.sh (.int (lsize c))), none, none] (b_of_c (c_eqI (e_mod (by decide) (e_fdiv ⟨by decide, by decide⟩ (e_var 0 rfl) e_int) e_int) e_int)) (fun hb =>
          s_set 2 nd_l_line (e_mod (by decide) (e_fdiv ⟨by decide, by decide⟩ (e_var 0 rfl) e_int) e_int) <|
          s_nil (.same (.same (.sh (by unfold lsize; rw [if_pos (of_decide_eq_true hb)]) (.refl _))))) (fun hb =>
          s_nil (.same (.same (.sh (by unfold lsize; rw [if_neg (of_decide_eq_false hb)]) (.refl _))))) <|
      s_set 3 nd_l_line (ED.as (d' := .str (line0 c)) (e_join (by rw [sum_sg SOME (fun (j : Nat) => (c / 7 + (j : Int) * (1 + c % 5)) % 94)]; omega) h4 e_str (e_of_l (mpR 4 D.str (h := fun (j : Nat) => sg SOME ((c / 7 + (j : Int) * (1 + c % 5)) % 94)) nd_l_line R.bt.range (by omega) (by omega) (e_var 2 rfl) (show BlkOk nm_l_line (defScope st_l_line) _ _ from ⟨rfl, by decide +kernel, by decide +kernel, by decide +kernel, by decide +kernel⟩) (fun _ _ _ _ _ => pg_name nd_l_line rfl (.inl rfl)) (fun _ _ _ _ _ i hi => (e_ixS (atI_getD 0 (by omega) (by have := SOME_len; unfold TL.tl at this; omega)) (e_var 1 rfl) (e_mod (by decide) (e_add (e_fdiv ⟨by decide, by decide⟩ (e_var 0 rfl) e_int) (e_mul (.inr (by omega)) (e_var 4 rfl) (e_add e_int (e_mod (by decide) (e_var 0 rfl) e_int)))) e_int)))))) rfl) <|
      s_ift (b_pw (b_and (b_of_c (c_eqI (e_mod (by decide) (e_fdiv ⟨by decide, by decide⟩ (e_var 0 rfl) e_int) e_int) e_int)) fun h0 => (b_and1 (b_of_c (c_lt (e_var 2 rfl) e_int))))) (fun hb =>
          s_ret (e_cat (by have q := cutS_length (line0 c) none (some 1); have q2 := cutS_length (line0 c) (some 1) none; rw [len_app]; have : (": " : Str).length = 2 := by decide +kernel
                           omega) (e_cat (by have q := cutS_length (line0 c) none (some 1); have : (": " : Str).length = 2 := by decide +kernel
                                             omega) (e_sliceS (e_var 3 rfl) p_none (p_some e_int)) e_str) (e_sliceS (e_var 3 rfl) (p_some e_int) p_none))
            (by simp only [Bool.and_eq_true, decide_eq_true_eq] at hb; unfold line; rw [if_pos ⟨hb.1, hb.2⟩])) fun hb =>
      s_ret (e_var 3 rfl) (by simp only [Bool.and_eq_false_iff, decide_eq_false_iff_not] at hb; unfold line; rw [if_neg (fun z => by rcases hb with hb | hb; exact hb z.1; exact hb z.2)])
end
end KK

/-! Walks: names, marks, leans. -/
namespace KK
open PySem PySem.Spec L2 DD MM
section
variable {T : Tb} {P : Program} {w : World} {K : PySem.W.Frag} {mg : Str → Option Value} {base : Heap}
theorem ne_of_notEmpty {α : Type} {xs : List α} {f : α → D} (h : (!(xs.map f).isEmpty) = true) : xs ≠ [] := fun e => by subst e; simp at h
theorem SIGl {n : Int} (h0 : 0 ≤ n) (h1 : n < 36) : n < (SIG.cps.toList.length : Int) := by have := SIG_len; unfold TL.tl at this; omega
theorem c_l_name (R : Pr K mg) : Cal P w K mg base "_law_name" ["_law_cell_here", "_law_taken"] 2 (spE T K fun ds d => ∃ (c : Int) (tk : List Str), tk.length < 1000 ∧ (∀ z ∈ tk, isNm z) ∧ ds = [.int c, .lst (tk.map D.str)] ∧ d = .str (name c tk)) :=
  cal_E R.f_l_name sc_l_name (fun _ _ _ _ _ _ us hl => match us, hl with | [_, _], _ => rfl) (by rintro _ _ ⟨c, tk, h1, h2, rfl, rfl⟩; rfl) (by decide) fun f cdv A outer s H E hr ds d ⟨c, tk, hl, hn, e1, e2⟩ => by
    subst e1 e2
    have m0 := mixed_lo c 5
    have m1 := mixed_hi c 5
    have n0 := nm0_ok c
    have n3 := nm3_ok c hn
    have n2 := nm2_ok c hn
    have n1 := nm1_ok c
    exact
      s_set 2 nd_l_name (e_str (n := SIG)) <|
      s_set 3 nd_l_name (e_call ((c_l_mixed R).mono (by decide)) hr ⟨_, _, rfl, rfl⟩ (a_two (e_var 0 rfl) e_int)) <|
      s_set 4 nd_l_name (ED.as (d' := .str (nm0 c)) (e_join (by rw [sum_sg SIG (fun (j : Nat) => mixed c (j : Int) % 36)]; omega) n0.sok e_str (e_of_l (mpR 6 D.str (h := fun (j : Nat) => sg SIG (mixed c (j : Int) % 36)) nd_l_name R.bt.range (by omega) (by omega) (e_add e_int (e_mod (by decide) (e_var 3 rfl) e_int)) (show BlkOk nm_l_name (defScope st_l_name) _ _ from ⟨rfl, by decide +kernel, by decide +kernel, by decide +kernel, by decide +kernel⟩) (fun _ _ _ _ _ => pg_name nd_l_name rfl (.inl rfl)) (fun _ _ _ _ _ i hi => (e_ixS (atI_getD 0 (by omega) (SIGl (by omega) (by omega))) (e_var 2 rfl) (e_mod (by decide) (e_call ((c_l_mixed R).mono (by decide)) hr ⟨_, _, rfl, rfl⟩ (a_two (e_var 0 rfl) (e_var 6 rfl))) e_int)))))) rfl) <|
      s_ifj [some (.sh (.int c)), some (.sh (.lst (tk.map D.str))), some (.sh (.str SIG)), some (.sh (.int (mixed c 5))), some (.sh (.str (nm1 c))), none, none] (b_of_c (c_eqI (e_mod (by decide) (e_var 0 rfl) e_int) e_int)) (fun hb =>
          s_set 4 nd_l_name (e_strI R.bt.str (dec_log (by omega) (by omega)) (dec_sok (by omega) (by omega)) (e_mod (by decide) (e_var 3 rfl) e_int)) <|
          s_nil (.same (.same (.same (.same (.sh (by unfold nm1; rw [if_pos (of_decide_eq_true hb)]; rfl) (.refl _))))))) (fun hb =>
          s_nil (.same (.same (.same (.same (.sh (by unfold nm1; rw [if_neg (of_decide_eq_false hb)]) (.refl _))))))) <|
      s_ifj [some (.sh (.int c)), some (.sh (.lst (tk.map D.str))), some (.sh (.str SIG)), some (.sh (.int (mixed c 5))), some (.sh (.str (nm2 c tk))), none, none] (b_pw (b_and (b_of_c (c_eqI (e_mod (by decide) (e_var 0 rfl) e_int) e_int)) fun h0 => (b_and1 (b_lst (e_var 1 rfl))))) (fun hb =>
          have hb' := Bool.and_eq_true_iff.mp hb
          have q1 := of_decide_eq_true hb'.1
          have q2 := ne_of_notEmpty hb'.2
          have ql := hn _ (last_mem q2)
          s_set 4 nd_l_name (e_cat (by have := cutS_length (tk.getLastD "") none (some 11); have := ql.2.1; show _ + 1 ≤ _; omega) (e_sliceS (ED.as (d' := .str (tk.getLastD "")) (e_ixR (atI_map D.str (atI_last q2)) (e_var 1 rfl) (e_neg e_int)) (by rw [List.getLastD_eq_getLast?, List.getLast?_eq_getLast q2]; rfl)) p_none (p_some e_int)) (e_ixS (atI_getD 0 (by omega) (SIGl (by omega) (by omega))) (e_var 2 rfl) (e_mod (by decide) (e_var 3 rfl) e_int))) <|
          s_nil (.same (.same (.same (.same (.sh (by unfold nm2; rw [if_pos ⟨q1, q2⟩]; rfl) (.refl _))))))) (fun hb =>
          s_nil (.same (.same (.same (.same (.sh (by
            unfold nm2
            rw [if_neg]
            rintro ⟨z1, z2⟩
            rw [decide_eq_true z1, Bool.true_and] at hb
            cases tk with
            | nil => exact z2 rfl
            | cons _ _ => simp at hb) (.refl _))))))) <|
      s_ifj [some (.sh (.int c)), some (.sh (.lst (tk.map D.str))), some (.sh (.str SIG)), some (.sh (.int (mixed c 5))), some (.sh (.str (nm3 c tk))), none, none] (b_pw (b_and (b_of_c (c_gt (e_mod (by decide) (e_var 0 rfl) e_int) e_int)) fun h1 => (b_and1 (b_lst (e_var 1 rfl))))) (fun hb =>
          have hb' := Bool.and_eq_true_iff.mp hb
          have q1 := of_decide_eq_true hb'.1
          have q2 := ne_of_notEmpty hb'.2
          have qp := npick_mem c q2
          have qn := hn _ qp.2
          have qa := nat_ok c q2 hn
          have qm := qn.1
          have qm2 := qn.2.1
          have qL : 0 < (tk.length : Int) := by have := List.length_pos_iff.mpr q2; omega
          s_set 4 nd_l_name (e_ixR (atI_map D.str qp.1) (e_var 1 rfl) (e_mod qL (e_var 3 rfl) ((e_lenL R.bt.len (e_var 1 rfl)).as (by rw [List.length_map])))) <|
          s_set 5 nd_l_name (ED.as (d' := .int (nat c tk)) (e_mod (by omega) (e_fdiv ⟨by decide, by decide⟩ (e_var 3 rfl) e_int) (e_lenS R.bt.len (e_var 4 rfl))) rfl) <|
          s_set 4 nd_l_name (e_cat (by have t1 := cutS_length (npick c tk) none (some (nat c tk)); have t2 := cutS_length (npick c tk) (some (nat c tk + 1)) none; rw [len_app]; show _ + 1 + _ ≤ _; omega) (e_cat (by have t1 := cutS_length (npick c tk) none (some (nat c tk)); show _ + 1 ≤ _; omega) (e_sliceS (e_var 4 rfl) p_none (p_some (e_var 5 rfl))) (e_ixS (atI_getD 0 (by omega) (SIGl (by omega) (by omega))) (e_var 2 rfl) (e_mod (by decide) (e_fdiv ⟨by decide, by decide⟩ (e_var 3 rfl) e_int) e_int))) (e_sliceS (e_var 4 rfl) (p_some (e_add (e_var 5 rfl) e_int)) p_none)) <|
          s_nil (.same (.same (.same (.same (.sh (by unfold nm3; rw [if_pos ⟨q1, q2⟩]; rfl) (.drop (.refl _)))))))) (fun hb =>
          s_nil (.same (.same (.same (.same (.sh (by
            unfold nm3
            rw [if_neg]
            rintro ⟨z1, z2⟩
            rw [decide_eq_true z1, Bool.true_and] at hb
            cases tk with
            | nil => exact z2 rfl
            | cons _ _ => simp at hb) (.refl _))))))) <|
      s_ift (b_of_c (c_notInL (e_var 4 rfl) (e_var 1 rfl))) (fun hb =>
          s_ret (e_var 4 rfl) (by unfold name; rw [if_pos (by simpa using hb)])) fun hb =>
      s_ret (e_ixL (atI_map _ (fall_at tk)) (i_of_l (flR 6 D.str (h := fun (j : Nat) => dec j) (p := fun (j : Nat) => !decide (dec j ∈ tk)) nd_l_name R.bt.range (by omega) (by omega) (e_add ((e_lenL R.bt.len (e_var 1 rfl)).as (by rw [List.length_map])) e_int) (show BlkOk nm_l_name (defScope st_l_name) _ _ from ⟨rfl, by decide +kernel, by decide +kernel, by decide +kernel, by decide +kernel⟩) (fun _ _ _ _ _ => pg_name nd_l_name rfl (.inl rfl)) (fun _ _ _ _ _ i hi => (b_of_c (c_notInL (e_strI R.bt.str (dec_log (by omega) (by omega)) (dec_sok (by omega) (by omega)) (e_var 6 rfl)) (e_var 1 rfl)))) (fun _ _ _ _ _ i hi hk => (e_strI R.bt.str (dec_log (by omega) (by omega)) (dec_sok (by omega) (by omega)) (e_var 6 rfl))))) e_int)
        (by unfold name; rw [if_neg (by simpa using hb)])
end
end KK

/-! Walks: leans, marks, deeds. -/
namespace KK
open PySem PySem.Spec L2 DD MM
section
variable {T : Tb} {P : Program} {w : World} {K : PySem.W.Frag} {mg : Str → Option Value} {base : Heap}
theorem c_l_leans (R : Pr K mg) : Cal P w K mg base "_law_leans" ["_law_cell_here", "_law_ahead"] 2 (spL T K fun ds es => ∃ (c : Int) (ah : List Ch), ah.length < 64 ∧ ds = [.int c, .lst (ah.map eCh)] ∧ es = (leans c ah).map D.str) :=
  cal_L R.f_l_leans sc_l_leans (fun _ _ _ _ _ _ us hl => match us, hl with | [_, _], _ => rfl) (by rintro _ _ ⟨c, ah, h1, rfl, rfl⟩; rfl) (by decide) fun f cdv A outer s H E hr ds es ⟨c, ah, hl, e1, e2⟩ => by
    subst e1 e2
    have inv := lnSt_inv c ah
    have len := leans_len c ah
    exact
      s_set 2 nd_l_leans (e_call ((c_l_mixed R).mono (by decide)) hr ⟨_, _, rfl, rfl⟩ (a_two (e_var 0 rfl) e_int)) <|
      s_new 3 nd_l_leans (l_lst (h := a_nil)) fun p3 =>
      s_forE 4 5 (fun k => [some (.sh (.int c)), some (.sh (.lst (ah.map eCh))), some (.sh (.int (lnSt c ah k).1)), some (.ow p3 (.lst ((lnSt c ah k).2.map D.str))), none, none, none]) 7 R.bt.enumerate (e_var 1 rfl) (pg_tup rfl (pgs_cons (pg_name nd_l_leans rfl (.inl rfl)) (pgs_cons (pg_name nd_l_leans rfl (.inl rfl)) pgs_nil))) (.refl _) (fun _ => rfl) (by decide) (by decide) (fun k a ha =>
          have st : lnSt c ah (k + 1) = lnStep c ah.length k a (lnSt c ah k) := nst_succ ha
          have hk : k < ah.length := (List.getElem?_eq_some_iff.mp ha).1
          have q := inv k (by omega)
          have ql : ((lnSt c ah k).2.map D.str).length < 16777216 := by have := q.2.length_le; simp at this; rw [List.length_map]; omega
          s_set 6 nd_l_leans (e_and (e_of_c (c_eqI (e_var 4 rfl) (e_sub ((e_lenL R.bt.len (e_var 1 rfl)).as (by rw [List.length_map])) e_int))) fun h1 => (e_one (e_of_c (c_eqI (e_mod (by decide) (e_var 0 rfl) e_int) e_int)))) <|
          s_ifj [some (.sh (.int c)), some (.sh (.lst (ah.map eCh))), some (.sh (.int (lnSt c ah k).1)), some (.ow p3 (.lst ((lnSt c ah (k + 1)).2.map D.str))), some (.sh (.int (k : Nat))), none, none] (k := lnHit c ah.length k (lnSt c ah k).1) (b_pw (b_or (b_of_e' (e_var 6 rfl)) fun h4 => (b_or1 (b_pw (b_and (b_of_c (c_eqI (e_mod (by omega) (e_var 2 rfl) (e_add e_int (e_mod (by decide) (e_var 0 rfl) e_int))) e_int)) fun h3 => (b_and1 (b_pw (b_or (b_of_c (c_lt ((e_lenL R.bt.len (e_var 1 rfl)).as (by rw [List.length_map])) e_int)) fun h2 => (b_or1 (b_of_c (c_eqI (e_mod (by decide) (e_var 4 rfl) e_int) (e_mod (by decide) (e_fdiv ⟨by decide, by decide⟩ (e_var 2 rfl) e_int) e_int)))))))))))) (fun hb =>
              s_append 3 rfl ql (e_ixT rfl (e_var 5 rfl) e_int) <|
              s_nil (.same (.same (.same (.ow (by rw [st]; unfold lnStep; rw [if_pos hb, List.map_append]; rfl) (.same (.drop (.drop .nil)))))))) (fun hb =>
              s_nil (.same (.same (.same (.ow (by rw [st]; unfold lnStep; rw [if_neg (by rw [hb]; decide)]) (.same (.drop (.drop .nil)))))))) <|
          s_set 2 nd_l_leans (e_fdiv ⟨by decide, by decide⟩ (e_var 2 rfl) e_int) <|
          s_if2 (b_of_c (c_lt (e_var 2 rfl) e_int)) (fun hb =>
              s_set 2 nd_l_leans (e_call ((c_l_mixed R).mono (by decide)) hr ⟨_, _, rfl, rfl⟩ (a_two (e_var 0 rfl) (e_add (e_var 4 rfl) e_int))) <|
              s_nil (.same (.same (.sh (by rw [st]; unfold lnStep lnLeft; rw [if_pos (of_decide_eq_true hb)]) (.same (.drop (.refl _))))))) (fun hb =>
              s_nil (.same (.same (.sh (by rw [st]; unfold lnStep lnLeft; rw [if_neg (of_decide_eq_false hb)]) (.same (.drop (.refl _)))))))) <|
      s_retL (l_sorted R.bt.sorted (by omega) (e_own 3 rfl)) rfl
theorem c_l_marks (R : Pr K mg) : Cal P w K mg base "_law_marks" ["_law_change"] 1 (spL T K fun ds es => ∃ (ch : Ch), ch.2.2.length ≤ 1000 ∧ ds = [eCh ch] ∧ es = (mks ch).map eMk) :=
  cal_L R.f_l_marks sc_l_marks (fun _ _ _ _ _ _ us hl => match us, hl with | [_], _ => rfl) (by rintro _ _ ⟨ch, h1, rfl, rfl⟩; rfl) (by decide) fun f cdv A outer s H E hr ds es ⟨ch, hl, e1, e2⟩ => by
    subst e1 e2
    have := adds_le ch.2.2
    exact
      s_set 1 nd_l_marks (ED.as (d' := .int (adds ch.2.2 : Nat)) (e_lenL R.bt.len (e_of_l (flL 2 eDd (h := fun d => d) (p := fun d => decide (d.1 = ("add" : Str))) nd_l_marks (by omega) (e_ixT rfl (e_var 0 rfl) e_int) (show BlkOk nm_l_marks (defScope st_l_marks) _ _ from ⟨rfl, by decide +kernel, by decide +kernel, by decide +kernel, by decide +kernel⟩) (fun _ _ _ _ _ => pg_name nd_l_marks rfl (.inl rfl)) (fun _ _ _ _ _ a ha => (b_of_c (c_eqS (e_ixT (dd0 _) (e_var 2 rfl) e_int) e_str))) (fun _ _ _ _ _ a ha hk => (e_var 2 rfl))))) (by rw [List.length_map, List.length_map]; rfl)) <|
      s_retL (mpR 3 eMk (h := fun (j : Nat) => (ch.1, (j : Int))) nd_l_marks R.bt.range (by omega) (by omega) (e_var 1 rfl) (show BlkOk nm_l_marks (defScope st_l_marks) _ _ from ⟨rfl, by decide +kernel, by decide +kernel, by decide +kernel, by decide +kernel⟩) (fun _ _ _ _ _ => pg_name nd_l_marks rfl (.inl rfl)) (fun _ _ _ _ _ i hi => (e_tup (h := (a_two (e_ixT rfl (e_var 0 rfl) e_int) (e_var 3 rfl)))))) (by unfold mks; rfl)
end
end KK

/-! Walks: deeds. -/
namespace KK
open PySem PySem.Spec L2 DD MM
section
variable {T : Tb} {P : Program} {w : World} {K : PySem.W.Frag} {mg : Str → Option Value} {base : Heap}
theorem c_l_deeds (R : Pr K mg) : Cal P w K mg base "_law_deeds" ["_law_name_here", "_law_cell_here", "_law_many", "_law_marks_here"] 3 (spL T K fun ds es => ∃ (nm : Str) (c many : Int) (ms : List DD.Mk), 0 ≤ many ∧ many ≤ 1000 ∧ ms.length ≤ 100000 ∧ ds = [.str nm, .int c, .int many, .lst (ms.map eMk)] ∧ es = (deeds nm c many ms).map eDd) :=
  cal_L R.f_l_deeds sc_l_deeds (fun _ _ _ _ _ _ us hl => match us, hl with | [_, _, _, _], _ => rfl) (by rintro _ _ ⟨nm, c, many, ms, h1, h2, h3, rfl, rfl⟩; rfl) (by decide) fun f cdv A outer s H E hr ds es ⟨nm, c, many, ms, h0, h1, h2, e1, e2⟩ => by
    subst e1 e2
    have inv := dSt_inv nm c ms many.toNat
    refine s_new 4 nd_l_deeds (l_lst (h := a_nil)) fun p4 => ?_
    refine s_set 5 nd_l_deeds e_int ?_
    refine s_forR 6 (fun k => [some (.sh (.str nm)), some (.sh (.int c)), some (.sh (.int many)), some (.sh (.lst (ms.map eMk))), some (.ow p4 (.lst ((dSt nm c ms k).1.map eDd))), some (.sh (.int (dSt nm c ms k).2)), none, none, none, none, none, none, none]) 13 R.bt.range (e_var 2 rfl) (pg_name nd_l_deeds rfl (.inl rfl)) (Wk.eq rfl) (fun _ => rfl) (by decide) (fun k hk => ?_) (s_retO 4 rfl rfl)
    · skip
      have q := inv k (by omega)
      have qa := adds_le (dSt nm c ms k).1
      have st : dSt nm c ms (k + 1) = dStep nm c ms k (dSt nm c ms k) := rfl
      have m0 := mixed_lo c (k : Int)
      generalize dSt nm c ms (k + 1) = s1 at st
      generalize dSt nm c ms k = s0 at q qa st
      obtain ⟨ds0, own⟩ := s0
      obtain ⟨q1, q2, q3⟩ := q
      simp only at q1 q2 q3 qa
      have qk := dKnown_len nm ms own
      have a0 := dAt_lo nm c ms k own
      have a1 := dAt_hi nm c ms k own
      have ql : (ds0.map eDd).length < 16777216 := by rw [List.length_map]; omega
      exact
      s_new 7 nd_l_deeds ((l_cat (by simp; omega) (i_of_e (e_var 3 rfl)) (i_of_l (mpR 12 eMk (h := fun (j : Nat) => (nm, (j : Int))) nd_l_deeds R.bt.range (by omega) (by omega) (e_var 5 rfl) (show BlkOk nm_l_deeds (defScope st_l_deeds) _ _ from ⟨rfl, by decide +kernel, by decide +kernel, by decide +kernel, by decide +kernel⟩) (fun _ _ _ _ _ => pg_name nd_l_deeds rfl (.inl rfl)) (fun _ _ _ _ _ i hi => (e_tup (h := (a_two (e_var 0 rfl) (e_var 12 rfl)))))))).as (es := (dKnown nm ms own).map eMk) (by unfold dKnown; rw [List.map_append])) fun p7 =>
      s_set 8 nd_l_deeds (e_call ((c_l_mixed R).mono (by decide)) hr ⟨_, _, rfl, rfl⟩ (a_two (e_var 1 rfl) (e_var 6 rfl))) <|
      s_set 9 nd_l_deeds (ED.as (d' := .int (dAt nm c ms k own)) (e_mod (by omega) (e_fdiv ⟨by decide, by decide⟩ (e_var 8 rfl) e_int) (e_add ((e_lenL R.bt.len (e_own 7 rfl)).as (by rw [List.length_map])) e_int)) rfl) <|
      s_set 10 nd_l_deeds (e_call ((c_l_line R).mono (by decide)) hr ⟨_, rfl, rfl⟩ (a_one (e_fdiv ⟨by decide, by decide⟩ (e_var 8 rfl) e_int))) <|
      s_if2 (k := dAdd nm c ms k own) (BD.as (b_pw (b_or (b_of_c (c_lt (e_mod (by decide) (e_var 8 rfl) e_int) e_int)) fun h2 => (b_or1 (b_not (b_lst (e_own 7 rfl)))))) (by unfold dAdd; rw [Bool.not_not, List.isEmpty_map])) (fun hb =>
          s_set 11 nd_l_deeds e_non <|
          s_ifj [some (.sh (.str nm)), some (.sh (.int c)), some (.sh (.int many)), some (.sh (.lst (ms.map eMk))), some (.ow p4 (.lst (ds0.map eDd))), some (.sh (.int own)), none, none, none, none, some (.sh (.str (line (mixed c (k : Int) / 365)))), some (.sh (eOM (dPut nm c ms k own))), none] (b_of_c (c_gt (e_var 9 rfl) e_int)) (fun hb =>
              s_set 11 nd_l_deeds (e_ixL (atI_map eMk (dPut_at nm c ms k own (of_decide_eq_true hb))) (i_var 7 rfl) (e_sub (e_var 9 rfl) e_int)) <|
              s_nil (.same (.same (.same (.same (.same (.same (.drop (.drop (.drop (.drop (.same (.sh (by unfold dPut; rw [if_pos (of_decide_eq_true hb)]; rfl) (.drop .nil)))))))))))))) (fun hb =>
              s_nil (.same (.same (.same (.same (.same (.same (.drop (.drop (.drop (.drop (.same (.sh (by unfold dPut; rw [if_neg (of_decide_eq_false hb)]; rfl) (.drop .nil)))))))))))))) <|
          s_append 4 rfl ql (e_tup (h := (a_cons e_str (a_cons (e_var 11 rfl) (a_one (e_var 10 rfl)))))) <|
          s_set 5 nd_l_deeds (e_add (e_var 5 rfl) e_int) <|
          s_nil (.same (.same (.same (.same (.ow (by rw [st]; unfold dStep; rw [if_pos hb, List.map_append]; rfl) (.sh (by rw [st]; unfold dStep; rw [if_pos hb]) (.drop (.drop (.drop (.drop (.drop (.drop (.drop .nil)))))))))))))) (fun hb =>
          have hne : dKnown nm ms own ≠ [] := fun e => by unfold dAdd at hb; rw [e] at hb; simp at hb
          have hlen : 0 < ((dKnown nm ms own).length : Int) := by have := List.length_pos_iff.mpr hne; omega
          have hb' : ¬ dAdd nm c ms k own = true := by rw [hb]; decide
          s_if2 (b_of_c (c_eqI (e_mod (by decide) (e_var 8 rfl) e_int) e_int)) (fun hc =>
              s_append 4 rfl ql (e_tup (h := (a_two e_str (e_ixL (atI_map eMk (dHit_at nm c ms k own hne)) (i_var 7 rfl) (e_mod hlen (e_var 9 rfl) ((e_lenL R.bt.len (e_own 7 rfl)).as (by rw [List.length_map]))))))) <|
              s_nil (.same (.same (.same (.same (.ow (by rw [st]; unfold dStep; rw [if_neg hb', if_pos (of_decide_eq_true hc), List.map_append]; rfl) (.sh (by rw [st]; unfold dStep; rw [if_neg hb', if_pos (of_decide_eq_true hc)]) (.drop (.drop (.drop (.drop (.drop (.drop (.drop .nil)))))))))))))) (fun hc =>
              s_append 4 rfl ql (e_tup (h := (a_cons e_str (a_cons (e_ixL (atI_map eMk (dHit_at nm c ms k own hne)) (i_var 7 rfl) (e_mod hlen (e_var 9 rfl) ((e_lenL R.bt.len (e_own 7 rfl)).as (by rw [List.length_map])))) (a_one (e_var 10 rfl)))))) <|
              s_nil (.same (.same (.same (.same (.ow (by rw [st]; unfold dStep; rw [if_neg hb', if_neg (of_decide_eq_false hc), List.map_append]; rfl) (.sh (by rw [st]; unfold dStep; rw [if_neg hb', if_neg (of_decide_eq_false hc)]) (.drop (.drop (.drop (.drop (.drop (.drop (.drop .nil)))))))))))))))
end
end KK

/-! Walks: changes. -/
namespace KK
open PySem PySem.Spec L2 DD MM
theorem cAt0 (cs : List Int) (k : Nat) : cs.getD (4 * (k : Int)).toNat 0 = cAt cs k 0 := by unfold cAt; rw [Int.add_zero]
theorem chN_lo (cs : List Int) {most : Int} (h : 0 ≤ most) : 0 ≤ chN cs most := by unfold chN; omega
theorem chN_hi (cs : List Int) (most : Int) : chN cs most ≤ most := by unfold chN; omega
theorem chN_cs (cs : List Int) (most : Int) : 4 * chN cs most ≤ cs.length := by unfold chN; omega
theorem mem_of_take {α : Type} {xs : List α} {x : α} (h : x ∈ xs) : ∃ i : Nat, xs[i]? = some x := by
  obtain ⟨i, hi, e⟩ := List.mem_iff_getElem.mp h
  exact ⟨i, by rw [← e]; simp [hi]⟩
theorem okChs.mem {cs : List Ch} (h : okChs cs) {ch : Ch} (hm : ch ∈ cs) : ∃ fs, okCh fs ch := by
  obtain ⟨i, e⟩ := mem_of_take hm
  exact ⟨_, h i ch e⟩
theorem okChs.adds {cs : List Ch} (h : okChs cs) : ∀ ch ∈ cs, adds ch.2.2 ≤ 20 := fun ch hm => by
  obtain ⟨fs, q⟩ := okChs.mem h hm
  exact Nat.le_trans (adds_le _) q.len
section
variable {T : Tb} {P : Program} {w : World} {K : PySem.W.Frag} {mg : Str → Option Value} {base : Heap}
theorem c_l_changes (R : Pr K mg) : Cal P w K mg base "_law_changes" ["_law_cells", "_law_most"] 4 (spL T K fun ds es => ∃ (x : D) (cs : List Int) (most : Int), 0 ≤ most ∧ most ≤ 63 ∧ ILd x cs ∧ ds = [x, .int most] ∧ es = (changes cs most).map eCh) :=
  cal_L R.f_l_changes sc_l_changes (fun _ _ _ _ _ _ us hl => match us, hl with | [_, _], _ => rfl) (by rintro _ _ ⟨x, cs, most, h1, h2, h3, rfl, rfl⟩; rfl) (by decide) fun f cdv A outer s H E hr ds es ⟨x, cs, most, h0, h1, hd, e1, e2⟩ => by
    subst e1 e2
    have hN0 := chN_lo cs h0
    have hN1 := chN_hi cs most
    have hN2 := chN_cs cs most
    have inv := chSt_inv cs (n := (chN cs most).toNat) (by omega)
    refine s_new 2 nd_l_changes (l_lst (h := a_nil)) fun p2 => ?_
    refine s_new 3 nd_l_changes (l_lst (h := (a_one e_str))) fun p3 => ?_
    refine s_forR 4 (fun k => [some (.sh x), some (.sh (.int most)), some (.ow p2 (.lst ((chSt cs k).1.map eCh))), some (.ow p3 (.lst ((chSt cs k).2.map D.str))), none, none, none, none, none, none]) 10 R.bt.range (ED.as (d' := .int (chN cs most)) (e_min2 R.bt.min (e_fdiv ⟨by decide, by decide⟩ (e_lenIL hd R.bt.len (e_var 0 rfl)) e_int) (e_var 1 rfl)) (congrArg D.int (by unfold chN; split <;> omega))) (pg_name nd_l_changes rfl (.inl rfl)) (Wk.eq rfl) (fun _ => rfl) (by decide) (fun k hk => ?_) (s_retO 2 rfl (by unfold changes; rfl))
    have I := inv k (by omega)
    have st : chSt cs (k + 1) = chStep cs k (chSt cs k) := rfl
    generalize chSt cs (k + 1) = s1 at st
    generalize chSt cs k = s0 at I st
    obtain ⟨fs, tk⟩ := s0
    have hfl := I.len
    have htk : tk.length < 1000 := by have := I.tk; simp only at this hfl; rw [this]; simp; omega
    have hA := okChs.adds I.ok
    have hM := mkSt_len (leans (cAt cs k 1) fs) fs 20 hA
    simp only at hfl
    have at0 : atI cs (4 * (k : Int)) = some (cAt cs k 0) := by rw [← cAt0]; exact atI_getD 0 (by omega) (by omega)
    have at1 : atI cs (4 * (k : Int) + 1) = some (cAt cs k 1) := atI_getD 0 (by omega) (by omega)
    have at2 : atI cs (4 * (k : Int) + 2) = some (cAt cs k 2) := atI_getD 0 (by omega) (by omega)
    have at3 : atI cs (4 * (k : Int) + 3) = some (cAt cs k 3) := atI_getD 0 (by omega) (by omega)
    have ml := many_lo (cAt cs k 3)
    have mh := many_hi (cAt cs k 3)
    have qf : (fs.map eCh).length < 16777216 := by rw [List.length_map]; omega
    have qt : (tk.map D.str).length < 16777216 := by rw [List.length_map]; omega
    refine s_set 5 nd_l_changes (e_imm (e_call ((c_l_name R).mono (by decide)) hr ⟨cAt cs k 0, tk, htk, I.tn, rfl, rfl⟩ (a_two (e_ixIL hd at0 (e_var 0 rfl) (e_mul (.inl (by decide)) e_int (e_var 4 rfl))) (e_own 3 rfl)))) ?_
    refine s_append 3 rfl qt (e_var 5 rfl) ?_
    refine s_new 6 nd_l_changes (l_callI ((c_l_leans R).mono (by decide)) hr ⟨cAt cs k 1, fs, by omega, rfl, rfl⟩ (imm_strs _) (a_two (e_ixIL hd at1 (e_var 0 rfl) (e_add (e_mul (.inl (by decide)) e_int (e_var 4 rfl)) e_int)) (e_own 2 rfl))) fun p6 => ?_
    refine s_set 7 nd_l_changes (e_of_l (l_lst (h := a_nil))) ?_
    refine s_forO 2 8 (as := fs) (f := eCh) (p := p2) (fun j => [some (.sh x), some (.sh (.int most)), some (.ow p2 (.lst (fs.map eCh))), some (.ow p3 (.lst (tk.map D.str ++ [D.str (name (cAt cs k 0) tk)]))), some (.sh (.int (k : Nat))), some (.sh (.str (name (cAt cs k 0) tk))), some (.ow p6 (.lst ((leans (cAt cs k 1) fs).map D.str))), some (.sh (.lst ((mkSt (leans (cAt cs k 1) fs) fs j).map eMk))), none, none]) 10 rfl (pg_name nd_l_changes rfl (.inl rfl)) (Wk.eq rfl) (fun _ => rfl) (fun _ => rfl) (by decide) (fun j a ha => ?_) ?_
    · have sj : mkSt (leans (cAt cs k 1) fs) fs (j + 1) = mkStep (leans (cAt cs k 1) fs) j a (mkSt (leans (cAt cs k 1) fs) fs j) := nst_succ ha
      have hj : j < fs.length := (List.getElem?_eq_some_iff.mp ha).1
      have hj2 := hM j (by omega)
      have hja := hA a (List.mem_of_getElem? ha)
      have hj3 : a.2.2.length ≤ 1000 := by
        obtain ⟨gs, q⟩ := okChs.mem I.ok (List.mem_of_getElem? ha)
        have := q.len
        omega
      exact s_if2 (b_of_c (c_inL (e_ixT rfl (e_var 8 rfl) e_int) (e_own 6 rfl))) (fun hb =>
            s_set 7 nd_l_changes (e_of_l (l_cat (by rw [List.length_map, List.length_map, mks_len]; omega) (i_of_e (e_var 7 rfl)) (i_of_l (l_call ((c_l_marks R).mono (by decide)) hr ⟨a, hj3, rfl, rfl⟩ (a_one (e_var 8 rfl)))))) <|
            s_nil (.same (.same (.same (.same (.same (.same (.same (.sh (by rw [sj]; unfold mkStep; rw [if_pos (of_decide_eq_true hb), List.map_append]) (.drop (.drop .nil)))))))))))
          (fun hb =>
            s_nil (.same (.same (.same (.same (.same (.same (.same (.sh (by rw [sj]; unfold mkStep; rw [if_neg (of_decide_eq_false hb)]) (.drop (.drop .nil)))))))))))
    · refine s_rel (i := 6) rfl ?_
      refine s_set 9 nd_l_changes (e_mod (by decide) (e_ixIL hd at3 (e_var 0 rfl) (e_add (e_mul (.inl (by decide)) e_int (e_var 4 rfl)) e_int)) e_int) ?_
      refine s_ifj [some (.sh x), some (.sh (.int most)), some (.ow p2 (.lst (fs.map eCh))), some (.ow p3 (.lst (tk.map D.str ++ [D.str (name (cAt cs k 0) tk)]))), some (.sh (.int (k : Nat))), some (.sh (.str (name (cAt cs k 0) tk))), some (.sh (.lst ((leans (cAt cs k 1) fs).map D.str))), some (.sh (.lst ((mksOf (leans (cAt cs k 1) fs) fs).map eMk))), none, some (.sh (.int (many (cAt cs k 3))))] (b_of_c (c_eqI (e_mod (by decide) (e_fdiv ⟨by decide, by decide⟩ (e_ixIL hd at3 (e_var 0 rfl) (e_add (e_mul (.inl (by decide)) e_int (e_var 4 rfl)) e_int)) e_int) e_int) e_int)) (fun hb =>
            s_set 9 nd_l_changes (e_sub e_int (e_mod (by decide) (e_fdiv ⟨by decide, by decide⟩ (e_ixIL hd at3 (e_var 0 rfl) (e_add (e_mul (.inl (by decide)) e_int (e_var 4 rfl)) e_int)) e_int) e_int)) <|
            s_nil (.same (.same (.same (.same (.same (.same (.same (.sh rfl (.drop (.sh (by unfold many; rw [if_pos (of_decide_eq_true hb)]) .nil)))))))))))
          (fun hb => s_nil (.same (.same (.same (.same (.same (.same (.same (.sh rfl (.drop (.sh (by unfold many; rw [if_neg (of_decide_eq_false hb)]) .nil))))))))))) ?_
      refine s_append 2 rfl qf (e_tup (h := (a_cons (e_var 5 rfl) (a_cons (e_var 6 rfl) (a_one (e_of_l (l_call ((c_l_deeds R).mono (by decide)) hr ⟨_, cAt cs k 2, _, _, ml, by omega, by have := hM fs.length (Nat.le_refl _); have e : (mksOf (leans (cAt cs k 1) fs) fs).length ≤ fs.length * 20 := this; omega, rfl, rfl⟩ (a_cons (e_var 5 rfl) (a_cons (e_ixIL hd at2 (e_var 0 rfl) (e_add (e_mul (.inl (by decide)) e_int (e_var 4 rfl)) e_int)) (a_cons (e_var 9 rfl) (a_one (e_var 7 rfl)))))))))))) ?_
      exact s_nil (.same (.same (.ow (by rw [st]; unfold chStep chNew; rw [List.map_append]; rfl) (.ow (by rw [st]; unfold chStep; rw [List.map_append]; rfl) (.drop (.drop (.drop (.drop (.drop (.drop .nil))))))))))
end
end KK

/-! Walks: what the program looks at in a change. -/
namespace KK
open PySem PySem.Spec L2 DD MM
section
variable {T : Tb} {P : Program} {w : World} {K : PySem.W.Frag} {mg : Str → Option Value} {base : Heap}
theorem c_is_name (R : Pr K mg) : Cal P w K mg base "is_name" ["thing"] 1 (spE T K fun ds d => ∃ z : Str, SOk z ∧ ds = [.str z] ∧ d = .bl (nmB z)) :=
  cal_E R.f_is_name sc_is_name (fun _ _ _ _ _ _ us hl => match us, hl with | [_], _ => rfl) (by rintro _ _ ⟨z, h1, rfl, rfl⟩; rfl) (by decide) fun f cdv A outer s H E hr ds d ⟨z, hz, e1, e2⟩ => by
    subst e1 e2
    exact s_ret (e_and (e_chI e_int (e_lenS R.bt.len (e_var 0 rfl)) (e_gint R.k_MOST_SIGNS)) fun h0 => (e_one (e_all R.bt.all (e_of_l (mpS 1 D.bl nd_is_name hz (e_var 0 rfl) (show BlkOk nm_is_name (defScope st_is_name) _ _ from ⟨rfl, by decide +kernel, by decide +kernel, by decide +kernel, by decide +kernel⟩) (fun _ _ _ _ _ => pg_name nd_is_name rfl (.inl rfl)) (fun _ _ _ _ _ k hk => (e_of_c (c_inS (e_var 1 rfl) (e_gstr R.k_SIGNS))))))))) rfl
theorem c_is_line (R : Pr K mg) : Cal P w K mg base "is_line" ["thing"] 1 (spE T K fun ds d => ∃ z : Str, SOk z ∧ ds = [.str z] ∧ d = .bl (lnB z)) :=
  cal_E R.f_is_line sc_is_line (fun _ _ _ _ _ _ us hl => match us, hl with | [_], _ => rfl) (by rintro _ _ ⟨z, h1, rfl, rfl⟩; rfl) (by decide) fun f cdv A outer s H E hr ds d ⟨z, hz, e1, e2⟩ => by
    subst e1 e2
    exact s_ret (e_and (e_of_c (c_le (e_lenS R.bt.len (e_var 0 rfl)) (e_gint R.k_MOST_LINE))) fun h1 => (e_one (e_all R.bt.all (e_of_l (mpS 1 D.bl (h := lnK) nd_is_line hz (e_var 0 rfl) (show BlkOk nm_is_line (defScope st_is_line) _ _ from ⟨rfl, by decide +kernel, by decide +kernel, by decide +kernel, by decide +kernel⟩) (fun _ _ _ _ _ => pg_name nd_is_line rfl (.inl rfl)) (fun _ _ _ _ _ k hk => (e_chS e_str (e_var 1 rfl) e_str))))))) rfl
theorem c_is_rising (R : Pr K mg) : Cal P w K mg base "is_rising" ["names"] 1 (spE T K fun ds d => ∃ xs : List Str, ds = [.lst (xs.map D.str)] ∧ d = .bl (decide (rising xs))) :=
  cal_E R.f_is_rising sc_is_rising (fun _ _ _ _ _ _ us hl => match us, hl with | [_], _ => rfl) (by rintro _ _ ⟨z, rfl, rfl⟩; rfl) (by decide) fun f cdv A outer s H E hr ds d ⟨xs, e1, e2⟩ => by
    subst e1 e2
    have hc : cutD xs (some 1) none = xs.drop 1 := cutD_from xs (by decide)
    refine s_forZI (as := xs) (bs := xs.drop 1) (f := D.str) (g := D.str) (n := xs.length - 1) (fun k => ∀ (i : Nat) (a b : Str), i < k → xs[i]? = some a → xs[i + 1]? = some b → slt a b) 1 2 (fun k => [some (.sh (.lst (xs.map D.str))), none, none]) 3 R.bt.zip (by omega) (by simp) (by simp) (e_var 0 rfl) (e_of_l ((l_slice (i_of_e (e_var 0 rfl)) (p_some e_int) p_none).as (by rw [cutD_map, hc]))) (pg_tup rfl (pgs_cons (pg_name nd_is_rising rfl (.inl rfl)) (pgs_cons (pg_name nd_is_rising rfl (.inl rfl)) pgs_nil))) (Wk.eq rfl) (fun i a b h => absurd h (by omega)) (fun _ => rfl) (by decide) (by decide) (fun k a b ha hb ik => ?_) (fun ik => ?_)
    · have hb' : xs[k + 1]? = some b := by rw [List.getElem?_drop, Nat.add_comm] at hb; exact hb
      refine s_ift (b_of_c (c_geS (e_var 1 rfl) (e_var 2 rfl))) (fun hq => s_ret e_bl ?_) fun hq => s_nil ⟨.same (.drop (.drop .nil)), ?_⟩
      · rw [decide_eq_false fun h => ?_]
        have q := rising_get h ha hb'
        rw [decide_eq_true (show a.cps.toList < b.cps.toList from q)] at hq
        simp at hq
      · intro i x y hi hx hy
        by_cases e : i = k
        · subst e
          rw [ha] at hx
          rw [hb'] at hy
          cases hx
          cases hy
          rw [Bool.not_eq_false'] at hq
          exact of_decide_eq_true hq
        · exact ik i x y (by omega) hx hy
    · refine s_ret e_bl ?_
      rw [decide_eq_true]
      refine rising_adj fun i a b ha hb => ik i a b ?_ ha hb
      have := (List.getElem?_eq_some_iff.mp hb).1
      omega
theorem c_is_deed (R : Pr K mg) : Cal P w K mg base "is_deed" ["deed"] 2 (spE T K fun ds d => ∃ x : Dd, (x.1 = ("add" : Str) ∨ x.1 = ("set" : Str) → ∃ z, x.2.2 = some z ∧ SOk z) ∧ ds = [eDd x] ∧ d = .bl (dkB x)) :=
  cal_E R.f_is_deed sc_is_deed (fun _ _ _ _ _ _ us hl => match us, hl with | [_], _ => rfl) (by rintro _ _ ⟨x, h1, rfl, rfl⟩; rfl) (by decide) fun f cdv A outer s H E hr ds d ⟨x, hx, e1, e2⟩ => by
    subst e1 e2
    refine s_ift (b_of_c (c_notInT (xs := ["add", "cut", "set"]) (e_ixT (dd0 _) (e_var 0 rfl) e_int) (e_gtup R.k_WORDS))) (fun hb => s_ret e_bl ?_) fun hb => ?_
    · unfold dkB
      rw [if_pos (by rw [Bool.not_eq_true'] at hb; exact of_decide_eq_false hb)]
    have hw : x.1 ∈ [("add" : Str), "cut", "set"] := by rw [Bool.not_eq_false'] at hb; exact of_decide_eq_true hb
    refine s_ift (b_of_c (c_eqS (e_ixT (dd0 _) (e_var 0 rfl) e_int) e_str)) (fun hc => s_ret (e_of_c (c_notN (e_ixT (dd1 _) (e_var 0 rfl) e_int))) ?_) fun hc => ?_
    · unfold dkB
      rw [if_neg (fun q => q hw), if_pos (of_decide_eq_true hc), isNon_om]
      cases x.2.1 <;> rfl
    have hc' := of_decide_eq_false hc
    obtain ⟨z, hz, hk⟩ := hx (by
      simp only [List.mem_cons, List.not_mem_nil, or_false] at hw
      rcases hw with e | e | e
      · exact .inl e
      · exact absurd e hc'
      · exact .inr e)
    refine s_ret (e_and (e_call ((c_is_line R).mono (by decide)) hr ⟨z, hk, rfl, rfl⟩ (a_one (e_ixT (dd2 hz) (e_var 0 rfl) e_int))) fun h3 => (e_one (e_or (e_of_c (c_eqS (e_ixT (dd0 _) (e_var 0 rfl) e_int) e_str)) fun h2 => (e_one (e_of_c (c_notN (e_ixT (dd1 _) (e_var 0 rfl) e_int))))))) ?_
    unfold dkB
    rw [if_neg (fun q => q hw), if_neg hc', isNon_om, hz]
    cases x.2.1 <;> rfl
/-- a change that is one -/
theorem c_check (R : Pr K mg) : Cal P w K mg base "check" ["change"] 3 (spE T K fun ds d => ∃ ch : Ch, wfCh ch ∧ ch.2.1.length ≤ 100000 ∧ ds = [eCh ch] ∧ d = .non) :=
  cal_E R.f_check sc_check (fun _ _ _ _ _ _ us hl => match us, hl with | [_], _ => rfl) (by rintro _ _ ⟨x, h1, h2, rfl, rfl⟩; rfl) (by decide) fun f cdv A outer s H E hr ds d ⟨ch, hw, hf, e1, e2⟩ => by
    subst e1 e2
    have hlen := hw.len
    refine s_un3 1 2 3 (e_var 0 rfl) (pg_tup rfl (pgs_cons (pg_name nd_check rfl (.inl rfl)) (pgs_cons (pg_name nd_check rfl (.inl rfl)) (pgs_cons (pg_name nd_check rfl (.inl rfl)) pgs_nil)))) ?_
    refine s_ift (b_pw (b_or (b_not (b_of_e' (e_call ((c_is_name R).mono (by decide)) hr ⟨ch.1, hw.nm.sok, rfl, rfl⟩ (a_one (e_var 1 rfl))))) fun h4 => (b_or1 (b_not (b_of_e' (e_all R.bt.all (e_of_l (mpL 5 D.bl nd_check (by omega) (e_var 2 rfl) (show BlkOk nm_check (defScope st_check) _ _ from ⟨rfl, by decide +kernel, by decide +kernel, by decide +kernel, by decide +kernel⟩) (fun _ _ _ _ _ => pg_name nd_check rfl (.inl rfl)) (fun _ _ _ _ _ a ha => (e_call ((c_is_name R).mono (by decide)) hr ⟨a, (hw.lns a ha).sok, rfl, rfl⟩ (a_one (e_var 5 rfl)))))))))))) (fun hb => ?_) fun hb => ?_
    · exfalso
      rw [(nmB_iff _).mpr hw.nm, (all_map nmB ch.2.1).mpr fun x hx => (nmB_iff x).mpr (hw.lns x hx)] at hb
      cases hb
    refine s_ift (b_pw (b_or (b_not (b_of_e' (e_call ((c_is_rising R).mono (by decide)) hr ⟨_, rfl, rfl⟩ (a_one (e_var 2 rfl))))) fun h5 => (b_or1 (b_of_c (c_inL (e_var 1 rfl) (e_var 2 rfl)))))) (fun hb => ?_) fun hb => ?_
    · exfalso
      rw [decide_eq_true hw.ris, decide_eq_false hw.own] at hb
      cases hb
    refine s_ift (b_pw (b_or (b_of_c (c_gt ((e_lenL R.bt.len (e_var 3 rfl)).as (by rw [List.length_map])) (e_gint R.k_MOST_DEEDS))) fun h6 => (b_or1 (b_not (b_of_e' (e_all R.bt.all (e_of_l (mpL 4 D.bl nd_check (by omega) (e_var 3 rfl) (show BlkOk nm_check (defScope st_check) _ _ from ⟨rfl, by decide +kernel, by decide +kernel, by decide +kernel, by decide +kernel⟩) (fun _ _ _ _ _ => pg_name nd_check rfl (.inl rfl)) (fun _ _ _ _ _ a ha => (e_call ((c_is_deed R).mono (by decide)) hr ⟨a, fun q => by
        obtain ⟨z, hz, hl⟩ := (hw.dds a ha).line (by rcases q with e | e <;> rw [e]; exact ne_ac; exact ne_sc)
        exact ⟨z, hz, hl.sok⟩, rfl, rfl⟩ (a_one (e_var 4 rfl)))))))))))) (fun hb => ?_) fun hb => ?_
    · exfalso
      rw [decide_eq_false (by omega), (all_map dkB ch.2.2).mpr fun x hx => (hw.dds x hx).ok] at hb
      cases hb
    refine s_forL 4 (fun _ => [some (.sh (eCh ch)), some (.sh (.str ch.1)), some (.sh (.lst (ch.2.1.map D.str))), some (.sh (.lst (ch.2.2.map eDd))), none, none]) 6 (e_var 3 rfl) (pg_name nd_check rfl (.inl rfl)) (Wk.eq rfl) (fun _ => rfl) (by decide) (fun k a ha => ?_) (s_nil rfl)
    have hm := hw.mks a (List.mem_of_getElem? ha)
    obtain ⟨wd, m, l⟩ := a
    cases m with
    | none =>
      refine s_ift (b_pw (b_and (l := true) (b_of_c (c_notN (e_ixT (dd1 _) (e_var 4 rfl) e_int))) fun h => absurd (show false = true from h) (by decide))) (fun hb => absurd (show false = true from hb) (by decide)) fun hb => s_nil (.same (.same (.same (.same (.drop (.drop .nil))))))
    | some m =>
      have hm' := hm m rfl
      refine s_ift (b_pw (b_and (b_of_c (c_notN (e_ixT (dd1 _) (e_var 4 rfl) e_int))) fun h8 => (b_and (b_of_c (c_neS (e_ixT rfl (e_ixT (dd1 _) (e_var 4 rfl) e_int) e_int) (e_var 1 rfl))) fun h7 => (b_and1 (b_of_c (c_notInL (e_ixT rfl (e_ixT (dd1 _) (e_var 4 rfl) e_int) e_int) (e_var 2 rfl))))))) (fun hb => ?_) fun hb => s_nil (.same (.same (.same (.same (.drop (.drop .nil))))))
      exfalso
      rcases hm' with e | e
      · rw [decide_eq_true e] at hb
        simp at hb
      · rw [decide_eq_true e] at hb
        simp at hb
theorem c_mark_written (R : Pr K mg) : Cal P w K mg base "mark_written" ["mark"] 1 (spE T K fun ds d => ∃ o : Option DD.Mk, okOM o ∧ ds = [eOM o] ∧ d = .str (mwr o)) :=
  cal_E R.f_mark_written sc_mark_written (fun _ _ _ _ _ _ us hl => match us, hl with | [_], _ => rfl) (by rintro _ _ ⟨x, h1, rfl, rfl⟩; rfl) (by decide) fun f cdv A outer s H E hr ds d ⟨o, ho, e1, e2⟩ => by
    subst e1 e2
    cases o with
    | none => exact s_ift (b_of_c (c_isN (e_var 0 rfl))) (fun hb => s_ret e_str rfl) fun hb => by cases hb
    | some m =>
      obtain ⟨h1, h2, h3⟩ := ho m rfl
      have q1 := h1.2.1
      have q2 := dec_len h2 (by omega)
      exact s_ift (b_of_c (c_isN (e_var 0 rfl))) (fun hb => by cases hb) fun hb =>
        s_ret (e_cat (by rw [len_app, l1]; unfold dec at q2; omega) (e_cat (by rw [l1]; omega) (e_ixT rfl (e_var 0 rfl) e_int) e_str) (e_strI R.bt.str (dec_log h2 (by omega)) (dec_sok h2 (by omega)) (e_ixT rfl (e_var 0 rfl) e_int))) rfl
theorem c_deed_written (R : Pr K mg) : Cal P w K mg base "deed_written" ["deed"] 2 (spE T K fun ds d => ∃ x : Dd, shDd x ∧ okOM x.2.1 ∧ ds = [eDd x] ∧ d = .str (dwr x)) :=
  cal_E R.f_deed_written sc_deed_written (fun _ _ _ _ _ _ us hl => match us, hl with | [_], _ => rfl) (by rintro _ _ ⟨x, h1, h2, rfl, rfl⟩; rfl) (by decide) fun f cdv A outer s H E hr ds d ⟨x, hx, ho, e1, e2⟩ => by
    subst e1 e2
    obtain ⟨w1, w2⟩ := word_ok hx
    obtain ⟨m1, m2⟩ := mwr_ok ho
    refine s_set 1 nd_deed_written (e_cat (by rw [len_app, l1]; omega) (e_cat (by rw [l1]; omega) (e_ixT (dd0 _) (e_var 0 rfl) e_int) e_str) (e_call ((c_mark_written R).mono (by decide)) hr ⟨_, ho, rfl, rfl⟩ (a_one (e_ixT (dd1 _) (e_var 0 rfl) e_int)))) ?_
    refine s_ift (b_of_c (c_eqS (e_ixT (dd0 _) (e_var 0 rfl) e_int) e_str)) (fun hb => s_ret (e_var 1 rfl) (by unfold dwr; rw [if_pos (of_decide_eq_true hb)])) fun hb => ?_
    obtain ⟨z, hz, hl⟩ := hx.line (of_decide_eq_false hb)
    have := hl.1
    exact s_ret (e_cat (by rw [len_app, len_app, len_app, l1, l2']; omega) (e_cat (by rw [len_app, len_app, l1, l2']; omega) (e_var 1 rfl) e_str) (e_ixT (dd2 hz) (e_var 0 rfl) e_int)) (by unfold dwr; rw [if_neg (of_decide_eq_false hb), hz]; rfl)
theorem c_written (R : Pr K mg) : Cal P w K mg base "written" ["change"] 3 (spE T K fun ds d => ∃ ch : Ch, wrCh ch ∧ ds = [eCh ch] ∧ d = .str (cwr ch)) :=
  cal_E R.f_written sc_written (fun _ _ _ _ _ _ us hl => match us, hl with | [_], _ => rfl) (by rintro _ _ ⟨x, h1, rfl, rfl⟩; rfl) (by decide) fun f cdv A outer s H E hr ds d ⟨ch, hw, e1, e2⟩ => by
    subst e1 e2
    have n1 := hw.wf.nm.2.1
    obtain ⟨j1, j2⟩ := lns_ok hw
    have hl := hw.wf.len
    have hf := hw.few
    have jc := join_cost (y := (" " : Str)) (ps := ch.2.1) (b := 12) fun p hp => (hw.wf.lns p hp).2.1
    rw [l1] at jc
    refine s_set 1 nd_written (e_cat (by rw [l7]; omega) e_str (e_ixT rfl (e_var 0 rfl) e_int)) ?_
    refine s_ifj [some (.sh (eCh ch)), some (.sh (.str (hwr ch))), none] (b_lst (e_ixT rfl (e_var 0 rfl) e_int)) (fun hb =>
        s_set 1 nd_written (e_cat (by rw [len_app, len_app, l7, l4]; omega) (e_cat (by rw [len_app, l7, l4]; omega) (e_var 1 rfl) e_str) (e_join (ys := ch.2.1) (by rw [l1]; omega) (sok_of j2 (by omega)) e_str (e_ixT rfl (e_var 0 rfl) e_int))) <|
        s_nil (.same (.sh (by unfold hwr; rw [if_neg (fun e => by rw [e] at hb; simp at hb)]) (.refl _)))) (fun hb =>
        s_nil (.same (.sh (by unfold hwr; rw [if_pos (by cases h : ch.2.1 with
          | nil => rfl
          | cons a r => rw [h] at hb; simp at hb)]) (.refl _)))) ?_
    have jr := join_cost (y := ("\n" : Str)) (ps := hwr ch :: ch.2.2.map dwr) (b := 1400) fun p hp => (rows_ok hw p hp).1
    simp only [List.length_cons, List.length_map, ln] at jr
    refine s_ret (e_join (ys := hwr ch :: ch.2.2.map dwr) (by simp only [List.length_cons, List.length_map, ln]; omega) (cwr_sok hw) e_str (e_of_l (LD.as (es := (hwr ch :: ch.2.2.map dwr).map D.str) (l_cat (by simp; omega) (i_of_l (l_lst (h := (a_one (e_var 1 rfl))))) (i_of_l (mpL 2 D.str (h := dwr) nd_written (by omega) (e_ixT rfl (e_var 0 rfl) e_int) (show BlkOk nm_written (defScope st_written) _ _ from ⟨rfl, by decide +kernel, by decide +kernel, by decide +kernel, by decide +kernel⟩) (fun _ _ _ _ _ => pg_name nd_written rfl (.inl rfl)) (fun _ _ _ _ _ a ha => (e_call ((c_deed_written R).mono (by decide)) hr ⟨a, hw.wf.dds a ha, hw.num a ha, rfl, rfl⟩ (a_one (e_var 2 rfl))))))) rfl))) rfl
end
end KK

/-! Walks: a change read. -/
namespace KK
open PySem PySem.Spec L2 DD MM
theorem FIGl : (("0123456789" : Str)).cps.toList = [48, 49, 50, 51, 52, 53, 54, 55, 56, 57] := by decide +kernel
theorem fig_mem {k : Nat} (h : 48 ≤ k ∧ k ≤ 57) : k ∈ ("0123456789" : Str).cps.toList := by
  rw [FIGl]
  simp only [List.mem_cons, List.not_mem_nil, or_false]
  omega
theorem spok : SOk (" " : Str) := by decide +kernel
theorem cook : SOk (": " : Str) := by decide +kernel
theorem sp_ne : (((" " : Str)).length == 0) = false := by decide +kernel
theorem nl_ne : ((("\n" : Str)).length == 0) = false := by decide +kernel
theorem co_ne : (((": " : Str)).length == 0) = false := by decide +kernel
section
variable {T : Tb} {P : Program} {w : World} {K : PySem.W.Frag} {mg : Str → Option Value} {base : Heap}
theorem c_number_read (R : Pr K mg) : Cal P w K mg base "number_read" ["word"] 1 (spE T K fun ds d => ∃ n : Nat, n < 1000000000 ∧ ds = [.str (dec n)] ∧ d = .int n) :=
  cal_E R.f_number_read sc_number_read (fun _ _ _ _ _ _ us hl => match us, hl with | [_], _ => rfl) (by rintro _ _ ⟨x, h1, rfl, rfl⟩; rfl) (by decide) fun f cdv A outer s H E hr ds d ⟨n, hn, e1, e2⟩ => by
    subst e1 e2
    have hd := dec_digits n
    have hnl : (dec n).length = (TL.numL n).length := by rw [TL.len_tl, tl_dec]
    have h9 := TL.numL_len (n := n) (k := 9) (by decide) (by omega)
    have h1 : 0 < (TL.numL n).length := List.length_pos_iff.mpr (TL.numL_ne n)
    have sok : SOk (dec n) := dec_sok (by omega) (by omega)
    refine s_ift (b_pw (b_or (b_not (b_chI e_int (e_lenS R.bt.len (e_var 0 rfl)) (e_gint R.k_MOST_FIGURES))) fun h9 => (b_or1 (b_not (b_of_e' (e_all R.bt.all (e_of_l (mpS 1 D.bl nd_number_read sok (e_var 0 rfl) (show BlkOk nm_number_read (defScope st_number_read) _ _ from ⟨rfl, by decide +kernel, by decide +kernel, by decide +kernel, by decide +kernel⟩) (fun _ _ _ _ _ => pg_name nd_number_read rfl (.inl rfl)) (fun _ _ _ _ _ k hk => (e_of_c (c_inS (e_var 1 rfl) (e_gstr R.k_FIGURES)))))))))))) (fun hb => ?_) fun hb => ?_
    · exfalso
      rw [(all_map (fun k => decide (k ∈ ("0123456789" : Str).cps.toList)) (dec n).cps.toList).mpr fun x hx => decide_eq_true (fig_mem (hd x hx)), decide_eq_true (show (1 : Int) ≤ (dec n).length by omega), decide_eq_true (show ((dec n).length : Int) ≤ 9 by omega)] at hb
      cases hb
    have hlt : (0 : Int) < (dec n).cps.toList.length := by rw [← len_cps]; omega
    refine s_ift (b_pw (b_and (b_of_c (c_eqS (e_ixS (atI_getD 0 (by decide) hlt) (e_var 0 rfl) e_int) e_str)) fun h10 => (b_and1 (b_of_c (c_gt (e_lenS R.bt.len (e_var 0 rfl)) e_int))))) (fun hb => ?_) fun hb => ?_
    · exfalso
      obtain ⟨q1, q2⟩ := Bool.and_eq_true_iff.mp hb
      have q1 := congrArg TL.tl (of_decide_eq_true q1)
      have q2 := of_decide_eq_true q2
      have e0 : TL.tl ("0" : Str) = [48] := by decide +kernel
      rw [e0] at q1
      have q3 : (TL.numL n).getD 0 0 = 48 := by
        have : TL.tl (dec n) = TL.numL n := tl_dec n
        rw [← this]
        exact (List.cons.inj q1).1
      by_cases hz : n < 10
      · rw [TL.numL_lt hz] at hnl
        simp at hnl
        omega
      · refine numL_head n (by omega) ?_
        cases hq : TL.numL n with
        | nil => exact absurd hq (TL.numL_ne n)
        | cons a r => rw [hq] at q3; simpa using q3
    · exact s_ret (e_intS R.bt.int (TL.int_num (n := n) (by omega)) (show (dec n).length ≤ 640 by omega) (e_var 0 rfl)) rfl
theorem c_mark_read (R : Pr K mg) : Cal P w K mg base "mark_read" ["told"] 2 (spE T K fun ds d => ∃ o : Option DD.Mk, okOM o ∧ ds = [.str (mwr o)] ∧ d = eOM o) :=
  cal_E R.f_mark_read sc_mark_read (fun _ _ _ _ _ _ us hl => match us, hl with | [_], _ => rfl) (by rintro _ _ ⟨x, h1, rfl, rfl⟩; rfl) (by decide) fun f cdv A outer s H E hr ds d ⟨o, ho, e1, e2⟩ => by
    subst e1 e2
    cases o with
    | none => exact s_ift (b_of_c (c_eqS (e_var 0 rfl) e_str)) (fun hb => s_ret e_non rfl) fun hb => absurd rfl (of_decide_eq_false hb)
    | some m =>
      have hm := ho m rfl
      have hp := mwr_part hm
      obtain ⟨h1, h2, h3⟩ := hm
      obtain ⟨n, hn⟩ := Int.eq_ofNat_of_zero_le h2
      refine s_ift (b_of_c (c_eqS (e_var 0 rfl) e_str)) (fun hb => absurd (of_decide_eq_true hb) (mwr_ne m)) fun hb => ?_
      refine s_un3 1 2 3 (ED.as (d' := .tup [.str m.1, .str (" " : Str), .str (dec m.2)]) (e_part sp_ne (by rw [hp]; exact ⟨h1.sok, spok, dec_sok h2 (by omega)⟩) (e_var 0 rfl) e_str) (by rw [hp])) (pg_tup rfl (pgs_cons (pg_name nd_mark_read rfl (.inl rfl)) (pgs_cons (pg_name nd_mark_read rfl (.inl rfl)) (pgs_cons (pg_name nd_mark_read rfl (.inl rfl)) pgs_nil)))) ?_
      refine s_ret (e_tup (h := (a_two (e_var 1 rfl) (e_call ((c_number_read R).mono (by decide)) hr ⟨n, by omega, by rw [hn], rfl⟩ (a_one (e_var 3 rfl)))))) ?_
      show D.tup _ = D.tup _
      rw [hn]
theorem c_deed_read (R : Pr K mg) : Cal P w K mg base "deed_read" ["row"] 3 (spE T K fun ds d => ∃ x : Dd, shDd x ∧ (x.1 = ("cut" : Str) → x.2.2 = none) ∧ okOM x.2.1 ∧ ds = [.str (dwr x)] ∧ d = eDd x) :=
  cal_E R.f_deed_read sc_deed_read (fun _ _ _ _ _ _ us hl => match us, hl with | [_], _ => rfl) (by rintro _ _ ⟨x, h1, h2, h3, rfl, rfl⟩; rfl) (by decide) fun f cdv A outer s H E hr ds d ⟨x, hx, hcut, ho, e1, e2⟩ => by
    subst e1 e2
    have hp := dwr_part hx
    have hro := drest_ok hx ho
    have hw : SOk x.1 := sok_of (word_ok hx).2 (by have := (word_ok hx).1; omega)
    refine s_un3 1 2 3 (ED.as (d' := .tup [.str x.1, .str (" " : Str), .str (drest x)]) (e_part sp_ne (by rw [hp]; exact ⟨hw, spok, hro.2⟩) (e_var 0 rfl) e_str) (by rw [hp])) (pg_tup rfl (pgs_cons (pg_name nd_deed_read rfl (.inl rfl)) (pgs_cons (pg_name nd_deed_read rfl (.inl rfl)) (pgs_cons (pg_name nd_deed_read rfl (.inl rfl)) pgs_nil)))) ?_
    refine s_ift (b_of_c (c_eqS (e_var 1 rfl) e_str)) (fun hb => ?_) fun hb => ?_
    · have hc := of_decide_eq_true hb
      refine s_ret (e_tup (h := (a_two e_str (e_call ((c_mark_read R).mono (by decide)) hr ⟨x.2.1, ho, by unfold drest; rw [if_pos hc], rfl⟩ (a_one (e_var 3 rfl)))))) ?_
      show D.tup _ = eDd x
      unfold eDd
      rw [hcut hc, hc]
      rfl
    · have hc := of_decide_eq_false hb
      obtain ⟨z, hz, hl⟩ := hx.line hc
      have hq := drest_part ho hc
      obtain ⟨m1, m2⟩ := mwr_ok ho
      rw [hz] at hq
      refine s_un3 4 5 6 (ED.as (d' := .tup [.str (mwr x.2.1), .str (": " : Str), .str z]) (e_part co_ne (by rw [hq]; exact ⟨sok_of m2 (show (mwr x.2.1).length ≤ 8388608 by omega), cook, hl.sok⟩) (e_var 3 rfl) e_str) (by rw [hq]; rfl)) (pg_tup rfl (pgs_cons (pg_name nd_deed_read rfl (.inl rfl)) (pgs_cons (pg_name nd_deed_read rfl (.inl rfl)) (pgs_cons (pg_name nd_deed_read rfl (.inl rfl)) pgs_nil)))) ?_
      refine s_ift (b_pw (b_or (b_of_c (c_notInT (xs := ["add", "set"]) (e_var 1 rfl) (e_tup (h := (a_two e_str e_str))))) fun h11 => (b_or1 (b_of_c (c_eqS (e_var 5 rfl) e_str))))) (fun hb2 => ?_) fun hb2 => ?_
      · exfalso
        have e1 : x.1 ∈ [("add" : Str), "set"] := by
          rcases hx.word with e | e | e
          · rw [e]; simp
          · exact absurd e hc
          · rw [e]; simp
        rw [decide_eq_true e1, decide_eq_false (show ¬ (": " : Str) = "" by decide +kernel)] at hb2
        cases hb2
      · refine s_ret (e_tup (h := (a_cons (e_var 1 rfl) (a_cons (e_call ((c_mark_read R).mono (by decide)) hr ⟨x.2.1, ho, rfl, rfl⟩ (a_one (e_var 4 rfl))) (a_one (e_var 6 rfl)))))) ?_
        show D.tup _ = eDd x
        unfold eDd
        rw [hz]
        rfl
theorem c_head_read (R : Pr K mg) : Cal P w K mg base "head_read" ["row"] 1 (spE T K fun ds d => ∃ ch : Ch, wrCh ch ∧ ds = [.str (hwr ch)] ∧ d = .tup [.str ch.1, .lst (ch.2.1.map D.str)]) :=
  cal_E R.f_head_read sc_head_read (fun _ _ _ _ _ _ us hl => match us, hl with | [_], _ => rfl) (by rintro _ _ ⟨x, h1, rfl, rfl⟩; rfl) (by decide) fun f cdv A outer s H E hr ds d ⟨ch, hw, e1, e2⟩ => by
    subst e1 e2
    have hs := hwr_split hw
    have hk := hparts_sok hw
    refine s_new 1 nd_head_read (LD.as (es := (hparts ch).map D.str) (l_split sp_ne (by have := (hwr_ok hw).1; omega) (by rw [hs]; exact hk) (e_var 0 rfl) e_str) (by rw [hs])) fun p1 => ?_
    unfold hparts
    cases hl : ch.2.1 with
    | nil =>
      rw [if_pos rfl]
      refine s_ift (b_pw (b_or (b_of_c (c_neS (e_ixL rfl (i_var 1 rfl) e_int) e_str)) fun h13 => (b_or (b_of_c (c_lt (e_lenL R.bt.len (e_own 1 rfl)) e_int)) fun h12 => (b_or1 (b_of_c (c_eqI (e_lenL R.bt.len (e_own 1 rfl)) e_int)))))) (fun hb => ?_) fun hb => ?_
      · exfalso
        rw [decide_eq_true (show ("change" : Str) = "change" from rfl)] at hb
        cases hb
      refine s_ift (b_pw (b_and (l := true) (b_of_c (c_gt (e_lenL R.bt.len (e_own 1 rfl)) e_int)) fun h14 => absurd (show false = true from h14) (by decide))) (fun hb => absurd (show false = true from hb) (by decide)) fun hb => ?_
      exact s_ret (e_tup (h := (a_two (e_ixL rfl (i_var 1 rfl) e_int) (e_of_l (l_slice (i_var 1 rfl) (p_some e_int) p_none))))) rfl
    | cons a r =>
      rw [if_neg (by simp)]
      have h3 : ((3 : Int) < ((List.map D.str ("change" :: ch.1 :: "on" :: a :: r)).length : Nat)) := by simp; omega
      refine s_ift (b_pw (b_or (b_of_c (c_neS (e_ixL (atI_nat (by decide) rfl) (i_var 1 rfl) e_int) e_str)) fun h13 => (b_or (b_of_c (c_lt (e_lenL R.bt.len (e_own 1 rfl)) e_int)) fun h12 => (b_or1 (b_of_c (c_eqI (e_lenL R.bt.len (e_own 1 rfl)) e_int)))))) (fun hb => ?_) fun hb => ?_
      · exfalso
        rw [decide_eq_true (show ("change" : Str) = "change" from rfl), decide_eq_false (by omega), decide_eq_false (by omega)] at hb
        cases hb
      refine s_ift (b_pw (b_and (b_of_c (c_gt (e_lenL R.bt.len (e_own 1 rfl)) e_int)) fun h14 => (b_and1 (b_of_c (c_neS (e_ixL (atI_nat (by decide) rfl) (i_var 1 rfl) e_int) e_str))))) (fun hb => ?_) fun hb => ?_
      · exfalso
        rw [decide_eq_true (show ("on" : Str) = "on" from rfl)] at hb
        simp at hb
      refine s_ret (e_tup (h := (a_two (e_ixL (atI_nat (by decide) rfl) (i_var 1 rfl) e_int) (e_of_l (LD.as (es := (a :: r).map D.str) (l_slice (i_var 1 rfl) (p_some e_int) p_none) (by rw [cutD_from _ (by decide)]; rfl)))))) rfl
theorem cut_none {ch : Ch} (h : wrCh ch) : ∀ d ∈ ch.2.2, d.1 = ("cut" : Str) → d.2.2 = none := fun d hd hc => by
  rcases h.wf.dds d hd with ⟨h1, _⟩ | ⟨m, rfl⟩ | ⟨m, z, hz, rfl⟩
  · rw [h1] at hc; exact absurd hc ne_ac
  · rfl
  · exact absurd hc ne_sc
theorem c_read (R : Pr K mg) : Cal P w K mg base "read" ["text"] 4 (spE T K fun ds d => ∃ ch : Ch, wrCh ch ∧ ds = [.str (cwr ch)] ∧ d = eCh ch) :=
  cal_E R.f_read sc_read (fun _ _ _ _ _ _ us hl => match us, hl with | [_], _ => rfl) (by rintro _ _ ⟨x, h1, rfl, rfl⟩; rfl) (by decide) fun f cdv A outer s H E hr ds d ⟨ch, hw, e1, e2⟩ => by
    subst e1 e2
    have hs := cwr_split hw
    have hlen := hw.wf.len
    refine s_new 1 nd_read (LD.as (es := (hwr ch :: ch.2.2.map dwr).map D.str) (l_split nl_ne (by have := (cwr_ok hw).1; omega) (by rw [hs]; exact fun z hz => sok_of (rows_ok hw z hz).2 (by have := (rows_ok hw z hz).1; omega)) (e_var 0 rfl) e_str) (by rw [hs])) fun p1 => ?_
    refine s_un2 2 3 (e_call ((c_head_read R).mono (by decide)) hr ⟨ch, hw, rfl, rfl⟩ (a_one (e_ixL (atI_nat (by decide) rfl) (i_var 1 rfl) e_int))) (pg_tup rfl (pgs_cons (pg_name nd_read rfl (.inl rfl)) (pgs_cons (pg_name nd_read rfl (.inl rfl)) pgs_nil))) ?_
    refine s_set 4 nd_read (ED.as (d' := eCh ch) (e_tup (h := (a_cons (e_var 2 rfl) (a_cons (e_var 3 rfl) (a_one (e_of_l (mpL 5 eDd (as := ch.2.2) (f := fun x => .str (dwr x)) (h := fun x => x) nd_read (by omega) (e_of_l (LD.as (es := ch.2.2.map fun x => .str (dwr x)) (l_slice (i_var 1 rfl) (p_some e_int) p_none) (by rw [cutD_from _ (by decide)]; show List.map D.str (ch.2.2.map dwr) = _; rw [List.map_map]; rfl))) (show BlkOk nm_read (defScope st_read) _ _ from ⟨rfl, by decide +kernel, by decide +kernel, by decide +kernel, by decide +kernel⟩) (fun _ _ _ _ _ => pg_name nd_read rfl (.inl rfl)) (fun _ _ _ _ _ a ha => (e_call ((c_deed_read R).mono (by decide)) hr ⟨a, hw.wf.dds a ha, cut_none hw a ha, hw.num a ha, rfl, rfl⟩ (a_one (e_var 5 rfl))))))))))) (by unfold eCh; simp)) ?_
    refine s_try [some (.sh (.str (cwr ch))), none, none, none, some (.sh (eCh ch)), none] (s_expr (e_call ((c_check R).mono (by decide)) hr ⟨ch, hw.wf, by have := hw.few; omega, rfl, rfl⟩ (a_one (e_var 4 rfl))) (s_nil (.same (.drop (.drop (.drop (.same (.drop .nil)))))))) ?_
    exact s_ret (e_var 4 rfl) rfl
end
end KK

/-! Walks: one change, the law's own writing, likeness, copies. -/
namespace KK
open PySem PySem.Spec L2 DD MM
theorem dd_tail (d : Dd) : cutD (.str d.1 :: eOM d.2.1 :: eLn d.2.2) (some 2) none = d.2.2.toList.map D.str := by
  rw [cutD_from _ (by decide)]
  obtain ⟨w, m, l⟩ := d
  cases l <;> rfl
theorem eLn_list (l : Option Str) : eLn l = l.toList.map D.str := by cases l <;> rfl
section
variable {T : Tb} {P : Program} {w : World} {K : PySem.W.Frag} {mg : Str → Option Value} {base : Heap}
theorem c_l_numbered (R : Pr K mg) : Cal P w K mg base "_law_numbered" ["_law_change", "_law_cell_here"] 2 (spE T K fun ds d => ∃ (ch : Ch) (c : Int), ch.2.2.length ≤ 1000 ∧ ds = [eCh ch, .int c] ∧ d = eCh (numbered ch c)) :=
  cal_E R.f_l_numbered sc_l_numbered (fun _ _ _ _ _ _ us hl => match us, hl with | [_, _], _ => rfl) (by rintro _ _ ⟨x, c, h1, rfl, rfl⟩; rfl) (by decide) fun f cdv A outer s H E hr ds d ⟨ch, c, hl, e1, e2⟩ => by
    subst e1 e2
    have hmem := numSt_mem ch.1 c ch.2.2
    refine s_new 2 nd_l_numbered (l_lst (h := a_nil)) fun p2 => ?_
    refine s_forE 3 4 (fun k => [some (.sh (eCh ch)), some (.sh (.int c)), some (.ow p2 (.lst ((numSt ch.1 c ch.2.2 k).map eDd))), none, none, none]) 6 R.bt.enumerate (as := ch.2.2) (f := eDd) (e_ixT rfl (e_var 0 rfl) e_int) (pg_tup rfl (pgs_cons (pg_name nd_l_numbered rfl (.inl rfl)) (pgs_cons (pg_name nd_l_numbered rfl (.inl rfl)) pgs_nil))) (Wk.eq rfl) (fun _ => rfl) (by decide) (by decide) (fun k a ha => ?_) ?_
    · have st : numSt ch.1 c ch.2.2 (k + 1) = numSt ch.1 c ch.2.2 k ++ [numD ch.1 c k a] := nst_succ ha
      have hk : k < ch.2.2.length := (List.getElem?_eq_some_iff.mp ha).1
      have ql : ((numSt ch.1 c ch.2.2 k).map eDd).length < 16777216 := by rw [List.length_map, (hmem k (by omega)).1]; omega
      rw [st]
      generalize numSt ch.1 c ch.2.2 k = s0 at ql
      obtain ⟨wd, o, l⟩ := a
      refine s_set 5 nd_l_numbered (e_ixT (dd1 _) (e_var 4 rfl) e_int) ?_
      cases o with
      | none =>
        refine s_ifj [some (.sh (eCh ch)), some (.sh (.int c)), some (.ow p2 (.lst (s0.map eDd))), some (.sh (.int (k : Nat))), some (.sh (eDd (wd, none, l))), some (.sh (eOM none))] (b_pw (b_and (l := true) (b_of_c (c_notN (e_var 5 rfl))) fun h3 => absurd (show false = true from h3) (by decide))) (fun hb => absurd (show false = true from hb) (by decide)) (fun hb => s_nil (Wk.eq rfl)) ?_
        refine s_ifj [some (.sh (eCh ch)), some (.sh (.int c)), some (.ow p2 (.lst (s0.map eDd))), some (.sh (.int (k : Nat))), some (.sh (eDd (wd, none, l))), some (.sh (eOM none))] (b_pw (b_and (l := true) (b_of_c (c_notN (e_var 5 rfl))) fun h3 => absurd (show false = true from h3) (by decide))) (fun hb => absurd (show false = true from hb) (by decide)) (fun hb => s_nil (Wk.eq rfl)) ?_
        exact s_append 2 rfl ql (ED.as (d' := eDd (wd, none, l)) (e_catA (by cases l <;> simp [eLn]) (e_tup (h := (a_two (e_ixT (dd0 _) (e_var 4 rfl) e_int) (e_var 5 rfl)))) (ED.as (d' := .tup (eLn l)) (e_sliceA (e_var 4 rfl) (p_some e_int) p_none) (by rw [dd_tail, eLn_list]))) rfl)
          (s_nil (.same (.same (.ow (by rw [List.map_append]; rfl) (.drop (.drop (.drop .nil)))))))
      | some m =>
        refine s_ifj [some (.sh (eCh ch)), some (.sh (.int c)), some (.ow p2 (.lst (s0.map eDd))), some (.sh (.int (k : Nat))), some (.sh (eDd (wd, some m, l))), some (.sh (eMk (if (c + (k : Int)) % 3 = 1 then (m.1, mixed c (k : Int) % 1000000000) else m)))] (b_pw (b_and (b_of_c (c_notN (e_var 5 rfl))) fun h3 => (b_and1 (b_of_c (c_eqI (e_mod (by decide) (e_add (e_var 1 rfl) (e_var 3 rfl)) e_int) e_int))))) (fun hb =>
            s_set 5 nd_l_numbered (e_tup (h := (a_two (e_ixT rfl (e_var 5 rfl) e_int) (e_mod (by decide) (e_call ((c_l_mixed R).mono (by decide)) hr ⟨_, _, rfl, rfl⟩ (a_two (e_var 1 rfl) (e_var 3 rfl))) e_int)))) <|
            s_nil (.same (.same (.same (.same (.same (.sh (by rw [if_pos (of_decide_eq_true (Bool.and_eq_true_iff.mp hb).2)]; rfl) .nil))))))) (fun hb =>
            s_nil (.same (.same (.same (.same (.same (.sh (by rw [if_neg (of_decide_eq_false (show decide _ = false from hb))]; rfl) .nil))))))) ?_
        refine s_ifj [some (.sh (eCh ch)), some (.sh (.int c)), some (.ow p2 (.lst (s0.map eDd))), some (.sh (.int (k : Nat))), some (.sh (eDd (wd, some m, l))), some (.sh (eOM (nm2k ch.1 c k (nm1k c k (some m)))))] (b_pw (b_and (b_of_c (c_notN (e_var 5 rfl))) fun h4 => (b_and1 (b_of_c (c_eqI (e_mod (by decide) (e_add (e_var 1 rfl) (e_var 3 rfl)) e_int) e_int))))) (fun hb =>
            s_set 5 nd_l_numbered (e_tup (h := (a_two (e_ixT rfl (e_var 0 rfl) e_int) (e_ixT rfl (e_var 5 rfl) e_int)))) <|
            s_nil (.same (.same (.same (.same (.same (.sh (by unfold nm2k nm1k; simp only; rw [if_pos (of_decide_eq_true (Bool.and_eq_true_iff.mp hb).2)]; rfl) .nil))))))) (fun hb =>
            s_nil (.same (.same (.same (.same (.same (.sh (by unfold nm2k nm1k; simp only; rw [if_neg (of_decide_eq_false (show decide _ = false from hb))]; rfl) .nil))))))) ?_
        exact s_append 2 rfl ql (ED.as (d' := eDd (wd, nm2k ch.1 c k (nm1k c k (some m)), l)) (e_catA (by cases l <;> simp [eLn]) (e_tup (h := (a_two (e_ixT (dd0 _) (e_var 4 rfl) e_int) (e_var 5 rfl)))) (ED.as (d' := .tup (eLn l)) (e_sliceA (e_var 4 rfl) (p_some e_int) p_none) (by rw [dd_tail, eLn_list]))) rfl)
          (s_nil (.same (.same (.ow (by rw [List.map_append]; rfl) (.drop (.drop (.drop .nil)))))))
    · refine s_rel (i := 2) rfl ?_
      exact s_ret (e_tup (h := (a_cons (e_ixT rfl (e_var 0 rfl) e_int) (a_cons (e_ixT rfl (e_var 0 rfl) e_int) (a_one (e_var 2 rfl)))))) rfl
theorem c_l_one (R : Pr K mg) : Cal P w K mg base "_law_one" ["_law_script", "_law_most"] 5 (spE T K fun ds d => ∃ (x : D) (cs : List Int) (most : Int), 0 ≤ most ∧ most ≤ 63 ∧ ILd x cs ∧ ds = [x, .int most] ∧ d = eCh (one cs most)) :=
  cal_E R.f_l_one sc_l_one (fun _ _ _ _ _ _ us hl => match us, hl with | [_, _], _ => rfl) (by rintro _ _ ⟨x, cs, most, h1, h2, h3, rfl, rfl⟩; rfl) (by decide) fun f cdv A outer s H E hr ds d ⟨x, cs, most, h0, h1, hd, e1, e2⟩ => by
    subst e1 e2
    refine s_new 2 nd_l_one (l_call ((c_l_changes R).mono (by decide)) hr ⟨x, cs, most, h0, h1, hd, rfl, rfl⟩ (a_two (e_var 0 rfl) (e_var 1 rfl))) fun p2 => ?_
    refine s_ift (b_not (b_lst (e_own 2 rfl))) (fun hb => s_ret (e_tup (h := (a_cons e_str (a_cons (e_of_l (l_lst (h := a_nil))) (a_one (e_of_l (l_lst (h := a_nil)))))))) ?_) fun hb => ?_
    · unfold one
      rw [if_pos (by
        cases h : changes cs most with
        | nil => rfl
        | cons a r => rw [h] at hb; simp at hb)]
      rfl
    have hne : changes cs most ≠ [] := fun e => by rw [e] at hb; simp at hb
    have hl : 0 < ((changes cs most).length : Int) := by have := List.length_pos_iff.mpr hne; omega
    refine s_set 3 nd_l_one (e_call ((c_l_cell R).mono (by decide)) hr ⟨x, cs, 1, by decide, hd, rfl, rfl⟩ (a_two (e_var 0 rfl) e_int)) ?_
    refine s_ret (e_call ((c_l_numbered R).mono (by decide)) hr ⟨_, _, ?_, rfl, rfl⟩ (a_two (e_ixL (atI_map eCh (one_at cs most hne)) (i_var 2 rfl) (e_mod hl (e_var 3 rfl) ((e_lenL R.bt.len (e_own 2 rfl)).as (by rw [List.length_map])))) (e_fdiv ⟨by decide, by decide⟩ (e_var 3 rfl) e_int))) ?_
    · have I := changes_inv cs (most := most) (by omega)
      obtain ⟨i, hi⟩ := List.getElem?_of_mem (mem_of_atI (one_at cs most hne))
      have := (I.ok i _ hi).len
      omega
    · unfold one
      rw [if_neg hne]
theorem c_l_mark_row (R : Pr K mg) : Cal P w K mg base "_law_mark_row" ["_law_mark"] 1 (spE T K fun ds d => ∃ o : Option DD.Mk, okOM o ∧ ds = [eOM o] ∧ d = .str (mwr o)) :=
  cal_E R.f_l_mark_row sc_l_mark_row (fun _ _ _ _ _ _ us hl => match us, hl with | [_], _ => rfl) (by rintro _ _ ⟨x, h1, rfl, rfl⟩; rfl) (by decide) fun f cdv A outer s H E hr ds d ⟨o, ho, e1, e2⟩ => by
    subst e1 e2
    cases o with
    | none => exact s_ift (b_of_c (c_isN (e_var 0 rfl))) (fun hb => s_ret e_str rfl) fun hb => by cases hb
    | some m =>
      obtain ⟨h1, h2, h3⟩ := ho m rfl
      have q1 := h1.2.1
      have q2 := dec_len h2 (by omega)
      exact s_ift (b_of_c (c_isN (e_var 0 rfl))) (fun hb => by cases hb) fun hb =>
        s_ret (e_cat (by rw [len_app, l1]; unfold dec at q2; omega) (e_cat (by rw [l1]; omega) (e_ixT rfl (e_var 0 rfl) e_int) e_str) (e_strI R.bt.str (dec_log h2 (by omega)) (dec_sok h2 (by omega)) (e_ixT rfl (e_var 0 rfl) e_int))) rfl
theorem c_l_deed_row (R : Pr K mg) : Cal P w K mg base "_law_deed_row" ["_law_deed"] 2 (spE T K fun ds d => ∃ x : Dd, shDd x ∧ okOM x.2.1 ∧ ds = [eDd x] ∧ d = .str (dwr x)) :=
  cal_E R.f_l_deed_row sc_l_deed_row (fun _ _ _ _ _ _ us hl => match us, hl with | [_], _ => rfl) (by rintro _ _ ⟨x, h1, h2, rfl, rfl⟩; rfl) (by decide) fun f cdv A outer s H E hr ds d ⟨x, hx, ho, e1, e2⟩ => by
    subst e1 e2
    obtain ⟨w1, w2⟩ := word_ok hx
    obtain ⟨m1, m2⟩ := mwr_ok ho
    have lc : ("cut " : Str).length = 4 := by decide +kernel
    refine s_ift (b_of_c (c_eqS (e_ixT (dd0 _) (e_var 0 rfl) e_int) e_str)) (fun hb => s_ret (e_cat (by rw [lc]; omega) e_str (e_call ((c_l_mark_row R).mono (by decide)) hr ⟨_, ho, rfl, rfl⟩ (a_one (e_ixT (dd1 _) (e_var 0 rfl) e_int)))) ?_) fun hb => ?_
    · have hc := of_decide_eq_true hb
      unfold dwr
      rw [if_pos hc, hc]
      have e : ("cut " : Str) = ("cut" : Str) ++ (" " : Str) := by decide +kernel
      rw [e]
    · obtain ⟨z, hz, hl⟩ := hx.line (of_decide_eq_false hb)
      have := hl.1
      exact s_ret (e_cat (by rw [len_app, len_app, len_app, l1, l2']; omega) (e_cat (by rw [len_app, len_app, l1, l2']; omega) (e_cat (by rw [len_app, l1]; omega) (e_cat (by rw [l1]; omega) (e_ixT (dd0 _) (e_var 0 rfl) e_int) e_str) (e_call ((c_l_mark_row R).mono (by decide)) hr ⟨_, ho, rfl, rfl⟩ (a_one (e_ixT (dd1 _) (e_var 0 rfl) e_int)))) e_str) (e_ixT (dd2 hz) (e_var 0 rfl) e_int)) (by unfold dwr; rw [if_neg (of_decide_eq_false hb), hz]; rfl)
theorem c_l_written (R : Pr K mg) : Cal P w K mg base "_law_written" ["_law_change"] 3 (spE T K fun ds d => ∃ ch : Ch, wrCh ch ∧ ds = [eCh ch] ∧ d = .str (cwr ch)) :=
  cal_E R.f_l_written sc_l_written (fun _ _ _ _ _ _ us hl => match us, hl with | [_], _ => rfl) (by rintro _ _ ⟨x, h1, rfl, rfl⟩; rfl) (by decide) fun f cdv A outer s H E hr ds d ⟨ch, hw, e1, e2⟩ => by
    subst e1 e2
    have n1 := hw.wf.nm.2.1
    have hl := hw.wf.len
    have hf := hw.few
    have hh := hwr_ok hw
    refine s_new 1 nd_l_written (l_lst (h := (a_one (e_cat (by rw [l7]; omega) e_str (e_ixT rfl (e_var 0 rfl) e_int))))) fun p1 => ?_
    refine s_ifj [some (.sh (eCh ch)), some (.ow p1 (.lst [.str (hwr ch)])), none] (b_lst (e_ixT rfl (e_var 0 rfl) e_int)) (fun hb => ?_) (fun hb => ?_) ?_
    · have hne : ch.2.1 ≠ [] := fun e => by rw [e] at hb; simp at hb
      have jc := join_cost (y := (" " : Str)) (ps := [("change " : Str) ++ ch.1, ("on" : Str)] ++ ch.2.1) (b := 20) fun p hp => by
        rcases List.mem_append.mp hp with hp | hp
        · simp only [List.mem_cons, List.not_mem_nil, or_false] at hp
          rcases hp with rfl | rfl
          · rw [len_app, l7]; omega
          · decide +kernel
        · have := (hw.wf.lns p hp).2.1; omega
      rw [l1] at jc
      have jl : ([("change " : Str) ++ ch.1, ("on" : Str)] ++ ch.2.1).length = 2 + ch.2.1.length := by simp; omega
      refine s_setItem 1 (jj := 0) rfl (ED.as (d' := .str (hwr ch)) (e_join (ys := [("change " : Str) ++ ch.1, ("on" : Str)] ++ ch.2.1) (by rw [l1]; omega) (by rw [← hwr_law ch hne]; exact sok_of hh.2 (by omega)) e_str (e_of_l (LD.as (es := ([("change " : Str) ++ ch.1, ("on" : Str)] ++ ch.2.1).map D.str) (l_cat (by simp; omega) (i_of_l (l_lst (h := (a_two (e_ixL rfl (i_var 1 rfl) e_int) e_str)))) (i_of_e (e_ixT rfl (e_var 0 rfl) e_int))) (by rw [List.map_append]; rfl)))) (by rw [← hwr_law ch hne])) e_int rfl (s_nil (.same (.ow rfl (.same .nil))))
    · exact s_nil (.same (.ow (by
        unfold hwr
        rw [if_pos (by
          cases h : ch.2.1 with
          | nil => rfl
          | cons a r => rw [h] at hb; simp at hb)]) (.same .nil)))
    have jr := join_cost (y := ("\n" : Str)) (ps := hwr ch :: ch.2.2.map dwr) (b := 1400) fun p hp => (rows_ok hw p hp).1
    simp only [List.length_cons, List.length_map, ln] at jr
    refine s_ret (e_join (ys := hwr ch :: ch.2.2.map dwr) (by simp only [List.length_cons, List.length_map, ln]; omega) (cwr_sok hw) e_str (e_of_l (LD.as (es := (hwr ch :: ch.2.2.map dwr).map D.str) (l_cat (by simp; omega) (i_var 1 rfl) (i_of_l (mpL 2 D.str (h := dwr) nd_l_written (by omega) (e_ixT rfl (e_var 0 rfl) e_int) (show BlkOk nm_l_written (defScope st_l_written) _ _ from ⟨rfl, by decide +kernel, by decide +kernel, by decide +kernel, by decide +kernel⟩) (fun _ _ _ _ _ => pg_name nd_l_written rfl (.inl rfl)) (fun _ _ _ _ _ a ha => (e_call ((c_l_deed_row R).mono (by decide)) hr ⟨a, hw.wf.dds a ha, hw.num a ha, rfl, rfl⟩ (a_one (e_var 2 rfl))))))) rfl))) rfl
theorem c_l_copy (R : Pr K mg) : Cal P w K mg base "_law_copy" ["_law_change"] 1 (spE T K fun ds d => ∃ ch : Ch, ds = [eCh ch] ∧ d = eCh ch) :=
  cal_E R.f_l_copy sc_l_copy (fun _ _ _ _ _ _ us hl => match us, hl with | [_], _ => rfl) (by rintro _ _ ⟨x, rfl, rfl⟩; rfl) (by decide) fun f cdv A outer s H E hr ds d ⟨ch, e1, e2⟩ => by
    subst e1 e2
    exact s_ret (e_tup (h := (a_cons (e_ixT rfl (e_var 0 rfl) e_int) (a_cons (e_of_l (l_listOf R.bt.list (i_of_e (e_ixT rfl (e_var 0 rfl) e_int)))) (a_one (e_of_l (l_listOf R.bt.list (i_of_e (e_ixT rfl (e_var 0 rfl) e_int))))))))) rfl
end
end KK

/-! Walks: likeness; the law k02. -/
namespace KK
open PySem PySem.Spec L2 DD MM
def zzCh : Ch := (("zz" : Str), [("a" : Str)], [(("add" : Str), none, some ("x" : Str)), (("cut" : Str), some (("a" : Str), 0), none)])
theorem zz_text : cwr zzCh = ("change zz on a\nadd -: x\ncut a 0" : Str) := by decide +kernel
theorem zz_wr : wrCh zzCh := by
  have ha : isNm ("a" : Str) := by unfold isNm; decide +kernel
  have hz : isNm ("zz" : Str) := by unfold isNm; decide +kernel
  have hx : isLn ("x" : Str) := by unfold isLn; decide +kernel
  have hne : ("zz" : Str) ≠ ("a" : Str) := by decide +kernel
  refine ⟨⟨hz, ?_, ?_, ?_, ?_, ?_, ?_⟩, ?_, ?_⟩
  · intro z q
    simp [zzCh] at q
    subst q
    exact ha
  · simp [zzCh, rising]
  · simp only [zzCh, List.mem_singleton]
    exact hne
  · intro d q
    simp only [zzCh, List.mem_cons, List.not_mem_nil, or_false] at q
    rcases q with rfl | rfl
    · exact .inl ⟨rfl, _, rfl, hx⟩
    · exact .inr (.inl ⟨_, rfl⟩)
  · simp [zzCh]
  · intro d q m hm
    simp only [zzCh, List.mem_cons, List.not_mem_nil, or_false] at q
    rcases q with rfl | rfl
    · cases hm
    · cases Option.some.inj hm
      exact .inr (by simp [zzCh])
  · simp [zzCh]
  · intro d q m hm
    simp only [zzCh, List.mem_cons, List.not_mem_nil, or_false] at q
    rcases q with rfl | rfl
    · cases hm
    · cases Option.some.inj hm
      exact ⟨ha, by decide, by decide⟩
section
variable {T : Tb} {P : Program} {w : World} {K : PySem.W.Frag} {mg : Str → Option Value} {base : Heap}
theorem c_l_deed_like (R : Pr K mg) : Cal P w K mg base "_law_deed_like" ["_law_found", "_law_due"] 1 (spE T K fun ds d => ∃ x : Dd, ds = [eDd x, eDd x] ∧ d = .bl true) :=
  cal_E R.f_l_deed_like sc_l_deed_like (fun _ _ _ _ _ _ us hl => match us, hl with | [_, _], _ => rfl) (by rintro _ _ ⟨x, rfl, rfl⟩; rfl) (by decide) fun f cdv A outer s H E hr ds d ⟨x, e1, e2⟩ => by
    subst e1 e2
    refine s_ift (b_pw (b_or (b_not (b_of_e' (e_isi R.bt.isinstance R.bt.tuple rfl (e_var 0 rfl) rfl (hp := fun _ z => by unfold eDd at z; cases z)))) fun h1 => (b_or (b_of_c (c_neI (e_lenT R.bt.len (e_var 0 rfl)) (e_lenT R.bt.len (e_var 1 rfl)))) fun h0 => (b_or1 (b_not (b_of_e' (e_isi R.bt.isinstance R.bt.str rfl (e_ixT (dd0 _) (e_var 0 rfl) e_int) rfl))))))) (fun hb => ?_) fun hb => ?_
    · exfalso
      rw [decide_eq_true rfl] at hb
      cases hb
    refine s_ifj [some (.sh (eDd x)), some (.sh (eDd x)), none, none] (b_of_c (c_notN (e_ixT (dd1 _) (e_var 1 rfl) e_int))) (fun hb => ?_) (fun hb => s_nil (Wk.eq rfl)) ?_
    · obtain ⟨wd, o, l⟩ := x
      cases o with
      | none => cases hb
      | some m =>
        refine s_set 2 nd_l_deed_like (e_ixT (dd1 _) (e_var 0 rfl) e_int) ?_
        refine s_ift (b_pw (b_or (b_not (b_of_e' (e_isi R.bt.isinstance R.bt.tuple rfl (e_var 2 rfl) rfl (hp := fun _ z => by simp only [eOp, eMk] at z; cases z)))) fun h3 => (b_or (b_of_c (c_neI (e_lenT R.bt.len (e_var 2 rfl)) e_int)) fun h2 => (b_or1 (b_not (b_of_e' (e_isi R.bt.isinstance R.bt.str rfl (e_ixT rfl (e_var 2 rfl) e_int) rfl))))))) (fun hb => ?_) fun hb => ?_
        · exact absurd (show false = true from hb) (by decide)
        refine s_ift (b_pw (b_or (b_not (b_of_e' (e_isi R.bt.isinstance R.bt.int rfl (e_ixT rfl (e_var 2 rfl) e_int) rfl))) fun h4 => (b_or1 (b_of_e' (e_isi R.bt.isinstance R.bt.bool rfl (e_ixT rfl (e_var 2 rfl) e_int) rfl))))) (fun hb => ?_) fun hb => ?_
        · exact absurd (show false = true from hb) (by decide)
        exact s_nil (.same (.same (.drop (.same .nil))))
    · refine s_ret (e_and (e_all R.bt.all (e_of_l (mpT 3 D.bl (as := x.2.2.toList) (f := D.str) (h := fun _ => true) nd_l_deed_like (by cases x.2.2 <;> simp) (ED.as (e_sliceA (e_var 0 rfl) (p_some e_int) p_none) (by rw [dd_tail])) (show BlkOk nm_l_deed_like (defScope st_l_deed_like) _ _ from ⟨rfl, by decide +kernel, by decide +kernel, by decide +kernel, by decide +kernel⟩) (fun _ _ _ _ _ => pg_name nd_l_deed_like rfl (.inl rfl)) (fun _ _ _ _ _ a ha => (e_isi R.bt.isinstance R.bt.str rfl (e_var 3 rfl) rfl))))) fun h5 => (e_one (e_of_c (c_eqD enc_dd hr.units (e_var 0 rfl) (e_var 1 rfl))))) ?_
      rw [decide_eq_true rfl]
      cases x.2.2 <;> rfl
theorem c_l_change_like (R : Pr K mg) : Cal P w K mg base "_law_change_like" ["_law_found", "_law_due"] 2 (spE T K fun ds d => ∃ ch : Ch, ch.2.1.length ≤ 1000 ∧ ch.2.2.length ≤ 1000 ∧ ds = [eCh ch, eCh ch] ∧ d = .bl true) :=
  cal_E R.f_l_change_like sc_l_change_like (fun _ _ _ _ _ _ us hl => match us, hl with | [_, _], _ => rfl) (by rintro _ _ ⟨x, h1, h2, rfl, rfl⟩; rfl) (by decide) fun f cdv A outer s H E hr ds d ⟨ch, hl1, hl2, e1, e2⟩ => by
    subst e1 e2
    refine s_ift (b_pw (b_or (b_not (b_of_e' (e_isi R.bt.isinstance R.bt.tuple rfl (e_var 0 rfl) rfl (hp := fun _ z => by unfold eCh at z; cases z)))) fun h7 => (b_or (b_of_c (c_neI (e_lenT R.bt.len (e_var 0 rfl)) e_int)) fun h6 => (b_or1 (b_not (b_of_e' (e_isi R.bt.isinstance R.bt.str rfl (e_ixT rfl (e_var 0 rfl) e_int) rfl))))))) (fun hb => ?_) fun hb => ?_
    · exact absurd (show false = true from hb) (by decide)
    refine s_ift (b_pw (b_or (b_not (b_of_e' (e_isi R.bt.isinstance R.bt.list rfl (e_ixT rfl (e_var 0 rfl) e_int) rfl))) fun h8 => (b_or1 (b_not (b_of_e' (e_isi R.bt.isinstance R.bt.list rfl (e_ixT rfl (e_var 0 rfl) e_int) rfl)))))) (fun hb => ?_) fun hb => ?_
    · exact absurd (show false = true from hb) (by decide)
    refine s_ift (b_pw (b_or (b_not (b_of_e' (e_all R.bt.all (e_of_l (mpL 2 D.bl (h := fun _ => true) nd_l_change_like (by omega) (e_ixT rfl (e_var 0 rfl) e_int) (show BlkOk nm_l_change_like (defScope st_l_change_like) _ _ from ⟨rfl, by decide +kernel, by decide +kernel, by decide +kernel, by decide +kernel⟩) (fun _ _ _ _ _ => pg_name nd_l_change_like rfl (.inl rfl)) (fun _ _ _ _ _ a ha => (e_isi R.bt.isinstance R.bt.str rfl (e_var 2 rfl) rfl))))))) fun h9 => (b_or1 (b_of_c (c_neI (e_lenL R.bt.len (e_ixT rfl (e_var 0 rfl) e_int)) (e_lenL R.bt.len (e_ixT rfl (e_var 1 rfl) e_int))))))) (fun hb => ?_) fun hb => ?_
    · exfalso
      rw [decide_eq_true rfl, (all_map (fun _ => true) ch.2.1).mpr fun _ _ => rfl] at hb
      cases hb
    refine s_ift (b_pw (b_or (b_of_c (c_neS (e_ixT rfl (e_var 0 rfl) e_int) (e_ixT rfl (e_var 1 rfl) e_int))) fun h10 => (b_or1 (b_of_c (c_neD (enc_list enc_str) hr.units (e_ixT rfl (e_var 0 rfl) e_int) (e_ixT rfl (e_var 1 rfl) e_int)))))) (fun hb => ?_) fun hb => ?_
    · exfalso
      rw [decide_eq_true rfl, decide_eq_true rfl] at hb
      cases hb
    refine s_ret (e_all R.bt.all (e_of_l (mpZ 3 4 D.bl (x1 := "_law_one_here") (x2 := "_law_other") (as := ch.2.2) (bs := ch.2.2) (f := eDd) (g := eDd) (h := fun _ => true) nd_l_change_like R.bt.zip rfl (by omega) (e_ixT rfl (e_var 0 rfl) e_int) (e_ixT rfl (e_var 1 rfl) e_int) (show BlkOk nm_l_change_like (defScope st_l_change_like) _ _ from ⟨rfl, by decide +kernel, by decide +kernel, by decide +kernel, by decide +kernel⟩) (fun _ _ _ _ _ => pg_tup rfl (pgs_cons (pg_name nd_l_change_like rfl (.inl rfl)) (pgs_cons (pg_name nd_l_change_like rfl (.inl rfl)) pgs_nil))) (fun _ _ _ _ _ k a b ha hb => (e_call ((c_l_deed_like R).mono (by decide)) hr ⟨a, by rw [ha] at hb; cases hb; rfl, rfl⟩ (a_two (e_var 3 rfl) (e_var 4 rfl))))))) ?_
    rw [(all_map (fun _ => true) (List.range ch.2.2.length)).mpr fun _ _ => rfl]
theorem c_law (R : Pr K mg) : Cal P w K mg base "law" ["_law_script"] 6 (spE T K fun ds d => ∃ ns : List Int, ds = [.scr ns] ∧ d = .bl true) :=
  cal_E R.f_law sc_law (fun _ _ _ _ _ _ us hl => match us, hl with | [_], _ => rfl) (by rintro _ _ ⟨ns, rfl, rfl⟩; rfl) (by decide) fun f cdv A outer s H E hr ds d ⟨ns, e1, e2⟩ => by
    subst e1 e2
    have hw := one_wr ns (most := 12) (by decide)
    have hl1 := hw.few
    have hl2 := hw.wf.len
    generalize hch : one ns 12 = ch at hw hl1 hl2
    refine s_set 1 nd_law (e_call ((c_l_one R).mono (by decide)) hr ⟨.scr ns, ns, 12, by decide, by decide, .inl rfl, rfl, congrArg eCh hch.symm⟩ (a_two (e_var 0 rfl) e_int)) ?_
    refine s_set 2 nd_law (e_call ((c_l_copy R).mono (by decide)) hr ⟨ch, rfl, rfl⟩ (a_one (e_var 1 rfl))) ?_
    refine s_set 3 nd_law (e_call ((c_written R).mono (by decide)) hr ⟨ch, hw, rfl, rfl⟩ (a_one (e_var 2 rfl))) ?_
    refine s_ift (b_pw (b_or (b_not (b_of_e' (e_isi R.bt.isinstance R.bt.str rfl (e_var 3 rfl) rfl))) fun h12 => (b_or (b_of_c (c_neS (e_var 3 rfl) (e_call ((c_l_written R).mono (by decide)) hr ⟨ch, hw, rfl, rfl⟩ (a_one (e_var 1 rfl))))) fun h11 => (b_or1 (b_of_c (c_neD enc_ch hr.units (e_var 2 rfl) (e_var 1 rfl))))))) (fun hb => ?_) fun hb => ?_
    · exfalso
      rw [decide_eq_true rfl, decide_eq_true rfl] at hb
      cases hb
    refine s_set 4 nd_law (e_call ((c_read R).mono (by decide)) hr ⟨ch, hw, rfl, rfl⟩ (a_one (e_var 3 rfl))) ?_
    refine s_expr (e_call ((c_read R).mono (by decide)) hr ⟨zzCh, zz_wr, congrArg (fun z => [D.str z]) zz_text.symm, rfl⟩ (a_one e_str)) ?_
    refine s2_set (n := 1000) 5 nd_law ((c_read R).mono (by decide)) hr ⟨ch, hw, rfl, rfl⟩ rfl (by rw [List.length_map]; omega) (by rw [List.length_map]; omega) (a_one (e_var 3 rfl)) rfl (fun _ h => by cases h) ?_
    refine s2_ift (b_not (b_of_e' (e_call ((c_l_change_like R).mono (by decide)) hr ⟨ch, by omega, by omega, rfl, rfl⟩ (a_two (e_var 5 rfl) (e_var 1 rfl))))) (fun hb => by cases hb) fun hb => ?_
    refine s2_append1 (d := .str "a") e_str (by decide) ?_
    refine s2_clear2 ?_
    refine s2_back ?_
    exact s_ret (e_and (e_call ((c_l_change_like R).mono (by decide)) hr ⟨ch, by omega, by omega, rfl, rfl⟩ (a_two (e_var 4 rfl) (e_var 1 rfl))) fun h13 => (e_one (e_call ((c_l_change_like R).mono (by decide)) hr ⟨ch, by omega, by omega, rfl, rfl⟩ (a_two (e_call ((c_read R).mono (by decide)) hr ⟨ch, hw, rfl, rfl⟩ (a_one (e_var 3 rfl))) (e_var 1 rfl))))) rfl
end
end KK

set_option maxHeartbeats 0
/-! The head by facts; the end. -/
namespace KK
open PySem PySem.Spec PyProof.Rows L2 DD
def hd_is_name : He.DefD := ⟨("is_name", none), "is_name", "is_name", defArgs st_is_name, defBody st_is_name, defScope st_is_name, [], []⟩
def hd_is_line : He.DefD := ⟨("is_line", none), "is_line", "is_line", defArgs st_is_line, defBody st_is_line, defScope st_is_line, [], []⟩
def hd_is_rising : He.DefD := ⟨("is_rising", none), "is_rising", "is_rising", defArgs st_is_rising, defBody st_is_rising, defScope st_is_rising, [], []⟩
def hd_is_deed : He.DefD := ⟨("is_deed", none), "is_deed", "is_deed", defArgs st_is_deed, defBody st_is_deed, defScope st_is_deed, [], []⟩
def hd_check : He.DefD := ⟨("check", none), "check", "check", defArgs st_check, defBody st_check, defScope st_check, [], []⟩
def hd_mark_written : He.DefD := ⟨("mark_written", none), "mark_written", "mark_written", defArgs st_mark_written, defBody st_mark_written, defScope st_mark_written, [], []⟩
def hd_deed_written : He.DefD := ⟨("deed_written", none), "deed_written", "deed_written", defArgs st_deed_written, defBody st_deed_written, defScope st_deed_written, [], []⟩
def hd_written : He.DefD := ⟨("written", none), "written", "written", defArgs st_written, defBody st_written, defScope st_written, [], []⟩
def hd_number_read : He.DefD := ⟨("number_read", none), "number_read", "number_read", defArgs st_number_read, defBody st_number_read, defScope st_number_read, [], []⟩
def hd_mark_read : He.DefD := ⟨("mark_read", none), "mark_read", "mark_read", defArgs st_mark_read, defBody st_mark_read, defScope st_mark_read, [], []⟩
def hd_deed_read : He.DefD := ⟨("deed_read", none), "deed_read", "deed_read", defArgs st_deed_read, defBody st_deed_read, defScope st_deed_read, [], []⟩
def hd_head_read : He.DefD := ⟨("head_read", none), "head_read", "head_read", defArgs st_head_read, defBody st_head_read, defScope st_head_read, [], []⟩
def hd_read : He.DefD := ⟨("read", none), "read", "read", defArgs st_read, defBody st_read, defScope st_read, [], []⟩
def hd_l_cell : He.DefD := ⟨("_law_cell", none), "_law_cell", "_law_cell", defArgs st_l_cell, defBody st_l_cell, defScope st_l_cell, [], []⟩
def hd_l_mixed : He.DefD := ⟨("_law_mixed", none), "_law_mixed", "_law_mixed", defArgs st_l_mixed, defBody st_l_mixed, defScope st_l_mixed, [], []⟩
def hd_l_name : He.DefD := ⟨("_law_name", none), "_law_name", "_law_name", defArgs st_l_name, defBody st_l_name, defScope st_l_name, [], []⟩
def hd_l_line : He.DefD := ⟨("_law_line", none), "_law_line", "_law_line", defArgs st_l_line, defBody st_l_line, defScope st_l_line, [], []⟩
def hd_l_leans : He.DefD := ⟨("_law_leans", none), "_law_leans", "_law_leans", defArgs st_l_leans, defBody st_l_leans, defScope st_l_leans, [], []⟩
def hd_l_marks : He.DefD := ⟨("_law_marks", none), "_law_marks", "_law_marks", defArgs st_l_marks, defBody st_l_marks, defScope st_l_marks, [], []⟩
def hd_l_deeds : He.DefD := ⟨("_law_deeds", none), "_law_deeds", "_law_deeds", defArgs st_l_deeds, defBody st_l_deeds, defScope st_l_deeds, [], []⟩
def hd_l_changes : He.DefD := ⟨("_law_changes", none), "_law_changes", "_law_changes", defArgs st_l_changes, defBody st_l_changes, defScope st_l_changes, [], []⟩
def hd_l_numbered : He.DefD := ⟨("_law_numbered", none), "_law_numbered", "_law_numbered", defArgs st_l_numbered, defBody st_l_numbered, defScope st_l_numbered, [], []⟩
def hd_l_one : He.DefD := ⟨("_law_one", none), "_law_one", "_law_one", defArgs st_l_one, defBody st_l_one, defScope st_l_one, [], []⟩
def hd_l_mark_row : He.DefD := ⟨("_law_mark_row", none), "_law_mark_row", "_law_mark_row", defArgs st_l_mark_row, defBody st_l_mark_row, defScope st_l_mark_row, [], []⟩
def hd_l_deed_row : He.DefD := ⟨("_law_deed_row", none), "_law_deed_row", "_law_deed_row", defArgs st_l_deed_row, defBody st_l_deed_row, defScope st_l_deed_row, [], []⟩
def hd_l_written : He.DefD := ⟨("_law_written", none), "_law_written", "_law_written", defArgs st_l_written, defBody st_l_written, defScope st_l_written, [], []⟩
def hd_l_deed_like : He.DefD := ⟨("_law_deed_like", none), "_law_deed_like", "_law_deed_like", defArgs st_l_deed_like, defBody st_l_deed_like, defScope st_l_deed_like, [], []⟩
def hd_l_change_like : He.DefD := ⟨("_law_change_like", none), "_law_change_like", "_law_change_like", defArgs st_l_change_like, defBody st_l_change_like, defScope st_l_change_like, [], []⟩
def hd_l_copy : He.DefD := ⟨("_law_copy", none), "_law_copy", "_law_copy", defArgs st_l_copy, defBody st_l_copy, defScope st_l_copy, [], []⟩
def hd_law : He.DefD := ⟨("law", none), "law", "law", defArgs st_law, defBody st_law, defScope st_law, [], []⟩
def hfn0 : List He.DefD := [hd_is_name, hd_is_line, hd_is_rising, hd_is_deed, hd_check, hd_mark_written, hd_deed_written, hd_written, hd_number_read, hd_mark_read, hd_deed_read, hd_head_read, hd_read, hd_l_cell, hd_l_mixed, hd_l_name, hd_l_line, hd_l_leans, hd_l_marks, hd_l_deeds, hd_l_changes, hd_l_numbered, hd_l_one, hd_l_mark_row, hd_l_deed_row, hd_l_written, hd_l_deed_like, hd_l_change_like, hd_l_copy, hd_law]
def hfn : List He.DefD := hfn0
def hfa0 : List He.Fa := [.glo "is_name", .glo "is_line", .glo "is_rising", .glo "is_deed", .glo "check", .glo "mark_written", .glo "deed_written", .glo "written", .glo "number_read", .glo "mark_read", .glo "deed_read", .glo "head_read", .glo "read", .glo "_law_cell", .glo "_law_mixed", .glo "_law_name", .glo "_law_line", .glo "_law_leans", .glo "_law_marks", .glo "_law_deeds", .glo "_law_changes", .glo "_law_numbered", .glo "_law_one", .glo "_law_mark_row", .glo "_law_deed_row", .glo "_law_written", .glo "_law_deed_like", .glo "_law_change_like", .glo "_law_copy", .glo "law", .free "len", .free "all", .free "any", .free "sorted", .free "range"]
def hfa1 : List He.Fa := [.free "str", .free "int", .free "list", .free "dict", .free "set", .free "min", .free "max", .free "zip", .free "enumerate", .free "repr", .free "isinstance", .free "bool", .free "tuple", .str "SIGNS" "abcdefghijklmnopqrstuvwxyz0123456789", .glo "WORDS", .int "MOST_SIGNS" 12, .int "MOST_LINE" 200, .int "MOST_DEEDS" 20, .str "FIGURES" "0123456789", .int "MOST_FIGURES" 9]
def hfa : List He.Fa := hfa0 ++ hfa1
def txtV : Value → Option Str
  | .str z _ => some z
  | _ => none
def tupB (K : PySem.W.Frag) (x : Str) (xs : List Str) : Bool := match K.lookup (He.ga K x) with
  | some ⟨.type c, _, .seq its _, _⟩ => decide (c = "tuple") && (decide (its.toList.map txtV = xs.map some))
  | _ => false
theorem txt_vals : ∀ {us : List Value} {xs : List Str}, us.map txtV = xs.map some → Vals (xs.map V.str) us
  | [], [], _ => .nil
  | u :: us, x :: xs, h => by
    simp only [List.map_cons, List.cons.injEq] at h
    refine .cons ?_ (txt_vals h.2)
    cases u with
    | str z t =>
      have e : z = x := Option.some.inj h.1
      subst e
      exact ⟨t, rfl⟩
    | _ => cases h.1
  | [], _ :: _, h => by simp at h
  | _ :: _, [], h => by simp at h
theorem tup_ok {K : PySem.W.Frag} {x : Str} {xs : List Str} (h : tupB K x xs = true) (hl : xs.length ≤ 1000) (G : Hp) : SqT K G (He.ga K x) (xs.map V.str) := by
  unfold tupB at h
  cases q : K.lookup (He.ga K x) with
  | none => rw [q] at h; cases h
  | some o =>
    obtain ⟨oc, od, dt, osl⟩ := o
    rw [q] at h
    cases oc with
    | type c =>
      cases dt with
      | seq its n =>
        obtain ⟨h1, h2⟩ := Bool.and_eq_true_iff.mp h
        have e1 : c = "tuple" := of_decide_eq_true h1
        have e2 := of_decide_eq_true h2
        subst e1
        have hz : its.size = xs.length := by
          have := congrArg List.length e2
          simpa using this
        exact .inr ⟨_, its, n, q, rfl, rfl, by rw [sizeLine_eq]; omega, txt_vals e2⟩
      | _ => cases h
    | _ => cases dt <;> cases h
def hex (K : PySem.W.Frag) : Bool := tupB K "WORDS" ["add", "cut", "set"]
abbrev hR : PySem.W.OpenRow := PySem.W.OpenLaw.row PySem.Challenge.rw_patchweave_k02_changes_written
abbrev hk : PySem.W.Hook := He.hookX 4 hfa hfn [] [] hex
def ob (s : PySem.W.SharedT) : He.AlX := He.obsX 4 hfa hfn [] [] hex (HandSHeadRun.getT s)
theorem ob_eq (s : PySem.W.SharedT) : ob s = hk.obs s.abs := He.obsX_eq (HandSHeadRun.getT_eq s)
def hloose0 : List PySem.Str := [("WeaveError" : PySem.Str), ("BadChange" : PySem.Str), ("NotLeaned" : PySem.Str), ("NoNote" : PySem.Str), ("SIGNS" : PySem.Str), ("WORDS" : PySem.Str), ("MOST_SIGNS" : PySem.Str), ("MOST_LINE" : PySem.Str), ("MOST_DEEDS" : PySem.Str), ("is_name" : PySem.Str), ("is_line" : PySem.Str), ("is_rising" : PySem.Str), ("is_deed" : PySem.Str), ("check" : PySem.Str), ("FIGURES" : PySem.Str), ("MOST_FIGURES" : PySem.Str), ("mark_written" : PySem.Str), ("deed_written" : PySem.Str), ("written" : PySem.Str), ("number_read" : PySem.Str)]
def hloose1 : List PySem.Str := [("mark_read" : PySem.Str), ("deed_read" : PySem.Str), ("head_read" : PySem.Str), ("read" : PySem.Str), ("_law_cell" : PySem.Str), ("_law_mixed" : PySem.Str), ("_law_name" : PySem.Str), ("_law_line" : PySem.Str), ("_law_leans" : PySem.Str), ("_law_marks" : PySem.Str), ("_law_deeds" : PySem.Str), ("_law_changes" : PySem.Str), ("_law_numbered" : PySem.Str), ("_law_one" : PySem.Str), ("_law_mark_row" : PySem.Str), ("_law_deed_row" : PySem.Str), ("_law_written" : PySem.Str), ("_law_deed_like" : PySem.Str), ("_law_change_like" : PySem.Str), ("_law_copy" : PySem.Str)]
def hloose : List PySem.Str := hloose0 ++ hloose1
theorem hrun (w : World) : HandSHeadRun.RunEq hR (PySem.W.view hR.prog [44]) hk ob 4000 hloose w := by
  intro os
  kernel_rfl
theorem hpr {K : PySem.W.Frag} {h : Heap} {mg : Str → Option Value} {w : World} (X : K.In h) (G : h.Ns mainGlobals mg) (c : He.SaysX hfa hfn [] [] hex w h K) : Pr K mg := by
  have cd : He.SaysD hfa hfn K := congrArg (fun z : He.AlT => z.1) c.t
  have df : ∀ (i : Nat) (d : He.DefD), hfn[i]? = some d → ∃ fd, FunD K d.name d.qual d.params d.body d.scope (d.dvs K) (d.kws K) (He.fAd K d.at_) fd := fun i d e => cd.def_ i e
  refine {
    bt := {
      len := He.free_ok X G (cd.fact 30 (f := .free "len") rfl)
      all := He.free_ok X G (cd.fact 31 (f := .free "all") rfl)
      any := He.free_ok X G (cd.fact 32 (f := .free "any") rfl)
      sorted := He.free_ok X G (cd.fact 33 (f := .free "sorted") rfl)
      range := He.free_ok X G (cd.fact 34 (f := .free "range") rfl)
      str := He.free_ok X G (cd.fact 35 (f := .free "str") rfl)
      int := He.free_ok X G (cd.fact 36 (f := .free "int") rfl)
      list := He.free_ok X G (cd.fact 37 (f := .free "list") rfl)
      dict := He.free_ok X G (cd.fact 38 (f := .free "dict") rfl)
      set := He.free_ok X G (cd.fact 39 (f := .free "set") rfl)
      min := He.free_ok X G (cd.fact 40 (f := .free "min") rfl)
      max := He.free_ok X G (cd.fact 41 (f := .free "max") rfl)
      zip := He.free_ok X G (cd.fact 42 (f := .free "zip") rfl)
      enumerate := He.free_ok X G (cd.fact 43 (f := .free "enumerate") rfl)
      repr := He.free_ok X G (cd.fact 44 (f := .free "repr") rfl)
      isinstance := He.free_ok X G (cd.fact 45 (f := .free "isinstance") rfl)
      bool := He.free_ok X G (cd.fact 46 (f := .free "bool") rfl)
      tuple := He.free_ok X G (cd.fact 47 (f := .free "tuple") rfl)
    }
    f_is_name := ⟨by obtain ⟨fd, F⟩ := df 0 hd_is_name rfl; exact ⟨_, fd, He.glo_ok X G (cd.fact 0 (f := .glo "is_name") rfl), F⟩⟩
    f_is_line := ⟨by obtain ⟨fd, F⟩ := df 1 hd_is_line rfl; exact ⟨_, fd, He.glo_ok X G (cd.fact 1 (f := .glo "is_line") rfl), F⟩⟩
    f_is_rising := ⟨by obtain ⟨fd, F⟩ := df 2 hd_is_rising rfl; exact ⟨_, fd, He.glo_ok X G (cd.fact 2 (f := .glo "is_rising") rfl), F⟩⟩
    f_is_deed := ⟨by obtain ⟨fd, F⟩ := df 3 hd_is_deed rfl; exact ⟨_, fd, He.glo_ok X G (cd.fact 3 (f := .glo "is_deed") rfl), F⟩⟩
    f_check := ⟨by obtain ⟨fd, F⟩ := df 4 hd_check rfl; exact ⟨_, fd, He.glo_ok X G (cd.fact 4 (f := .glo "check") rfl), F⟩⟩
    f_mark_written := ⟨by obtain ⟨fd, F⟩ := df 5 hd_mark_written rfl; exact ⟨_, fd, He.glo_ok X G (cd.fact 5 (f := .glo "mark_written") rfl), F⟩⟩
    f_deed_written := ⟨by obtain ⟨fd, F⟩ := df 6 hd_deed_written rfl; exact ⟨_, fd, He.glo_ok X G (cd.fact 6 (f := .glo "deed_written") rfl), F⟩⟩
    f_written := ⟨by obtain ⟨fd, F⟩ := df 7 hd_written rfl; exact ⟨_, fd, He.glo_ok X G (cd.fact 7 (f := .glo "written") rfl), F⟩⟩
    f_number_read := ⟨by obtain ⟨fd, F⟩ := df 8 hd_number_read rfl; exact ⟨_, fd, He.glo_ok X G (cd.fact 8 (f := .glo "number_read") rfl), F⟩⟩
    f_mark_read := ⟨by obtain ⟨fd, F⟩ := df 9 hd_mark_read rfl; exact ⟨_, fd, He.glo_ok X G (cd.fact 9 (f := .glo "mark_read") rfl), F⟩⟩
    f_deed_read := ⟨by obtain ⟨fd, F⟩ := df 10 hd_deed_read rfl; exact ⟨_, fd, He.glo_ok X G (cd.fact 10 (f := .glo "deed_read") rfl), F⟩⟩
    f_head_read := ⟨by obtain ⟨fd, F⟩ := df 11 hd_head_read rfl; exact ⟨_, fd, He.glo_ok X G (cd.fact 11 (f := .glo "head_read") rfl), F⟩⟩
    f_read := ⟨by obtain ⟨fd, F⟩ := df 12 hd_read rfl; exact ⟨_, fd, He.glo_ok X G (cd.fact 12 (f := .glo "read") rfl), F⟩⟩
    f_l_cell := ⟨by obtain ⟨fd, F⟩ := df 13 hd_l_cell rfl; exact ⟨_, fd, He.glo_ok X G (cd.fact 13 (f := .glo "_law_cell") rfl), F⟩⟩
    f_l_mixed := ⟨by obtain ⟨fd, F⟩ := df 14 hd_l_mixed rfl; exact ⟨_, fd, He.glo_ok X G (cd.fact 14 (f := .glo "_law_mixed") rfl), F⟩⟩
    f_l_name := ⟨by obtain ⟨fd, F⟩ := df 15 hd_l_name rfl; exact ⟨_, fd, He.glo_ok X G (cd.fact 15 (f := .glo "_law_name") rfl), F⟩⟩
    f_l_line := ⟨by obtain ⟨fd, F⟩ := df 16 hd_l_line rfl; exact ⟨_, fd, He.glo_ok X G (cd.fact 16 (f := .glo "_law_line") rfl), F⟩⟩
    f_l_leans := ⟨by obtain ⟨fd, F⟩ := df 17 hd_l_leans rfl; exact ⟨_, fd, He.glo_ok X G (cd.fact 17 (f := .glo "_law_leans") rfl), F⟩⟩
    f_l_marks := ⟨by obtain ⟨fd, F⟩ := df 18 hd_l_marks rfl; exact ⟨_, fd, He.glo_ok X G (cd.fact 18 (f := .glo "_law_marks") rfl), F⟩⟩
    f_l_deeds := ⟨by obtain ⟨fd, F⟩ := df 19 hd_l_deeds rfl; exact ⟨_, fd, He.glo_ok X G (cd.fact 19 (f := .glo "_law_deeds") rfl), F⟩⟩
    f_l_changes := ⟨by obtain ⟨fd, F⟩ := df 20 hd_l_changes rfl; exact ⟨_, fd, He.glo_ok X G (cd.fact 20 (f := .glo "_law_changes") rfl), F⟩⟩
    f_l_numbered := ⟨by obtain ⟨fd, F⟩ := df 21 hd_l_numbered rfl; exact ⟨_, fd, He.glo_ok X G (cd.fact 21 (f := .glo "_law_numbered") rfl), F⟩⟩
    f_l_one := ⟨by obtain ⟨fd, F⟩ := df 22 hd_l_one rfl; exact ⟨_, fd, He.glo_ok X G (cd.fact 22 (f := .glo "_law_one") rfl), F⟩⟩
    f_l_mark_row := ⟨by obtain ⟨fd, F⟩ := df 23 hd_l_mark_row rfl; exact ⟨_, fd, He.glo_ok X G (cd.fact 23 (f := .glo "_law_mark_row") rfl), F⟩⟩
    f_l_deed_row := ⟨by obtain ⟨fd, F⟩ := df 24 hd_l_deed_row rfl; exact ⟨_, fd, He.glo_ok X G (cd.fact 24 (f := .glo "_law_deed_row") rfl), F⟩⟩
    f_l_written := ⟨by obtain ⟨fd, F⟩ := df 25 hd_l_written rfl; exact ⟨_, fd, He.glo_ok X G (cd.fact 25 (f := .glo "_law_written") rfl), F⟩⟩
    f_l_deed_like := ⟨by obtain ⟨fd, F⟩ := df 26 hd_l_deed_like rfl; exact ⟨_, fd, He.glo_ok X G (cd.fact 26 (f := .glo "_law_deed_like") rfl), F⟩⟩
    f_l_change_like := ⟨by obtain ⟨fd, F⟩ := df 27 hd_l_change_like rfl; exact ⟨_, fd, He.glo_ok X G (cd.fact 27 (f := .glo "_law_change_like") rfl), F⟩⟩
    f_l_copy := ⟨by obtain ⟨fd, F⟩ := df 28 hd_l_copy rfl; exact ⟨_, fd, He.glo_ok X G (cd.fact 28 (f := .glo "_law_copy") rfl), F⟩⟩
    f_law := ⟨by obtain ⟨fd, F⟩ := df 29 hd_law rfl; exact ⟨_, fd, He.glo_ok X G (cd.fact 29 (f := .glo "law") rfl), F⟩⟩
    k_SIGNS := He.str_ok X G (cd.fact 48 (f := .str "SIGNS" "abcdefghijklmnopqrstuvwxyz0123456789") rfl)
    k_WORDS := ⟨_, He.glo_ok X G (cd.fact 49 (f := .glo "WORDS") rfl), fun G => tup_ok (xs := ["add", "cut", "set"]) c.more (by decide) G⟩
    k_MOST_SIGNS := He.int_ok X G (cd.fact 50 (f := .int "MOST_SIGNS" 12) rfl)
    k_MOST_LINE := He.int_ok X G (cd.fact 51 (f := .int "MOST_LINE" 200) rfl)
    k_MOST_DEEDS := He.int_ok X G (cd.fact 52 (f := .int "MOST_DEEDS" 20) rfl)
    k_FIGURES := He.str_ok X G (cd.fact 53 (f := .str "FIGURES" "0123456789") rfl)
    k_MOST_FIGURES := He.int_ok X G (cd.fact 54 (f := .int "MOST_FIGURES" 9) rfl)
  }
abbrev spLaw (K : PySem.W.Frag) : Sp := spE [] K fun ds d => ∃ ns : List Int, ds = [.scr ns] ∧ d = .bl true
theorem hlaw {P : Program} {w : World} {K : PySem.W.Frag} {h : Heap} {mg : Str → Option Value} {f : Addr} (X : K.In h) (G : h.Ns mainGlobals mg) (hfl : mg ("law" : Str) = some (.ref f)) (c : He.SaysX hfa hfn [] [] hex w h K) :
    ∃ fd : FuncData, (∀ (s : Shared) (v : Value), BindsTo s fd ⟨[v], []⟩ [("_law_script", v)]) ∧ ∀ base : Heap, K.In base → base.Ns mainGlobals mg → FnOk P w K mg base CX0 6 f fd ["_law_script"] (spLaw K) := by
  have R := hpr X G c
  obtain ⟨f', fd, hm, F⟩ := R.f_law.ex
  have e := hfl.symm.trans hm
  cases e
  have b := FunD.bindsA (ps := ["_law_script"]) F fun _ _ _ _ _ _ us hl => match us, hl with | [_], _ => rfl
  refine ⟨fd, fun s v => b s [v] rfl, fun base _ _ => ?_⟩
  obtain ⟨f2, fd2, hm2, hk2, hb2, F2⟩ := (c_law (T := []) (P := P) (w := w) (base := base) R).ex
  have e2 := hm.symm.trans hm2
  cases e2
  obtain ⟨_, oc, od, osl, lk⟩ := (DD.FunD.keepF F)
  obtain ⟨_, oc2, od2, osl2, lk2⟩ := hk2
  rw [lk] at lk2
  cases lk2
  exact F2
theorem slaw {K : PySem.W.Frag} {H : Hp} {a : Addr} {ns : List Int} (hO : Only H) (hS : SqL K H a (ns.map V.int)) : spLaw K [.ref a] H (fun v _ => v = .bl true) fun _ _ _ => False := by
  refine ⟨fun b => match H b with
    | some (.tbl _) => none
    | o => o, [.scr ns], .bl true, fun b o e => ?_, fun b ps e => ?_, .cons (.scr ns ?_) .nil, ⟨ns, rfl, rfl⟩, fun q hq => absurd hq (by simp), fun v H' _ _ da => by cases da; rfl⟩
  · dsimp only at e
    cases q : H b with
    | none => rw [q] at e; cases e
    | some u =>
      rw [q] at e
      cases u <;> first | exact e | cases e
  · dsimp only at e
    cases q : H b with
    | none => rw [q] at e; cases e
    | some u =>
      rw [q] at e
      cases u <;> cases e
  · rcases hS with (h | ⟨o, h⟩) | h
    · exact .inl (.inl (by dsimp only; rw [h]))
    · exact .inl (.inr ⟨o, by dsimp only; rw [h]⟩)
    · exact .inr h
end KK
open PySem PySem.W PySem.Calls PyProof.Rows
theorem PySem.Challenge.cw_patchweave_k02_changes_written_holds : PySem.Challenge.rw_patchweave_k02_changes_written.Holds := by
  w_on; o_law
  refine HandSHeadRun.head_any (r := OpenLaw.row PySem.Challenge.rw_patchweave_k02_changes_written) (q := view (OpenLaw.row PySem.Challenge.rw_patchweave_k02_changes_written).prog [44]) (H := KK.hk) (ob := KK.ob) (M := 4000) (loose := KK.hloose) (d := HandSHeadRun.topDef (OpenLaw.row PySem.Challenge.rw_patchweave_k02_changes_written).prog 44) (kwd := []) KK.ob_eq
    (by kernel_rfl) (fun s => by kernel_rfl) KK.hrun (by kernel_rfl) (by kernel_rfl) (by kernel_rfl) (by rfl) (by first | assumption | decide +kernel) (by decide +kernel) ⟨rfl, rfl, rfl, rfl, rfl, by decide +kernel⟩ ?hw ?hc
  case hw => w_witness2
  case hc =>
    refine L2.walk_ofE (l := PySem.Challenge.rw_patchweave_k02_changes_written) (n := 63) (k := 6) (x := "_law_script") (CX := L2.CX0) rfl (by decide) (by kernel_rfl) ⟨rfl, by decide, by decide⟩ ?F (fun _ _ _ _ z => z)
    intro w mg fa h Y G hmg0
    obtain ⟨K, KX, c⟩ := Y
    have hmg : mg ("law" : PySem.Str) = some (.ref fa) := by
      have e : (HandSHeadRun.topDef (OpenLaw.row PySem.Challenge.rw_patchweave_k02_changes_written).prog 44).name = ("law" : PySem.Str) := by kernel_rfl
      rw [← e]
      exact hmg0
    obtain ⟨fd, hb, hF⟩ := KK.hlaw (P := (PySem.Challenge.rw_patchweave_k02_changes_written).prog) (w := w) KX G hmg c
    exact ⟨K, fd, KK.spLaw K, KX, hb, fun H a ns hl hO hS => KK.slaw hO hS, hF⟩
