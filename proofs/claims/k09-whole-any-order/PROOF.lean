import PyProof.Rows.All
import Wide.All
import OpenK.AllK
import Wide.FinOn
import HandS.ForMost
import HandS.ForExc
import HandS.HeadHook4
import HandS.HeadEnd
import HandS.HeadWalk
import HandS.Head2
import HandS.SortKw
import HandS.Wide
import HandS.Deep
import HandS.DictTup
import HandS.IsInst
import HandS.ExcIs
import HandS.TryMany
import HandS.Style
import HandS.TupAny
import HandS.More
import KE.DataMinMax
import KE.SortKeyHeap
import HandS.Lambda
import KE.KDictPairs
import HandS.ExcCtx
import PyProof.ReprRoads
import PyProof.ReprBulk
import PyProof.ReprLen
import KE.DataFind
import PyProof.StrOps2
import HandS.HotCalls
import HandS.ExcInitHot
import PySem.Challenge.RW_patchweave_k09_whole_any_order
set_option Elab.async false
set_option linter.all false
set_option autoImplicit false
set_option maxRecDepth 100000
set_option maxHeartbeats 4000000
/-! Values by data; regions of the abstract heap; an environment of data for the slots. -/
namespace DD
open PySem PySem.Spec L2

inductive D where
  | non | bl (b : Bool) | int (i : Int) | str (x : Str) | lst (xs : List D) | tup (xs : List D) | ktp (xs : List Str) | scr (ns : List Int)
  | dic (ks : List Key) (vs : List D) | dit (ks : List (List Key)) (vs : List D) | obj (d : D) | adr (a : Addr)
  | exn (c : Str) | fr (S : Addr → Prop) (d : D)

/-- a text that may be compared and measured -/
def SOk (x : Str) : Prop := PyData.strOk x = true ∧ x.length ≤ 8388608
mutual
/-- v stands for the data d, as far as G tells -/
inductive Da (K : PySem.W.Frag) (G : Hp) : V → D → Prop
  | non : Da K G .non .non
  | bl (b : Bool) : Da K G (.bl b) (.bl b)
  | int (i : Int) : Da K G (.int i) (.int i)
  | str (x : Str) (h : SOk x) : Da K G (.str x) (.str x)
  | scr {a : Addr} (ns : List Int) : SqL K G a (ns.map V.int) → Da K G (.ref a) (.scr ns)
  | lst {a : Addr} {xs : List V} {ds : List D} : G a = some (.lst xs) → DaAll K G xs ds → Da K G (.ref a) (.lst ds)
  | tup {a : Addr} {xs : List V} {ds : List D} : G a = some (.tup xs) → DaAll K G xs ds → Da K G (.ref a) (.tup ds)
  | ktp {a : Addr} (xs : List Str) : SqT K G a (xs.map V.str) → Da K G (.ref a) (.ktp xs)
  | dic {a : Addr} {kvs : List (Key × V)} {ks : List Key} {ds : List D} : G a = some (.dK kvs) → kvs.map (fun p => p.1) = ks → DaAll K G (kvs.map (fun p => p.2)) ds → Da K G (.ref a) (.dic ks ds)
  | dit {a : Addr} {kvs : List (List Key × V)} {ks : List (List Key)} {ds : List D} : G a = some (.dT kvs) → kvs.map (fun p => p.1) = ks → DaAll K G (kvs.map (fun p => p.2)) ds → Da K G (.ref a) (.dit ks ds)
  | obj {a p dx : Addr} {d : D} : G a = some (.ins (He.ga K "Weave") dx [("known", .ref p)]) → Da K G (.ref p) d → Da K G (.ref a) (.obj d)
  | adr (a : Addr) : Da K G (.ref a) (.adr a)
  | exn {a : Addr} (c : Str) {oe : Obj} {u : HO} : G a = some (.frz oe u) → oe.cls = .ref (He.ga K c) → oe.dict = none → (∃ vs, oe.data = .fields vs) → Da K G (.ref a) (.exn c)
  | fr {a : Addr} {d : D} (S : Addr → Prop) : S a → Da K G (.ref a) d → Da K G (.ref a) (.fr S d)
inductive DaAll (K : PySem.W.Frag) (G : Hp) : List V → List D → Prop
  | nil : DaAll K G [] []
  | cons {v : V} {vs : List V} {d : D} {ds : List D} : Da K G v d → DaAll K G vs ds → DaAll K G (v :: vs) (d :: ds)
end

theorem SqL.mono {K : PySem.W.Frag} {G G' : Hp} (s : Same G G') {a : Addr} {xs : List V} (h : SqL K G a xs) : SqL K G' a xs := s.seq h
theorem SqT.mono {K : PySem.W.Frag} {G G' : Hp} (s : Same G G') {a : Addr} {xs : List V} (h : SqT K G a xs) : SqT K G' a xs := by
  rcases h with (h | ⟨o, h⟩) | h
  · exact .inl (.inl (s _ _ h))
  · exact .inl (.inr ⟨o, s _ _ h⟩)
  · exact .inr h
theorem Rd.mono {G G' : Hp} (s : Same G G') {a : Addr} {u : HO} (h : Rd G a u) : Rd G' a u := by
  rcases h with h | ⟨o, h⟩
  · exact .inl (s _ _ h)
  · exact .inr ⟨o, s _ _ h⟩

section
variable {K : PySem.W.Frag} {G G' : Hp}
mutual
theorem Da.mono (s : Same G G') : ∀ (d : D) (v : V), Da K G v d → Da K G' v d
  | .non, _, h => by cases h; exact .non
  | .bl b, _, h => by cases h; exact .bl b
  | .int b, _, h => by cases h; exact .int b
  | .str b, _, h => by
    cases h with
    | str _ q => exact .str b q
  | .lst ds, _, h => by
    cases h with
    | lst hs ha => exact .lst (s _ _ hs) (DaAll.mono s ds _ ha)
  | .scr ns, _, h => by
    cases h with
    | scr _ hs => exact .scr ns (SqL.mono s hs)
  | .tup ds, _, h => by
    cases h with
    | tup hs ha => exact .tup (s _ _ hs) (DaAll.mono s ds _ ha)
  | .ktp xs, _, h => by
    cases h with
    | ktp _ hs => exact .ktp xs (SqT.mono s hs)
  | .dic ks ds, _, h => by
    cases h with
    | dic hs e ha => exact .dic (s _ _ hs) e (DaAll.mono s ds _ ha)
  | .dit ks ds, _, h => by
    cases h with
    | dit hs e ha => exact .dit (s _ _ hs) e (DaAll.mono s ds _ ha)
  | .obj d, _, h => by
    cases h with
    | obj hs ha => exact .obj (s _ _ hs) (Da.mono s d _ ha)
  | .adr a, _, h => by cases h; exact .adr a
  | .exn c, _, h => by
    cases h with
    | exn _ h1 h2 h3 h4 => exact .exn c (s _ _ h1) h2 h3 h4
  | .fr S d, _, h => by
    cases h with
    | fr _ h1 h2 => exact .fr S h1 (Da.mono s d _ h2)
theorem DaAll.mono (s : Same G G') : ∀ (ds : List D) (vs : List V), DaAll K G vs ds → DaAll K G' vs ds
  | [], _, h => by cases h; exact .nil
  | d :: ds, _, h => by
    cases h with
    | cons h1 h2 => exact .cons (Da.mono s d _ h1) (DaAll.mono s ds _ h2)
end
theorem Da.to {v : V} {d : D} (h : Da K G v d) (s : Same G G') : Da K G' v d := Da.mono s d v h
theorem DaAll.to {vs : List V} {ds : List D} (h : DaAll K G vs ds) (s : Same G G') : DaAll K G' vs ds := DaAll.mono s ds vs h
theorem DaAll.length : ∀ {ds : List D} {vs : List V}, DaAll K G vs ds → vs.length = ds.length
  | [], _, h => by cases h; rfl
  | d :: ds, _, h => by
    cases h with
    | cons h1 h2 => exact congrArg Nat.succ (DaAll.length h2)
theorem DaAll.get : ∀ {ds : List D} {vs : List V} {i : Nat} {d : D}, DaAll K G vs ds → ds[i]? = some d → ∃ v, vs[i]? = some v ∧ Da K G v d
  | [], _, _, _, h, e => by simp at e
  | d0 :: ds, _, 0, d, h, e => by
    cases h with
    | cons h1 h2 => simp at e; subst e; exact ⟨_, rfl, h1⟩
  | d0 :: ds, _, i + 1, d, h, e => by
    cases h with
    | cons h1 h2 =>
      obtain ⟨v, q1, q2⟩ := DaAll.get (i := i) h2 (by simpa using e)
      exact ⟨v, by simpa using q1, q2⟩
theorem DaAll.get' : ∀ {ds : List D} {vs : List V} {i : Nat} {v : V}, DaAll K G vs ds → vs[i]? = some v → ∃ d, ds[i]? = some d ∧ Da K G v d := by
  intro ds vs i v h e
  have hl := h.length
  have hi : i < vs.length := (List.getElem?_eq_some_iff.mp e).1
  obtain ⟨v', e', q⟩ := h.get (i := i) (d := ds[i]) (by simp)
  rw [e] at e'; cases e'
  exact ⟨_, by simp, q⟩
theorem DaAll.append : ∀ {ds es : List D} {vs ws : List V}, DaAll K G vs ds → DaAll K G ws es → DaAll K G (vs ++ ws) (ds ++ es)
  | [], _, _, _, h, h' => by cases h; exact h'
  | d :: ds, _, _, _, h, h' => by
    cases h with
    | cons h1 h2 => exact .cons h1 (DaAll.append h2 h')
theorem DaAll.one {v : V} {d : D} (h : Da K G v d) : DaAll K G [v] [d] := .cons h .nil
theorem DaAll.take : ∀ {ds : List D} {vs : List V} (n : Nat), DaAll K G vs ds → DaAll K G (vs.take n) (ds.take n)
  | _, _, 0, _ => by simp; exact .nil
  | [], _, n + 1, h => by cases h; exact .nil
  | d :: ds, _, n + 1, h => by
    cases h with
    | cons h1 h2 => exact .cons h1 (DaAll.take n h2)
theorem DaAll.drop : ∀ {ds : List D} {vs : List V} (n : Nat), DaAll K G vs ds → DaAll K G (vs.drop n) (ds.drop n)
  | _, _, 0, h => h
  | [], _, n + 1, h => by cases h; exact .nil
  | d :: ds, _, n + 1, h => by
    cases h with
    | cons h1 h2 => exact DaAll.drop n h2
theorem DaAll.set : ∀ {ds : List D} {vs : List V} {v : V} {d : D} (i : Nat), DaAll K G vs ds → Da K G v d → DaAll K G (vs.set i v) (ds.set i d)
  | [], _, _, _, i, h, q => by cases h; exact .nil
  | d :: ds, _, _, _, 0, h, q => by
    cases h with
    | cons h1 h2 => exact .cons q h2
  | d :: ds, _, _, _, i + 1, h, q => by
    cases h with
    | cons h1 h2 => exact .cons h1 (DaAll.set i h2 q)
theorem DaAll.eraseIdx : ∀ {ds : List D} {vs : List V} (i : Nat), DaAll K G vs ds → DaAll K G (vs.eraseIdx i) (ds.eraseIdx i)
  | [], _, i, h => by cases h; exact .nil
  | d :: ds, _, 0, h => by
    cases h with
    | cons h1 h2 => exact h2
  | d :: ds, _, i + 1, h => by
    cases h with
    | cons h1 h2 => exact .cons h1 (DaAll.eraseIdx i h2)
theorem DaAll.reverse {ds : List D} {vs : List V} (h : DaAll K G vs ds) : DaAll K G vs.reverse ds.reverse := by
  induction ds generalizing vs with
  | nil => cases h; exact .nil
  | cons d ds ih =>
    cases h with
    | cons h1 h2 => simp only [List.reverse_cons]; exact (ih h2).append (.one h1)
theorem DaAll.strs : ∀ {xs : List Str} {vs : List V}, DaAll K G vs (xs.map D.str) → vs = xs.map V.str
  | [], _, h => by cases h; rfl
  | x :: xs, _, h => by
    cases h with
    | cons h1 h2 => cases h1; rw [DaAll.strs h2]; rfl
theorem DaAll.ints : ∀ {xs : List Int} {vs : List V}, DaAll K G vs (xs.map D.int) → vs = xs.map V.int
  | [], _, h => by cases h; rfl
  | x :: xs, _, h => by
    cases h with
    | cons h1 h2 => cases h1; rw [DaAll.ints h2]; rfl
theorem DaAll.bls : ∀ {xs : List Bool} {vs : List V}, DaAll K G vs (xs.map D.bl) → vs = xs.map V.bl
  | [], _, h => by cases h; rfl
  | x :: xs, _, h => by
    cases h with
    | cons h1 h2 => cases h1; rw [DaAll.bls h2]; rfl
theorem DaAll.of_strs : ∀ (xs : List Str), (∀ x ∈ xs, SOk x) → DaAll K G (xs.map V.str) (xs.map D.str)
  | [], _ => .nil
  | x :: xs, h => .cons (.str x (h x (List.mem_cons_self ..))) (DaAll.of_strs xs fun y hy => h y (List.mem_cons_of_mem _ hy))
theorem DaAll.sok : ∀ {xs : List Str} {vs : List V}, DaAll K G vs (xs.map D.str) → ∀ x ∈ xs, SOk x
  | [], _, _ => by simp
  | x :: xs, _, h => by
    cases h with
    | cons h1 h2 =>
      cases h1 with
      | str _ q =>
        intro y hy
        rcases List.mem_cons.mp hy with rfl | hy
        · exact q
        · exact DaAll.sok h2 y hy
theorem DaAll.of_ints : ∀ (xs : List Int), DaAll K G (xs.map V.int) (xs.map D.int)
  | [] => .nil
  | x :: xs => .cons (.int x) (DaAll.of_ints xs)

/-! ### data without anything that may be written -/
mutual
def imm : D → Bool
  | .non => true
  | .bl _ => true
  | .int _ => true
  | .str _ => true
  | .tup xs => immAll xs
  | .adr _ => true
  | _ => false
def immAll : List D → Bool
  | [] => true
  | d :: ds => imm d && immAll ds
end
def TupSame (K : PySem.W.Frag) (G G' : Hp) : Prop := ∀ a xs, G a = some (.tup xs) → G' a = some (.tup xs)
mutual
theorem Da.imm (s : TupSame K G G') : ∀ (d : D) (v : V), imm d = true → Da K G v d → Da K G' v d
  | .non, _, _, h => by cases h; exact .non
  | .bl b, _, _, h => by cases h; exact .bl b
  | .int b, _, _, h => by cases h; exact .int b
  | .str b, _, _, h => by
    cases h with
    | str _ q => exact .str b q
  | .lst ds, _, q, h => by simp [DD.imm] at q
  | .scr ds, _, q, h => by simp [DD.imm] at q
  | .tup ds, _, q, h => by
    cases h with
    | tup hs ha => exact .tup (s _ _ hs) (DaAll.imm s ds _ (by simpa [DD.imm] using q) ha)
  | .ktp ds, _, q, h => by simp [DD.imm] at q
  | .dic ks ds, _, q, h => by simp [DD.imm] at q
  | .dit ks ds, _, q, h => by simp [DD.imm] at q
  | .obj d, _, q, h => by simp [DD.imm] at q
  | .adr a, _, _, h => by cases h; exact .adr a
  | .exn c, _, q, h => by simp [DD.imm] at q
  | .fr S d, _, q, h => by simp [DD.imm] at q
theorem DaAll.imm (s : TupSame K G G') : ∀ (ds : List D) (vs : List V), immAll ds = true → DaAll K G vs ds → DaAll K G' vs ds
  | [], _, _, h => by cases h; exact .nil
  | d :: ds, _, q, h => by
    have q' : DD.imm d = true ∧ immAll ds = true := by simpa [immAll] using q
    cases h with
    | cons h1 h2 => exact .cons (Da.imm s d _ q'.1 h1) (DaAll.imm s ds _ q'.2 h2)
end
theorem immAll_map {α : Type} {f : α → D} (h : ∀ a, DD.imm (f a) = true) : ∀ xs : List α, immAll (xs.map f) = true
  | [] => rfl
  | x :: xs => by simp [immAll, h x, immAll_map h xs]
end

/-! ### regions -/
/-- without the tables of codes -/
def nt (H : Hp) : Hp := fun a => match H a with
  | some (.tbl _) => none
  | o => o
theorem nt_none {H : Hp} {a : Addr} (h : H a = none) : nt H a = none := by unfold nt; rw [h]
theorem nt_of {H : Hp} {a : Addr} {o : HO} (h : H a = some o) (n : ∀ ps, o ≠ .tbl ps) : nt H a = some o := by
  unfold nt
  rw [h]
  cases o <;> first | rfl | exact absurd rfl (n _)
theorem nt_some {H : Hp} {a : Addr} {o : HO} (h : nt H a = some o) : H a = some o ∧ ∀ ps, o ≠ .tbl ps := by
  unfold nt at h
  cases q : H a with
  | none => rw [q] at h; cases h
  | some u =>
    rw [q] at h
    cases u <;> first | (cases h; exact ⟨rfl, fun ps z => by cases z⟩) | cases h
theorem nt_upd {H : Hp} {p a : Addr} {o : HO} (h : a ≠ p) : nt (L2.upd H p o) a = nt H a := by
  unfold nt
  rw [upd_ne h]
/-- all that is tracked stays but the tables -/
def Ext (H H' : Hp) : Prop := (∀ b o, H b = some o → (∀ ps, o ≠ .tbl ps) → H' b = some o) ∧ True
theorem Ext.refl (H : Hp) : Ext H H := ⟨fun _ _ h _ => h, trivial⟩
theorem Ext.trans {H H1 H2 : Hp} (a : Ext H H1) (b : Ext H1 H2) : Ext H H2 :=
  ⟨fun c o h n => b.1 c o (a.1 c o h n) n, trivial⟩
theorem Ext.of {H H' : Hp} (s : Same H H') : Ext H H' := ⟨fun b o h _ => s b o h, trivial⟩
theorem Ext.free' {H H' : Hp} (e : Ext H H') {l : Addr} (h : nt H' l = none) : nt H l = none := by
  cases q : nt H l with
  | none => rfl
  | some o =>
    obtain ⟨h1, h2⟩ := nt_some q
    have := nt_of (e.1 l o h1 h2) h2
    rw [h] at this
    cases this
theorem Ext.free {H H' : Hp} (e : Ext H H') {l : Addr} (h : H' l = none) : nt H l = none := e.free' (nt_none h)
theorem same_upd {H : Hp} {p : Addr} {o : HO} (h : H p = none) : Same H (upd H p o) := fun b u e => by
  rw [upd_ne (ne_of_none e h)]; exact e
theorem Ext.upd {H : Hp} {p : Addr} {o : HO} (h : H p = none) : Ext H (L2.upd H p o) := .of (same_upd h)

/-- all but what is at p -/
def mns (H : Hp) (p : Addr) : Hp := fun b => if b = p then none else H b
theorem mns_ne {H : Hp} {p b : Addr} (h : b ≠ p) : mns H p b = H b := if_neg h
theorem mns_self (H : Hp) (p : Addr) : mns H p p = none := if_pos rfl
theorem nt_mns {H : Hp} {p b : Addr} (h : b ≠ p) : nt (mns H p) b = nt H b := by unfold nt; rw [mns_ne h]
theorem nt_mns_self (H : Hp) (p : Addr) : nt (mns H p) p = none := nt_none (mns_self H p)
/-- of what is there: what G0 tells of the old, all that is new, all tuples; no table -/
def gr (G0 H0 H : Hp) : Hp := fun a => match nt H0 a with
  | none => nt H a
  | some (.tup xs) => some (.tup xs)
  | some _ => G0 a

inductive Sl where
  | sh (d : D)
  | ow (p : Addr) (d : D)
abbrev Ev := List (Option Sl)
def owns : Ev → List Addr
  | [] => []
  | some (.ow p _) :: r => p :: owns r
  | _ :: r => owns r
structure Zn where
  G0 : Hp
  H0 : Hp
  B : Hp
  ex : List Addr
/-- m: what is stable; else: what may be read -/
def rg (m : Bool) (Z : Zn) (H : Hp) (Γ : Ev) : Hp := fun a => if m = true ∧ a ∈ Z.ex ++ owns Γ then none else gr Z.G0 Z.H0 H a

def OwOk (K : PySem.W.Frag) (G H : Hp) (p : Addr) : D → Prop
  | .lst ds => ∃ vs, H p = some (.lst vs) ∧ DaAll K G vs ds
  | .dic ks ds => ∃ kvs, H p = some (.dK kvs) ∧ kvs.map (fun q => q.1) = ks ∧ DaAll K G (kvs.map (fun q => q.2)) ds
  | .dit ks ds => ∃ kvs, H p = some (.dT kvs) ∧ kvs.map (fun q => q.1) = ks ∧ DaAll K G (kvs.map (fun q => q.2)) ds
  | .obj (.dic ks ds) => ∃ kvs, H p = some (.dK kvs) ∧ kvs.map (fun q => q.1) = ks ∧ DaAll K G (kvs.map (fun q => q.2)) ds
  | _ => False
/-- what the name tells: the thing itself; of an object: that what it knows is at p -/
def VOk (K : PySem.W.Frag) (G : Hp) (v : V) (p : Addr) : D → Prop
  | .obj _ => ∃ a dx, v = .ref a ∧ G a = some (.ins (He.ga K "Weave") dx [("known", .ref p)])
  | _ => v = .ref p
theorem VOk.mono {K : PySem.W.Frag} {G G' : Hp} (s : Same G G') {v : V} {p : Addr} {d : D} (h : VOk K G v p d) : VOk K G' v p d := by
  cases d with
  | obj d => obtain ⟨a, dx, e1, e2⟩ := h; exact ⟨a, dx, e1, s _ _ e2⟩
  | _ => exact h
theorem OwOk.to {K : PySem.W.Frag} {G G' H H' : Hp} {p : Addr} {d : D} (h : OwOk K G H p d) (s : Same G G') (e : ∀ o, H p = some o → (∀ ps, o ≠ .tbl ps) → H' p = some o) : OwOk K G' H' p d := by
  cases d with
  | lst ds => obtain ⟨vs, e1, e2⟩ := h; exact ⟨vs, e _ e1 (fun ps z => by cases z), e2.to s⟩
  | dic ks ds => obtain ⟨vs, e1, e3, e2⟩ := h; exact ⟨vs, e _ e1 (fun ps z => by cases z), e3, e2.to s⟩
  | dit ks ds => obtain ⟨vs, e1, e3, e2⟩ := h; exact ⟨vs, e _ e1 (fun ps z => by cases z), e3, e2.to s⟩
  | obj d => cases d with
    | dic ks ds => obtain ⟨vs, e1, e3, e2⟩ := h; exact ⟨vs, e _ e1 (fun ps z => by cases z), e3, e2.to s⟩
    | _ => exact False.elim h
  | _ => exact False.elim h
def SlOk (K : PySem.W.Frag) (G H : Hp) (v : V) : Sl → Prop
  | .sh d => Da K G v d
  | .ow p d => VOk K G v p d ∧ OwOk K G H p d
abbrev Tb := List (Addr × Str)
def NoTbl (G : Hp) : Prop := ∀ a ps, G a ≠ some (.tbl ps)
structure GOk (T : Tb) (K : PySem.W.Frag) (Z : Zn) (H : Hp) (σ : St) (Γ : Ev) : Prop where
  g0 : Same Z.G0 Z.H0
  gt : NoTbl Z.G0
  ext : Ext Z.H0 H
  tab : LamX.Tabs T H
  nd : (Z.ex ++ owns Γ).Nodup
  old : ∀ p ∈ Z.ex ++ owns Γ, nt Z.H0 p = none
  exl : ∀ p ∈ Z.ex, ∃ xs, H p = some (.lst xs)
  len : σ.length = Γ.length
  slots : ∀ (i : Nat) (s : Sl), Γ[i]? = some (some s) → ∃ v, σ[i]? = some (some v) ∧ SlOk K (rg true Z H Γ) H v s
  base : Same Z.B (rg true Z H Γ)

theorem mem_owns {Γ : Ev} {p : Addr} : p ∈ owns Γ ↔ ∃ (i : Nat) (d : D), Γ[i]? = some (some (.ow p d)) := by
  induction Γ with
  | nil => simp [owns]
  | cons s r ih =>
    have go : p ∈ owns r → ∃ (i : Nat) (d : D), (s :: r)[i]? = some (some (.ow p d)) := fun h => by
      obtain ⟨i, d, e⟩ := ih.mp h
      exact ⟨i + 1, d, by simpa using e⟩
    have back : ∀ (i : Nat) (d : D), (s :: r)[i + 1]? = some (some (.ow p d)) → p ∈ owns r := fun i d e => ih.mpr ⟨i, d, by simpa using e⟩
    cases s with
    | none =>
      simp only [owns]
      refine ⟨go, fun ⟨i, d, e⟩ => ?_⟩
      cases i with
      | zero => simp at e
      | succ i => exact back i d e
    | some s =>
      cases s with
      | sh d0 =>
        simp only [owns]
        refine ⟨go, fun ⟨i, d, e⟩ => ?_⟩
        cases i with
        | zero => simp at e
        | succ i => exact back i d e
      | ow q d0 =>
        simp only [owns, List.mem_cons]
        refine ⟨fun h => ?_, fun ⟨i, d, e⟩ => ?_⟩
        · rcases h with rfl | h
          · exact ⟨0, d0, rfl⟩
          · exact go h
        · cases i with
          | zero => simp at e; exact .inl e.1.symm
          | succ i => exact .inr (back i d e)

section
variable {T : Tb} {K : PySem.W.Frag} {Z : Zn} {H H' : Hp} {σ : St} {Γ : Ev} {m : Bool}
theorem OwOk.there {G : Hp} {p : Addr} {d : D} (h : OwOk K G H p d) : (∃ xs, H p = some (.lst xs)) ∨ (∃ kvs, H p = some (.dK kvs)) ∨ ∃ kvs, H p = some (.dT kvs) := by
  cases d with
  | lst ds => obtain ⟨vs, e, _⟩ := h; exact .inl ⟨_, e⟩
  | dic ks ds => obtain ⟨vs, e, _⟩ := h; exact .inr (.inl ⟨_, e⟩)
  | dit ks ds => obtain ⟨vs, e, _⟩ := h; exact .inr (.inr ⟨_, e⟩)
  | obj d => cases d with
    | dic ks ds => obtain ⟨vs, e, _⟩ := h; exact .inr (.inl ⟨_, e⟩)
    | _ => exact False.elim h
  | _ => exact False.elim h
/-- an owned thing is a list or a dict -/
theorem GOk.own (g : GOk T K Z H σ Γ) {p : Addr} (h : p ∈ Z.ex ++ owns Γ) : (∃ xs, H p = some (.lst xs)) ∨ (∃ kvs, H p = some (.dK kvs)) ∨ ∃ kvs, H p = some (.dT kvs) := by
  rcases List.mem_append.mp h with h | h
  · exact .inl (g.exl p h)
  · obtain ⟨i, d, e⟩ := mem_owns.mp h
    obtain ⟨v, _, _, q⟩ := g.slots i _ e
    exact q.there
theorem GOk.ownSome (g : GOk T K Z H σ Γ) {p : Addr} (h : p ∈ Z.ex ++ owns Γ) : H p ≠ none := by
  rcases g.own h with ⟨_, e⟩ | ⟨_, e⟩ | ⟨_, e⟩ <;> (rw [e]; exact fun z => by cases z)
theorem gr_ext (e : Ext H H') {G0 H0 : Hp} : Same (gr G0 H0 H) (gr G0 H0 H') := fun a o h => by
  unfold gr at h ⊢
  cases q : nt H0 a with
  | none =>
    rw [q] at h
    obtain ⟨h1, h2⟩ := nt_some h
    exact nt_of (e.1 a o h1 h2) h2
  | some u =>
    rw [q] at h
    cases u <;> exact h
theorem rg_ext (e : Ext H H') : Same (rg m Z H Γ) (rg m Z H' Γ) := fun a o h => by
  unfold rg at h ⊢
  split at h
  · cases h
  · rename_i hn
    rw [if_neg hn]
    exact gr_ext e a o h
theorem gr_sub (g0 : Same Z.G0 Z.H0) (gt : NoTbl Z.G0) (e : Ext Z.H0 H) : Same (gr Z.G0 Z.H0 H) H := fun a o h => by
  unfold gr at h
  split at h
  · exact (nt_some h).1
  · rename_i xs q
    cases h
    exact e.1 a _ (nt_some q).1 (fun ps z => by cases z)
  · rename_i u nq q
    have h0 := g0 a o h
    exact e.1 a o h0 (fun ps z => by subst z; exact gt a ps h)
theorem rg_gr : Same (rg m Z H Γ) (gr Z.G0 Z.H0 H) := fun a o h => by
  unfold rg at h
  split at h
  · cases h
  · exact h
theorem rg_false : rg false Z H Γ = gr Z.G0 Z.H0 H := by
  funext a
  unfold rg
  rw [if_neg (by simp)]
theorem GOk.sub (g : GOk T K Z H σ Γ) : Same (rg m Z H Γ) H := fun a o h => gr_sub g.g0 g.gt g.ext a o (rg_gr a o h)
theorem rg_noTbl (g : GOk T K Z H σ Γ) : NoTbl (rg m Z H Γ) := fun a ps h => by
  have h := rg_gr a _ h
  unfold gr at h
  split at h
  · exact (nt_some h).2 ps rfl
  · cases h
  · exact g.gt a ps h
theorem rg_stab : Same (rg true Z H Γ) (rg m Z H Γ) := by
  cases m with
  | true => exact Same.refl _
  | false => rw [rg_false]; exact rg_gr
/-- what is new is in the region -/
theorem rg_new (g : GOk T K Z H σ Γ) {p : Addr} {o : HO} (hp : H p = none) (ntt : ∀ ps, o ≠ .tbl ps) : rg m Z (upd H p o) Γ p = some o := by
  unfold rg
  rw [if_neg (fun z => g.ownSome z.2 hp)]
  unfold gr
  rw [g.ext.free hp]
  exact nt_of upd_same ntt
/-- a tuple is in every region -/
theorem rg_tup (g : GOk T K Z H σ Γ) {p : Addr} {xs : List V} (hp : H p = some (.tup xs)) : rg m Z H Γ p = some (.tup xs) := by
  unfold rg
  rw [if_neg (fun z => by rcases g.own z.2 with ⟨_, e⟩ | ⟨_, e⟩ | ⟨_, e⟩ <;> (rw [hp] at e; cases e))]
  unfold gr
  cases q : nt Z.H0 p with
  | none => exact nt_of hp (fun ps z => by cases z)
  | some u =>
    obtain ⟨h1, h2⟩ := nt_some q
    have z := g.ext.1 p u h1 h2
    rw [hp] at z
    cases z
    rfl
theorem rg_tups (g : GOk T K Z H σ Γ) {m' : Bool} : TupSame K (rg m Z H Γ) (rg m' Z H Γ) := fun a xs h => rg_tup g (g.sub _ _ h)
theorem SlOk.mono {G G' : Hp} (s : Same G G') (e : Ext H H') {v : V} {sl : Sl} (h : SlOk K G H v sl) : SlOk K G' H' v sl := by
  cases sl with
  | sh d => exact Da.to h s
  | ow p d =>
    exact ⟨h.1.mono s, h.2.to s fun o q n => e.1 _ _ q n⟩
theorem GOk.to (g : GOk T K Z H σ Γ) (e : Ext H H') (t : LamX.Tabs T H') : GOk T K Z H' σ Γ :=
  ⟨g.g0, g.gt, g.ext.trans e, t, g.nd, g.old, fun p hp => by obtain ⟨xs, q⟩ := g.exl p hp; exact ⟨xs, e.1 _ _ q (fun ps z => by cases z)⟩, g.len,
    fun i s h => by obtain ⟨v, q1, q2⟩ := g.slots i s h; exact ⟨v, q1, q2.mono (rg_ext e) e⟩, g.base.trans (rg_ext e)⟩
theorem GOk.new (g : GOk T K Z H σ Γ) {p : Addr} {o : HO} (hp : H p = none) : GOk T K Z (upd H p o) σ Γ :=
  g.to (Ext.upd hp) (g.tab.ext (same_upd hp))
end
/-! ### environments -/
section
variable {T : Tb} {K : PySem.W.Frag} {Z : Zn} {H H' : Hp} {σ : St} {Γ Γ' : Ev} {m : Bool}
theorem owns_drop : ∀ (Γ : Ev) (i : Nat) (s : Option Sl), (∀ p d, s ≠ some (.ow p d)) → List.Sublist (owns (Γ.set i s)) (owns Γ)
  | [], _, _, _ => by simp [owns]
  | t :: r, 0, s, h => by
    have e : owns ((t :: r).set 0 s) = owns r := by
      cases s with
      | none => rfl
      | some s =>
        cases s with
        | sh d => rfl
        | ow p d => exact absurd rfl (h p d)
    rw [e]
    cases t with
    | none => exact List.Sublist.refl _
    | some t =>
      cases t with
      | sh d => exact List.Sublist.refl _
      | ow p d => exact List.sublist_cons_self _ _
  | t :: r, i + 1, s, h => by
    have ih := owns_drop r i s h
    show List.Sublist (owns (t :: r.set i s)) (owns (t :: r))
    cases t with
    | none => exact ih
    | some t =>
      cases t with
      | sh d => exact ih
      | ow p d => exact List.Sublist.cons_cons p ih
/-- pointwise forgetting -/
inductive Wk : Ev → Ev → Prop
  | nil : Wk [] []
  | drop {s : Option Sl} {Γ Γ' : Ev} : Wk Γ Γ' → Wk (s :: Γ) (none :: Γ')
  | same {s : Option Sl} {Γ Γ' : Ev} : Wk Γ Γ' → Wk (s :: Γ) (s :: Γ')
theorem Wk.refl : ∀ Γ : Ev, Wk Γ Γ
  | [] => .nil
  | _ :: r => .same (Wk.refl r)
theorem Wk.eq {Γ Γ' : Ev} (h : Γ = Γ') : Wk Γ Γ' := by subst h; exact Wk.refl _
theorem Wk.sh {d d' : D} {Γ Γ' : Ev} (e : d = d') (w : Wk Γ Γ') : Wk (some (.sh d) :: Γ) (some (.sh d') :: Γ') := by subst e; exact .same w
theorem Wk.ow {p : Addr} {d d' : D} {Γ Γ' : Ev} (e : d = d') (w : Wk Γ Γ') : Wk (some (.ow p d) :: Γ) (some (.ow p d') :: Γ') := by subst e; exact .same w
theorem Wk.len : ∀ {Γ Γ' : Ev}, Wk Γ Γ' → Γ.length = Γ'.length
  | _, _, .nil => rfl
  | _, _, .drop w => congrArg Nat.succ w.len
  | _, _, .same w => congrArg Nat.succ w.len
theorem Wk.get : ∀ {Γ Γ' : Ev} {i : Nat} {s : Sl}, Wk Γ Γ' → Γ'[i]? = some (some s) → Γ[i]? = some (some s)
  | _, _, _, _, .nil, e => by simp at e
  | _, _, 0, _, .drop w, e => by simp at e
  | _, _, 0, _, .same w, e => by simpa using e
  | _, _, i + 1, _, .drop w, e => by simpa using w.get (i := i) (by simpa using e)
  | _, _, i + 1, _, .same w, e => by simpa using w.get (i := i) (by simpa using e)
theorem Wk.owns : ∀ {Γ Γ' : Ev}, Wk Γ Γ' → List.Sublist (owns Γ') (owns Γ)
  | _, _, .nil => List.Sublist.refl _
  | _, _, .drop (s := s) w => by
    cases s with
    | none => exact w.owns
    | some s =>
      cases s with
      | sh d => exact w.owns
      | ow p d => exact List.Sublist.cons p w.owns
  | _, _, .same (s := s) w => by
    cases s with
    | none => exact w.owns
    | some s =>
      cases s with
      | sh d => exact w.owns
      | ow p d => exact List.Sublist.cons_cons p w.owns
theorem rg_less {Z : Zn} (h : ∀ p, p ∈ owns Γ' → p ∈ owns Γ) : Same (rg true Z H Γ) (rg true Z H Γ') := fun a o e => by
  unfold rg at e ⊢
  split at e
  · cases e
  · rename_i hn
    rw [if_neg]
    · exact e
    · rintro ⟨_, q⟩
      refine hn ⟨rfl, ?_⟩
      rcases List.mem_append.mp q with q | q
      · exact List.mem_append_left _ q
      · exact List.mem_append_right _ (h a q)
theorem GOk.wk (g : GOk T K Z H σ Γ) (w : Wk Γ Γ') : GOk T K Z H σ Γ' :=
  ⟨g.g0, g.gt, g.ext, g.tab, g.nd.sublist (List.Sublist.append (List.Sublist.refl _) w.owns),
    fun p hp => g.old p ((List.Sublist.append (List.Sublist.refl Z.ex) w.owns).subset hp), g.exl, g.len.trans w.len,
    fun i s e => by obtain ⟨v, q1, q2⟩ := g.slots i s (w.get e); exact ⟨v, q1, q2.mono (rg_less fun p hp => w.owns.subset hp) (Ext.refl H)⟩, g.base.trans (rg_less fun p hp => w.owns.subset hp)⟩
theorem GOk.set (g : GOk T K Z H σ Γ) {i : Nat} {v : V} {d : D} (hi : i < Γ.length) (h : Da K (rg true Z H Γ) v d) : GOk T K Z H (σ.set i (some v)) (Γ.set i (some (.sh d))) := by
  have sub := owns_drop Γ i (some (.sh d)) (fun p d z => by cases z)
  have sm : Same (rg true Z H Γ) (rg true Z H (Γ.set i (some (.sh d)))) := rg_less fun p hp => sub.subset hp
  refine ⟨g.g0, g.gt, g.ext, g.tab, g.nd.sublist (List.Sublist.append (List.Sublist.refl _) sub), fun p hp => g.old p ((List.Sublist.append (List.Sublist.refl Z.ex) sub).subset hp), g.exl,
    by rw [List.length_set, List.length_set]; exact g.len, fun j s e => ?_, g.base.trans sm⟩
  by_cases hj : i = j
  · subst hj
    rw [List.getElem?_set_self hi] at e
    cases e
    exact ⟨v, List.getElem?_set_self (by rw [g.len]; exact hi), h.to sm⟩
  · rw [List.getElem?_set_ne hj] at e
    obtain ⟨u, q1, q2⟩ := g.slots j s e
    exact ⟨u, by rw [List.getElem?_set_ne hj]; exact q1, q2.mono sm (Ext.refl H)⟩
theorem owns_put : ∀ (Γ : Ev) (i : Nat) (p : Addr) (d : D), (owns Γ).Nodup → p ∉ owns Γ → (owns (Γ.set i (some (.ow p d)))).Nodup ∧ ∀ q, q ∈ owns (Γ.set i (some (.ow p d))) → q = p ∨ q ∈ owns Γ
  | [], _, _, _, _, _ => by simp [owns]
  | t :: r, 0, p, d, h1, h2 => by
    have sub : List.Sublist (owns r) (owns (t :: r)) := by
      cases t with
      | none => exact List.Sublist.refl _
      | some t =>
        cases t with
        | sh d => exact List.Sublist.refl _
        | ow p d => exact List.sublist_cons_self _ _
    show (p :: owns r).Nodup ∧ ∀ q, q ∈ p :: owns r → q = p ∨ q ∈ owns (t :: r)
    refine ⟨List.nodup_cons.mpr ⟨fun z => h2 (sub.subset z), h1.sublist sub⟩, fun q hq => ?_⟩
    rcases List.mem_cons.mp hq with e | hq
    · exact .inl e
    · exact .inr (sub.subset hq)
  | t :: r, i + 1, p, d, h1, h2 => by
    cases t with
    | none => exact owns_put r i p d h1 h2
    | some t =>
      cases t with
      | sh d' => exact owns_put r i p d h1 h2
      | ow p' d' =>
        have h1' : (p' :: owns r).Nodup := h1
        have h2' : p ∉ p' :: owns r := h2
        obtain ⟨a1, a2⟩ := List.nodup_cons.mp h1'
        obtain ⟨b1, b2⟩ : p ≠ p' ∧ p ∉ owns r := by simpa using h2'
        obtain ⟨c1, c2⟩ := owns_put r i p d a2 b2
        show (p' :: owns (r.set i (some (.ow p d)))).Nodup ∧ ∀ q, q ∈ p' :: owns (r.set i (some (.ow p d))) → q = p ∨ q ∈ p' :: owns r
        refine ⟨List.nodup_cons.mpr ⟨fun z => ?_, c1⟩, fun q hq => ?_⟩
        · rcases c2 p' z with e | e
          · exact b1 e.symm
          · exact a1 e
        · rcases List.mem_cons.mp hq with e | hq
          · exact .inr (by rw [e]; exact List.mem_cons_self ..)
          · rcases c2 q hq with e | e
            · exact .inl e
            · exact .inr (List.mem_cons_of_mem _ e)
/-- what a new owned thing may be -/
theorem tabs_upd {T : Tb} {H : Hp} {p : Addr} {o : HO} (t : LamX.Tabs T H) (h : (∃ xs, H p = some (.lst xs)) ∨ (∃ kvs, H p = some (.dK kvs)) ∨ (∃ kvs, H p = some (.dT kvs)) ∨ H p = none) : LamX.Tabs T (upd H p o) := fun q hq => by
  obtain ⟨ps, h1, h2, h3⟩ := t q hq
  have ne : ∀ {b : Addr} {u : HO}, H b = some u → (∀ xs, u ≠ .lst xs) → (∀ xs, u ≠ .dK xs) → (∀ xs, u ≠ .dT xs) → b ≠ p := fun {b u} e n1 n2 n3 z => by
    subst z
    rcases h with ⟨x, q⟩ | ⟨x, q⟩ | ⟨x, q⟩ | q <;> rw [e] at q
    · exact n1 x (Option.some.inj q)
    · exact n2 x (Option.some.inj q)
    · exact n3 x (Option.some.inj q)
    · cases q
  refine ⟨ps, by rw [upd_ne (ne h1 (fun _ z => by cases z) (fun _ z => by cases z) (fun _ z => by cases z))]; exact h1, h2, fun pos cv hc => ?_⟩
  obtain ⟨c, e1, e2⟩ := h3 pos cv hc
  exact ⟨c, e1, by rw [upd_ne (ne e2 (fun _ z => by unfold LamX.CodeO at z; cases z) (fun _ z => by unfold LamX.CodeO at z; cases z) (fun _ z => by unfold LamX.CodeO at z; cases z))]; exact e2⟩
theorem ext_upd_new {H0 H : Hp} {p : Addr} {o : HO} (e : Ext H0 H) (h : nt H0 p = none) : Ext H0 (upd H p o) :=
  ⟨fun b u q n => by
    rw [upd_ne (fun z => by subst z; rw [nt_of q n] at h; cases h)]
    exact e.1 b u q n, trivial⟩
theorem rg_none (g : GOk T K Z H σ Γ) {p : Addr} (hp : H p = none) : gr Z.G0 Z.H0 H p = none := by
  unfold gr
  rw [g.ext.free hp]
  exact nt_none hp
theorem GOk.newOwV (g : GOk T K Z H σ Γ) {i : Nat} {p : Addr} {o : HO} {d : D} (hi : i < Γ.length) (hp : H p = none) (h : OwOk K (rg true Z H Γ) (upd H p o) p d) {v : V} (hv : ∀ G, Same (rg true Z H Γ) G → VOk K G v p d := by intro _ _; rfl) :
    GOk T K Z (upd H p o) (σ.set i (some v)) (Γ.set i (some (.ow p d))) := by
  have np : p ∉ Z.ex ++ owns Γ := fun z => g.ownSome z hp
  have np1 : p ∉ Z.ex := fun z => np (List.mem_append_left _ z)
  have np2 : p ∉ owns Γ := fun z => np (List.mem_append_right _ z)
  obtain ⟨nd1, nd2, nd3⟩ := List.nodup_append.mp g.nd
  obtain ⟨c1, c2⟩ := owns_put Γ i p d nd2 np2
  have sm : Same (rg true Z H Γ) (rg true Z (upd H p o) (Γ.set i (some (.ow p d)))) := fun a u e => by
    have hap : a ≠ p := fun z => by
      have e' := rg_gr _ _ e
      rw [z, rg_none g hp] at e'
      cases e'
    have e2 := rg_ext (m := true) (Z := Z) (Γ := Γ) (Ext.upd (o := o) hp) a u e
    unfold rg at e2 ⊢
    split at e2
    · cases e2
    · rename_i hn
      rw [if_neg]
      · exact e2
      · rintro ⟨_, q⟩
        refine hn ⟨rfl, ?_⟩
        rcases List.mem_append.mp q with q | q
        · exact List.mem_append_left _ q
        · rcases c2 a q with z | z
          · exact absurd z hap
          · exact List.mem_append_right _ z
  refine ⟨g.g0, g.gt, ext_upd_new g.ext (g.ext.free hp), tabs_upd g.tab (.inr (.inr (.inr hp))), ?_, fun q hq => ?_, fun q hq => ?_, by rw [List.length_set, List.length_set]; exact g.len, fun j s e => ?_, g.base.trans sm⟩
  · refine List.nodup_append.mpr ⟨nd1, c1, fun a ha b hb z => ?_⟩
    subst z
    rcases c2 a hb with z | z
    · subst z; exact np1 ha
    · exact nd3 a ha a z rfl
  · rcases List.mem_append.mp hq with hq | hq
    · exact g.old q (List.mem_append_left _ hq)
    · rcases c2 q hq with z | z
      · subst z; exact g.ext.free hp
      · exact g.old q (List.mem_append_right _ z)
  · obtain ⟨xs, e⟩ := g.exl q hq
    exact ⟨xs, by rw [upd_ne (ne_of_none e hp)]; exact e⟩
  · by_cases hj : i = j
    · subst hj
      rw [List.getElem?_set_self hi] at e
      cases e
      exact ⟨v, List.getElem?_set_self (by rw [g.len]; exact hi), hv _ sm, h.to sm fun _ q _ => q⟩
    · rw [List.getElem?_set_ne hj] at e
      obtain ⟨u, q1, q2⟩ := g.slots j s e
      exact ⟨u, by rw [List.getElem?_set_ne hj]; exact q1, q2.mono sm (Ext.upd hp)⟩
theorem GOk.newOw (g : GOk T K Z H σ Γ) {i : Nat} {p : Addr} {o : HO} {d : D} (hi : i < Γ.length) (hp : H p = none) (h : OwOk K (rg true Z H Γ) (upd H p o) p d) (hv : ∀ G, VOk K G (.ref p) p d := by intro _; rfl) :
    GOk T K Z (upd H p o) (σ.set i (some (.ref p))) (Γ.set i (some (.ow p d))) := g.newOwV hi hp h fun G _ => hv G
theorem owns_same : ∀ (Γ : Ev) (i : Nat) (p : Addr) (d d' : D), Γ[i]? = some (some (.ow p d)) → owns (Γ.set i (some (.ow p d'))) = owns Γ
  | [], _, _, _, _, e => by simp at e
  | t :: r, 0, p, d, d', e => by
    have e : t = some (.ow p d) := by simpa using e
    subst e
    rfl
  | t :: r, i + 1, p, d, d', e => by
    have ih := owns_same r i p d d' (by simpa using e)
    show owns (t :: r.set i (some (.ow p d'))) = owns (t :: r)
    cases t with
    | none => exact ih
    | some t =>
      cases t with
      | sh d => exact ih
      | ow q d => exact congrArg (List.cons q) ih
theorem owns_ix : ∀ {Γ : Ev} {i j : Nat} {p : Addr} {d d' : D}, (owns Γ).Nodup → Γ[i]? = some (some (.ow p d)) → Γ[j]? = some (some (.ow p d')) → i = j
  | [], _, _, _, _, _, _, e, _ => by simp at e
  | t :: r, 0, 0, p, d, d', _, _, _ => rfl
  | t :: r, 0, j + 1, p, d, d', h, e, e' => by
    have e : t = some (.ow p d) := by simpa using e
    subst e
    have h' : (p :: owns r).Nodup := h
    exact absurd (mem_owns.mpr ⟨j, d', by simpa using e'⟩) (List.nodup_cons.mp h').1
  | t :: r, i + 1, 0, p, d, d', h, e, e' => by
    have e' : t = some (.ow p d') := by simpa using e'
    subst e'
    have h' : (p :: owns r).Nodup := h
    exact absurd (mem_owns.mpr ⟨i, d, by simpa using e⟩) (List.nodup_cons.mp h').1
  | t :: r, i + 1, j + 1, p, d, d', h, e, e' => by
    have sub : List.Sublist (owns r) (owns (t :: r)) := by
      cases t with
      | none => exact List.Sublist.refl _
      | some t =>
        cases t with
        | sh d => exact List.Sublist.refl _
        | ow p d => exact List.sublist_cons_self _ _
    exact congrArg Nat.succ (owns_ix (h.sublist sub) (by simpa using e) (by simpa using e'))
theorem rg_upd_own {p : Addr} {o : HO} (h : p ∈ Z.ex ++ owns Γ) : rg true Z (upd H p o) Γ = rg true Z H Γ := by
  funext a
  unfold rg
  split
  · rfl
  · rename_i hn
    have hap : a ≠ p := fun z => hn ⟨rfl, by rw [z]; exact h⟩
    unfold gr
    cases q : nt Z.H0 a with
    | none => exact nt_upd hap
    | some u => cases u <;> rfl
/-- an owned thing is changed -/
theorem GOk.updOw (g : GOk T K Z H σ Γ) {i : Nat} {p : Addr} {o : HO} {d d' : D} (hi : Γ[i]? = some (some (.ow p d))) (h : OwOk K (rg true Z H Γ) (upd H p o) p d') (hv : ∀ G v, VOk K G v p d → VOk K G v p d' := by intro _ _ h; exact h) :
    GOk T K Z (upd H p o) σ (Γ.set i (some (.ow p d'))) := by
  have hm : p ∈ owns Γ := mem_owns.mpr ⟨i, d, hi⟩
  have hm' : p ∈ Z.ex ++ owns Γ := List.mem_append_right _ hm
  have eo := owns_same Γ i p d d' hi
  have hl : i < Γ.length := (List.getElem?_eq_some_iff.mp hi).1
  obtain ⟨nd1, nd2, nd3⟩ := List.nodup_append.mp g.nd
  have er : rg true Z (upd H p o) (Γ.set i (some (.ow p d'))) = rg true Z H Γ := by
    have e1 : rg true Z (upd H p o) (Γ.set i (some (.ow p d'))) = rg true Z (upd H p o) Γ := by
      funext a
      unfold rg
      rw [eo]
    rw [e1, rg_upd_own hm']
  have hw := g.own hm'
  refine ⟨g.g0, g.gt, ext_upd_new g.ext (g.old p hm'), tabs_upd g.tab (by rcases hw with z | z | z; exact .inl z; exact .inr (.inl z); exact .inr (.inr (.inl z))), by rw [eo]; exact g.nd, fun q hq => g.old q (by rw [eo] at hq; exact hq), fun q hq => ?_, by rw [List.length_set]; exact g.len, fun j s e => ?_, by rw [er]; exact g.base⟩
  · obtain ⟨xs, e⟩ := g.exl q hq
    refine ⟨xs, ?_⟩
    rw [upd_ne (fun z => nd3 q hq p hm z)]
    exact e
  · rw [er]
    by_cases hj : i = j
    · subst hj
      rw [List.getElem?_set_self hl] at e
      cases e
      obtain ⟨v, q1, q2, q3⟩ := g.slots i _ hi
      exact ⟨v, q1, hv _ _ q2, h⟩
    · rw [List.getElem?_set_ne hj] at e
      obtain ⟨u, q1, q2⟩ := g.slots j s e
      refine ⟨u, q1, ?_⟩
      cases s with
      | sh d => exact q2
      | ow r d2 =>
        obtain ⟨a1, a2⟩ := q2
        have hrp : r ≠ p := fun z => hj (owns_ix nd2 hi (by rw [z] at e; exact e))
        exact ⟨a1, a2.to (Same.refl _) fun o e1 _ => by rw [upd_ne hrp]; exact e1⟩
/-- the base of what stands moved up -/
theorem GOk.rebase (g : GOk T K Z H σ Γ) {B : Hp} (h : Same B (rg true Z H Γ)) : GOk T K { Z with B := B } H σ Γ := ⟨g.g0, g.gt, g.ext, g.tab, g.nd, g.old, g.exl, g.len, g.slots, h⟩
end
end DD

/-! Expressions that give data. -/
namespace DD
open PySem PySem.Spec L2

theorem PE.imp' {X : Cx} {e : Expr} {t t' : TE} (h : PE X e t) (w : ∀ σ H Q, t' σ H Q → t σ H Q) : PE X e t' := ⟨fun pins s σ H Q I q => h.run pins s σ H Q I (w σ H Q q)⟩
theorem PT.imp' {X : Cx} {e : Expr} {t t' : TT} (h : PT X e t) (w : ∀ σ H Q, t' σ H Q → t σ H Q) : PT X e t' := ⟨fun pins s σ H Q I q => h.run pins s σ H Q I (w σ H Q q)⟩
theorem PW.imp' {X : Cx} {e : Expr} {t t' : TT} (h : PW X e t) (w : ∀ σ H Q, t' σ H Q → t σ H Q) : PW X e t' := ⟨fun wh pins s σ H Q I q => h.run wh pins s σ H Q I (w σ H Q q)⟩
theorem PA.imp' {X : Cx} {e : List Expr} {t t' : TA} (h : PA X e t) (w : ∀ σ H Q, t' σ H Q → t σ H Q) : PA X e t' := ⟨fun pos pins s σ H Q I q => h.run pos pins s σ H Q I (w σ H Q q)⟩
theorem PS.imp' {X : Cx} {e : Stmt} {t t' : TS} (h : PS X e t) (w : ∀ D σ H, t' D σ H → t D σ H) : PS X e t' := ⟨fun pins s σ H D I q => h.run pins s σ H D I (w D σ H q)⟩
theorem PSs.imp' {X : Cx} {e : List Stmt} {t t' : TS} (h : PSs X e t) (w : ∀ D σ H, t' D σ H → t D σ H) : PSs X e t' := ⟨fun pins s σ H D I q => h.run pins s σ H D I (w D σ H q)⟩
theorem PC.imp' {X : Cx} {op : CmpOp} {a b : Expr} {t t' : TE} (h : PC X op a b t) (w : ∀ σ H Q, t' σ H Q → t σ H Q) : PC X op a b t' := ⟨fun pins s σ H Q I q => h.run pins s σ H Q I (w σ H Q q)⟩

/-! ### the readings -/
section
variable (T : Tb) (K : PySem.W.Frag)
def tE (m : Bool) (Γ : Ev) (d : D) : TE := fun σ H Q => ∃ Z, GOk T K Z H σ Γ ∧ ∀ v H', GOk T K Z H' σ Γ → Ext H H' → Da K (rg m Z H' Γ) v d → Q v H'
/-- a list that stands, its items stable -/
def tI (Γ : Ev) (ds : List D) : TE := fun σ H Q => ∃ Z, GOk T K Z H σ Γ ∧ ∀ a vs H', GOk T K Z H' σ Γ → Ext H H' → rg false Z H' Γ a = some (.lst vs) → DaAll K (rg true Z H' Γ) vs ds → Q (.ref a) H'
/-- a new list -/
def tL (Γ : Ev) (ds : List D) : TE := fun σ H Q => ∃ Z, GOk T K Z H σ Γ ∧ ∀ p vs H', GOk T K Z H' σ Γ → Ext H H' → H' p = none → DaAll K (rg true Z H' Γ) vs ds → Q (.ref p) (upd H' p (.lst vs))
def tB (Γ : Ev) (b : Bool) : TT := fun σ H Q => ∃ Z, GOk T K Z H σ Γ ∧ ∀ H', GOk T K Z H' σ Γ → Ext H H' → Q b H'
def tA (m : Bool) (Γ : Ev) (ds : List D) : TA := fun σ H Q => ∃ Z, GOk T K Z H σ Γ ∧ ∀ vs H', GOk T K Z H' σ Γ → Ext H H' → DaAll K (rg m Z H' Γ) vs ds → Q vs H'
end
abbrev ED (T : Tb) (X : Cx) (m : Bool) (Γ : Ev) (e : Expr) (d : D) : Prop := PE X e (tE T X.K m Γ d)
abbrev ID (T : Tb) (X : Cx) (Γ : Ev) (e : Expr) (ds : List D) : Prop := PE X e (tI T X.K Γ ds)
abbrev LD (T : Tb) (X : Cx) (Γ : Ev) (e : Expr) (ds : List D) : Prop := PE X e (tL T X.K Γ ds)
abbrev BD (T : Tb) (X : Cx) (Γ : Ev) (e : Expr) (b : Bool) : Prop := PT X e (tB T X.K Γ b)
abbrev AD (T : Tb) (X : Cx) (m : Bool) (Γ : Ev) (es : List Expr) (ds : List D) : Prop := PA X es (tA T X.K m Γ ds)

section
variable {T : Tb} {X : Cx} {Γ : Ev} {m ma mb mc : Bool} {e a b c : Expr} {d da db dc : D} {pos : Pos} {i : Nat} {x : Str} {ds es : List D}

/-! ### names and constants -/
theorem e_var (i : Nat) (hi : Γ[i]? = some (some (.sh d))) (hN : X.N[i]? = some x := by rfl) (hv : Vis X.env.scope x := by first | exact Or.inl rfl | exact Or.inr (Or.inl rfl) | exact Or.inr (Or.inr rfl)) (hd : (x == ("__debug__" : Str)) = false := by decide)
    (hcd : (x == ("__classdict__" : Str)) = false := by decide) : ED T X m Γ (.Name x pos) d := PE.imp' (pe_var hN hv hd hcd) fun σ H Q ⟨Z, g, q⟩ => by
  obtain ⟨v, e, s⟩ := g.slots i _ hi
  exact ⟨v, e, q v H g (Ext.refl H) (Da.to s rg_stab)⟩
/-- an owned list by its name -/
theorem i_var (i : Nat) {p : Addr} (hi : Γ[i]? = some (some (.ow p (.lst ds)))) (hN : X.N[i]? = some x := by rfl) (hv : Vis X.env.scope x := by first | exact Or.inl rfl | exact Or.inr (Or.inl rfl) | exact Or.inr (Or.inr rfl)) (hd : (x == ("__debug__" : Str)) = false := by decide)
    (hcd : (x == ("__classdict__" : Str)) = false := by decide) : ID T X Γ (.Name x pos) ds := PE.imp' (pe_var hN hv hd hcd) fun σ H Q ⟨Z, g, q⟩ => by
  obtain ⟨v, e, rfl, vs, e1, e2⟩ := g.slots i _ hi
  refine ⟨_, e, q p vs H g (Ext.refl H) ?_ e2⟩
  rw [rg_false]
  unfold gr
  rw [g.old p (List.mem_append_right _ (mem_owns.mpr ⟨i, _, hi⟩))]
  exact nt_of e1 (fun ps z => by cases z)
theorem gr_own {Z : Zn} {H : Hp} {σ : St} {p : Addr} {o : HO} (g : GOk T X.K Z H σ Γ) (hp : p ∈ owns Γ) (e : H p = some o) (ntt : ∀ ps, o ≠ .tbl ps) : rg false Z H Γ p = some o := by
  rw [rg_false]
  unfold gr
  rw [g.old p (List.mem_append_right _ hp)]
  exact nt_of e ntt
/-- an owned thing by its name, to be read -/
theorem e_own (i : Nat) {p : Addr} (hi : Γ[i]? = some (some (.ow p d))) (hN : X.N[i]? = some x := by rfl) (hv : Vis X.env.scope x := by first | exact Or.inl rfl | exact Or.inr (Or.inl rfl) | exact Or.inr (Or.inr rfl)) (hd : (x == ("__debug__" : Str)) = false := by decide)
    (hcd : (x == ("__classdict__" : Str)) = false := by decide) : ED T X false Γ (.Name x pos) d := PE.imp' (pe_var hN hv hd hcd) fun σ H Q ⟨Z, g, q⟩ => by
  obtain ⟨v, e, hv', h⟩ := g.slots i _ hi
  have hm : p ∈ owns Γ := mem_owns.mpr ⟨i, _, hi⟩
  refine ⟨_, e, q _ H g (Ext.refl H) ?_⟩
  cases d with
  | obj d => cases d with
    | dic ks ds =>
      obtain ⟨vs, e1, e3, e2⟩ := h
      obtain ⟨a, dx, rfl, ha⟩ := hv'
      exact .obj (rg_stab _ _ ha) (.dic (gr_own g hm e1 (fun _ z => by cases z)) e3 (e2.to rg_stab))
    | _ => exact False.elim h
  | lst ds => cases hv'; obtain ⟨vs, e1, e2⟩ := h; exact .lst (gr_own g hm e1 (fun _ z => by cases z)) (e2.to rg_stab)
  | dic ks ds => cases hv'; obtain ⟨vs, e1, e3, e2⟩ := h; exact .dic (gr_own g hm e1 (fun _ z => by cases z)) e3 (e2.to rg_stab)
  | dit ks ds => cases hv'; obtain ⟨vs, e1, e3, e2⟩ := h; exact .dit (gr_own g hm e1 (fun _ z => by cases z)) e3 (e2.to rg_stab)
  | _ => exact False.elim h
theorem e_int {n : Int} {j : Nat} : ED T X m Γ (.Constant (.int n) j pos) (.int n) := PE.imp' pe_int fun σ H Q ⟨Z, g, q⟩ => q _ H g (Ext.refl H) (.int n)
theorem e_bl {n : Bool} {j : Nat} : ED T X m Γ (.Constant (.bool n) j pos) (.bl n) := PE.imp' pe_bl fun σ H Q ⟨Z, g, q⟩ => q _ H g (Ext.refl H) (.bl n)
theorem e_non {j : Nat} : ED T X m Γ (.Constant .none j pos) .non := PE.imp' pe_non fun σ H Q ⟨Z, g, q⟩ => q _ H g (Ext.refl H) .non
theorem e_str {n : Str} {j : Nat} (h : SOk n := by decide +kernel) : ED T X m Γ (.Constant (.str n) j pos) (.str n) := PE.imp' pe_str fun σ H Q ⟨Z, g, q⟩ => q _ H g (Ext.refl H) (.str n h)
instance (n : Str) : Decidable (SOk n) := by unfold SOk; infer_instance
/-- a module's int, text -/
theorem e_gint {n : Int} (hm : ∃ t, X.mg x = some (.int n t)) (hg : Gl X x := by rfl) (hd : (x == ("__debug__" : Str)) = false := by decide) : ED T X m Γ (.Name x pos) (.int n) := by
  obtain ⟨t, hm⟩ := hm
  exact PE.imp' (pe_glob hg hm (v := .int n) ⟨t, rfl⟩ hd) fun σ H Q ⟨Z, g, q⟩ => q _ H g (Ext.refl H) (.int n)
theorem e_gstr {n : Str} (hm : ∃ t, X.mg x = some (.str n t)) (hs : SOk n := by decide +kernel) (hg : Gl X x := by rfl) (hd : (x == ("__debug__" : Str)) = false := by decide) : ED T X m Γ (.Name x pos) (.str n) := by
  obtain ⟨t, hm⟩ := hm
  exact PE.imp' (pe_glob hg hm (v := .str n) ⟨t, rfl⟩ hd) fun σ H Q ⟨Z, g, q⟩ => q _ H g (Ext.refl H) (.str n hs)

/-! ### from one reading to another -/
theorem e_imm (h : ED T X false Γ e d) (hi : imm d = true := by rfl) : ED T X m Γ e d := PE.imp' h fun σ H Q ⟨Z, g, q⟩ => ⟨Z, g, fun v H' g' x da => q v H' g' x (Da.imm (rg_tups g') d v hi da)⟩
theorem e_weak (h : ED T X true Γ e d) : ED T X m Γ e d := PE.imp' h fun σ H Q ⟨Z, g, q⟩ => ⟨Z, g, fun v H' g' x da => q v H' g' x (Da.to da rg_stab)⟩
theorem i_of_e (h : ED T X true Γ e (.lst ds)) : ID T X Γ e ds := PE.imp' h fun σ H Q ⟨Z, g, q⟩ => ⟨Z, g, fun v H' g' x da => by
  cases da with
  | lst e1 e2 => exact q _ _ H' g' x (rg_stab _ _ e1) e2⟩
theorem i_of_imm (h : ED T X false Γ e (.lst ds)) (hi : immAll ds = true) : ID T X Γ e ds := PE.imp' h fun σ H Q ⟨Z, g, q⟩ => ⟨Z, g, fun v H' g' x da => by
  cases da with
  | lst e1 e2 => exact q _ _ H' g' x e1 (DaAll.imm (rg_tups g') ds _ hi e2)⟩
theorem e_of_i (h : ID T X Γ e ds) : ED T X false Γ e (.lst ds) := PE.imp' h fun σ H Q ⟨Z, g, q⟩ => ⟨Z, g, fun a vs H' g' x e1 e2 => q _ H' g' x (.lst e1 (e2.to rg_stab))⟩
theorem i_of_l (h : LD T X Γ e ds) : ID T X Γ e ds := PE.imp' h fun σ H Q ⟨Z, g, q⟩ => ⟨Z, g, fun p vs H' g' x hp e2 => q p vs _ (g'.new hp) (x.trans (Ext.upd hp)) (rg_new g' hp (fun _ z => by cases z)) (e2.to (rg_ext (Ext.upd hp)))⟩
theorem e_of_l (h : LD T X Γ e ds) : ED T X m Γ e (.lst ds) := PE.imp' h fun σ H Q ⟨Z, g, q⟩ => ⟨Z, g, fun p vs H' g' x hp e2 => q _ _ (g'.new hp) (x.trans (Ext.upd hp)) (.lst (rg_new g' hp (fun _ z => by cases z)) ((e2.to (rg_ext (Ext.upd hp))).to rg_stab))⟩


/-! ### arguments -/
theorem a_nil : AD T X m Γ [] [] := PA.imp' pa_nil fun σ H Q ⟨Z, g, q⟩ => q [] H g (Ext.refl H) .nil
theorem a_cons {e : Expr} {r : List Expr} (h : ED T X m Γ e d) (hr : AD T X m Γ r ds) (hs : starEach (e :: r) X.env = (false, eval e X.env) :: starEach r X.env := by rfl) : AD T X m Γ (e :: r) (d :: ds) :=
  PA.imp' (pa_cons h hr hs) fun σ H Q ⟨Z, g, q⟩ => ⟨Z, g, fun v H1 g1 x1 d1 => ⟨Z, g1, fun vs H2 g2 x2 d2 => q _ H2 g2 (x1.trans x2) (.cons (d1.to (rg_ext x2)) d2)⟩⟩

/-! ### operators -/
/-- what an operator's rule asks of data -/
def Op2 (T : Tb) (K : PySem.W.Frag) (Γ : Ev) (r : R2) (ma mb m : Bool) (da db dc : D) : Prop := ∀ (Z : Zn) (H : Hp) (σ : St) (v u : V) (Q : VK), GOk T K Z H σ Γ → Da K (rg ma Z H Γ) v da → Da K (rg mb Z H Γ) u db →
  (∀ w H', GOk T K Z H' σ Γ → Ext H H' → Da K (rg m Z H' Γ) w dc → Q w H') → r v u H Q
theorem e_op {op : Operator} {r : R2} (ho : OpR X (binaryOp op) r) (sp : Op2 T X.K Γ r ma mb m da db dc) (ha : ED T X ma Γ a da) (hb : ED T X mb Γ b db) : ED T X m Γ (.BinOp a op b pos) dc :=
  PE.imp' (pe_op ho ha hb) fun σ H Q ⟨Z, g, q⟩ => ⟨Z, g, fun v H1 g1 x1 d1 => ⟨Z, g1, fun u H2 g2 x2 d2 => sp Z H2 σ v u Q g2 (d1.to (rg_ext x2)) d2 fun w H3 g3 x3 d3 => q w H3 g3 ((x1.trans x2).trans x3) d3⟩⟩
theorem e_add {i j : Int} (ha : ED T X true Γ a (.int i)) (hb : ED T X true Γ b (.int j)) : ED T X m Γ (.BinOp a .Add b pos) (.int (i + j)) :=
  e_op op_add (fun Z H σ v u Q g d1 d2 q => by cases d1; cases d2; exact ⟨_, _, rfl, rfl, q _ H g (Ext.refl H) (.int _)⟩) ha hb
theorem e_sub {i j : Int} (ha : ED T X true Γ a (.int i)) (hb : ED T X true Γ b (.int j)) : ED T X m Γ (.BinOp a .Sub b pos) (.int (i - j)) :=
  e_op op_sub (fun Z H σ v u Q g d1 d2 q => by cases d1; cases d2; exact ⟨_, _, rfl, rfl, q _ H g (Ext.refl H) (.int _)⟩) ha hb
theorem e_mul {i j : Int} (h : CMul i j) (ha : ED T X true Γ a (.int i)) (hb : ED T X true Γ b (.int j)) : ED T X m Γ (.BinOp a .Mult b pos) (.int (i * j)) :=
  e_op op_mul (fun Z H σ v u Q g d1 d2 q => by cases d1; cases d2; exact ⟨_, _, rfl, rfl, h, q _ H g (Ext.refl H) (.int _)⟩) ha hb
theorem e_mod {i j : Int} (h : 0 < j) (ha : ED T X true Γ a (.int i)) (hb : ED T X true Γ b (.int j)) : ED T X m Γ (.BinOp a .Mod b pos) (.int (i % j)) :=
  e_op op_mod (fun Z H σ v u Q g d1 d2 q => by cases d1; cases d2; exact ⟨_, _, rfl, rfl, h, q _ H g (Ext.refl H) (.int _)⟩) ha hb
theorem e_fdiv {i j : Int} (h : CDiv i j) (ha : ED T X true Γ a (.int i)) (hb : ED T X true Γ b (.int j)) : ED T X m Γ (.BinOp a .FloorDiv b pos) (.int (i / j)) :=
  e_op op_fdiv (fun Z H σ v u Q g d1 d2 q => by cases d1; cases d2; exact ⟨_, _, rfl, rfl, h, q _ H g (Ext.refl H) (.int _)⟩) ha hb
theorem e_neg {i : Int} (ha : ED T X true Γ a (.int i)) : ED T X m Γ (.UnaryOp .USub a pos) (.int (-i)) :=
  PE.imp' (pe_un un_neg ha) fun σ H Q ⟨Z, g, q⟩ => ⟨Z, g, fun v H1 g1 x1 d1 => by cases d1; exact ⟨_, rfl, q _ H1 g1 x1 (.int _)⟩⟩
theorem app_cps (x y : Str) : (x ++ y).cps = x.cps ++ y.cps := rfl
theorem SOk.app {x y : Str} (h : SOk x) (h' : SOk y) (hl : x.length + y.length ≤ 8388608) : SOk (x ++ y) := by
  refine ⟨?_, ?_⟩
  · have h1 := h.1
    have h2 := h'.1
    unfold PyData.strOk at h1 h2 ⊢
    rw [app_cps, Array.all_append, h1, h2]
    rfl
  · show (x ++ y).cps.size ≤ _
    rw [app_cps, Array.size_append]
    exact hl
theorem e_cat {x y : Str} (h : x.length + y.length ≤ 8388608) (ha : ED T X true Γ a (.str x)) (hb : ED T X true Γ b (.str y)) : ED T X m Γ (.BinOp a .Add b pos) (.str (x ++ y)) :=
  e_op op_add_str (fun Z H σ v u Q g d1 d2 q => by
    cases d1 with
    | str _ s1 =>
      cases d2 with
      | str _ s2 => exact ⟨_, _, rfl, rfl, by rw [sizeLine_eq]; omega, q _ H g (Ext.refl H) (.str _ (s1.app s2 h))⟩) ha hb
/-- a list behind another -/
theorem l_cat (h : ds.length + es.length ≤ 16777216) (ha : ID T X Γ a ds) (hb : ID T X Γ b es) : LD T X Γ (.BinOp a .Add b pos) (ds ++ es) :=
  PE.imp' (pe_op op_cat ha hb) fun σ H Q ⟨Z, g, q⟩ => ⟨Z, g, fun p vs H1 g1 x1 e1 e2 => ⟨Z, g1, fun p' us H2 g2 x2 f1 f2 => ⟨p, p', vs, us, rfl, rfl, g2.sub _ _ (rg_ext x2 _ _ e1), g2.sub _ _ f1,
    by rw [e2.length, f2.length, sizeLine_eq]; exact h, fun r hr => q r _ H2 g2 (x1.trans x2) hr ((e2.to (rg_ext x2)).append f2)⟩⟩⟩
theorem DaAll.rep {K : PySem.W.Frag} {G : Hp} {vs : List V} {ds : List D} (h : DaAll K G vs ds) : ∀ k : Nat, DaAll K G (List.replicate k vs).flatten (List.replicate k ds).flatten
  | 0 => .nil
  | k + 1 => by
    simp only [List.replicate_succ, List.flatten_cons]
    exact h.append (DaAll.rep h k)
theorem l_rep {k : Int} (h1 : -(2 ^ 63) ≤ k) (h2 : k < 2 ^ 63) (h : ds.length * k.toNat ≤ 16777216) (ha : ID T X Γ a ds) (hb : ED T X true Γ b (.int k)) : LD T X Γ (.BinOp a .Mult b pos) (List.replicate k.toNat ds).flatten :=
  PE.imp' (pe_op op_rep ha hb) fun σ H Q ⟨Z, g, q⟩ => ⟨Z, g, fun p vs H1 g1 x1 e1 e2 => ⟨Z, g1, fun v H2 g2 x2 d2 => by
    cases d2
    exact ⟨p, k, vs, rfl, rfl, g2.sub _ _ (rg_ext x2 _ _ e1), h1, h2, by rw [e2.length, sizeLine_eq]; exact h, fun r hr => q r _ H2 g2 (x1.trans x2) hr ((e2.to (rg_ext x2)).rep k.toNat)⟩⟩⟩

/-! ### comparisons -/
def isNon : D → Bool
  | .non => true
  | _ => false
theorem pc_opR {op : CmpOp} {r : R2} {ta tb : TE} (ho : OpR X (compareOp op) r) (ha : PE X a ta) (hb : PE X b tb) : PC X op a b (tOp r ta tb) := ⟨fun pins s σ H Q I h =>
  binT ha hb I h fun v u s2 x y H2 I2 rx ry q => ho pins s2 σ H2 x y v u Q I2 rx ry q⟩
abbrev CD (T : Tb) (X : Cx) (Γ : Ev) (op : CmpOp) (a b : Expr) (c : Bool) : Prop := PC X op a b (tE T X.K true Γ (.bl c))
theorem c_op {op : CmpOp} {r : R2} {k : Bool} (ho : OpR X (compareOp op) r) (sp : Op2 T X.K Γ r ma mb true da db (.bl k)) (ha : ED T X ma Γ a da) (hb : ED T X mb Γ b db) : CD T X Γ op a b k :=
  PC.imp' (pc_opR ho ha hb) fun σ H Q ⟨Z, g, q⟩ => ⟨Z, g, fun v H1 g1 x1 d1 => ⟨Z, g1, fun u H2 g2 x2 d2 => sp Z H2 σ v u Q g2 (d1.to (rg_ext x2)) d2 fun w H3 g3 x3 d3 => q w H3 g3 ((x1.trans x2).trans x3) d3⟩⟩
theorem e_of_c {op : CmpOp} {k : Bool} (h : CD T X Γ op a b k) (h1 : behindInMarks op b = false := by first | exact nobehind _ (by decide) (by decide) | rfl) : ED T X m Γ (.Compare a [op] [b] pos) (.bl k) :=
  PE.imp' (pe_cmp h h1) fun σ H Q ⟨Z, g, q⟩ => ⟨Z, g, fun v H' g' x da => q v H' g' x (Da.to da rg_stab)⟩
theorem b_of_c {op : CmpOp} {k : Bool} (h : CD T X Γ op a b k) (h1 : behindInMarks op b = false := by first | exact nobehind _ (by decide) (by decide) | rfl) : BD T X Γ (.Compare a [op] [b] pos) k :=
  PT.imp' (pt_cmp h h1) fun σ H Q ⟨Z, g, q⟩ => ⟨Z, g, fun v H' g' x da => by cases da; exact ⟨k, rfl, q H' g' x⟩⟩
theorem b_of_e' {k : Bool} (h : ED T X true Γ e (.bl k)) (he : ∀ whole, isTrue e X.env whole = (do let v ← whole; standAt e.pos; holding [v] (truthy v)) := by intro _; rfl) : BD T X Γ e k :=
  PT.imp' (pt_val h he) fun σ H Q ⟨Z, g, q⟩ => ⟨Z, g, fun v H' g' x da => by cases da; exact ⟨k, rfl, q H' g' x⟩⟩
theorem fin_c {Z : Zn} {H : Hp} {σ : St} {Q : VK} {k k' : Bool} (g : GOk T X.K Z H σ Γ) (q : ∀ w H', GOk T X.K Z H' σ Γ → Ext H H' → Da X.K (rg true Z H' Γ) w (.bl k) → Q w H') (e : k' = k) : Q (.bl k') H := by
  subst e
  exact q _ H g (Ext.refl H) (.bl _)
theorem c_lt {i j : Int} (ha : ED T X true Γ a (.int i)) (hb : ED T X true Γ b (.int j)) : CD T X Γ .Lt a b (decide (i < j)) :=
  c_op op_lt (fun Z H σ v u Q g d1 d2 q => by cases d1; cases d2; exact ⟨_, _, rfl, rfl, fin_c g q rfl⟩) ha hb
theorem c_le {i j : Int} (ha : ED T X true Γ a (.int i)) (hb : ED T X true Γ b (.int j)) : CD T X Γ .LtE a b (decide (i ≤ j)) :=
  c_op op_le (fun Z H σ v u Q g d1 d2 q => by cases d1; cases d2; exact ⟨_, _, rfl, rfl, fin_c g q rfl⟩) ha hb
theorem c_gt {i j : Int} (ha : ED T X true Γ a (.int i)) (hb : ED T X true Γ b (.int j)) : CD T X Γ .Gt a b (decide (j < i)) :=
  c_op op_gt (fun Z H σ v u Q g d1 d2 q => by cases d1; cases d2; exact ⟨_, _, rfl, rfl, fin_c g q rfl⟩) ha hb
theorem c_ge {i j : Int} (ha : ED T X true Γ a (.int i)) (hb : ED T X true Γ b (.int j)) : CD T X Γ .GtE a b (decide (j ≤ i)) :=
  c_op op_ge (fun Z H σ v u Q g d1 d2 q => by cases d1; cases d2; exact ⟨_, _, rfl, rfl, fin_c g q rfl⟩) ha hb
theorem c_eqI {i j : Int} (ha : ED T X true Γ a (.int i)) (hb : ED T X true Γ b (.int j)) : CD T X Γ .Eq a b (decide (i = j)) :=
  c_op op_eq (fun Z H σ v u Q g d1 d2 q => by cases d1; cases d2; exact ⟨rfl, fin_c g q (by simp)⟩) ha hb
theorem c_neI {i j : Int} (ha : ED T X true Γ a (.int i)) (hb : ED T X true Γ b (.int j)) : CD T X Γ .NotEq a b (!decide (i = j)) :=
  c_op op_ne (fun Z H σ v u Q g d1 d2 q => by cases d1; cases d2; exact ⟨rfl, fin_c g q (by simp)⟩) ha hb
theorem c_eqS {i j : Str} (ha : ED T X true Γ a (.str i)) (hb : ED T X true Γ b (.str j)) : CD T X Γ .Eq a b (decide (i = j)) :=
  c_op op_eq (fun Z H σ v u Q g d1 d2 q => by cases d1; cases d2; exact ⟨rfl, fin_c g q (by simp)⟩) ha hb
theorem c_neS {i j : Str} (ha : ED T X true Γ a (.str i)) (hb : ED T X true Γ b (.str j)) : CD T X Γ .NotEq a b (!decide (i = j)) :=
  c_op op_ne (fun Z H σ v u Q g d1 d2 q => by cases d1; cases d2; exact ⟨rfl, fin_c g q (by simp)⟩) ha hb
theorem c_geS {i j : Str} (ha : ED T X true Γ a (.str i)) (hb : ED T X true Γ b (.str j)) : CD T X Γ .GtE a b (!decide (i.cps.toList < j.cps.toList)) :=
  c_op op_ge_str (fun Z H σ v u Q g d1 d2 q => by cases d1; cases d2; exact ⟨_, _, rfl, rfl, fin_c g q rfl⟩) ha hb
theorem isNon_of {K : PySem.W.Frag} {G : Hp} {v : V} {d : D} (h : Da K G v d) : decide (v = V.non) = isNon d := by cases h <;> simp [isNon]
theorem c_isN (ha : ED T X false Γ a d) : PC X .Is a (.Constant .none i pos) (tE T X.K true Γ (.bl (isNon d))) :=
  PC.imp' (pc_isN ha) fun σ H Q ⟨Z, g, q⟩ => ⟨Z, g, fun v H1 g1 x1 d1 => by
    show Q (.bl (decide (v = V.non))) H1
    rw [isNon_of d1]
    exact q _ H1 g1 x1 (.bl _)⟩
theorem c_notN (ha : ED T X false Γ a d) : PC X .IsNot a (.Constant .none i pos) (tE T X.K true Γ (.bl (!isNon d))) :=
  PC.imp' (pc_notN ha) fun σ H Q ⟨Z, g, q⟩ => ⟨Z, g, fun v H1 g1 x1 d1 => by
    show Q (.bl (!decide (v = V.non))) H1
    rw [isNon_of d1]
    exact q _ H1 g1 x1 (.bl _)⟩
/-! one sign in a text -/
theorem c_inS {k : Nat} {z : Str} (ha : ED T X true Γ a (.str ⟨#[k]⟩)) (hb : ED T X true Γ b (.str z)) : CD T X Γ .In a b (decide (k ∈ z.cps.toList)) :=
  c_op op_in_sign (fun Z H σ v u Q g d1 d2 q => by cases d1; cases d2; exact ⟨_, _, rfl, rfl, fin_c g q rfl⟩) ha hb
theorem c_notInS {k : Nat} {z : Str} (ha : ED T X true Γ a (.str ⟨#[k]⟩)) (hb : ED T X true Γ b (.str z)) : CD T X Γ .NotIn a b (!decide (k ∈ z.cps.toList)) :=
  c_op op_notIn_sign (fun Z H σ v u Q g d1 d2 q => by cases d1; cases d2; exact ⟨_, _, rfl, rfl, fin_c g q rfl⟩) ha hb
/-! a text in a list of texts -/
theorem inV_strs (x : Str) : ∀ xs : List Str, inV (.str x) (xs.map V.str) = decide (x ∈ xs)
  | [] => by simp [inV]
  | y :: ys => by
    have ih := inV_strs x ys
    unfold inV at ih ⊢
    rw [List.map_cons, List.any_cons, ih]
    have e : eqV (V.str y) (V.str x) = decide (x = y) := by
      simp only [eqV]
      by_cases h : x = y
      · subst h; simp
      · rw [decide_eq_false h]
        first
          | (simp only [beq_eq_false_iff_ne, ne_eq]; exact fun z => h z.symm)
          | (simp [h]; exact fun z => h z.symm)
          | exact decide_eq_false fun z => h z.symm
    rw [e]
    simp [List.mem_cons, Bool.decide_or]
theorem flat_strs : ∀ xs : List Str, (xs.map V.str).all flatV = true
  | [] => rfl
  | x :: xs => by simp [flatV, flat_strs xs]
theorem c_inL {x : Str} {xs : List Str} (ha : ED T X true Γ a (.str x)) (hb : ED T X false Γ b (.lst (xs.map D.str))) : CD T X Γ .In a b (decide (x ∈ xs)) :=
  c_op op_in_seq (fun Z H σ v u Q g d1 d2 q => by
    cases d1
    cases d2 with
    | lst e1 e2 =>
      have ev := e2.strs
      subst ev
      exact ⟨_, _, rfl, .inl (SqL.of (g.sub _ _ e1)), rfl, flat_strs xs, fin_c g q (by rw [if_neg Bool.false_ne_true, inV_strs])⟩) ha hb
theorem c_notInL {x : Str} {xs : List Str} (ha : ED T X true Γ a (.str x)) (hb : ED T X false Γ b (.lst (xs.map D.str))) : CD T X Γ .NotIn a b (!decide (x ∈ xs)) :=
  c_op op_notIn_seq (fun Z H σ v u Q g d1 d2 q => by
    cases d1
    cases d2 with
    | lst e1 e2 =>
      have ev := e2.strs
      subst ev
      exact ⟨_, _, rfl, .inl (SqL.of (g.sub _ _ e1)), rfl, flat_strs xs, fin_c g q (by rw [if_pos rfl, inV_strs])⟩) ha hb
theorem c_inT {x : Str} {xs : List Str} (ha : ED T X true Γ a (.str x)) (hb : ED T X false Γ b (.tup (xs.map D.str))) : CD T X Γ .In a b (decide (x ∈ xs)) :=
  c_op op_in_seq (fun Z H σ v u Q g d1 d2 q => by
    cases d1
    cases d2 with
    | tup e1 e2 =>
      have ev := e2.strs
      subst ev
      exact ⟨_, _, rfl, .inr (SqT.of (g.sub _ _ e1)), rfl, flat_strs xs, fin_c g q (by rw [if_neg Bool.false_ne_true, inV_strs])⟩) ha hb
theorem c_notInT {x : Str} {xs : List Str} (ha : ED T X true Γ a (.str x)) (hb : ED T X false Γ b (.tup (xs.map D.str))) : CD T X Γ .NotIn a b (!decide (x ∈ xs)) :=
  c_op op_notIn_seq (fun Z H σ v u Q g d1 d2 q => by
    cases d1
    cases d2 with
    | tup e1 e2 =>
      have ev := e2.strs
      subst ev
      exact ⟨_, _, rfl, .inr (SqT.of (g.sub _ _ e1)), rfl, flat_strs xs, fin_c g q (by rw [if_pos rfl, inV_strs])⟩) ha hb
theorem c_inK {x : Str} {xs : List Str} (ha : ED T X true Γ a (.str x)) (hb : ED T X false Γ b (.ktp xs)) : CD T X Γ .In a b (decide (x ∈ xs)) :=
  c_op op_in_seq (fun Z H σ v u Q g d1 d2 q => by
    cases d1
    cases d2 with
    | ktp _ e1 =>
      exact ⟨_, _, rfl, .inr (SqT.mono g.sub e1), rfl, flat_strs xs, fin_c g q (by rw [if_neg Bool.false_ne_true, inV_strs])⟩) ha hb
theorem c_notInK {x : Str} {xs : List Str} (ha : ED T X true Γ a (.str x)) (hb : ED T X false Γ b (.ktp xs)) : CD T X Γ .NotIn a b (!decide (x ∈ xs)) :=
  c_op op_notIn_seq (fun Z H σ v u Q g d1 d2 q => by
    cases d1
    cases d2 with
    | ktp _ e1 =>
      exact ⟨_, _, rfl, .inr (SqT.mono g.sub e1), rfl, flat_strs xs, fin_c g q (by rw [if_pos rfl, inV_strs])⟩) ha hb

/-! ### tests joined -/
variable {rest : List Expr} {k l : Bool}
theorem b_and1 (ha : BD T X Γ a k) : PW X (.BoolOp .And [a] pos) (tB T X.K Γ k) := pw_and1 ha
theorem b_or1 (ha : BD T X Γ a k) : PW X (.BoolOp .Or [a] pos) (tB T X.K Γ k) := pw_or1 ha
theorem b_and (ha : BD T X Γ a k) (hb : k = true → PW X (.BoolOp .And (b :: rest) pos) (tB T X.K Γ l)) : PW X (.BoolOp .And (a :: b :: rest) pos) (tB T X.K Γ (k && l)) := by
  cases k with
  | true => exact PW.imp' (pw_and ha (hb rfl)) fun σ H Q ⟨Z, g, q⟩ => ⟨Z, g, fun H1 g1 x1 => iteT ⟨Z, g1, fun H2 g2 x2 => q H2 g2 (x1.trans x2)⟩⟩
  | false => exact PW.imp' (pw_and ha (PW.mk (t := fun _ _ _ => False) fun _ _ _ _ _ _ _ h => h.elim)) fun σ H Q ⟨Z, g, q⟩ => ⟨Z, g, fun H1 g1 x1 => iteF (q H1 g1 x1)⟩
theorem b_or (ha : BD T X Γ a k) (hb : k = false → PW X (.BoolOp .Or (b :: rest) pos) (tB T X.K Γ l)) : PW X (.BoolOp .Or (a :: b :: rest) pos) (tB T X.K Γ (k || l)) := by
  cases k with
  | false => exact PW.imp' (pw_or ha (hb rfl)) fun σ H Q ⟨Z, g, q⟩ => ⟨Z, g, fun H1 g1 x1 => iteF ⟨Z, g1, fun H2 g2 x2 => q H2 g2 (x1.trans x2)⟩⟩
  | true => exact PW.imp' (pw_or ha (PW.mk (t := fun _ _ _ => False) fun _ _ _ _ _ _ _ h => h.elim)) fun σ H Q ⟨Z, g, q⟩ => ⟨Z, g, fun H1 g1 x1 => iteT (q H1 g1 x1)⟩
theorem b_pw (h : PW X e (tB T X.K Γ k)) : BD T X Γ e k := h.pt
theorem b_not (ha : BD T X Γ a k) : BD T X Γ (.UnaryOp .Not a pos) (!k) := PT.imp' (pt_not ha) fun σ H Q ⟨Z, g, q⟩ => ⟨Z, g, fun H1 g1 x1 => q H1 g1 x1⟩
/-! as values -/
theorem e_one {op : BoolOp} (ha : ED T X m Γ a d) : ED T X m Γ (.BoolOp op [a] pos) d := pe_one ha
theorem e_and (ha : ED T X true Γ a (.bl k)) (hb : k = true → ED T X m Γ (.BoolOp .And (b :: rest) pos) (.bl l)) : ED T X m Γ (.BoolOp .And (a :: b :: rest) pos) (.bl (k && l)) := by
  cases k with
  | true => exact PE.imp' (pe_and ha (hb rfl)) fun σ H Q ⟨Z, g, q⟩ => ⟨Z, g, fun v H1 g1 x1 d1 => by
      cases d1
      exact ⟨true, rfl, iteT ⟨Z, g1, fun w H2 g2 x2 d2 => q w H2 g2 (x1.trans x2) d2⟩⟩⟩
  | false => exact PE.imp' (pe_and ha (PE.mk (t := fun _ _ _ => False) fun _ _ _ _ _ _ h => h.elim)) fun σ H Q ⟨Z, g, q⟩ => ⟨Z, g, fun v H1 g1 x1 d1 => by
      cases d1
      exact ⟨false, rfl, iteF (q _ H1 g1 x1 (.bl _))⟩⟩
theorem e_or (ha : ED T X true Γ a (.bl k)) (hb : k = false → ED T X m Γ (.BoolOp .Or (b :: rest) pos) (.bl l)) : ED T X m Γ (.BoolOp .Or (a :: b :: rest) pos) (.bl (k || l)) := by
  cases k with
  | false => exact PE.imp' (pe_or ha (hb rfl)) fun σ H Q ⟨Z, g, q⟩ => ⟨Z, g, fun v H1 g1 x1 d1 => by
      cases d1
      exact ⟨false, rfl, iteF ⟨Z, g1, fun w H2 g2 x2 d2 => q w H2 g2 (x1.trans x2) d2⟩⟩⟩
  | true => exact PE.imp' (pe_or ha (PE.mk (t := fun _ _ _ => False) fun _ _ _ _ _ _ h => h.elim)) fun σ H Q ⟨Z, g, q⟩ => ⟨Z, g, fun v H1 g1 x1 d1 => by
      cases d1
      exact ⟨true, rfl, iteT (q _ H1 g1 x1 (.bl _))⟩⟩
theorem e_not (ha : ED T X true Γ a (.bl k)) : ED T X m Γ (.UnaryOp .Not a pos) (.bl (!k)) := PE.imp' (pe_not ha) fun σ H Q ⟨Z, g, q⟩ => ⟨Z, g, fun v H1 g1 x1 d1 => by cases d1; exact ⟨k, rfl, q _ H1 g1 x1 (.bl _)⟩⟩

/-! ### truth of lists, tuples, texts -/
theorem b_lst (h : ED T X false Γ e (.lst ds)) (he : ∀ whole, isTrue e X.env whole = (do let v ← whole; standAt e.pos; holding [v] (truthy v)) := by intro _; rfl) : BD T X Γ e (!ds.isEmpty) :=
  PT.imp' (pt_truth h he) fun σ H Q ⟨Z, g, q⟩ => ⟨Z, g, fun v H1 g1 x1 d1 => by
    cases d1 with
    | lst e1 e2 =>
      refine ⟨_, .inl ⟨_, SqL.of (g1.sub _ _ e1), rfl⟩, ?_⟩
      have hl := e2.length
      rename_i vs
      have e : (!vs.isEmpty) = !ds.isEmpty := by cases vs <;> cases ds <;> simp_all
      rw [e]
      exact q H1 g1 x1⟩

/-! ### subscripts -/
theorem e_ixL {n : Int} (h : atI ds n = some d) (ha : ID T X Γ a ds) (hb : ED T X true Γ b (.int n)) (hs : PlainIx b := by exact fun _ _ => rfl) : ED T X m Γ (.Subscript a b pos) d :=
  PE.imp' (pe_ix ix_list ha hb hs) fun σ H Q ⟨Z, g, q⟩ => ⟨Z, g, fun p vs H1 g1 x1 e1 e2 => ⟨Z, g1, fun v H2 g2 x2 d2 => by
    cases d2
    have e3 := e2.to (rg_ext x2)
    unfold atI at h
    cases hj : ixN ds.length n with
    | none => rw [hj] at h; cases h
    | some j =>
      rw [hj] at h
      have h' : ds[j]? = some d := h
      obtain ⟨w, hw, hd⟩ := e3.get h'
      refine ⟨p, vs, n, w, rfl, rfl, SqL.of (g2.sub _ _ (rg_ext x2 _ _ e1)), ?_, q w H2 g2 (x1.trans x2) (hd.to rg_stab)⟩
      unfold atI
      rw [e3.length, hj]
      exact hw⟩⟩
theorem e_ixR {n : Int} (h : atI ds n = some d) (ha : ED T X m Γ a (.lst ds)) (hb : ED T X true Γ b (.int n)) (hs : PlainIx b := by exact fun _ _ => rfl) : ED T X m Γ (.Subscript a b pos) d :=
  PE.imp' (pe_ix ix_list ha hb hs) fun σ H Q ⟨Z, g, q⟩ => ⟨Z, g, fun v H1 g1 x1 d1 => ⟨Z, g1, fun u H2 g2 x2 d2 => by
    cases d2
    cases d1 with
    | lst e1 e2 =>
      have e3 := e2.to (rg_ext x2)
      unfold atI at h
      cases hj : ixN ds.length n with
      | none => rw [hj] at h; cases h
      | some j =>
        rw [hj] at h
        have h' : ds[j]? = some d := h
        obtain ⟨w, hw, hd⟩ := e3.get h'
        refine ⟨_, _, n, w, rfl, rfl, SqL.of (g2.sub _ _ (rg_ext x2 _ _ e1)), ?_, q w H2 g2 (x1.trans x2) hd⟩
        unfold atI
        rw [e3.length, hj]
        exact hw⟩⟩
theorem e_ixT {n : Int} (h : atI ds n = some d) (ha : ED T X m Γ a (.tup ds)) (hb : ED T X true Γ b (.int n)) (hs : PlainIx b := by exact fun _ _ => rfl) : ED T X m Γ (.Subscript a b pos) d :=
  PE.imp' (pe_ix ix_tup ha hb hs) fun σ H Q ⟨Z, g, q⟩ => ⟨Z, g, fun v H1 g1 x1 d1 => ⟨Z, g1, fun u H2 g2 x2 d2 => by
    cases d2
    cases d1 with
    | tup e1 e2 =>
      have e3 := e2.to (rg_ext x2)
      unfold atI at h
      cases hj : ixN ds.length n with
      | none => rw [hj] at h; cases h
      | some j =>
        rw [hj] at h
        have h' : ds[j]? = some d := h
        obtain ⟨w, hw, hd⟩ := e3.get h'
        refine ⟨_, _, n, w, rfl, rfl, SqT.of (g2.sub _ _ (rg_ext x2 _ _ e1)), ?_, q w H2 g2 (x1.trans x2) hd⟩
        unfold atI
        rw [e3.length, hj]
        exact hw⟩⟩
theorem mem_of_atI {α : Type} {xs : List α} {n : Int} {a : α} (h : atI xs n = some a) : a ∈ xs := by
  unfold atI at h
  cases hj : ixN xs.length n with
  | none => rw [hj] at h; cases h
  | some j => rw [hj] at h; exact List.mem_of_getElem? h
theorem SOk.sign {z : Str} {k : Nat} (h : SOk z) (hk : k ∈ z.cps.toList) : SOk ⟨#[k]⟩ := by
  refine ⟨?_, by show 1 ≤ 8388608; decide⟩
  have h1 := h.1
  unfold PyData.strOk at h1 ⊢
  rw [← Array.all_toList, List.all_eq_true] at h1
  have h2 := h1 k hk
  simpa using h2
theorem e_ixS {n : Int} {z : Str} {k : Nat} (h : atI z.cps.toList n = some k) (ha : ED T X true Γ a (.str z)) (hb : ED T X true Γ b (.int n)) (hs : PlainIx b := by exact fun _ _ => rfl) : ED T X m Γ (.Subscript a b pos) (.str ⟨#[k]⟩) :=
  PE.imp' (pe_ix ix_str ha hb hs) fun σ H Q ⟨Z, g, q⟩ => ⟨Z, g, fun v H1 g1 x1 d1 => ⟨Z, g1, fun u H2 g2 x2 d2 => by
    cases d2
    cases d1 with
    | str _ s1 => exact ⟨z, n, k, rfl, rfl, by rw [sizeLine_eq]; have := s1.2; omega, h, q _ H2 g2 (x1.trans x2) (.str _ (s1.sign (mem_of_atI h)))⟩⟩⟩

/-! ### slices -/
def tP (T : Tb) (K : PySem.W.Frag) (Γ : Ev) (o : Option Int) : TO := fun σ H Q => ∃ Z, GOk T K Z H σ Γ ∧ ∀ H', GOk T K Z H' σ Γ → Ext H H' → Q o H'
theorem PO.imp' {e : Option Expr} {t t' : TO} (h : PO X e t) (w : ∀ σ H Q, t' σ H Q → t σ H Q) : PO X e t' := ⟨fun pins s σ H Q I q => h.run pins s σ H Q I (w σ H Q q)⟩
theorem p_none : PO X none (tP T X.K Γ none) := PO.imp' po_none fun σ H Q ⟨Z, g, q⟩ => q H g (Ext.refl H)
theorem p_some {n : Int} (h : ED T X true Γ e (.int n)) : PO X (some e) (tP T X.K Γ (some n)) := PO.imp' (po_some h) fun σ H Q ⟨Z, g, q⟩ => ⟨Z, g, fun v H1 g1 x1 d1 => by cases d1; exact ⟨n, rfl, q H1 g1 x1⟩⟩
def cutD {α : Type} (xs : List α) (lo hi : Option Int) : List α := (xs.drop (HT.sIx xs.length 0 lo)).take (HT.sIx xs.length xs.length hi - HT.sIx xs.length 0 lo)
theorem cutD_map {α β : Type} (f : α → β) (xs : List α) (lo hi : Option Int) : cutD (xs.map f) lo hi = (cutD xs lo hi).map f := by
  unfold cutD
  rw [List.length_map, List.map_take, List.map_drop]
variable {lo hi : Option Expr} {o1 o2 : Option Int} {p2 : Pos}
theorem DaAll.cut {K : PySem.W.Frag} {G : Hp} {vs : List V} (h : DaAll K G vs ds) (o1 o2 : Option Int) : DaAll K G (cutV vs o1 o2) (cutD ds o1 o2) := by
  unfold cutV cutD
  rw [h.length]
  exact (h.drop _).take _
theorem l_slice (ha : ID T X Γ e ds) (hl : PO X lo (tP T X.K Γ o1)) (hh : PO X hi (tP T X.K Γ o2)) : LD T X Γ (.Subscript e (.Slice lo hi none p2) pos) (cutD ds o1 o2) :=
  PE.imp' (pe_slice sl_list ha hl hh) fun σ H Q ⟨Z, g, q⟩ => ⟨Z, g, fun p vs H1 g1 x1 e1 e2 => ⟨Z, g1, fun H2 g2 x2 => ⟨Z, g2, fun H3 g3 x3 =>
    ⟨p, vs, rfl, SqL.of (g3.sub _ _ (rg_ext (x2.trans x3) _ _ e1)), fun r hr => q r _ H3 g3 ((x1.trans x2).trans x3) hr ((e2.to (rg_ext (x2.trans x3))).cut o1 o2)⟩⟩⟩⟩
theorem cutV_ints (ns : List Int) (o1 o2 : Option Int) : cutV (ns.map V.int) o1 o2 = (cutD ns o1 o2).map V.int := by
  unfold cutV cutD
  rw [List.length_map, List.map_take, List.map_drop]
/-- a slice of the script -/
theorem l_sliceScr {ns : List Int} (ha : ED T X m Γ e (.scr ns)) (hl : PO X lo (tP T X.K Γ o1)) (hh : PO X hi (tP T X.K Γ o2)) : LD T X Γ (.Subscript e (.Slice lo hi none p2) pos) ((cutD ns o1 o2).map D.int) :=
  PE.imp' (pe_slice sl_list ha hl hh) fun σ H Q ⟨Z, g, q⟩ => ⟨Z, g, fun v H1 g1 x1 d1 => by
    cases d1 with
    | scr _ hs => exact ⟨Z, g1, fun H2 g2 x2 => ⟨Z, g2, fun H3 g3 x3 => ⟨_, _, rfl, SqL.mono (g3.sub) (SqL.mono (rg_ext (x2.trans x3)) hs), fun r hr => q r _ H3 g3 ((x1.trans x2).trans x3) hr (by rw [cutV_ints]; exact DaAll.of_ints _)⟩⟩⟩⟩
theorem SOk.cut {z : Str} (h : SOk z) (o1 o2 : Option Int) : SOk (cutS z o1 o2) := by
  refine ⟨?_, Nat.le_trans (cutS_length z o1 o2) h.2⟩
  have h1 := h.1
  unfold PyData.strOk at h1 ⊢
  rw [← Array.all_toList, List.all_eq_true] at h1 ⊢
  intro c hc
  refine h1 c ?_
  unfold cutS at hc
  first
    | exact List.mem_of_mem_drop (List.mem_of_mem_take (by simpa using hc))
    | (simp only [] at hc; exact List.mem_of_mem_drop (List.mem_of_mem_take hc))
theorem e_sliceS {z : Str} (ha : ED T X true Γ e (.str z)) (hl : PO X lo (tP T X.K Γ o1)) (hh : PO X hi (tP T X.K Γ o2)) : ED T X m Γ (.Subscript e (.Slice lo hi none p2) pos) (.str (cutS z o1 o2)) :=
  PE.imp' (pe_slice sl_str ha hl hh) fun σ H Q ⟨Z, g, q⟩ => ⟨Z, g, fun v H1 g1 x1 d1 => by
    cases d1 with
    | str _ s1 => exact ⟨Z, g1, fun H2 g2 x2 => ⟨Z, g2, fun H3 g3 x3 => ⟨z, rfl, by rw [sizeLine_eq]; have := s1.2; omega, q _ H3 g3 ((x1.trans x2).trans x3) (.str _ (s1.cut o1 o2))⟩⟩⟩⟩

/-! ### displays -/
theorem e_tup {xs : List Expr} {x1 : Nat} (hl : ds.length ≤ 16777216 := by first | decide | (simp; done)) (h : AD T X m Γ xs ds) : ED T X m Γ (.Tuple xs x1 pos) (.tup ds) :=
  PE.imp' (pe_tup h) fun σ H Q ⟨Z, g, q⟩ => ⟨Z, g, fun vs H1 g1 x1 d1 => ⟨by rw [d1.length, sizeLine_eq]; exact hl, fun p hp => q _ _ (g1.new hp) (x1.trans (Ext.upd hp)) (.tup (rg_new g1 hp (fun _ z => by cases z)) (d1.to (rg_ext (Ext.upd hp))))⟩⟩
theorem l_lst {xs : List Expr} (hl : ds.length ≤ 16777216 := by first | decide | (simp; done)) (h : AD T X true Γ xs ds) : LD T X Γ (.List xs pos) ds :=
  PE.imp' (pe_lst h) fun σ H Q ⟨Z, g, q⟩ => ⟨Z, g, fun vs H1 g1 x1 d1 => ⟨by rw [d1.length, sizeLine_eq]; exact hl, fun p hp => q p vs H1 g1 x1 hp d1⟩⟩

/-! ### built-in functions of one argument -/
/-- what a built-in's rule asks -/
def Cl1 (T : Tb) (K : PySem.W.Frag) (Γ : Ev) (r : List V → Hp → VK → Prop) (ma m : Bool) (das : List D) (dc : D) : Prop := ∀ (Z : Zn) (H : Hp) (σ : St) (vs : List V) (Q : VK), GOk T K Z H σ Γ → DaAll K (rg ma Z H Γ) vs das →
  (∀ w H', GOk T K Z H' σ Γ → Ext H H' → Da K (rg m Z H' Γ) w dc → Q w H') → r vs H Q
variable {es' : List Expr} {p : Pos} {id Ty : String} {r : List V → Hp → VK → Prop}
theorem e_callB (hc : CallR X (.builtin id) r) (sp : Cl1 T X.K Γ r ma m ds dc) (hg : Gl X x) (hm : X.mg x = none) (hv : bootBuiltins x = some (.builtin id)) (ha : AD T X ma Γ (a :: es') ds) (hn : x ≠ "__name__" := by decide) (hdb : (x == ("__debug__" : Str)) = false := by decide)
    (he : starEach (a :: es') X.env = (false, eval a X.env) :: starEach es' X.env := by rfl) (hpl : (backTo pos (starEach es' X.env)).any (·.1) = false := by rfl) : ED T X m Γ (.Call (.Name x p) (a :: es') [] pos) dc :=
  PE.imp' (pe_callB hc hg hm hv ha hn hdb he hpl) fun σ H Q ⟨Z, g, q⟩ => ⟨Z, g, fun vs H1 g1 x1 d1 => sp Z H1 σ vs Q g1 d1 fun w H2 g2 x2 d2 => q w H2 g2 (x1.trans x2) d2⟩
theorem e_callTy (hc : CallR X (.type Ty) r) (sp : Cl1 T X.K Γ r ma m ds dc) (hg : Gl X x) (hm : X.mg x = none) (hv : bootBuiltins x = some (.type Ty)) (ha : AD T X ma Γ (a :: es') ds) (hn : x ≠ "__name__" := by decide) (hdb : (x == ("__debug__" : Str)) = false := by decide)
    (he : starEach (a :: es') X.env = (false, eval a X.env) :: starEach es' X.env := by rfl) (hpl : (backTo pos (starEach es' X.env)).any (·.1) = false := by rfl) : ED T X m Γ (.Call (.Name x p) (a :: es') [] pos) dc :=
  PE.imp' (pe_callTy hc hg hm hv ha hn hdb he hpl) fun σ H Q ⟨Z, g, q⟩ => ⟨Z, g, fun vs H1 g1 x1 d1 => sp Z H1 σ vs Q g1 d1 fun w H2 g2 x2 d2 => q w H2 g2 (x1.trans x2) d2⟩
theorem a_one {ma : Bool} (h : ED T X ma Γ a da) (hs : starEach [a] X.env = (false, eval a X.env) :: starEach [] X.env := by rfl) : AD T X ma Γ [a] [da] := a_cons h a_nil hs
theorem a_two {ma : Bool} (h : ED T X ma Γ a da) (h2 : ED T X ma Γ b db) (hs2 : starEach [b] X.env = (false, eval b X.env) :: starEach [] X.env := by rfl) (hs : starEach [a, b] X.env = (false, eval a X.env) :: starEach [b] X.env := by rfl) : AD T X ma Γ [a, b] [da, db] := a_cons h (a_cons h2 a_nil hs2) hs
/-- len -/
theorem e_lenL (hm : X.mg "len" = none) (h : ED T X false Γ a (.lst ds)) (hg : Gl X "len" := by rfl) (hs : starEach [a] X.env = (false, eval a X.env) :: starEach [] X.env := by rfl) : ED T X m Γ (.Call (.Name "len" p) [a] [] pos) (.int ds.length) :=
  e_callB call_len_seq (fun Z H σ vs Q g d1 q => by
    cases d1 with
    | cons h1 h2 =>
      cases h2
      cases h1 with
      | lst e1 e2 => exact ⟨_, _, rfl, .inl (SqL.of (g.sub _ _ e1)), by rw [e2.length]; exact q _ H g (Ext.refl H) (.int _)⟩) hg hm PySem.boot_len (a_one h hs) (he := hs)
theorem e_lenScr {ns : List Int} (hm : X.mg "len" = none) (h : ED T X false Γ a (.scr ns)) (hg : Gl X "len" := by rfl) (hs : starEach [a] X.env = (false, eval a X.env) :: starEach [] X.env := by rfl) : ED T X m Γ (.Call (.Name "len" p) [a] [] pos) (.int ns.length) :=
  e_callB call_len_seq (fun Z H σ vs Q g d1 q => by
    cases d1 with
    | cons h1 h2 =>
      cases h2
      cases h1 with
      | scr _ hs => exact ⟨_, _, rfl, .inl (SqL.mono g.sub hs), by rw [List.length_map]; exact q _ H g (Ext.refl H) (.int _)⟩) hg hm PySem.boot_len (a_one h hs) (he := hs)
theorem e_lenT (hm : X.mg "len" = none) (h : ED T X false Γ a (.tup ds)) (hg : Gl X "len" := by rfl) (hs : starEach [a] X.env = (false, eval a X.env) :: starEach [] X.env := by rfl) : ED T X m Γ (.Call (.Name "len" p) [a] [] pos) (.int ds.length) :=
  e_callB call_len_seq (fun Z H σ vs Q g d1 q => by
    cases d1 with
    | cons h1 h2 =>
      cases h2
      cases h1 with
      | tup e1 e2 => exact ⟨_, _, rfl, .inr (SqT.of (g.sub _ _ e1)), by rw [e2.length]; exact q _ H g (Ext.refl H) (.int _)⟩) hg hm PySem.boot_len (a_one h hs) (he := hs)
theorem e_lenS {z : Str} (hm : X.mg "len" = none) (h : ED T X true Γ a (.str z)) (hg : Gl X "len" := by rfl) (hs : starEach [a] X.env = (false, eval a X.env) :: starEach [] X.env := by rfl) : ED T X m Γ (.Call (.Name "len" p) [a] [] pos) (.int z.length) :=
  e_callB call_len_str (fun Z H σ vs Q g d1 q => by
    cases d1 with
    | cons h1 h2 =>
      cases h2
      cases h1 with
      | str _ s1 => exact ⟨_, rfl, by rw [sizeLine_eq]; have := s1.2; omega, q _ H g (Ext.refl H) (.int _)⟩) hg hm PySem.boot_len (a_one h hs) (he := hs)
/-- all, any of a list of bools -/
theorem e_all {bs : List Bool} (hm : X.mg "all" = none) (h : ED T X false Γ a (.lst (bs.map D.bl))) (hc : X.calm = true := by rfl) (hg : Gl X "all" := by rfl) (hs : starEach [a] X.env = (false, eval a X.env) :: starEach [] X.env := by rfl) : ED T X m Γ (.Call (.Name "all" p) [a] [] pos) (.bl (bs.all fun z => z)) :=
  e_callB (cr_all hc) (fun Z H σ vs Q g d1 q => by
    cases d1 with
    | cons h1 h2 =>
      cases h2
      cases h1 with
      | lst e1 e2 =>
        have ev := e2.bls
        subst ev
        exact ⟨_, bs, rfl, SqL.of (g.sub _ _ e1), q _ H g (Ext.refl H) (.bl _)⟩) hg hm (by decide +kernel) (a_one h hs) (he := hs)
theorem e_any {bs : List Bool} (hm : X.mg "any" = none) (h : ED T X false Γ a (.lst (bs.map D.bl))) (hc : X.calm = true := by rfl) (hg : Gl X "any" := by rfl) (hs : starEach [a] X.env = (false, eval a X.env) :: starEach [] X.env := by rfl) : ED T X m Γ (.Call (.Name "any" p) [a] [] pos) (.bl (bs.any fun z => z)) :=
  e_callB (cr_any hc) (fun Z H σ vs Q g d1 q => by
    cases d1 with
    | cons h1 h2 =>
      cases h2
      cases h1 with
      | lst e1 e2 =>
        have ev := e2.bls
        subst ev
        exact ⟨_, bs, rfl, SqL.of (g.sub _ _ e1), q _ H g (Ext.refl H) (.bl _)⟩) hg hm (by decide +kernel) (a_one h hs) (he := hs)
theorem e_min2 {i j : Int} (hm : X.mg "min" = none) (h : ED T X true Γ a (.int i)) (h2 : ED T X true Γ b (.int j)) (hc : X.calm = true := by rfl) (hg : Gl X "min" := by rfl) (hs2 : starEach [b] X.env = (false, eval b X.env) :: starEach [] X.env := by rfl) (hs : starEach [a, b] X.env = (false, eval a X.env) :: starEach [b] X.env := by rfl) (hpl : (backTo pos (starEach [b] X.env)).any (·.1) = false := by rfl) :
    ED T X m Γ (.Call (.Name "min" p) [a, b] [] pos) (.int (if j < i then j else i)) :=
  e_callB (call_min2 hc) (fun Z H σ vs Q g d1 q => by
    cases d1 with
    | cons h1 h2 =>
      cases h2 with
      | cons h2 h3 =>
        cases h3
        cases h1
        cases h2
        exact ⟨_, _, rfl, q _ H g (Ext.refl H) (.int _)⟩) hg hm (by decide +kernel) (a_two h h2 hs2 hs) (by decide) (by decide) hs hpl
theorem e_max2 {i j : Int} (hm : X.mg "max" = none) (h : ED T X true Γ a (.int i)) (h2 : ED T X true Γ b (.int j)) (hc : X.calm = true := by rfl) (hg : Gl X "max" := by rfl) (hs2 : starEach [b] X.env = (false, eval b X.env) :: starEach [] X.env := by rfl) (hs : starEach [a, b] X.env = (false, eval a X.env) :: starEach [b] X.env := by rfl) (hpl : (backTo pos (starEach [b] X.env)).any (·.1) = false := by rfl) :
    ED T X m Γ (.Call (.Name "max" p) [a, b] [] pos) (.int (if j > i then j else i)) :=
  e_callB (call_max2 hc) (fun Z H σ vs Q g d1 q => by
    cases d1 with
    | cons h1 h2 =>
      cases h2 with
      | cons h2 h3 =>
        cases h3
        cases h1
        cases h2
        exact ⟨_, _, rfl, q _ H g (Ext.refl H) (.int _)⟩) hg hm (by decide +kernel) (a_two h h2 hs2 hs) (by decide) (by decide) hs hpl
end
end DD

/-! Promises over data, sources of loops, comprehensions, statements. -/
namespace DD
open PySem PySem.Spec L2

/-! ### promises -/
def spE (T : Tb) (K : PySem.W.Frag) (R : List D → D → Prop) : Sp := fun vs H Q _ => ∃ G ds d, Same G H ∧ NoTbl G ∧ DaAll K G vs ds ∧ R ds d ∧ LamX.Tabs T H ∧ ∀ v H', Ext H H' → LamX.Tabs T H' → Da K (gr G H H') v d → Q v H'
/-- a new list comes back -/
def spL (T : Tb) (K : PySem.W.Frag) (R : List D → List D → Prop) : Sp := fun vs H Q _ => ∃ G ds es, Same G H ∧ NoTbl G ∧ DaAll K G vs ds ∧ R ds es ∧ LamX.Tabs T H ∧ ∀ p ws H', Ext H H' → LamX.Tabs T H' → H' p = none → DaAll K (gr G H H') ws es → Q (.ref p) (upd H' p (.lst ws))
/-- the function object at f -/
def KeepF (K : PySem.W.Frag) (f : Addr) (fd : FuncData) : Prop := PySem.W.keepIn K (.ref f) = true ∧ ∃ oc od osl, K.lookup f = some ⟨oc, od, .func fd, osl⟩
/-- a def that may be called -/
structure Cal (P : Program) (w : World) (K : PySem.W.Frag) (mg : Str → Option Value) (base : Heap) (x : Str) (ps : List Str) (k : Nat) (sp : Sp) : Prop where
  ex : ∃ f fd, mg x = some (.ref f) ∧ KeepF K f fd ∧ Binds K fd ps [] ∧ FnOk P w K mg base CX0 k f fd ps sp
theorem Cal.mono {P : Program} {w : World} {K : PySem.W.Frag} {mg : Str → Option Value} {base : Heap} {x : Str} {ps : List Str} {j k : Nat} {sp : Sp} (C : Cal P w K mg base x ps j sp) (h : j ≤ k) : Cal P w K mg base x ps k sp := by
  obtain ⟨f, fd, a, b, c, F⟩ := C.ex
  exact ⟨f, fd, a, b, c, F.mono h⟩

section
variable {T : Tb} {X : Cx} {Γ : Ev} {m ma mb mc : Bool} {e a b c : Expr} {d da db dc : D} {pos : Pos} {i : Nat} {x : Str} {ds es : List D} {es' : List Expr} {p : Pos} {ps : List Str} {k : Nat}
theorem rg_after {Z : Zn} {H H' : Hp} {σ : St} (g : GOk T X.K Z H σ Γ) (e : Ext H H') : Same (gr (rg m Z H Γ) H H') (rg m Z H' Γ) := fun q o h => by
  unfold gr at h
  cases r : nt H q with
  | none =>
    rw [r] at h
    have nm : ¬ (m = true ∧ q ∈ Z.ex ++ owns Γ) := fun z => by
      rcases g.own z.2 with ⟨_, e⟩ | ⟨_, e⟩ | ⟨_, e⟩ <;> (rw [nt_of e (fun ps z => by cases z)] at r; cases r)
    unfold rg
    rw [if_neg nm]
    unfold gr
    rw [g.ext.free' r]
    exact h
  | some u =>
    rw [r] at h
    by_cases t : ∃ xs, u = .tup xs
    · obtain ⟨xs, rfl⟩ := t
      have h : some (HO.tup xs) = some o := h
      cases h
      exact rg_ext e _ _ (rg_tup g (nt_some r).1)
    · have h' : rg m Z H Γ q = some o := by
        cases u <;> first | exact h | exact absurd ⟨_, rfl⟩ t
      exact rg_ext e _ _ h'
theorem e_call {R : List D → D → Prop} (C : Cal X.prog X.w X.K X.mg X.base x ps k (spE T X.K R)) (hr : Room k X.A) (h : R ds d) (ha : AD T X m Γ (a :: es') ds) (hg : Gl X x := by rfl) (hdb : (x == ("__debug__" : Str)) = false := by decide)
    (he : starEach (a :: es') X.env = (false, eval a X.env) :: starEach es' X.env := by rfl) (hpl : (backTo pos (starEach es' X.env)).any (·.1) = false := by rfl) : ED T X m Γ (.Call (.Name x p) (a :: es') [] pos) d := by
  obtain ⟨f, fd, hm, hk, hb, F⟩ := C.ex
  refine PE.imp' (pe_call F hr hg hm hk.1 hb .nil pass0 ha hdb he hpl) fun σ H Q ⟨Z, g, q⟩ => ⟨Z, g, fun vs H1 g1 x1 d1 => ?_⟩
  dsimp only
  rw [List.append_nil]
  exact ⟨rg m Z H1 Γ, ds, d, g1.sub, rg_noTbl g1, d1, h, g1.tab, fun v H2 x2 t2 d2 => q v H2 (g1.to x2 t2) (x1.trans x2) (d2.to (rg_after g1 x2))⟩
theorem l_call {R : List D → List D → Prop} (C : Cal X.prog X.w X.K X.mg X.base x ps k (spL T X.K R)) (hr : Room k X.A) (h : R ds es) (ha : AD T X true Γ (a :: es') ds) (hg : Gl X x := by rfl) (hdb : (x == ("__debug__" : Str)) = false := by decide)
    (he : starEach (a :: es') X.env = (false, eval a X.env) :: starEach es' X.env := by rfl) (hpl : (backTo pos (starEach es' X.env)).any (·.1) = false := by rfl) : LD T X Γ (.Call (.Name x p) (a :: es') [] pos) es := by
  obtain ⟨f, fd, hm, hk, hb, F⟩ := C.ex
  refine PE.imp' (pe_call F hr hg hm hk.1 hb .nil pass0 ha hdb he hpl) fun σ H Q ⟨Z, g, q⟩ => ⟨Z, g, fun vs H1 g1 x1 d1 => ?_⟩
  dsimp only
  rw [List.append_nil]
  exact ⟨rg true Z H1 Γ, ds, es, g1.sub, rg_noTbl g1, d1, h, g1.tab, fun r ws H2 x2 t2 hr2 d2 => q r ws H2 (g1.to x2 t2) (x1.trans x2) hr2 (d2.to (rg_after g1 x2))⟩
/-- the same, what comes back is without lists: the arguments may be owned -/
theorem l_callI {R : List D → List D → Prop} (C : Cal X.prog X.w X.K X.mg X.base x ps k (spL T X.K R)) (hr : Room k X.A) (h : R ds es) (hi : immAll es = true) (ha : AD T X false Γ (a :: es') ds) (hg : Gl X x := by rfl) (hdb : (x == ("__debug__" : Str)) = false := by decide)
    (he : starEach (a :: es') X.env = (false, eval a X.env) :: starEach es' X.env := by rfl) (hpl : (backTo pos (starEach es' X.env)).any (·.1) = false := by rfl) : LD T X Γ (.Call (.Name x p) (a :: es') [] pos) es := by
  obtain ⟨f, fd, hm, hk, hb, F⟩ := C.ex
  refine PE.imp' (pe_call F hr hg hm hk.1 hb .nil pass0 ha hdb he hpl) fun σ H Q ⟨Z, g, q⟩ => ⟨Z, g, fun vs H1 g1 x1 d1 => ?_⟩
  dsimp only
  rw [List.append_nil]
  exact ⟨rg false Z H1 Γ, ds, es, g1.sub, rg_noTbl g1, d1, h, g1.tab, fun r ws H2 x2 t2 hr2 d2 => q r ws H2 (g1.to x2 t2) (x1.trans x2) hr2 (DaAll.imm (rg_tups (g1.to x2 t2)) es _ hi (d2.to (rg_after g1 x2)))⟩
end

/-! ### what is walked -/
/-- at turn i < n the target takes the i-th item: the environment is up i Γ -/
structure Stp (T : Tb) (K : PySem.W.Frag) (J : It) (g : TG) (n : Nat) (js : List Nat) (up : Nat → Ev → Ev) (Good : Zn → Hp → Ev → Prop) : Prop where
  stop : ∀ Z H σ Γ, GOk T K Z H σ Γ → Good Z H Γ → J.stop n H
  turn : ∀ Z i H σ Γ, i < n → GOk T K Z H σ Γ → Good Z H Γ → (∀ j ∈ js, j < Γ.length) → J.go i H ∧ ∀ v H', J.yld i H v H' → ∀ Q : St → Hp → Prop,
    (∀ σ2 H2, GOk T K Z H2 σ2 (up i Γ) → Ext H H2 → (∀ vs, (∀ j ∈ js, j ∈ vs) → wipe σ2 vs = wipe σ vs) → Q σ2 H2) → g v σ H' Q
def tSrc (T : Tb) (K : PySem.W.Frag) (Γ : Ev) (g : TG) (n : Nat) (js : List Nat) (up : Nat → Ev → Ev) (Keep : Ev → Prop) : TI := fun σ H R => ∃ Z, GOk T K Z H σ Γ ∧ ∀ J Good H1, GOk T K Z H1 σ Γ → Ext H H1 → Stp T K J g n js up Good →
  (∀ Z2 H2 σ2 Γ2, GOk T K Z2 H2 σ2 Γ2 → Same (rg true Z H1 Γ) Z2.B → Keep Γ2 → Ext H1 H2 ∨ True → Good Z2 H2 Γ2) → R J H1
theorem PI.imp' {X : Cx} {tg iter : Expr} {t t' : TI} (h : PI X tg iter t) (w : ∀ σ H R, t' σ H R → t σ H R) : PI X tg iter t' := ⟨fun pins s σ H R I q => h.run pins s σ H R I (w σ H R q)⟩
theorem wipe_set1 {σ : St} {j : Nat} {v : Option V} : ∀ {vs : List Nat}, j ∈ vs → wipe (σ.set j v) vs = wipe σ vs
  | [], h => by simp at h
  | u :: vs, h => by
    by_cases hj : j ∈ vs
    · unfold wipe
      rw [wipe_set1 hj]
    · have e : j = u := by
        rcases List.mem_cons.mp h with z | z
        · exact z
        · exact absurd z hj
      subst e
      have key : ∀ vs : List Nat, j ∉ vs → wipe (σ.set j v) vs = (wipe σ vs).set j v := by
        intro vs
        induction vs with
        | nil => intro _; rfl
        | cons u vs ih =>
          intro hn
          simp only [List.mem_cons, not_or] at hn
          unfold wipe
          rw [ih hn.2, List.set_comm _ _ hn.1]
      unfold wipe
      rw [key vs hj, List.set_set]
abbrev upN (j : Nat) (it : Nat → D) : Nat → Ev → Ev := fun i Γ => Γ.set j (some (.sh (it i)))
abbrev upN2 (j1 j2 : Nat) (it1 it2 : Nat → D) : Nat → Ev → Ev := fun i Γ => (Γ.set j1 (some (.sh (it1 i)))).set j2 (some (.sh (it2 i)))
/-- the list at a tells ds -/
def GoodL (K : PySem.W.Frag) (a : Addr) (ds : List D) : Zn → Hp → Ev → Prop := fun Z H Γ => ∃ vs, H a = some (.lst vs) ∧ DaAll K (rg true Z H Γ) vs ds
section
variable {T : Tb} {X : Cx} {Γ : Ev} {e : Expr} {ds es : List D} {tg : Expr} {j j1 j2 : Nat}
theorem stp_list {K : PySem.W.Frag} {a : Addr} : Stp T K (Itl K a) (gName j) ds.length [j] (upN j fun i => ds.getD i .non) (GoodL K a ds) where
  stop := fun Z H σ Γ g ⟨vs, e1, e2⟩ => ⟨vs, SqL.of e1, by rw [e2.length]; exact Nat.le_refl _⟩
  turn := fun Z i H σ Γ hi g ⟨vs, e1, e2⟩ hj => by
    have hl := e2.length
    have hv : i < vs.length := by omega
    refine ⟨⟨vs, vs[i], SqL.of e1, by simp [hv]⟩, fun v H' y Q q => ?_⟩
    obtain ⟨rfl, y⟩ := y
    have hx := y vs (SqL.of e1)
    obtain ⟨d, hd, h⟩ := e2.get' hx
    have ed : ds.getD i .non = d := by simp [List.getD, hd]
    refine q _ _ (g.set (hj j (by simp)) (by dsimp only; rw [ed]; exact h)) (Ext.refl _) fun vs hvs => wipe_set1 (hvs j (by simp))
/-- a stable list -/
theorem src_list (h : ED T X true Γ e (.lst ds)) : PI X tg e (tSrc T X.K Γ (gName j) ds.length [j] (upN j fun i => ds.getD i .non) fun _ => True) :=
  PI.imp' (pi_list h) fun σ H R ⟨Z, g, q⟩ => ⟨Z, g, fun v H1 g1 x1 d1 => by
    cases d1 with
    | lst e1 e2 =>
      exact ⟨_, rfl, ⟨_, SqL.of (g1.sub _ _ e1)⟩, q _ (GoodL X.K _ ds) H1 g1 x1 stp_list fun Z2 H2 σ2 Γ2 g2 sm _ _ => ⟨_, g2.sub _ _ (g2.base _ _ (sm _ _ e1)), (e2.to sm).to g2.base⟩⟩⟩
/-- an owned list that the loop leaves as it is -/
theorem src_own {i : Nat} {p : Addr} {x : Str} {pos : Pos} (hi : Γ[i]? = some (some (.ow p (.lst ds)))) (hN : X.N[i]? = some x := by rfl) (hv : Vis X.env.scope x := by first | exact Or.inl rfl | exact Or.inr (Or.inl rfl) | exact Or.inr (Or.inr rfl)) (hd : (x == ("__debug__" : Str)) = false := by decide)
    (hcd : (x == ("__classdict__" : Str)) = false := by decide) : PI X tg (.Name x pos) (tSrc T X.K Γ (gName j) ds.length [j] (upN j fun i => ds.getD i .non) fun Γ2 => Γ2[i]? = some (some (.ow p (.lst ds)))) :=
  PI.imp' (pi_list (pe_var hN hv hd hcd)) fun σ H R ⟨Z, g, q⟩ => by
    obtain ⟨v, e, rfl, vs, e1, e2⟩ := g.slots i _ hi
    exact ⟨_, e, _, rfl, ⟨vs, SqL.of e1⟩, q _ (GoodL X.K _ ds) H g (Ext.refl H) stp_list fun Z2 H2 σ2 Γ2 g2 sm kp _ => by
      obtain ⟨v, e, _, vs, e1, e2⟩ := g2.slots i _ kp
      exact ⟨vs, e1, e2⟩⟩
/-- a new list that nothing else tells -/
theorem src_new (h : LD T X Γ e ds) : PI X tg e (tSrc T X.K Γ (gName j) ds.length [j] (upN j fun i => ds.getD i .non) fun _ => True) := src_list (e_of_l h)
theorem stp_range {K : PySem.W.Frag} {lo : Int} {n : Nat} : Stp T K (Itr lo n) (gName j) n [j] (upN j fun i => .int (lo + i)) fun _ _ _ => True where
  stop := fun Z H σ Γ g _ => Nat.le_refl n
  turn := fun Z i H σ Γ hi g _ hj => ⟨hi, fun v H' y Q q => by
    obtain ⟨rfl, rfl⟩ := y
    exact q _ _ (g.set (hj j (by simp)) (.int _)) (Ext.refl _) fun vs hvs => wipe_set1 (hvs j (by simp))⟩
theorem src_range {n : Int} {a : Expr} {p pos : Pos} (hm : X.mg "range" = none) (h1 : -(2 ^ 62) ≤ n) (h2 : n < 2 ^ 62) (h : ED T X true Γ a (.int n)) (hg : Gl X "range" := by rfl) (hs : starEach [a] X.env = [(false, eval a X.env)] := by rfl) :
    PI X tg (.Call (.Name "range" p) [a] [] pos) (tSrc T X.K Γ (gName j) n.toNat [j] (upN j fun i => .int (0 + i)) fun _ => True) :=
  PI.imp' (pi_range1 hg hm (a_one h hs) hs) fun σ H R ⟨Z, g, q⟩ => ⟨Z, g, fun vs H1 g1 x1 d1 => by
    cases d1 with
    | cons h1' h2' =>
      cases h2'
      cases h1'
      exact ⟨n, rfl, h1, h2, q _ (fun _ _ _ => True) H1 g1 x1 stp_range fun _ _ _ _ _ _ _ _ => trivial⟩⟩
theorem stp_str {K : PySem.W.Frag} {z : Str} (hz : SOk z) : Stp T K (Its z) (gName j) z.cps.size [j] (upN j fun i => .str ⟨#[z.cps.toList.getD i 0]⟩) fun _ _ _ => True where
  stop := fun Z H σ Γ g _ => Nat.le_refl _
  turn := fun Z i H σ Γ hi g _ hj => ⟨hi, fun v H' y Q q => by
    obtain ⟨rfl, c, hc, rfl⟩ := y
    have ec : z.cps.toList.getD i 0 = c := by
      rw [List.getD_eq_getElem?_getD, Array.getElem?_toList, hc]
      rfl
    have hm : c ∈ z.cps.toList := by
      rw [← Array.getElem?_toList] at hc
      exact List.mem_of_getElem? hc
    refine q _ _ (g.set (hj j (by simp)) ?_) (Ext.refl _) fun vs hvs => wipe_set1 (hvs j (by simp))
    show Da K _ _ (.str ⟨#[z.cps.toList.getD i 0]⟩)
    rw [ec]
    exact .str _ (hz.sign hm)⟩
theorem src_str {z : Str} (hz : SOk z) (h : ED T X true Γ e (.str z)) : PI X tg e (tSrc T X.K Γ (gName j) z.cps.size [j] (upN j fun i => .str ⟨#[z.cps.toList.getD i 0]⟩) fun _ => True) :=
  PI.imp' (pi_str h) fun σ H R ⟨Z, g, q⟩ => ⟨Z, g, fun v H1 g1 x1 d1 => by
    cases d1 with
    | str _ s1 => exact ⟨z, rfl, q _ (fun _ _ _ => True) H1 g1 x1 (stp_str hz) fun _ _ _ _ _ _ _ _ => trivial⟩⟩
/-! two names at once -/
abbrev g2 (K : PySem.W.Frag) (j1 j2 : Nat) : TG := gTup K 2 (gCons (gName j1) (gCons (gName j2) gNil))
theorem take_pair {K : PySem.W.Frag} {Z : Zn} {H : Hp} {σ : St} {Γ : Ev} {t : Addr} {v u : V} {d1 d2 : D} {Q : St → Hp → Prop} (g : GOk T K Z H σ Γ) (ht : SqT K H t [v, u]) (h1 : Da K (rg true Z H Γ) v d1) (h2 : Da K (rg true Z H Γ) u d2) (l1 : j1 < Γ.length) (l2 : j2 < Γ.length)
    (q : ∀ σ2, GOk T K Z H σ2 ((Γ.set j1 (some (.sh d1))).set j2 (some (.sh d2))) → (∀ vs, (∀ j ∈ [j1, j2], j ∈ vs) → wipe σ2 vs = wipe σ vs) → Q σ2 H) : g2 K j1 j2 (.ref t) σ H Q := by
  have g1 := g.set l1 h1
  have sub := owns_drop Γ j1 (some (.sh d1)) (fun p d z => by cases z)
  have g2 := g1.set (d := d2) (v := u) (by rw [List.length_set]; exact l2) (h2.to (rg_less fun p hp => sub.subset hp))
  refine ⟨t, [v, u], rfl, ht, rfl, v, [u], rfl, u, [], rfl, rfl, q _ g2 fun vs hvs => ?_⟩
  rw [wipe_set1 (hvs j2 (by simp)), wipe_set1 (hvs j1 (by simp))]
/-- enumerate -/
theorem stp_enum {K : PySem.W.Frag} {a : Addr} : Stp T K (Ite K a) (g2 K j1 j2) ds.length [j1, j2] (upN2 j1 j2 (fun i => .int (i : Nat)) fun i => ds.getD i .non) (GoodL K a ds) where
  stop := fun Z H σ Γ g ⟨vs, e1, e2⟩ => ⟨vs, SqL.of e1, by rw [e2.length]; exact Nat.le_refl _⟩
  turn := fun Z i H σ Γ hi g ⟨vs, e1, e2⟩ hj => by
    have hl := e2.length
    have hv : i < vs.length := by omega
    refine ⟨⟨vs, vs[i], SqL.of e1, by simp [hv]⟩, fun v H' y Q q => ?_⟩
    obtain ⟨t, x, rfl, ht, rfl, y⟩ := y
    have hx := y vs (SqL.of e1)
    obtain ⟨d, hd, h⟩ := e2.get' hx
    have ed : ds.getD i .non = d := by simp [List.getD, hd]
    refine take_pair (g.new ht) (SqT.of upd_same) (.int _) (h.to (rg_ext (Ext.upd ht))) (hj j1 (by simp)) (hj j2 (by simp)) fun σ2 g2 hw => q σ2 _ ?_ (Ext.upd ht) hw
    show GOk T K Z _ σ2 ((Γ.set j1 (some (.sh (.int (i : Nat))))).set j2 (some (.sh (ds.getD i .non))))
    rw [ed]
    exact g2
variable {elts : List Expr} {kk : Nat} {tpos p pos : Pos}
theorem src_enum {a : Expr} (hm : X.mg "enumerate" = none) (h : ED T X true Γ a (.lst ds)) (hg : Gl X "enumerate" := by rfl) (hs : starEach [a] X.env = [(false, eval a X.env)] := by rfl) :
    PI X (.Tuple elts kk tpos) (.Call (.Name "enumerate" p) [a] [] pos) (tSrc T X.K Γ (g2 X.K j1 j2) ds.length [j1, j2] (upN2 j1 j2 (fun i => .int (i : Nat)) fun i => ds.getD i .non) fun _ => True) :=
  PI.imp' (pi_enum hg hm (a_one h hs) hs) fun σ H R ⟨Z, g, q⟩ => ⟨Z, g, fun vs H1 g1 x1 d1 => by
    cases d1 with
    | cons h1 h2 =>
      cases h2
      cases h1 with
      | lst e1 e2 =>
        exact ⟨_, _, rfl, SqL.of (g1.sub _ _ e1), q _ (GoodL X.K _ ds) H1 g1 x1 stp_enum fun Z2 H2 σ2 Γ2 g2 sm _ _ => ⟨_, g2.sub _ _ (g2.base _ _ (sm _ _ e1)), (e2.to sm).to g2.base⟩⟩⟩
/-- zip of two lists of one length -/
theorem stp_zip {K : PySem.W.Frag} {a b : Addr} (hl : ds.length = es.length) : Stp T K (Itz K a b) (g2 K j1 j2) ds.length [j1, j2] (upN2 j1 j2 (fun i => ds.getD i .non) fun i => es.getD i .non) (fun Z H Γ => GoodL K a ds Z H Γ ∧ GoodL K b es Z H Γ) where
  stop := fun Z H σ Γ g ⟨⟨vs, e1, e2⟩, ⟨ws, f1, f2⟩⟩ => ⟨vs, ws, SqL.of e1, SqL.of f1, .inl (by rw [e2.length]; exact Nat.le_refl _)⟩
  turn := fun Z i H σ Γ hi g ⟨⟨vs, e1, e2⟩, ⟨ws, f1, f2⟩⟩ hj => by
    have l1 := e2.length
    have l2 := f2.length
    have hv : i < vs.length := by omega
    have hw : i < ws.length := by omega
    refine ⟨⟨vs, ws, vs[i], ws[i], SqL.of e1, SqL.of f1, by simp [hv], by simp [hw]⟩, fun v H' y Q q => ?_⟩
    obtain ⟨t, x, u, rfl, ht, rfl, y1, y2⟩ := y
    obtain ⟨d, hd, h⟩ := e2.get' (y1 vs (SqL.of e1))
    obtain ⟨d', hd', h'⟩ := f2.get' (y2 ws (SqL.of f1))
    have ed : ds.getD i .non = d := by simp [List.getD, hd]
    have ed' : es.getD i .non = d' := by simp [List.getD, hd']
    refine take_pair (g.new ht) (SqT.of upd_same) (h.to (rg_ext (Ext.upd ht))) (h'.to (rg_ext (Ext.upd ht))) (hj j1 (by simp)) (hj j2 (by simp)) fun σ2 g2 hw => q σ2 _ ?_ (Ext.upd ht) hw
    show GOk T K Z _ σ2 ((Γ.set j1 (some (.sh (ds.getD i .non)))).set j2 (some (.sh (es.getD i .non))))
    rw [ed, ed']
    exact g2
theorem src_zip {a b : Expr} (hm : X.mg "zip" = none) (hl : ds.length = es.length) (ha : ED T X true Γ a (.lst ds)) (hb : ED T X true Γ b (.lst es)) (hg : Gl X "zip" := by rfl) (hs2 : starEach [b] X.env = (false, eval b X.env) :: starEach [] X.env := by rfl)
    (hs : starEach [a, b] X.env = (false, eval a X.env) :: starEach [b] X.env := by rfl) (hpl : (backTo pos (starEach [b] X.env)).any (·.1) = false := by rfl) :
    PI X (.Tuple elts kk tpos) (.Call (.Name "zip" p) [a, b] [] pos) (tSrc T X.K Γ (g2 X.K j1 j2) ds.length [j1, j2] (upN2 j1 j2 (fun i => ds.getD i .non) fun i => es.getD i .non) fun _ => True) :=
  PI.imp' (pi_zip hg hm (a_two ha hb hs2 hs) hs hpl) fun σ H R ⟨Z, g, q⟩ => ⟨Z, g, fun vs H1 g1 x1 d1 => by
    cases d1 with
    | cons h1 h2 =>
      cases h2 with
      | cons h2 h3 =>
        cases h3
        cases h1 with
        | lst e1 e2 =>
          cases h2 with
          | lst f1 f2 =>
            exact ⟨_, _, _, _, rfl, SqL.of (g1.sub _ _ e1), SqL.of (g1.sub _ _ f1), q _ (fun Z H Γ => GoodL X.K _ ds Z H Γ ∧ GoodL X.K _ es Z H Γ) H1 g1 x1 (stp_zip hl) fun Z2 H2 σ2 Γ2 g2 sm _ _ =>
              ⟨⟨_, g2.sub _ _ (g2.base _ _ (sm _ _ e1)), (e2.to sm).to g2.base⟩, ⟨_, g2.sub _ _ (g2.base _ _ (sm _ _ f1)), (f2.to sm).to g2.base⟩⟩⟩⟩
end

/-! ### list comprehensions -/
def minus (H : Hp) (p : Addr) : Hp := fun a => if a = p then none else H a
theorem minus_same {H : Hp} {p : Addr} : minus H p p = none := by unfold minus; rw [if_pos rfl]
theorem minus_ne {H : Hp} {p a : Addr} (h : a ≠ p) : minus H p a = H a := by unfold minus; rw [if_neg h]
theorem upd_minus {H : Hp} {p : Addr} {o : HO} (h : H p = some o) : upd (minus H p) p o = H := by
  funext a
  by_cases e : a = p
  · subst e; rw [upd_same, h]
  · rw [upd_ne e, minus_ne e]
theorem ext_minus {H H' : Hp} {p : Addr} (e : Ext H H') (h : nt H p = none) : Ext H (minus H' p) :=
  ⟨fun b o q n => by
    rw [minus_ne (fun z => by subst z; rw [nt_of q n] at h; cases h)]
    exact e.1 b o q n, trivial⟩
theorem nt_minus {H : Hp} {p a : Addr} (h : a ≠ p) : nt (minus H p) a = nt H a := by
  unfold nt
  rw [minus_ne h]
theorem tabs_minus {T : Tb} {H : Hp} {p : Addr} {xs : List V} (t : LamX.Tabs T H) (h : H p = some (.lst xs)) : LamX.Tabs T (minus H p) := fun q hq => by
  obtain ⟨ps, h1, h2, h3⟩ := t q hq
  refine ⟨ps, by rw [minus_ne (fun z => by rw [z, h] at h1; cases h1)]; exact h1, h2, fun pos cv hc => ?_⟩
  obtain ⟨c, e1, e2⟩ := h3 pos cv hc
  exact ⟨c, e1, by rw [minus_ne (fun z => by rw [z, h] at e2; unfold LamX.CodeO at e2; cases e2)]; exact e2⟩
def wipeE : Ev → List Nat → Ev
  | Γ, [] => Γ
  | Γ, v :: vs => (wipeE Γ vs).set v none
theorem wipeE_len : ∀ (Γ : Ev) (vs : List Nat), (wipeE Γ vs).length = Γ.length
  | _, [] => rfl
  | Γ, v :: vs => by unfold wipeE; rw [List.length_set, wipeE_len Γ vs]
theorem GOk.setNone {T : Tb} {K : PySem.W.Frag} {Z : Zn} {H : Hp} {σ : St} {Γ : Ev} (g : GOk T K Z H σ Γ) (i : Nat) (v : Option V) : GOk T K Z H (σ.set i v) (Γ.set i none) := by
  have sub := owns_drop Γ i none (fun p d z => by cases z)
  have sm : Same (rg true Z H Γ) (rg true Z H (Γ.set i none)) := rg_less fun p hp => sub.subset hp
  refine ⟨g.g0, g.gt, g.ext, g.tab, g.nd.sublist (List.Sublist.append (List.Sublist.refl _) sub), fun p hp => g.old p ((List.Sublist.append (List.Sublist.refl Z.ex) sub).subset hp), g.exl,
    by rw [List.length_set, List.length_set]; exact g.len, fun j s e => ?_, g.base.trans sm⟩
  by_cases hj : i = j
  · subst hj
    by_cases hi : i < Γ.length
    · rw [List.getElem?_set_self hi] at e
      cases e
    · rw [List.getElem?_eq_none (by rw [List.length_set]; omega)] at e
      cases e
  · rw [List.getElem?_set_ne hj] at e
    obtain ⟨u, q1, q2⟩ := g.slots j s e
    exact ⟨u, by rw [List.getElem?_set_ne hj]; exact q1, q2.mono sm (Ext.refl H)⟩
theorem GOk.wiped {T : Tb} {K : PySem.W.Frag} {Z : Zn} {H : Hp} {σ : St} {Γ : Ev} (g : GOk T K Z H σ Γ) : ∀ vs : List Nat, GOk T K Z H (wipe σ vs) (wipeE Γ vs)
  | [] => g
  | v :: vs => by
    unfold L2.wipe wipeE
    exact (g.wiped vs).setNone v none
/-- the list under construction at D is set apart -/
theorem GOk.apart {T : Tb} {K : PySem.W.Frag} {Z : Zn} {H : Hp} {σ : St} {Γ Γw : Ev} {vs : List Nat} {D : Addr} (g : GOk T K Z H σ Γ) (hD : H D = none) (hw : Γw = wipeE Γ vs) (ho : owns Γw = owns Γ) :
    GOk T K { Z with ex := D :: Z.ex, B := rg true Z H Γ } (upd H D (.lst [])) (wipe σ vs) Γw := by
  have g1 : GOk T K Z H (wipe σ vs) Γw := by rw [hw]; exact g.wiped vs
  have nD : D ∉ Z.ex ++ owns Γw := fun z => g1.ownSome z hD
  have er : ∀ a, a ≠ D → rg true { Z with ex := D :: Z.ex, B := rg true Z H Γ } (upd H D (.lst [])) Γw a = rg true Z H Γw a := fun a ha => by
    unfold rg
    have e1 : (a ∈ D :: Z.ex ++ owns Γw) ↔ a ∈ Z.ex ++ owns Γw := by simp [ha]
    by_cases hm : a ∈ Z.ex ++ owns Γw
    · rw [if_pos ⟨rfl, e1.mpr hm⟩, if_pos ⟨rfl, hm⟩]
    · rw [if_neg (fun z => hm (e1.mp z.2)), if_neg (fun z => hm z.2)]
      unfold gr
      cases q : nt Z.H0 a with
      | none => exact nt_upd ha
      | some u => cases u <;> rfl
  have sm : Same (rg true Z H Γw) (rg true { Z with ex := D :: Z.ex, B := rg true Z H Γ } (upd H D (.lst [])) Γw) := fun a o e => by
    rw [er a (fun z => by
      have e' := rg_gr _ _ e
      rw [z, rg_none g hD] at e'
      cases e')]
    exact e
  refine ⟨g.g0, g.gt, g.ext.trans (Ext.upd hD), g.tab.ext (same_upd hD), ?_, ?_, ?_, g1.len, fun i s e => ?_, ?_⟩
  · show (D :: (Z.ex ++ owns Γw)).Nodup
    exact List.nodup_cons.mpr ⟨nD, g1.nd⟩
  · intro p hp
    rcases List.mem_cons.mp (show p ∈ D :: (Z.ex ++ owns Γw) from hp) with z | z
    · rw [z]; exact g.ext.free hD
    · exact g1.old p z
  · intro p hp
    rcases List.mem_cons.mp hp with z | z
    · exact ⟨[], by rw [z, upd_same]⟩
    · obtain ⟨xs, q⟩ := g.exl p z
      exact ⟨xs, by rw [upd_ne (ne_of_none q hD)]; exact q⟩
  · obtain ⟨v, q1, q2⟩ := g1.slots i s e
    exact ⟨v, q1, q2.mono sm (Ext.upd hD)⟩
  · have s1 : Same (rg true Z H Γ) (rg true Z H Γw) := rg_less fun p hp => by rw [ho] at hp; exact hp
    exact s1.trans sm
theorem GOk.grow {T : Tb} {K : PySem.W.Frag} {Z : Zn} {H : Hp} {σ : St} {Γ : Ev} {D : Addr} {xs ys : List V} (g : GOk T K Z H σ Γ) (hm : D ∈ Z.ex) (h : H D = some (.lst xs)) : GOk T K Z (upd H D (.lst ys)) σ Γ := by
  have hm' : D ∈ Z.ex ++ owns Γ := List.mem_append_left _ hm
  obtain ⟨nd1, nd2, nd3⟩ := List.nodup_append.mp g.nd
  have er := rg_upd_own (H := H) (o := .lst ys) hm'
  refine ⟨g.g0, g.gt, ext_upd_new g.ext (g.old D hm'), tabs_upd g.tab (.inl ⟨xs, h⟩), g.nd, g.old, fun p hp => ?_, g.len, fun i s e => ?_, by rw [er]; exact g.base⟩
  · by_cases z : p = D
    · exact ⟨ys, by rw [z, upd_same]⟩
    · obtain ⟨zs, q⟩ := g.exl p hp
      exact ⟨zs, by rw [upd_ne z]; exact q⟩
  · obtain ⟨v, q1, q2⟩ := g.slots i s e
    refine ⟨v, q1, ?_⟩
    rw [er]
    cases s with
    | sh d => exact q2
    | ow r d2 =>
      obtain ⟨a1, a2⟩ := q2
      have hrp : r ≠ D := fun z => nd3 D hm r (mem_owns.mpr ⟨i, _, e⟩) z.symm
      exact ⟨a1, a2.to (Same.refl _) fun o e1 _ => by rw [upd_ne hrp]; exact e1⟩
/-- what a comprehension keeps of the first i items -/
def compD (keep : Nat → Bool) (val : Nat → D) (i : Nat) : List D := ((List.range i).filter keep).map val
theorem compD_succ (keep : Nat → Bool) (val : Nat → D) (i : Nat) : compD keep val (i + 1) = if keep i = true then compD keep val i ++ [val i] else compD keep val i := by
  unfold compD
  rw [List.range_succ, List.filter_append, List.map_append]
  by_cases h : keep i = true
  · simp [h]
  · simp [h]
theorem compD_le (keep : Nat → Bool) (val : Nat → D) (i : Nat) : (compD keep val i).length ≤ i := by
  unfold compD
  rw [List.length_map]
  exact Nat.le_trans (List.length_filter_le _ _) (by simp)
section
variable {T : Tb} {X : Cx} {Γ : Ev} {elt tg iter : Expr} {ifs : List Expr} {scope : Scope} {own : List (Str × Nat)} {pos : Pos} {g : TG} {n : Nat} {js : List Nat} {up : Nat → Ev → Ev} {Keep : Ev → Prop} {keep : Nat → Bool} {val : Nat → D}
/-- a comprehension's tests and elements as readings -/
def ttC (T : Tb) (K : PySem.W.Frag) (n : Nat) (up : Nat → Ev → Ev) (Γw : Ev) (keep : Nat → Bool) : TT := fun σ H Q => ∃ i, i < n ∧ tB T K (up i Γw) (keep i) σ H Q
def teC (T : Tb) (K : PySem.W.Frag) (n : Nat) (up : Nat → Ev → Ev) (Γw : Ev) (keep : Nat → Bool) (val : Nat → D) : TE := fun σ H Q => ∃ i, i < n ∧ keep i = true ∧ tE T K true (up i Γw) (val i) σ H Q
theorem lc_reading (hn : n ≤ 16777216) (hjs : ∀ j ∈ js, j < Γ.length) (hjo : ∀ j ∈ js, j ∈ own.map (·.2)) (hko : Keep (wipeE Γ (own.map (·.2)))) (ho : owns (wipeE Γ (own.map (·.2))) = owns Γ)
    (hup : ∀ i, owns (up i (wipeE Γ (own.map (·.2)))) = owns (wipeE Γ (own.map (·.2)))) (σ : St) (H : Hp) (Q : VK) (h : tL T X.K Γ (compD keep val n) σ H Q) :
    tLc (tSrc T X.K Γ g n js up Keep) g (ttC T X.K n up (wipeE Γ (own.map (·.2))) keep) (teC T X.K n up (wipeE Γ (own.map (·.2))) keep val) (own.map (·.2)) σ H Q := by
  obtain ⟨Z, gz, q⟩ := h
  generalize hvs : own.map (·.2) = vs at *
  refine ⟨Z, gz, fun J Good H1 g1 x1 st good D hD => ?_⟩
  have gA := g1.apart (vs := vs) hD rfl ho
  generalize hZ' : ({ Z with ex := D :: Z.ex, B := rg true Z H1 Γ } : Zn) = Z' at gA
  have exZ : D ∈ Z'.ex := by rw [← hZ']; exact List.mem_cons_self ..
  have bZ : Z'.B = rg true Z H1 Γ := by rw [← hZ']
  have goodAt : ∀ H, GOk T X.K Z' H (wipe σ vs) (wipeE Γ vs) → Good Z' H (wipeE Γ vs) := fun H gH => good _ _ _ _ gH (by rw [bZ]; exact Same.refl _) hko (.inr trivial)
  have hjw : ∀ j ∈ js, j < (wipeE Γ vs).length := fun j hj => by rw [wipeE_len]; exact hjs j hj
  refine ⟨fun i m H => m = n - i ∧ i ≤ n ∧ GOk T X.K Z' H (wipe σ vs) (wipeE Γ vs) ∧ Ext H1 H ∧ ∃ acc, H D = some (.lst acc) ∧ DaAll X.K (rg true Z' H (wipeE Γ vs)) acc (compD keep val i), ⟨n, by simp, Nat.zero_le _, gA, Ext.upd hD, [], upd_same, .nil⟩, ?_⟩
  rintro i m H2 ⟨rfl, hi, g2, x2, acc, hacc, hda⟩
  by_cases hlt : i < n
  · obtain ⟨go, turn⟩ := st.turn Z' i H2 (wipe σ vs) (wipeE Γ vs) hlt g2 (goodAt H2 g2) hjw
    refine .inr ⟨go, fun H => GOk T X.K Z' H (wipe σ vs) (wipeE Γ vs) ∧ Ext H1 H ∧ ∃ acc, H D = some (.lst acc) ∧ DaAll X.K (rg true Z' H (wipeE Γ vs)) acc (compD keep val (i + 1)),
      fun H' p' => ⟨n - (i + 1), by omega, rfl, hlt, p'⟩, fun v H' y => turn v H' y _ fun σ2 H3 g3 x3 hw => ?_⟩
    have hw' : wipe σ2 vs = wipe σ vs := by
      rw [hw vs fun j hj => hjo j hj]
      have key : ∀ (us : List Nat) (σ : St), (∀ u ∈ us, u ∈ vs) → wipe (wipe σ us) vs = wipe σ vs := by
        intro us
        induction us with
        | nil => intro σ _; rfl
        | cons u us ih =>
          intro σ hu
          show wipe ((wipe σ us).set u none) vs = _
          rw [wipe_set1 (hu u (List.mem_cons_self ..))]
          exact ih σ fun z hz => hu z (List.mem_cons_of_mem _ hz)
      exact key vs σ fun u hu => hu
    have up_ok : owns (up i (wipeE Γ vs)) = owns (wipeE Γ vs) := hup i
    have rgE : ∀ H, rg true Z' H (up i (wipeE Γ vs)) = rg true Z' H (wipeE Γ vs) := fun H => by
      funext a
      unfold rg
      rw [up_ok]
    have back : ∀ H, Ext H2 H → LamX.Tabs T H → GOk T X.K Z' H (wipe σ vs) (wipeE Γ vs) := fun H e t => g2.to e t
    refine ⟨hw', i, hlt, Z', g3, fun H4 g4 x4 => ?_⟩
    have x24 := x3.trans x4
    by_cases hk : keep i = true
    · dsimp only
      rw [if_pos hk]
      refine ⟨i, hlt, hk, Z', g4, fun y H5 g5 x5 d5 => ?_⟩
      have x25 := x24.trans x5
      have hD5 : H5 D = some (.lst acc) := x25.1 D _ hacc (fun ps z => by cases z)
      have g6 := back H5 x25 g5.tab
      have hda5 : DaAll X.K (rg true Z' H5 (wipeE Γ vs)) acc (compD keep val i) := hda.to (rg_ext x25)
      rw [rgE] at d5
      refine ⟨acc, hD5, ?_, g6.grow exZ hD5, ?_, _, upd_same, ?_⟩
      · have l1 := hda.length
        have l2 := compD_le keep val i
        rw [sizeLine_eq]
        omega
      · exact ext_upd_new (x2.trans x25) (nt_none hD)
      · rw [rg_upd_own (List.mem_append_left _ exZ), compD_succ, if_pos hk]
        exact hda5.append (.one d5)
    · dsimp only
      rw [if_neg hk]
      refine ⟨back H4 x24 g4.tab, x2.trans x24, acc, x24.1 D _ hacc (fun ps z => by cases z), ?_⟩
      rw [compD_succ, if_neg hk]
      exact hda.to (rg_ext x24)
  · have e : i = n := by omega
    subst e
    refine .inl ⟨st.stop Z' H2 (wipe σ vs) (wipeE Γ vs) g2 (goodAt H2 g2), ?_⟩
    have gm : GOk T X.K Z (minus H2 D) σ Γ := g1.to (ext_minus x2 (nt_none hD)) (tabs_minus g2.tab hacc)
    have hm := q D acc (minus H2 D) gm (x1.trans (ext_minus x2 (nt_none hD))) minus_same (hda.to fun a o e => by
      unfold rg at e ⊢
      split at e
      · cases e
      · rename_i hn'
        have ha : a ≠ D := fun z => hn' ⟨rfl, by rw [z]; exact List.mem_append_left _ exZ⟩
        rw [if_neg]
        · have e0 : Z'.G0 = Z.G0 := by rw [← hZ']
          have e00 : Z'.H0 = Z.H0 := by rw [← hZ']
          rw [e0, e00] at e
          unfold gr at e ⊢
          cases r : nt Z.H0 a with
          | none => rw [r] at e; exact (nt_minus ha).trans e
          | some u => rw [r] at e; cases u <;> exact e
        · rintro ⟨_, z⟩
          refine hn' ⟨rfl, ?_⟩
          have ez : Z'.ex = D :: Z.ex := by rw [← hZ']
          rw [ez, ho]
          exact List.mem_cons_of_mem _ z)
    rw [upd_minus hacc] at hm
    exact hm
/-- [elt for tg in iter if ..]: every turn i by its item -/
theorem l_comp (hc : X.calm = true) (nd : X.N.Nodup) (hi : PI X tg iter (tSrc T X.K Γ g n js up Keep)) (ok : BlkOk X.N X.env.scope scope own)
    (hg : ∀ (s : Shared) (H : Hp) (C : Addr) (cl : List (Str × Addr)) (fp : List Addr), PG (X.blk s H scope (compEnvC scope cl C X.env) fp) tg g)
    (ht : ∀ (s : Shared) (H : Hp) (C : Addr) (cl : List (Str × Addr)) (fp : List Addr) (i : Nat), i < n → PTs (X.blk s H scope (compEnvC scope cl C X.env) fp) ifs (tB T X.K (up i (wipeE Γ (own.map (·.2)))) (keep i)))
    (he : ∀ (s : Shared) (H : Hp) (C : Addr) (cl : List (Str × Addr)) (fp : List Addr) (i : Nat), i < n → keep i = true → ED T (X.blk s H scope (compEnvC scope cl C X.env) fp) true (up i (wipeE Γ (own.map (·.2)))) elt (val i))
    (hn : n ≤ 16777216) (hjs : ∀ j ∈ js, j < Γ.length) (hjo : ∀ j ∈ js, j ∈ own.map (·.2)) (hko : Keep (wipeE Γ (own.map (·.2)))) (ho : owns (wipeE Γ (own.map (·.2))) = owns Γ)
    (hup : ∀ i, owns (up i (wipeE Γ (own.map (·.2)))) = owns (wipeE Γ (own.map (·.2)))) (hs : ∀ x, foldedSetIterable iter X.env x = pure x := by intro _; rfl) :
    LD T X Γ (.ListComp elt [⟨tg, iter, ifs, 0⟩] scope pos) (compD keep val n) :=
  PE.imp' (pe_lc (tt := ttC T X.K n up (wipeE Γ (own.map (·.2))) keep) (te := teC T X.K n up (wipeE Γ (own.map (·.2))) keep val) hc nd hi ok hg
    (fun s H C cl fp => ⟨fun pins s' σ H' Q I ⟨i, hi, h⟩ => (ht s H C cl fp i hi).run pins s' σ H' Q I h⟩)
    (fun s H C cl fp => ⟨fun pins s' σ H' Q I ⟨i, hi, hk, h⟩ => (he s H C cl fp i hi hk).run pins s' σ H' Q I h⟩) hs)
    fun σ H Q h => lc_reading hn hjs hjo hko ho hup σ H Q h
end
end DD

/-! Statements over data, defs by their bodies. -/
namespace DD
open PySem PySem.Spec L2

structure Pst where
  nx : Ev → Prop := fun _ => False
  rt : D → Prop := fun _ => False
  rl : List D → Prop := fun _ => False
  ro : D → Prop := fun _ => False
  xc : Str → Ev → Prop := fun _ _ => False
  wx : WX := fun _ _ _ _ => False
  rn : D → Prop := fun _ => False
  rm : D → Ev → Prop := fun _ _ => False
  h0 : Option Hp := none
structure FinP (T : Tb) (K : PySem.W.Frag) (Z : Zn) (P : Pst) (E : Ends) : Prop where
  nx : ∀ Γ' σ' H', P.nx Γ' → GOk T K Z H' σ' Γ' → E.nx σ' H'
  rt : ∀ d v H', P.rt d → Ext Z.H0 H' → LamX.Tabs T H' → Da K (gr Z.G0 Z.H0 H') v d → E.rt v H'
  rl : ∀ es p ws H', P.rl es → Ext Z.H0 H' → LamX.Tabs T H' → H' p = none → DaAll K (gr Z.G0 Z.H0 H') ws es → E.rt (.ref p) (upd H' p (.lst ws))
  ro : ∀ d a dx p H', P.ro d → Ext Z.H0 H' → LamX.Tabs T H' → nt Z.H0 p = none → gr Z.G0 Z.H0 H' a = some (.ins (He.ga K "Weave") dx [("known", .ref p)]) → OwOk K (mns (gr Z.G0 Z.H0 H') p) H' p (.obj d) → E.rt (.ref a) H'
  xc : ∀ c Γ' σ' H', P.xc c Γ' → GOk T K Z H' σ' Γ' → P.wx (.ref (He.ga K c)) none σ' H'
  rn : ∀ d v H', P.rn d → Ext Z.H0 H' → LamX.Tabs T H' → Da K (gr (fun _ => none) Z.H0 H') v d → E.rt v H'
  rm : ∀ d Γ' v σ' H', P.rm d Γ' → GOk T K Z H' σ' Γ' → Da K (rg true Z H' Γ') v d → E.rt v H'
  h0 : ∀ h, P.h0 = some h → Z.H0 = h
def tSt (T : Tb) (K : PySem.W.Frag) (Γ : Ev) (P : Pst) : TS := fun E σ H => ∃ Z, GOk T K Z H σ Γ ∧ FinP T K Z P E
abbrev SD (T : Tb) (X : Cx) (Γ : Ev) (sts : List Stmt) (P : Pst) : Prop := PSs X sts (tSt T X.K Γ P)
/-- what is new since later on is new since earlier -/
theorem gr_old {H0 H1 H : Hp} (x : Ext H0 H1) (y : Ext H1 H) : Same (gr (fun _ => none) H1 H) (gr (fun _ => none) H0 H) := fun a o e => by
  unfold gr at e ⊢
  cases q : nt H1 a with
  | none => rw [q] at e; rw [x.free' q]; exact e
  | some u =>
    rw [q] at e
    cases u with
    | tup xs =>
      cases q0 : nt H0 a with
      | none => cases e; exact nt_of (y.1 a _ (nt_some q).1 (nt_some q).2) (nt_some q).2
      | some v =>
        obtain ⟨h1, h2⟩ := nt_some q0
        have := nt_of (x.1 a v h1 h2) h2
        rw [q] at this
        cases this
        exact e
    | _ => cases e
/-- one statement, what follows as u wants it -/
theorem s_seq {X : Cx} {st : Stmt} {rest : List Stmt} {t u t' : TS} (h1 : PS X st t) (h2 : PSs X rest u) (w : ∀ E σ H, t' E σ H → t { E with nx := u E } σ H) : PSs X (st :: rest) t' := PSs.imp' (pss_cons h1 h2) w

section
variable {T : Tb} {X : Cx} {Γ : Ev} {m : Bool} {e a b c : Expr} {d da db dc d1 d2 d3 : D} {pos px : Pos} {i j : Nat} {x : Str} {ds es : List D} {rest body th el : List Stmt} {P : Pst} {k : Bool}
theorem s_nil (h : P.nx Γ) : SD T X Γ [] P := PSs.imp' pss_nil fun E σ H ⟨Z, g, f⟩ => f.nx Γ σ H h g
/-- forgetting ahead of a block -/
theorem s_wk {Γ' : Ev} {sts : List Stmt} (w : Wk Γ Γ') (h : SD T X Γ' sts P) : SD T X Γ sts P := PSs.imp' h fun E σ H ⟨Z, g, f⟩ => ⟨Z, g.wk w, f⟩
theorem s_eq {Γ' : Ev} {sts : List Stmt} (w : Γ = Γ') (h : SD T X Γ' sts P) : SD T X Γ sts P := by subst w; exact h
/-- an owned thing is given to all -/
theorem GOk.rel {K : PySem.W.Frag} {Z : Zn} {H : Hp} {σ : St} {p : Addr} (g : GOk T K Z H σ Γ) (hi : Γ[i]? = some (some (.ow p d))) : GOk T K Z H σ (Γ.set i (some (.sh d))) := by
  obtain ⟨v, e, hv', h⟩ := g.slots i _ hi
  have hl : i < Γ.length := (List.getElem?_eq_some_iff.mp hi).1
  have sub := owns_drop Γ i (some (.sh d)) (fun p d z => by cases z)
  have sm : Same (rg true Z H Γ) (rg true Z H (Γ.set i (some (.sh d)))) := rg_less fun q hq => sub.subset hq
  obtain ⟨nd1, nd2, nd3⟩ := List.nodup_append.mp g.nd
  have hm : p ∈ owns Γ := mem_owns.mpr ⟨i, d, hi⟩
  have np : p ∉ owns (Γ.set i (some (.sh d))) := fun z => by
    obtain ⟨j, d', e'⟩ := mem_owns.mp z
    by_cases hj : i = j
    · subst hj
      rw [List.getElem?_set_self hl] at e'
      cases e'
    · rw [List.getElem?_set_ne hj] at e'
      exact hj (owns_ix nd2 hi e')
  have at_p : ∀ {o : HO}, H p = some o → (∀ ps, o ≠ .tbl ps) → rg true Z H (Γ.set i (some (.sh d))) p = some o := fun {o} e ntt => by
    unfold rg
    rw [if_neg (fun z => by
      rcases List.mem_append.mp z.2 with z | z
      · exact nd3 p z p hm rfl
      · exact np z)]
    unfold gr
    rw [g.old p (List.mem_append_right _ hm)]
    exact nt_of e ntt
  refine ⟨g.g0, g.gt, g.ext, g.tab, g.nd.sublist (List.Sublist.append (List.Sublist.refl _) sub), fun p hp => g.old p ((List.Sublist.append (List.Sublist.refl Z.ex) sub).subset hp), g.exl,
    by rw [List.length_set]; exact g.len, fun j s e' => ?_, g.base.trans sm⟩
  by_cases hj : i = j
  · subst hj
    rw [List.getElem?_set_self hl] at e'
    cases e'
    refine ⟨_, e, ?_⟩
    cases d with
    | obj d => cases d with
      | dic ks ds =>
        obtain ⟨vs, e1, e3, e2⟩ := h
        obtain ⟨a, dx, rfl, ha⟩ := hv'
        exact .obj (sm _ _ ha) (.dic (at_p e1 (fun _ z => by cases z)) e3 (e2.to sm))
      | _ => exact False.elim h
    | lst ds => cases hv'; obtain ⟨vs, e1, e2⟩ := h; exact .lst (at_p e1 (fun _ z => by cases z)) (e2.to sm)
    | dic ks ds => cases hv'; obtain ⟨vs, e1, e3, e2⟩ := h; exact .dic (at_p e1 (fun _ z => by cases z)) e3 (e2.to sm)
    | dit ks ds => cases hv'; obtain ⟨vs, e1, e3, e2⟩ := h; exact .dit (at_p e1 (fun _ z => by cases z)) e3 (e2.to sm)
    | _ => exact False.elim h
  · rw [List.getElem?_set_ne hj] at e'
    obtain ⟨u, q1, q2⟩ := g.slots j s e'
    exact ⟨u, q1, q2.mono sm (Ext.refl H)⟩
theorem s_rel {sts : List Stmt} {p : Addr} (hi : Γ[i]? = some (some (.ow p d))) (h : SD T X (Γ.set i (some (.sh d))) sts P) : SD T X Γ sts P := PSs.imp' h fun E σ H ⟨Z, g, f⟩ => ⟨Z, g.rel hi, f⟩

/-! ### stores -/
/-- name = e -/
theorem s_set (i : Nat) (nd : X.N.Nodup) (he : ED T X true Γ e d) (hr : SD T X (Γ.set i (some (.sh d))) rest P) (hl : i < Γ.length := by exact Nat.le_of_ble_eq_true rfl) (hi : X.N[i]? = some x := by rfl) (hx : Loc X.env.scope x := by first | exact .inl rfl | exact .inr rfl)
    (hs : swapsWith e (some (.Name x px)) pos.line X.env = pure false := by rfl) (hf : X.fn x = true ∨ X.env.scope.names.lookup x = some .local := by first | exact .inl rfl | exact .inr rfl) : SD T X Γ (.Assign [.Name x px] e pos :: rest) P :=
  s_seq (ps_set nd hi hx he hs hf) hr fun E σ H ⟨Z, g, f⟩ => ⟨Z, g, fun v H1 g1 x1 d1 => ⟨Z, g1.set hl d1, f⟩⟩
/-- name = a new list that this name alone tells -/
theorem s_new (i : Nat) (nd : X.N.Nodup) (he : LD T X Γ e ds) (hr : ∀ p, SD T X (Γ.set i (some (.ow p (.lst ds)))) rest P) (hl : i < Γ.length := by exact Nat.le_of_ble_eq_true rfl) (hi : X.N[i]? = some x := by rfl) (hx : Loc X.env.scope x := by first | exact .inl rfl | exact .inr rfl)
    (hs : swapsWith e (some (.Name x px)) pos.line X.env = pure false := by rfl) (hf : X.fn x = true ∨ X.env.scope.names.lookup x = some .local := by first | exact .inl rfl | exact .inr rfl) : SD T X Γ (.Assign [.Name x px] e pos :: rest) P :=
  s_seq (u := fun E σ H => ∃ p, tSt T X.K (Γ.set i (some (.ow p (.lst ds)))) P E σ H) (ps_set nd hi hx he hs hf) ⟨fun pins s σ H E I ⟨p, h⟩ => (hr p).run pins s σ H E I h⟩
    fun E σ H ⟨Z, g, f⟩ => ⟨Z, g, fun p vs H1 g1 x1 hp d1 => ⟨p, Z, g1.newOw hl hp ⟨vs, upd_same, d1⟩, f⟩⟩
/-- name = {} -/
theorem s_dict (i : Nat) (nd : X.N.Nodup) {kp : Pos} (hr : ∀ p, SD T X (Γ.set i (some (.ow p (.dic [] [])))) rest P) (hl : i < Γ.length := by exact Nat.le_of_ble_eq_true rfl) (hi : X.N[i]? = some x := by rfl) (hx : Loc X.env.scope x := by first | exact .inl rfl | exact .inr rfl)
    (hs : swapsWith (.Dict [] [] kp) (some (.Name x px)) pos.line X.env = pure false := by rfl) (hf : X.fn x = true ∨ X.env.scope.names.lookup x = some .local := by first | exact .inl rfl | exact .inr rfl) : SD T X Γ (.Assign [.Name x px] (.Dict [] [] kp) pos :: rest) P :=
  s_seq (u := fun E σ H => ∃ p, tSt T X.K (Γ.set i (some (.ow p (.dic [] [])))) P E σ H) (ps_set nd hi hx pe_dnewK hs hf) ⟨fun pins s σ H E I ⟨p, h⟩ => (hr p).run pins s σ H E I h⟩
    fun E σ H ⟨Z, g, f⟩ p hp => ⟨p, Z, g.newOw hl hp ⟨[], upd_same, rfl, .nil⟩, f⟩
theorem s_dictT (i : Nat) (nd : X.N.Nodup) {kp : Pos} (hr : ∀ p, SD T X (Γ.set i (some (.ow p (.dit [] [])))) rest P) (hl : i < Γ.length := by exact Nat.le_of_ble_eq_true rfl) (hi : X.N[i]? = some x := by rfl) (hx : Loc X.env.scope x := by first | exact .inl rfl | exact .inr rfl)
    (hs : swapsWith (.Dict [] [] kp) (some (.Name x px)) pos.line X.env = pure false := by rfl) (hf : X.fn x = true ∨ X.env.scope.names.lookup x = some .local := by first | exact .inl rfl | exact .inr rfl) : SD T X Γ (.Assign [.Name x px] (.Dict [] [] kp) pos :: rest) P :=
  s_seq (u := fun E σ H => ∃ p, tSt T X.K (Γ.set i (some (.ow p (.dit [] [])))) P E σ H) (ps_set nd hi hx pe_dnewT hs hf) ⟨fun pins s σ H E I ⟨p, h⟩ => (hr p).run pins s σ H E I h⟩
    fun E σ H ⟨Z, g, f⟩ p hp => ⟨p, Z, g.newOw hl hp ⟨[], upd_same, rfl, .nil⟩, f⟩
/-- name = [..] on one line: the comprehension stores it -/
theorem s_setLc (i : Nat) {elt tg iter : Expr} {ifs : List Expr} {scope : Scope} {own : List (Str × Nat)} {cpos : Pos} {g : TG} {n : Nat} {js : List Nat} {up : Nat → Ev → Ev} {Keep : Ev → Prop} {keep : Nat → Bool} {val : Nat → D} (nd : X.N.Nodup)
    (hi : PI X tg iter (tSrc T X.K Γ g n js up Keep)) (ok : BlkOk X.N X.env.scope scope own)
    (hg : ∀ (s : Shared) (H : Hp) (C : Addr) (cl : List (Str × Addr)) (fp : List Addr), PG (X.blk s H scope (compEnvC scope cl C X.env) fp) tg g)
    (ht : ∀ (s : Shared) (H : Hp) (C : Addr) (cl : List (Str × Addr)) (fp : List Addr) (i : Nat), i < n → PTs (X.blk s H scope (compEnvC scope cl C X.env) fp) ifs (tB T X.K (up i (wipeE Γ (own.map (·.2)))) (keep i)))
    (he : ∀ (s : Shared) (H : Hp) (C : Addr) (cl : List (Str × Addr)) (fp : List Addr) (i : Nat), i < n → keep i = true → ED T (X.blk s H scope (compEnvC scope cl C X.env) fp) true (up i (wipeE Γ (own.map (·.2)))) elt (val i))
    (hr : ∀ p, SD T X (Γ.set i (some (.ow p (.lst (compD keep val n))))) rest P)
    (hn : n ≤ 16777216) (hjs : ∀ j ∈ js, j < Γ.length) (hjo : ∀ j ∈ js, j ∈ own.map (·.2)) (hko : Keep (wipeE Γ (own.map (·.2)))) (ho : owns (wipeE Γ (own.map (·.2))) = owns Γ)
    (hup : ∀ i, owns (up i (wipeE Γ (own.map (·.2)))) = owns (wipeE Γ (own.map (·.2)))) (hl : i < Γ.length := by exact Nat.le_of_ble_eq_true rfl) (hy : X.N[i]? = some x := by rfl) (hyl : X.env.scope.names.lookup x = some .local := by rfl)
    (hsw : swapsWith (.ListComp elt [⟨tg, iter, ifs, 0⟩] scope cpos) (some (.Name x px)) pos.line X.env = pure true := by exact sw_true rfl rfl rfl (by decide +kernel)) (hc : X.calm = true := by rfl) (hs : ∀ x, foldedSetIterable iter X.env x = pure x := by intro _; rfl) :
    SD T X Γ (.Assign [.Name x px] (.ListComp elt [⟨tg, iter, ifs, 0⟩] scope cpos) pos :: rest) P :=
  s_seq (u := fun E σ H => ∃ p, tSt T X.K (Γ.set i (some (.ow p (.lst (compD keep val n))))) P E σ H)
    (ps_setLc (tt := ttC T X.K n up (wipeE Γ (own.map (·.2))) keep) (te := teC T X.K n up (wipeE Γ (own.map (·.2))) keep val) hc nd hy hyl hsw hi ok hg
      (fun s H C cl fp => ⟨fun pins s' σ H' Q I ⟨i, hi, h⟩ => (ht s H C cl fp i hi).run pins s' σ H' Q I h⟩)
      (fun s H C cl fp => ⟨fun pins s' σ H' Q I ⟨i, hi, hk, h⟩ => (he s H C cl fp i hi hk).run pins s' σ H' Q I h⟩) hs)
    ⟨fun pins s σ H E I ⟨p, h⟩ => (hr p).run pins s σ H E I h⟩
    fun E σ H ⟨Z, g, f⟩ => lc_reading hn hjs hjo hko ho hup σ H _ ⟨Z, g, fun p vs H1 g1 x1 hp d1 => ⟨p, Z, g1.newOw hl hp ⟨vs, upd_same, d1⟩, f⟩⟩
/-- an expression whose value is dropped -/
theorem s_expr (he : ED T X false Γ e d) (hr : SD T X Γ rest P) (hs : swapsWith e none pos.line X.env = pure false := by rfl) : SD T X Γ (.Expr e pos :: rest) P :=
  s_seq (ps_expr he hs) hr fun E σ H ⟨Z, g, f⟩ => ⟨Z, g, fun v H1 g1 x1 d1 => ⟨Z, g1, f⟩⟩
theorem pv' (i : Nat) {x : Str} {pos : Pos} (hN : X.N[i]? = some x := by rfl) (hv : Vis X.env.scope x := by first | exact Or.inl rfl | exact Or.inr (Or.inl rfl) | exact Or.inr (Or.inr rfl)) (hd : (x == ("__debug__" : Str)) = false := by decide)
    (hcd : (x == ("__classdict__" : Str)) = false := by decide) : PE X (.Name x pos) (tVar i) := pe_var hN hv hd hcd
variable {apos cpos xp : Pos} {p : Addr}
/-- name.append(e) -/
theorem s_append (i : Nat) (hi : Γ[i]? = some (some (.ow p (.lst ds)))) (hn : ds.length < 16777216) (he : ED T X true Γ e d) (hr : SD T X (Γ.set i (some (.ow p (.lst (ds ++ [d]))))) rest P)
    (hN : X.N[i]? = some x := by rfl) (hv : Vis X.env.scope x := by first | exact Or.inl rfl | exact Or.inr (Or.inl rfl) | exact Or.inr (Or.inr rfl)) (hd : (x == ("__debug__" : Str)) = false := by decide)
    (hcd : (x == ("__classdict__" : Str)) = false := by decide) (hs1 : starEach [e] X.env = (false, eval e X.env) :: starEach [] X.env := by rfl) (hbase : attributeBase (.Name x xp) "append" X.env (eval (.Name x xp) X.env) = eval (.Name x xp) X.env := by rfl)
    (hfew : ((backTo cpos (starEach [e] X.env)).all (fun x => !x.1) && (backToKw cpos (keywordEach [] X.env)).all (fun x => x.1.isSome) && decide ([e].length + ([] : List Keyword).length + (if ([] : List Keyword).isEmpty then 0 else 1) < 30)) = true := by rfl)
    (hline : (apos.endLine == cpos.line) = true := by rfl) (hs : swapsWith (.Call (.Attribute (.Name x xp) "append" apos) [e] [] cpos) none pos.line X.env = pure false := by rfl) :
    SD T X Γ (.Expr (.Call (.Attribute (.Name x xp) "append" apos) [e] [] cpos) pos :: rest) P :=
  s_seq (ps_expr (pe_bm PySem.F.plainAttrs_list PySem.F.slot_list_append PySem.F.type_list_append mt_append (pe_var hN hv hd hcd) (pa_cons he pa_nil hs1) hbase hfew hline hs1) hs) hr fun E σ H ⟨Z, g, f⟩ => by
    obtain ⟨v, e1, rfl, vs, h1, h2⟩ := g.slots i _ hi
    refine ⟨_, e1, .inl ⟨rfl, _, SqL.of h1⟩, Z, g, fun v H1 g1 x1 d1 => ?_⟩
    obtain ⟨v', e1', rfl', vs1, h1', h2'⟩ := g1.slots i _ hi
    exact ⟨p, vs1, v, rfl, rfl, h1', by rw [h2'.length, sizeLine_eq]; exact hn, Z, g1.updOw hi ⟨vs1 ++ [v], upd_same, h2'.append (.one d1)⟩, f⟩
/-- name.extend(e) -/
theorem s_extend (i : Nat) (hi : Γ[i]? = some (some (.ow p (.lst ds)))) (hn : ds.length + es.length ≤ 16777216) (he : ED T X true Γ e (.lst es)) (hr : SD T X (Γ.set i (some (.ow p (.lst (ds ++ es))))) rest P)
    (hN : X.N[i]? = some x := by rfl) (hv : Vis X.env.scope x := by first | exact Or.inl rfl | exact Or.inr (Or.inl rfl) | exact Or.inr (Or.inr rfl)) (hd : (x == ("__debug__" : Str)) = false := by decide)
    (hcd : (x == ("__classdict__" : Str)) = false := by decide) (hs1 : starEach [e] X.env = (false, eval e X.env) :: starEach [] X.env := by rfl) (hbase : attributeBase (.Name x xp) "extend" X.env (eval (.Name x xp) X.env) = eval (.Name x xp) X.env := by rfl)
    (hfew : ((backTo cpos (starEach [e] X.env)).all (fun x => !x.1) && (backToKw cpos (keywordEach [] X.env)).all (fun x => x.1.isSome) && decide ([e].length + ([] : List Keyword).length + (if ([] : List Keyword).isEmpty then 0 else 1) < 30)) = true := by rfl)
    (hline : (apos.endLine == cpos.line) = true := by rfl) (hs : swapsWith (.Call (.Attribute (.Name x xp) "extend" apos) [e] [] cpos) none pos.line X.env = pure false := by rfl) :
    SD T X Γ (.Expr (.Call (.Attribute (.Name x xp) "extend" apos) [e] [] cpos) pos :: rest) P :=
  s_seq (ps_expr (pe_bm PySem.F.plainAttrs_list PySem.F.slot_list_extend PySem.F.type_list_extend mt_extend (pe_var hN hv hd hcd) (pa_cons he pa_nil hs1) hbase hfew hline hs1) hs) hr fun E σ H ⟨Z, g, f⟩ => by
    obtain ⟨v, e1, rfl, vs, h1, h2⟩ := g.slots i _ hi
    refine ⟨_, e1, .inl ⟨rfl, _, SqL.of h1⟩, Z, g, fun v H1 g1 x1 d1 => ?_⟩
    obtain ⟨v', e1', rfl', vs1, h1', h2'⟩ := g1.slots i _ hi
    cases d1 with
    | lst q1 q2 =>
      rename_i pa ws
      exact ⟨p, _, vs1, ws, rfl, rfl, h1', g1.sub _ _ q1, by rw [h2'.length, q2.length, sizeLine_eq]; exact hn, Z, g1.updOw hi ⟨vs1 ++ ws, upd_same, h2'.append q2⟩, f⟩
/-- y = name.pop() -/
theorem s_pop (i j : Nat) {y : Str} (nd : X.N.Nodup) (hi : Γ[i]? = some (some (.ow p (.lst ds)))) (hlast : ds[ds.length - 1]? = some d) (hr : SD T X ((Γ.set i (some (.ow p (.lst ds.dropLast)))).set j (some (.sh d))) rest P)
    (hN : X.N[i]? = some x := by rfl) (hv : Vis X.env.scope x := by first | exact Or.inl rfl | exact Or.inr (Or.inl rfl) | exact Or.inr (Or.inr rfl)) (hd : (x == ("__debug__" : Str)) = false := by decide)
    (hcd : (x == ("__classdict__" : Str)) = false := by decide) (hbase : attributeBase (.Name x xp) "pop" X.env (eval (.Name x xp) X.env) = eval (.Name x xp) X.env := by rfl) (hline : (apos.endLine == cpos.line) = true := by rfl)
    (hl : j < Γ.length := by exact Nat.le_of_ble_eq_true rfl) (hy : X.N[j]? = some y := by rfl) (hyx : Loc X.env.scope y := by first | exact .inl rfl | exact .inr rfl)
    (hs : swapsWith (.Call (.Attribute (.Name x xp) "pop" apos) [] [] cpos) (some (.Name y px)) pos.line X.env = pure false := by rfl) (hf : X.fn y = true ∨ X.env.scope.names.lookup y = some .local := by first | exact .inl rfl | exact .inr rfl) :
    SD T X Γ (.Assign [.Name y px] (.Call (.Attribute (.Name x xp) "pop" apos) [] [] cpos) pos :: rest) P :=
  s_seq (ps_set nd hy hyx (pe_bm0 PySem.F.plainAttrs_list PySem.F.slot_list_pop PySem.F.type_list_pop mt_pop (pe_var hN hv hd hcd) hbase hline) hs hf) hr fun E σ H ⟨Z, g, f⟩ => by
    obtain ⟨v, e1, rfl, vs, h1, h2⟩ := g.slots i _ hi
    obtain ⟨w, hw, hd'⟩ := h2.get hlast
    have hlen := h2.length
    refine ⟨_, e1, .inl ⟨rfl, _, SqL.of h1⟩, p, vs, w, rfl, rfl, h1, by rw [hlen]; exact hw, Z, ?_, f⟩
    have dl : DaAll X.K (rg true Z H Γ) vs.dropLast ds.dropLast := by
      rw [List.dropLast_eq_take, List.dropLast_eq_take, hlen]
      exact h2.take _
    have g1 := g.updOw (o := .lst vs.dropLast) (d' := .lst ds.dropLast) hi ⟨_, upd_same, dl⟩
    have eo := owns_same Γ i p (.lst ds) (.lst ds.dropLast) hi
    refine g1.set (by rw [List.length_set]; exact hl) ?_
    have er : rg true Z (upd H p (.lst vs.dropLast)) (Γ.set i (some (.ow p (.lst ds.dropLast)))) = rg true Z H Γ := by
      have e1 : rg true Z (upd H p (.lst vs.dropLast)) (Γ.set i (some (.ow p (.lst ds.dropLast)))) = rg true Z (upd H p (.lst vs.dropLast)) Γ := by
        funext a
        unfold rg
        rw [eo]
      rw [e1, rg_upd_own (List.mem_append_right _ (mem_owns.mpr ⟨i, _, hi⟩))]
    rw [er]
    exact hd'
/-- name[n] = e -/
theorem s_setItem (i : Nat) {n : Int} {jj : Nat} {sp : Pos} (hi : Γ[i]? = some (some (.ow p (.lst ds)))) (he : ED T X true Γ e d) (hb : ED T X true Γ b (.int n)) (hj : ixN ds.length n = some jj) (hr : SD T X (Γ.set i (some (.ow p (.lst (ds.set jj d))))) rest P)
    (hN : X.N[i]? = some x := by rfl) (hv : Vis X.env.scope x := by first | exact Or.inl rfl | exact Or.inr (Or.inl rfl) | exact Or.inr (Or.inr rfl)) (hd : (x == ("__debug__" : Str)) = false := by decide)
    (hcd : (x == ("__classdict__" : Str)) = false := by decide)
    (ha : ∀ v, assign (.Subscript (.Name x xp) b sp) X.env v = (do
      let ov ← holding [v] (eval (.Name x xp) X.env)
      let iv ← holding [v, ov] (eval b X.env)
      standAt sp
      holding [v, ov, iv] (setItem ov iv v)
      release [v, ov, iv] []) := by intro _; rfl)
    (hs : swapsWithSole [.Subscript (.Name x xp) b sp] e pos.line X.env = pure false := by rfl) (hw : swappedStores [.Subscript (.Name x xp) b sp] e X.env = pure none := by rfl)
    (h1 : (assignEach [.Subscript (.Name x xp) b sp] X.env).map (·.2) = [assign (.Subscript (.Name x xp) b sp) X.env] := by rfl) :
    SD T X Γ (.Assign [.Subscript (.Name x xp) b sp] e pos :: rest) P :=
  s_seq (ps_asg he (pg_sub (pe_var hN hv hd hcd) hb set_list ha) hs hw h1) hr fun E σ H ⟨Z, g, f⟩ => ⟨Z, g, fun v H1 g1 x1 d1 => by
    obtain ⟨u, e1, rfl, vs, h1, h2⟩ := g1.slots i _ hi
    refine ⟨_, e1, Z, g1, fun w H2 g2 x2 d2 => ?_⟩
    cases d2
    obtain ⟨u', e1', _, vs2, h1', h2'⟩ := g2.slots i _ hi
    exact ⟨p, vs2, n, jj, rfl, rfl, h1', by rw [h2'.length]; exact hj, Z, g2.updOw hi ⟨_, upd_same, h2'.set jj (d1.to (rg_ext x2))⟩, f⟩⟩

/-! ### a tuple taken apart -/
theorem s_un2 (j1 j2 : Nat) {es : List Expr} {kk : Nat} {tpos : Pos} (he : ED T X true Γ e (.tup [d1, d2])) (hg : PG X (.Tuple es kk tpos) (g2 X.K j1 j2)) (hr : SD T X ((Γ.set j1 (some (.sh d1))).set j2 (some (.sh d2))) rest P) (l1 : j1 < Γ.length := by exact Nat.le_of_ble_eq_true rfl) (l2 : j2 < Γ.length := by exact Nat.le_of_ble_eq_true rfl)
    (hs : swapsWithSole [.Tuple es kk tpos] e pos.line X.env = pure false := by rfl) (hw : swappedStores [.Tuple es kk tpos] e X.env = pure none := by rfl) (h1 : (assignEach [.Tuple es kk tpos] X.env).map (·.2) = [assign (.Tuple es kk tpos) X.env] := by rfl) :
    SD T X Γ (.Assign [.Tuple es kk tpos] e pos :: rest) P :=
  s_seq (ps_asg he hg hs hw h1) hr fun E σ H ⟨Z, g, f⟩ => ⟨Z, g, fun v H1 g1 x1 dd => by
    cases dd with
    | tup t1 t2 =>
      cases t2 with
      | cons a1 a2 =>
        cases a2 with
        | cons a2 a3 =>
          cases a3
          exact take_pair g1 (SqT.of (g1.sub _ _ t1)) a1 a2 l1 l2 fun σ2 g2 _ => ⟨Z, g2, f⟩⟩
abbrev g3 (K : PySem.W.Frag) (j1 j2 j3 : Nat) : TG := gTup K 3 (gCons (gName j1) (gCons (gName j2) (gCons (gName j3) gNil)))
theorem s_un3 (j1 j2 j3 : Nat) {es : List Expr} {kk : Nat} {tpos : Pos} (he : ED T X true Γ e (.tup [d1, d2, d3])) (hg : PG X (.Tuple es kk tpos) (g3 X.K j1 j2 j3)) (hr : SD T X (((Γ.set j1 (some (.sh d1))).set j2 (some (.sh d2))).set j3 (some (.sh d3))) rest P) (l1 : j1 < Γ.length := by exact Nat.le_of_ble_eq_true rfl) (l2 : j2 < Γ.length := by exact Nat.le_of_ble_eq_true rfl) (l3 : j3 < Γ.length := by exact Nat.le_of_ble_eq_true rfl)
    (hs : swapsWithSole [.Tuple es kk tpos] e pos.line X.env = pure false := by rfl) (hw : swappedStores [.Tuple es kk tpos] e X.env = pure none := by rfl) (h1 : (assignEach [.Tuple es kk tpos] X.env).map (·.2) = [assign (.Tuple es kk tpos) X.env] := by rfl) :
    SD T X Γ (.Assign [.Tuple es kk tpos] e pos :: rest) P :=
  s_seq (ps_asg he hg hs hw h1) hr fun E σ H ⟨Z, g, f⟩ => ⟨Z, g, fun v H1 g1 x1 dd => by
    cases dd with
    | tup t1 t2 =>
      cases t2 with
      | cons a1 a2 =>
        cases a2 with
        | cons a2 a3 =>
          cases a3 with
          | cons a3 a4 =>
            cases a4
            have s1 := g1.set l1 a1
            have sub1 := owns_drop Γ j1 (some (.sh d1)) (fun p d z => by cases z)
            have a2' := a2.to (rg_less (Z := Z) (H := H1) fun p hp => sub1.subset hp)
            have a3' := a3.to (rg_less (Z := Z) (H := H1) fun p hp => sub1.subset hp)
            have s2 := s1.set (by rw [List.length_set]; exact l2) a2'
            have sub2 := owns_drop (Γ.set j1 (some (.sh d1))) j2 (some (.sh d2)) (fun p d z => by cases z)
            have s3 := s2.set (by rw [List.length_set, List.length_set]; exact l3) (a3'.to (rg_less (Z := Z) (H := H1) fun p hp => sub2.subset hp))
            exact ⟨_, _, rfl, SqT.of (g1.sub _ _ t1), rfl, _, _, rfl, _, _, rfl, _, _, rfl, rfl, Z, s3, f⟩⟩

/-! ### branches -/
theorem s_ifj (Γj : Ev) (hc : BD T X Γ c k) (h1 : k = true → SD T X Γ th { P with nx := fun Γ' => Wk Γ' Γj }) (h2 : k = false → SD T X Γ el { P with nx := fun Γ' => Wk Γ' Γj }) (hr : SD T X Γj rest P) : SD T X Γ (.If c th el pos :: rest) P := by
  cases k with
  | true => exact s_seq (ps_if hc (h1 rfl) pss_never) hr fun E σ H ⟨Z, g, f⟩ => ⟨Z, g, fun H1 g1 x1 => iteT ⟨Z, g1, ⟨fun Γ' σ' H' w g' => ⟨Z, g'.wk w, f⟩, f.rt, f.rl, f.ro, f.xc, f.rn, f.rm, f.h0⟩⟩⟩
  | false => exact s_seq (ps_if hc pss_never (h2 rfl)) hr fun E σ H ⟨Z, g, f⟩ => ⟨Z, g, fun H1 g1 x1 => iteF ⟨Z, g1, ⟨fun Γ' σ' H' w g' => ⟨Z, g'.wk w, f⟩, f.rt, f.rl, f.ro, f.xc, f.rn, f.rm, f.h0⟩⟩⟩
/-- if c: .. that goes nowhere further; then the rest -/
theorem s_ift (hc : BD T X Γ c k) (h1 : k = true → SD T X Γ th { P with nx := fun _ => False }) (hr : k = false → SD T X Γ rest P) : SD T X Γ (.If c th [] pos :: rest) P := by
  cases k with
  | true => exact s_seq (ps_if hc (h1 rfl) pss_never) pss_never fun E σ H ⟨Z, g, f⟩ => ⟨Z, g, fun H1 g1 x1 => iteT ⟨Z, g1, ⟨fun Γ' σ' H' w g' => False.elim w, f.rt, f.rl, f.ro, f.xc, f.rn, f.rm, f.h0⟩⟩⟩
  | false => exact s_seq (ps_if hc pss_never pss_nil) (hr rfl) fun E σ H ⟨Z, g, f⟩ => ⟨Z, g, fun H1 g1 x1 => iteF ⟨Z, g1, f⟩⟩
/-- the last statement of a block -/
theorem s_if2 (hc : BD T X Γ c k) (h1 : k = true → SD T X Γ th P) (h2 : k = false → SD T X Γ el P) : SD T X Γ [.If c th el pos] P := by
  cases k with
  | true => exact PSs.imp' (pss_one (ps_if hc (h1 rfl) pss_never)) fun E σ H ⟨Z, g, f⟩ => ⟨Z, g, fun H1 g1 x1 => iteT ⟨Z, g1, f⟩⟩
  | false => exact PSs.imp' (pss_one (ps_if hc pss_never (h2 rfl))) fun E σ H ⟨Z, g, f⟩ => ⟨Z, g, fun H1 g1 x1 => iteF ⟨Z, g1, f⟩⟩

/-! ### returns -/
theorem s_ret (he : ED T X false Γ e d) (h : P.rt d) : SD T X Γ (.Return (some e) pos :: rest) P :=
  s_seq (ps_ret he) pss_never fun E σ H ⟨Z, g, f⟩ => ⟨Z, g, fun v H1 g1 x1 d1 => f.rt d v H1 h g1.ext g1.tab (by rw [rg_false] at d1; exact d1)⟩
theorem s_retL (he : LD T X Γ e ds) (h : P.rl ds) : SD T X Γ (.Return (some e) pos :: rest) P :=
  s_seq (ps_ret he) pss_never fun E σ H ⟨Z, g, f⟩ => ⟨Z, g, fun p vs H1 g1 x1 hp d1 => f.rl ds p vs H1 h g1.ext g1.tab hp (d1.to rg_gr)⟩
/-- return name, an owned list -/
theorem s_retO (i : Nat) (hi : Γ[i]? = some (some (.ow p (.lst ds)))) (h : P.rl ds) (hN : X.N[i]? = some x := by rfl) (hv : Vis X.env.scope x := by first | exact Or.inl rfl | exact Or.inr (Or.inl rfl) | exact Or.inr (Or.inr rfl)) (hd : (x == ("__debug__" : Str)) = false := by decide)
    (hcd : (x == ("__classdict__" : Str)) = false := by decide) : SD T X Γ (.Return (some (.Name x xp)) pos :: rest) P :=
  s_seq (ps_ret (pe_var hN hv hd hcd)) pss_never fun E σ H ⟨Z, g, f⟩ => by
    obtain ⟨u, e1, rfl, vs, h1, h2⟩ := g.slots i _ hi
    have hm : p ∈ Z.ex ++ owns Γ := List.mem_append_right _ (mem_owns.mpr ⟨i, _, hi⟩)
    have q := f.rl ds p vs (minus H p) h (ext_minus g.ext (g.old p hm)) (tabs_minus g.tab h1) minus_same (h2.to fun a o e => by
      unfold rg at e
      split at e
      · cases e
      · rename_i hn
        have ha : a ≠ p := fun z => hn ⟨rfl, by rw [z]; exact hm⟩
        unfold gr at e ⊢
        cases r : nt Z.H0 a with
        | none => rw [r] at e; exact (nt_minus ha).trans e
        | some u => rw [r] at e; cases u <;> exact e)
    rw [upd_minus h1] at q
    exact ⟨_, e1, q⟩
theorem s_retN (h : P.rt .non) : SD T X Γ (.Return none pos :: rest) P :=
  s_seq ps_retN pss_never fun E σ H ⟨Z, g, f⟩ => f.rt .non .non H h g.ext g.tab .non

/-! ### loops -/
theorem s_for {tg iter : Expr} {g : TG} {n : Nat} {js : List Nat} {up : Nat → Ev → Ev} {Keep : Ev → Prop} (Γs : Nat → Ev) (L : Nat) (hi : PI X tg iter (tSrc T X.K Γ g n js up Keep)) (hg : PG X tg g) (h0 : Wk Γ (Γs 0)) (hk : ∀ k, k ≤ n → Keep (Γs k)) (hL : ∀ k, (Γs k).length = L) (hj : ∀ j ∈ js, j < L)
    (hb : ∀ k, k < n → SD T X (up k (Γs k)) body { P with nx := fun Γ' => Wk Γ' (Γs (k + 1)) }) (hr : SD T X (Γs n) rest P) (hp : PassesOwn (model X.prog X.w) X.A X.env X.xe := by first | exact PassesOwn.never | exact L2.passes_of rfl | assumption) (hc : X.calm = true := by rfl) (hs : ∀ x, foldedSetIterable iter X.env x = pure x := by intro _; rfl) :
    SD T X Γ (.For tg iter body [] pos :: rest) P :=
  s_seq (ps_for (tb := fun E σ H => ∃ k, k < n ∧ tSt T X.K (up k (Γs k)) { P with nx := fun Γ' => Wk Γ' (Γs (k + 1)) } E σ H) hp hc hi hg ⟨fun pins s σ H E I ⟨k, hk, h⟩ => (hb k hk).run pins s σ H E I h⟩ hs) hr fun E σ H ⟨Z, gz, f⟩ =>
    ⟨Z, gz, fun J Good H1 g1 x1 st good => by
      have gA : GOk T X.K { Z with B := rg true Z H1 Γ } H1 σ (Γs 0) := (g1.rebase (Same.refl _)).wk h0
      refine ⟨fun i m σ H => m = n - i ∧ i ≤ n ∧ GOk T X.K { Z with B := rg true Z H1 Γ } H σ (Γs i), ⟨n, by simp, Nat.zero_le _, gA⟩, ?_⟩
      rintro i m σ2 H2 ⟨rfl, hi2, g2⟩
      have gd := good { Z with B := rg true Z H1 Γ } H2 σ2 (Γs i) g2 (Same.refl _) (hk i hi2) (.inr trivial)
      by_cases hlt : i < n
      · obtain ⟨go, turn⟩ := st.turn { Z with B := rg true Z H1 Γ } i H2 σ2 (Γs i) hlt g2 gd (fun j q => by rw [hL]; exact hj j q)
        refine .inr ⟨go, fun σ H => GOk T X.K { Z with B := rg true Z H1 Γ } H σ (Γs (i + 1)), fun σ' H' p' => ⟨n - (i + 1), by omega, rfl, hlt, p'⟩, fun v H' y => turn v H' y _ fun σ3 H3 g3 x3 _ => ⟨i, hlt, { Z with B := rg true Z H1 Γ }, g3, ?_⟩⟩
        exact ⟨fun Γ' σ' H' w g' => g'.wk w, f.rt, f.rl, f.ro, fun c Γ' σ' H' e g' => f.xc c Γ' σ' H' e (g'.rebase (B := Z.B) (g1.base.trans g'.base)), f.rn, fun d Γ' v σ' H' e g' da => f.rm d Γ' v σ' H' e (g'.rebase (B := Z.B) (g1.base.trans g'.base)) da, f.h0⟩
      · have e : i = n := by omega
        subst e
        exact .inl ⟨st.stop { Z with B := rg true Z H1 Γ } H2 σ2 (Γs i) g2 gd, Z, g2.rebase (B := Z.B) (g1.base.trans g2.base), f⟩⟩
theorem s_while {α : Type} (Γs : α → Ev) (μ : α → Nat) (inv : α → Prop) (cnd : α → Bool) (a0 : α) (h0 : Wk Γ (Γs a0)) (hi0 : inv a0) (hc : ∀ a, inv a → BD T X (Γs a) c (cnd a))
    (hb : ∀ a, inv a → cnd a = true → SD T X (Γs a) body { P with nx := fun Γ' => ∃ a', inv a' ∧ μ a' < μ a ∧ Wk Γ' (Γs a') }) (hr : ∀ a, inv a → cnd a = false → SD T X (Γs a) rest P) (hp : PassesOwn (model X.prog X.w) X.A X.env X.xe := by first | exact PassesOwn.never | exact L2.passes_of rfl | assumption) :
    SD T X Γ (.While c body [] pos :: rest) P :=
  s_seq (u := fun E σ H => ∃ a, inv a ∧ cnd a = false ∧ tSt T X.K (Γs a) P E σ H)
    (ps_while (tc := fun σ H Q => ∃ a, inv a ∧ tB T X.K (Γs a) (cnd a) σ H Q) (tb := fun E σ H => ∃ a, inv a ∧ cnd a = true ∧ tSt T X.K (Γs a) { P with nx := fun Γ' => ∃ a', inv a' ∧ μ a' < μ a ∧ Wk Γ' (Γs a') } E σ H) hp
      ⟨fun pins s σ H Q I ⟨a, ha, h⟩ => (hc a ha).run pins s σ H Q I h⟩ ⟨fun pins s σ H E I ⟨a, ha, hk, h⟩ => (hb a ha hk).run pins s σ H E I h⟩)
    ⟨fun pins s σ H E I ⟨a, ha, hk, h⟩ => (hr a ha hk).run pins s σ H E I h⟩ fun E σ H ⟨Z, gz, f⟩ => by
      refine ⟨fun m σ H => ∃ a, inv a ∧ m = μ a ∧ GOk T X.K Z H σ (Γs a), ⟨_, a0, hi0, rfl, gz.wk h0⟩, ?_⟩
      rintro m σ1 H1 ⟨a, ha, rfl, g1⟩
      refine ⟨a, ha, Z, g1, fun H2 g2 x2 => ?_⟩
      cases hk : cnd a with
      | true =>
        refine iteT ⟨fun σ' H' => ∃ a', inv a' ∧ μ a' < μ a ∧ GOk T X.K Z H' σ' (Γs a'), fun σ' H' ⟨a', q1, q2, q3⟩ => ⟨_, q2, a', q1, rfl, q3⟩, a, ha, hk, Z, g2, ?_⟩
        exact ⟨fun Γ' σ' H' ⟨a', q1, q2, w⟩ g' => ⟨a', q1, q2, g'.wk w⟩, f.rt, f.rl, f.ro, f.xc, f.rn, f.rm, f.h0⟩
      | false => exact iteF ⟨a, ha, hk, Z, g2, f⟩
end

/-! ### a def by its body -/
/-- the def x of the top, as the head leaves it -/
structure Df (K : PySem.W.Frag) (mg : Str → Option Value) (x : Str) (st : Stmt) : Prop where
  ex : ∃ f fd, mg x = some (.ref f) ∧ FunD K x x (defArgs st) (defBody st) (defScope st) [] [] f fd
abbrev cxN (P : Program) (w : World) (K : PySem.W.Frag) (mg : Str → Option Value) (base : Heap) (N : List Str) (q : Str) (scope : Scope) (f : Addr) (cdv : Value) (A : Around) (outer : List Env) (s : Shared) (H : Hp) (E : XK) : Cx :=
  (cxOf CX0 P w K mg base N q scope f cdv A outer s H E).nox
def env0 (n : Nat) (ds : List D) : Ev := ds.map (fun d => some (.sh d)) ++ List.replicate (n - ds.length) none
theorem owns_env0 (n : Nat) : ∀ ds : List D, owns (env0 n ds) = [] := by
  have h0 : ∀ k : Nat, owns (List.replicate k none) = [] := fun k => by
    induction k with
    | zero => rfl
    | succ k ih => exact ih
  have h1 : ∀ (ds : List D) (k : Nat), owns (ds.map (fun d => some (.sh d)) ++ List.replicate k none) = [] := fun ds => by
    induction ds with
    | nil => intro k; exact h0 k
    | cons d ds ih => intro k; exact ih k
  intro ds
  exact h1 ds _
theorem start_ok {T : Tb} {K : PySem.W.Frag} {G H : Hp} {N : List Str} {vs : List V} {ds : List D} (hs : Same G H) (hn : NoTbl G) (hd : DaAll K G vs ds) (ht : LamX.Tabs T H) (hl : vs.length ≤ N.length) :
    GOk T K ⟨G, H, fun _ => none, []⟩ H (L2.start N vs) (env0 N.length ds) := by
  have eo := owns_env0 N.length ds
  have hlen := hd.length
  refine ⟨hs, hn, Ext.refl H, ht, by rw [eo]; exact List.nodup_nil, fun p hp => ?_, fun p hp => ?_, ?_, fun i s e => ?_, fun a o e => ?_⟩
  · rw [eo] at hp
    exact absurd (show p ∈ ([] : List Addr) from hp) (by simp)
  · exact absurd (show p ∈ ([] : List Addr) from hp) (by simp)
  · unfold L2.start env0
    simp [hlen]
  · have hi : i < ds.length := by
      unfold env0 at e
      by_cases hi : i < ds.length
      · exact hi
      · rw [List.getElem?_append_right (by simpa using hi), List.getElem?_replicate] at e
        split at e <;> cases e
    unfold env0 at e
    rw [List.getElem?_append_left (by simpa using hi), List.getElem?_map, List.getElem?_eq_getElem hi] at e
    cases e
    obtain ⟨v, hv, q⟩ := hd.get (List.getElem?_eq_getElem hi)
    refine ⟨v, ?_, q.to fun a o e => ?_⟩
    · unfold L2.start
      rw [List.getElem?_append_left (by simp; omega), List.getElem?_map, hv]
      rfl
    · unfold rg
      rw [if_neg (by rintro ⟨_, z⟩; rw [eo] at z; exact absurd (show a ∈ ([] : List Addr) from z) (by simp))]
      show gr G H H a = some o
      unfold gr
      rw [nt_of (hs a o e) (fun ps z => by subst z; exact hn a ps e)]
      cases o <;> first | rfl | exact e
  · cases e
section
variable {T : Tb} {P : Program} {w : World} {K : PySem.W.Frag} {mg : Str → Option Value} {base : Heap} {x : Str} {st : Stmt} {N ps : List Str} {k : Nat}
theorem FunD.keepF {K : PySem.W.Frag} {x q : Str} {a : Arguments} {b : List Stmt} {s : Scope} {dv : List V} {kw : List (Str × V)} {f : Addr} {fd : FuncData} (F : FunD K x q a b s dv kw f fd) : KeepF K f fd := by
  obtain ⟨oc, od, dV, kV, doc, pm, an, cdv, ct, osl, rfl, lk, _⟩ := F.ex
  exact ⟨F.kp, oc, od, osl, lk⟩
theorem cal_E {R : List D → D → Prop} (F : Df K mg x st) (S : FnScope N ps (defScope st)) (hb : ∀ (kV doc pm : Value) (an : Option Addr) (cdv ct : Value) (us : List Value), us.length = ps.length → bindArgs (PySem.W.fnOf x x (defArgs st) (defBody st) (defScope st) .none kV doc pm an cdv ct) ⟨us, []⟩ = pure (ps.zip us))
    (hlen : ∀ ds d, R ds d → ds.length = ps.length) (hpn : ps.length ≤ N.length)
    (hbody : ∀ (f : Addr) (cdv : Value) (A : Around) (outer : List Env) (s : Shared) (H : Hp) (E : XK), Room k (cxN P w K mg base N x (defScope st) f cdv A outer s H E).A → ∀ ds d, R ds d → SD T (cxN P w K mg base N x (defScope st) f cdv A outer s H E) (env0 N.length ds) (defBody st) { nx := fun _ => d = .non, rt := fun d' => d' = d, rl := fun es => d = .lst es }) :
    Cal P w K mg base x ps (k + 1) (spE T K R) := by
  obtain ⟨f, fd, hm, F⟩ := F.ex
  refine ⟨f, fd, hm, (DD.FunD.keepF F), F.bindsN hb, F.ok S (fun vs H Q E ⟨G, ds, d, h1, h2, h3, h4, _⟩ => by rw [h3.length]; exact hlen _ _ h4) fun cdv A outer s H vs Q E hr h => ?_⟩
  obtain ⟨G, ds, d, h1, h2, h3, h4, h5, q⟩ := h
  have hl := hlen _ _ h4
  have hl3 := h3.length
  refine ⟨_, (hbody f cdv A outer s H E hr ds d h4).nox, ⟨G, H, fun _ => none, []⟩, start_ok h1 h2 h3 h5 (by omega), ?_⟩
  refine ⟨fun Γ' σ' H' e g' => ?_, fun d' v H' e x t da => ?_, fun es p ws H' e x t hp da => ?_, fun _ _ _ _ _ e => False.elim e, fun _ _ _ _ e => False.elim e, fun _ _ _ e => False.elim e, fun _ _ _ _ _ e => False.elim e, fun _ e => nomatch e⟩
  · refine q _ _ g'.ext g'.tab ?_
    rw [e]
    exact .non
  · subst e
    exact q v H' x t da
  · refine q _ _ (x.trans (Ext.upd hp)) (t.ext (same_upd hp)) ?_
    rw [e]
    have hg : gr G H (upd H' p (.lst ws)) p = some (.lst ws) := by
      unfold gr
      rw [x.free hp]
      exact nt_of upd_same (fun ps z => by cases z)
    exact .lst hg (da.to (gr_ext (Ext.upd hp)))
theorem cal_L {R : List D → List D → Prop} (F : Df K mg x st) (S : FnScope N ps (defScope st)) (hb : ∀ (kV doc pm : Value) (an : Option Addr) (cdv ct : Value) (us : List Value), us.length = ps.length → bindArgs (PySem.W.fnOf x x (defArgs st) (defBody st) (defScope st) .none kV doc pm an cdv ct) ⟨us, []⟩ = pure (ps.zip us))
    (hlen : ∀ ds d, R ds d → ds.length = ps.length) (hpn : ps.length ≤ N.length)
    (hbody : ∀ (f : Addr) (cdv : Value) (A : Around) (outer : List Env) (s : Shared) (H : Hp) (E : XK), Room k (cxN P w K mg base N x (defScope st) f cdv A outer s H E).A → ∀ ds es, R ds es → SD T (cxN P w K mg base N x (defScope st) f cdv A outer s H E) (env0 N.length ds) (defBody st) { rl := fun es' => es' = es }) :
    Cal P w K mg base x ps (k + 1) (spL T K R) := by
  obtain ⟨f, fd, hm, F⟩ := F.ex
  refine ⟨f, fd, hm, (DD.FunD.keepF F), F.bindsN hb, F.ok S (fun vs H Q E ⟨G, ds, d, h1, h2, h3, h4, _⟩ => by rw [h3.length]; exact hlen _ _ h4) fun cdv A outer s H vs Q E hr h => ?_⟩
  obtain ⟨G, ds, es, h1, h2, h3, h4, h5, q⟩ := h
  have hl := hlen _ _ h4
  have hl3 := h3.length
  refine ⟨_, (hbody f cdv A outer s H E hr ds es h4).nox, ⟨G, H, fun _ => none, []⟩, start_ok h1 h2 h3 h5 (by omega), ?_⟩
  exact ⟨fun Γ' σ' H' e g' => False.elim e, fun d' v H' e x t da => False.elim e, fun es' p ws H' e x t hp da => by subst e; exact q p ws H' x t hp da, fun _ _ _ _ _ e => False.elim e, fun _ _ _ _ e => False.elim e, fun _ _ _ e => False.elim e, fun _ _ _ _ _ e => False.elim e, fun _ e => nomatch e⟩
/-- a new list is a list -/
theorem Cal.toE {R : List D → List D → Prop} (C : Cal P w K mg base x ps k (spL T K R)) : Cal P w K mg base x ps k (spE T K fun ds d => ∃ es, d = .lst es ∧ R ds es) := by
  obtain ⟨f, fd, a, b, c, F⟩ := C.ex
  refine ⟨f, fd, a, b, c, F.imp fun vs H Q E ⟨G, ds, d, h1, h2, h3, ⟨es, e, h4⟩, h5, q⟩ => ⟨G, ds, es, h1, h2, h3, h4, h5, fun p ws H' x t hp da => ?_⟩⟩
  refine q _ _ (x.trans (Ext.upd hp)) (t.ext (same_upd hp)) ?_
  rw [e]
  have hg : gr G H (upd H' p (.lst ws)) p = some (.lst ws) := by
    unfold gr
    rw [x.free hp]
    exact nt_of upd_same (fun ps z => by cases z)
  exact .lst hg (da.to (gr_ext (Ext.upd hp)))
end
end DD

/-! Texts, kinds, equality of data, sorted texts, comprehensions and loops over typed lists. -/
namespace DD
open PySem PySem.Spec L2

/-! ### equality of data -/
mutual
def toPy : D → PyData
  | .non => .none
  | .bl b => .bool b
  | .int i => .int i
  | .str x => .str x
  | .lst xs => .list (toPys xs)
  | .tup xs => .tuple (toPys xs)
  | .scr _ => .dict []
  | .ktp _ => .dict []
  | .dic _ _ => .dict []
  | .dit _ _ => .dict []
  | .obj _ => .dict []
  | .adr _ => .dict []
  | .exn _ => .dict []
  | .fr _ _ => .dict []
def toPys : List D → List PyData
  | [] => []
  | d :: ds => toPy d :: toPys ds
end
mutual
def plainD : D → Bool
  | .non => true
  | .bl _ => true
  | .int _ => true
  | .str _ => true
  | .lst xs => plainDs xs
  | .tup xs => plainDs xs
  | _ => false
def plainDs : List D → Bool
  | [] => true
  | d :: ds => plainD d && plainDs ds
end
section
variable {K : PySem.W.Frag} {G H : Hp}
mutual
theorem Da.dp (s : Same G H) : ∀ (d : D) (v : V), plainD d = true → Da K G v d → Dp K H v (toPy d) ∧ (toPy d).canLay0 = true
  | .non, _, _, h => by cases h; exact ⟨.non, by simp [toPy, PyData.canLay0]⟩
  | .bl b, _, _, h => by cases h; exact ⟨.bl b, by simp [toPy, PyData.canLay0]⟩
  | .int b, _, _, h => by cases h; exact ⟨.int b, by simp [toPy, PyData.canLay0]⟩
  | .str b, _, _, h => by
    cases h with
    | str _ q => exact ⟨.str b, by simp [toPy, PyData.canLay0, q.1]⟩
  | .lst ds, _, p, h => by
    cases h with
    | lst hs ha =>
      obtain ⟨q1, q2⟩ := DaAll.dp s ds _ (by simpa [plainD] using p) ha
      exact ⟨.lst (SqL.of (s _ _ hs)) q1, by simpa [toPy, PyData.canLay0] using q2⟩
  | .tup ds, _, p, h => by
    cases h with
    | tup hs ha =>
      obtain ⟨q1, q2⟩ := DaAll.dp s ds _ (by simpa [plainD] using p) ha
      exact ⟨.tup (SqT.of (s _ _ hs)) q1, by simpa [toPy, PyData.canLay0] using q2⟩
  | .scr _, _, p, _ => by simp [plainD] at p
  | .ktp _, _, p, _ => by simp [plainD] at p
  | .dic _ _, _, p, _ => by simp [plainD] at p
  | .dit _ _, _, p, _ => by simp [plainD] at p
  | .obj _, _, p, _ => by simp [plainD] at p
  | .adr _, _, p, _ => by simp [plainD] at p
  | .exn _, _, p, _ => by simp [plainD] at p
  | .fr _ _, _, p, _ => by simp [plainD] at p
theorem DaAll.dp (s : Same G H) : ∀ (ds : List D) (vs : List V), plainDs ds = true → DaAll K G vs ds → DpAll K H vs (toPys ds) ∧ PyData.canLayAll0 (toPys ds) = true
  | [], _, _, h => by cases h; exact ⟨.nil, by simp [toPys, PyData.canLayAll0]⟩
  | d :: ds, _, p, h => by
    have p' : plainD d = true ∧ plainDs ds = true := by simpa [plainDs] using p
    cases h with
    | cons h1 h2 =>
      obtain ⟨a1, a2⟩ := Da.dp s d _ p'.1 h1
      obtain ⟨b1, b2⟩ := DaAll.dp s ds _ p'.2 h2
      exact ⟨.cons a1 b1, by simp [toPys, PyData.canLayAll0, a2, b2]⟩
end
end
/-- f tells what it tells: equal data, equal things; at most n deep -/
structure Enc {α : Type} [DecidableEq α] (f : α → D) (n : Nat) : Prop where
  pl : ∀ a, plainD (f a) = true
  dp : ∀ a, (toPy (f a)).depth ≤ n
  eq : ∀ a b, PyData.eqv (toPy (f a)) (toPy (f b)) = decide (a = b)
theorem Enc.mono {α : Type} [DecidableEq α] {f : α → D} {n k : Nat} (E : Enc f n) (h : n ≤ k) : Enc f k := ⟨E.pl, fun a => Nat.le_trans (E.dp a) h, E.eq⟩
theorem enc_str : Enc D.str 0 := ⟨fun _ => rfl, fun _ => by simp [toPy, PyData.depth], fun a b => by
  simp only [toPy, PyData.eqv]
  exact Bool.beq_eq_decide_eq _ _⟩
theorem enc_int : Enc D.int 0 := ⟨fun _ => rfl, fun _ => by simp [toPy, PyData.depth], fun a b => by
  simp only [toPy, PyData.eqv]
  exact Bool.beq_eq_decide_eq _ _⟩
theorem plainDs_map {α : Type} {f : α → D} (h : ∀ a, plainD (f a) = true) : ∀ xs : List α, plainDs (xs.map f) = true
  | [] => rfl
  | x :: xs => by simp [plainDs, h x, plainDs_map h xs]
theorem depthAll_map {α : Type} {f : α → D} {n : Nat} (h : ∀ a, (toPy (f a)).depth ≤ n) : ∀ xs : List α, PyData.depthAll (toPys (xs.map f)) ≤ n
  | [] => by simp [toPys, PyData.depthAll]
  | x :: xs => by
    have h1 := h x
    have h2 := depthAll_map h xs
    simp only [List.map_cons, toPys, PyData.depthAll]
    omega
theorem eqvAll_map {α : Type} [DecidableEq α] {f : α → D} (h : ∀ a b, PyData.eqv (toPy (f a)) (toPy (f b)) = decide (a = b)) : ∀ xs ys : List α, PyData.eqvAll (toPys (xs.map f)) (toPys (ys.map f)) = decide (xs = ys)
  | [], [] => by simp [toPys, PyData.eqvAll]
  | [], y :: ys => by simp [toPys, PyData.eqvAll]
  | x :: xs, [] => by simp [toPys, PyData.eqvAll]
  | x :: xs, y :: ys => by
    simp only [List.map_cons, toPys, PyData.eqvAll, h, eqvAll_map h xs ys, List.cons.injEq]
    by_cases e : x = y <;> by_cases e' : xs = ys <;> simp [e, e']
theorem enc_list {α : Type} [DecidableEq α] {f : α → D} {n : Nat} (E : Enc f n) : Enc (fun xs : List α => .lst (xs.map f)) (n + 1) :=
  ⟨fun a => by show plainDs (a.map f) = true; exact plainDs_map E.pl a, fun a => by
    have := depthAll_map E.dp a
    simp only [toPy, PyData.depth]
    omega, fun a b => by simp only [toPy, PyData.eqv]; exact eqvAll_map E.eq a b⟩

section
variable {T : Tb} {X : Cx} {Γ : Ev} {m ma mb : Bool} {e a b c : Expr} {d da db dc : D} {pos p : Pos} {i : Nat} {x : Str} {ds es : List D}
theorem ED.as {d' : D} (h : ED T X m Γ e d) (q : d = d') : ED T X m Γ e d' := q ▸ h
theorem LD.as (h : LD T X Γ e ds) (q : ds = es) : LD T X Γ e es := q ▸ h
theorem ID.as (h : ID T X Γ e ds) (q : ds = es) : ID T X Γ e es := q ▸ h
theorem BD.as {k l : Bool} (h : BD T X Γ e k) (q : k = l) : BD T X Γ e l := q ▸ h
theorem shaped_of {d : PyData} (h : d.canLay0 = true) (h2 : d.depth ≤ 64) : SeqAt.shaped d = true := by
  show (d.canLay0 && decide (d.depth ≤ 64)) = true
  rw [h, decide_eq_true h2]
  rfl
/-- == of data of one kind -/
theorem c_eqD {α : Type} [DecidableEq α] {f : α → D} {n : Nat} {u v : α} (E : Enc f n) (hu : X.A.units + 64 < cLine) (ha : ED T X false Γ a (f u)) (hb : ED T X false Γ b (f v)) (hn : n ≤ 64 := by decide) : CD T X Γ .Eq a b (decide (u = v)) :=
  c_op (op_eqD hu) (fun Z H σ w y Q g d1 d2 q => by
    obtain ⟨a1, a2⟩ := Da.dp g.sub _ _ (E.pl u) d1
    obtain ⟨b1, b2⟩ := Da.dp g.sub _ _ (E.pl v) d2
    exact ⟨_, _, a1, b1, shaped_of a2 (Nat.le_trans (E.dp u) hn), shaped_of b2 (Nat.le_trans (E.dp v) hn), fin_c g q (E.eq u v)⟩) ha hb
theorem c_neD {α : Type} [DecidableEq α] {f : α → D} {n : Nat} {u v : α} (E : Enc f n) (hu : X.A.units + 64 < cLine) (ha : ED T X false Γ a (f u)) (hb : ED T X false Γ b (f v)) (hn : n ≤ 64 := by decide) : CD T X Γ .NotEq a b (!decide (u = v)) :=
  c_op (op_neD hu) (fun Z H σ w y Q g d1 d2 q => by
    obtain ⟨a1, a2⟩ := Da.dp g.sub _ _ (E.pl u) d1
    obtain ⟨b1, b2⟩ := Da.dp g.sub _ _ (E.pl v) d2
    exact ⟨_, _, a1, b1, shaped_of a2 (Nat.le_trans (E.dp u) hn), shaped_of b2 (Nat.le_trans (E.dp v) hn), fin_c g q (by rw [E.eq u v])⟩) ha hb
theorem any_eq {α : Type} [DecidableEq α] {f : α → D} {n : Nat} (E : Enc f n) (v : α) : ∀ xs : List α, ((toPys (xs.map f)).any fun z => PyData.eqv z (toPy (f v))) = decide (v ∈ xs)
  | [] => by simp [toPys]
  | x :: xs => by
    simp only [List.map_cons, toPys, List.any_cons, E.eq, any_eq E v xs, List.mem_cons]
    by_cases h : x = v
    · simp [h]
    · have h' : ¬ v = x := fun z => h z.symm
      simp [h, h']
theorem Enc.shapedL {α : Type} [DecidableEq α] {f : α → D} {n : Nat} (E : Enc f n) (hn : n ≤ 63) (xs : List α) {K : PySem.W.Frag} {G H : Hp} {v : V} (s : Same G H) (h : Da K G v (.lst (xs.map f))) : Dp K H v (.list (toPys (xs.map f))) ∧ SeqAt.shaped (.list (toPys (xs.map f))) = true := by
  obtain ⟨a1, a2⟩ := Da.dp s (.lst (xs.map f)) _ (show plainDs (xs.map f) = true from plainDs_map E.pl xs) h
  refine ⟨a1, shaped_of a2 ?_⟩
  have := depthAll_map E.dp xs
  simp only [toPy, PyData.depth]
  omega
/-- in, not in, of data in a list of such -/
theorem c_inD {α : Type} [DecidableEq α] {f : α → D} {n : Nat} {v : α} {xs : List α} (E : Enc f n) (hu : X.A.units + 65 < cLine) (ha : ED T X false Γ a (f v)) (hb : ED T X false Γ b (.lst (xs.map f))) (hn : n ≤ 63 := by decide) : CD T X Γ .In a b (decide (v ∈ xs)) :=
  c_op (op_inD hu) (fun Z H σ w y Q g d1 d2 q => by
    obtain ⟨a1, a2⟩ := Da.dp g.sub _ _ (E.pl v) d1
    obtain ⟨b1, b2⟩ := E.shapedL hn xs g.sub d2
    exact ⟨_, _, a1, b1, shaped_of a2 (Nat.le_trans (E.dp v) (by omega)), b2, fin_c g q (any_eq E v xs)⟩) ha hb
theorem c_notInD {α : Type} [DecidableEq α] {f : α → D} {n : Nat} {v : α} {xs : List α} (E : Enc f n) (hu : X.A.units + 65 < cLine) (ha : ED T X false Γ a (f v)) (hb : ED T X false Γ b (.lst (xs.map f))) (hn : n ≤ 63 := by decide) : CD T X Γ .NotIn a b (!decide (v ∈ xs)) :=
  c_op (op_notInD hu) (fun Z H σ w y Q g d1 d2 q => by
    obtain ⟨a1, a2⟩ := Da.dp g.sub _ _ (E.pl v) d1
    obtain ⟨b1, b2⟩ := E.shapedL hn xs g.sub d2
    exact ⟨_, _, a1, b1, shaped_of a2 (Nat.le_trans (E.dp v) (by omega)), b2, fin_c g q (by rw [any_eq E v xs])⟩) ha hb

/-! ### kinds -/
def tyN : D → String
  | .non => "NoneType"
  | .bl _ => "bool"
  | .int _ => "int"
  | .str _ => "str"
  | .lst _ => "list"
  | .scr _ => "list"
  | .tup _ => "tuple"
  | .ktp _ => "tuple"
  | .dic _ _ => "dict"
  | .dit _ _ => "dict"
  | .obj _ => "Weave"
  | .adr _ => "Weave"
  | .exn _ => "Weave"
  | .fr _ _ => "Weave"
def hasTy : D → Bool
  | .obj _ => false
  | .adr _ => false
  | .exn _ => false
  | .fr _ _ => false
  | _ => true
theorem tyx_of {K : PySem.W.Frag} {G H : Hp} (s : Same G H) {v : V} {d : D} (h : Da K G v d) (hp : hasTy d = true) : TyX K H v (.type (tyN d)) := by
  have sq : ∀ {a : Addr} {xs : List V}, SqL K G a xs → TyX K H (.ref a) (.type "list") := fun {a xs} h => by
    rcases h with (h | ⟨o, h⟩) | ⟨o, its, n, h, hc, _⟩
    · exact .base (.lst (s _ _ h))
    · exact .base (.frz (s _ _ h))
    · exact .kList h hc
  cases h with
  | non => exact .base .non
  | bl b => exact .base (.bl b)
  | int b => exact .base (.int b)
  | str b _ => exact .base (.str b)
  | scr ns h => exact sq h
  | lst h _ => exact sq (SqL.of h)
  | tup h _ => exact .base (.tup (s _ _ h))
  | ktp xs h =>
    rcases h with (h | ⟨o, h⟩) | ⟨o, its, n, h, hc, _⟩
    · exact .base (.tup (s _ _ h))
    · exact .fTuple (s _ _ h)
    · exact .kTuple h hc
  | dic h _ _ => exact .base (.dK (s _ _ h))
  | dit h _ _ => exact .base (.dT (s _ _ h))
  | obj _ _ => cases hp
  | adr _ => cases hp
  | exn _ _ _ _ _ => cases hp
  | fr _ _ _ => cases hp
theorem e_isi {tn : Str} {Tn : String} {q : Bool} {p1 p2 : Pos} (hm : X.mg "isinstance" = none) (ht : X.mg tn = none) (hv : bootBuiltins tn = some (.type Tn)) (h : ED T X false Γ a d) (hb : kitB (tyN d) Tn = some q) (hp : hasTy d = true := by rfl) (hg : Gl X "isinstance" := by rfl) (hgt : Gl X tn := by rfl)
    (hs2 : starEach [Expr.Name tn p2] X.env = (false, eval (.Name tn p2) X.env) :: starEach [] X.env := by rfl) (hs : starEach [a, .Name tn p2] X.env = (false, eval a X.env) :: starEach [.Name tn p2] X.env := by rfl) (hpl : (backTo pos (starEach [Expr.Name tn p2] X.env)).any (·.1) = false := by rfl)
    (hn : tn ≠ "__name__" := by decide) (hd : (tn == ("__debug__" : Str)) = false := by decide) : ED T X m Γ (.Call (.Name "isinstance" p1) [a, .Name tn p2] [] pos) (.bl q) :=
  PE.imp' (pe_callB call_isi hg hm (by decide +kernel) (pa_cons h (pa_cons (pe_bltn (v := .ty Tn) hgt ht hv rfl hn hd) pa_nil hs2) hs) (by decide) (by decide) hs hpl) fun σ H Q ⟨Z, g, f⟩ => ⟨Z, g, fun v H1 g1 x1 d1 =>
    ⟨v, .ty Tn, .type (tyN d), .type Tn, q, rfl, .ty Tn, tyx_of g1.sub d1 hp, kit_ty hb, f _ H1 g1 x1 (.bl _)⟩⟩

/-! ### texts -/
theorem e_strI {n : Int} (hm : X.mg "str" = none) (hb : n.natAbs.log2 < 1920) (hk : SOk (toString n : String)) (h : ED T X true Γ a (.int n)) (hg : Gl X "str" := by rfl) (hs : starEach [a] X.env = (false, eval a X.env) :: starEach [] X.env := by rfl) : ED T X m Γ (.Call (.Name "str" p) [a] [] pos) (.str (toString n : String)) :=
  e_callTy call_str_int (fun Z H σ vs Q g d1 q => by
    cases d1 with
    | cons h1 h2 =>
      cases h2
      cases h1
      exact ⟨_, rfl, hb, q _ H g (Ext.refl H) (.str _ hk)⟩) hg hm (by decide +kernel) (a_one h hs) (he := hs)
theorem e_intB {k : Bool} (hm : X.mg "int" = none) (h : ED T X true Γ a (.bl k)) (hg : Gl X "int" := by rfl) (hs : starEach [a] X.env = (false, eval a X.env) :: starEach [] X.env := by rfl) : ED T X m Γ (.Call (.Name "int" p) [a] [] pos) (.int (if k then 1 else 0)) :=
  e_callTy call_int1 (fun Z H σ vs Q g d1 q => by
    cases d1 with
    | cons h1 h2 =>
      cases h2
      cases h1
      exact .inr ⟨_, rfl, q _ H g (Ext.refl H) (.int _)⟩) hg hm (by decide +kernel) (a_one h hs) (he := hs)
theorem e_intS {z : Str} {n : Int} (hm : X.mg "int" = none) (hi : PySem.intText? z = some n) (hl : z.length ≤ 640) (h : ED T X true Γ a (.str z)) (hg : Gl X "int" := by rfl) (hs : starEach [a] X.env = (false, eval a X.env) :: starEach [] X.env := by rfl) : ED T X m Γ (.Call (.Name "int" p) [a] [] pos) (.int n) :=
  e_callTy call_int_str (fun Z H σ vs Q g d1 q => by
    cases d1 with
    | cons h1 h2 =>
      cases h2
      cases h1
      exact ⟨_, _, rfl, hi, hl, q _ H g (Ext.refl H) (.int _)⟩) hg hm (by decide +kernel) (a_one h hs) (he := hs)
variable {apos : Pos}
theorem e_join {z : Str} {ys : List Str} (hl : (ys.map (·.length)).sum + ys.length * z.length ≤ 16777216) (hk : SOk (Txt.join z ys)) (ho : ED T X true Γ e (.str z)) (h : ED T X false Γ a (.lst (ys.map D.str))) (hs : starEach [a] X.env = [(false, eval a X.env)] := by rfl) (hbase : attributeBase e "join" X.env (eval e X.env) = eval e X.env := by rfl) (hline : (apos.endLine == pos.line) = true := by rfl) :
    ED T X m Γ (.Call (.Attribute e "join" apos) [a] [] pos) (.str (Txt.join z ys)) :=
  PE.imp' (pe_join ho h hs hbase hline) fun σ H Q ⟨Z, g, q⟩ => ⟨Z, g, fun v H1 g1 x1 d1 => by
    cases d1 with
    | str _ s1 =>
      exact ⟨⟨z, rfl⟩, Z, g1, fun v H2 g2 x2 d2 => by
        cases d2 with
        | lst e1 e2 =>
          have ev := e2.strs
          subst ev
          exact ⟨z, _, ys, rfl, rfl, .inl (SqL.of (g2.sub _ _ e1)), hl, q _ H2 g2 (x1.trans x2) (.str _ hk)⟩⟩⟩
theorem l_split {z y : Str} (hy : (y.length == 0) = false) (hz : z.length + 2 ≤ 16777216) (hk : ∀ w ∈ Txt.split z y, SOk w) (ho : ED T X true Γ e (.str z)) (h : ED T X true Γ a (.str y)) (hs : starEach [a] X.env = [(false, eval a X.env)] := by rfl) (hbase : attributeBase e "split" X.env (eval e X.env) = eval e X.env := by rfl) (hline : (apos.endLine == pos.line) = true := by rfl) :
    LD T X Γ (.Call (.Attribute e "split" apos) [a] [] pos) ((Txt.split z y).map D.str) :=
  PE.imp' (pe_split ho h hs hbase hline) fun σ H Q ⟨Z, g, q⟩ => ⟨Z, g, fun v H1 g1 x1 d1 => by
    cases d1 with
    | str _ s1 =>
      exact ⟨⟨z, rfl⟩, Z, g1, fun v H2 g2 x2 d2 => by
        cases d2 with
        | str _ s2 => exact ⟨z, y, rfl, rfl, hy, by rw [sizeLine_eq]; exact hz, fun p hp => q p _ H2 g2 (x1.trans x2) hp (DaAll.of_strs _ hk)⟩⟩⟩
theorem e_part {z y : Str} (hy : (y.length == 0) = false) (hk : SOk (Txt.partition z y).1 ∧ SOk (Txt.partition z y).2.1 ∧ SOk (Txt.partition z y).2.2) (ho : ED T X true Γ e (.str z)) (h : ED T X true Γ a (.str y)) (hs : starEach [a] X.env = [(false, eval a X.env)] := by rfl) (hbase : attributeBase e "partition" X.env (eval e X.env) = eval e X.env := by rfl) (hline : (apos.endLine == pos.line) = true := by rfl) :
    ED T X m Γ (.Call (.Attribute e "partition" apos) [a] [] pos) (.tup [.str (Txt.partition z y).1, .str (Txt.partition z y).2.1, .str (Txt.partition z y).2.2]) :=
  PE.imp' (pe_partition ho h hs hbase hline) fun σ H Q ⟨Z, g, q⟩ => ⟨Z, g, fun v H1 g1 x1 d1 => by
    cases d1 with
    | str _ s1 =>
      exact ⟨⟨z, rfl⟩, Z, g1, fun v H2 g2 x2 d2 => by
        cases d2 with
        | str _ s2 => exact ⟨z, y, rfl, rfl, hy, by rw [sizeLine_eq]; have := s1.2; omega, fun p hp => q _ _ (g2.new hp) ((x1.trans x2).trans (Ext.upd hp))
            (.tup (rg_new g2 hp (fun _ z => by cases z)) (.cons (.str _ hk.1) (.cons (.str _ hk.2.1) (.cons (.str _ hk.2.2) .nil))))⟩⟩⟩
/-! a <= b <= c of ints, of texts, as a value -/
theorem e_chI {n1 n2 n3 : Int} (ha : ED T X true Γ a (.int n1)) (hb : ED T X true Γ b (.int n2)) (hc : ED T X true Γ c (.int n3)) (hm : lastMarks [.LtE, .LtE] [b, c] = false := by with_unfolding_all rfl) : ED T X m Γ (.Compare a [.LtE, .LtE] [b, c] pos) (.bl (decide (n1 ≤ n2) && decide (n2 ≤ n3))) :=
  PE.imp' (pe_chain op_le op_le ha hb hc hm) fun σ H Q ⟨Z, g, q⟩ => ⟨Z, g, fun v H1 g1 x1 d1 => ⟨Z, g1, fun u H2 g2 x2 d2 => by
    cases d1
    cases d2
    refine ⟨_, _, rfl, rfl, _, rfl, ?_⟩
    cases hk : decide (n1 ≤ n2) with
    | true => exact iteT ⟨Z, g2, fun w H3 g3 x3 d3 => by
        cases d3
        exact ⟨_, _, rfl, rfl, q _ H3 g3 ((x1.trans x2).trans x3) (by rw [hk]; exact .bl _)⟩⟩
    | false => exact iteF (q _ H2 g2 (x1.trans x2) (by rw [hk]; exact .bl _))⟩⟩
theorem e_chS {n1 n2 n3 : Str} (ha : ED T X true Γ a (.str n1)) (hb : ED T X true Γ b (.str n2)) (hc : ED T X true Γ c (.str n3)) (hm : lastMarks [.LtE, .LtE] [b, c] = false := by with_unfolding_all rfl) : ED T X m Γ (.Compare a [.LtE, .LtE] [b, c] pos) (.bl (!decide (n2.cps.toList < n1.cps.toList) && !decide (n3.cps.toList < n2.cps.toList))) :=
  PE.imp' (pe_chain op_le_str op_le_str ha hb hc hm) fun σ H Q ⟨Z, g, q⟩ => ⟨Z, g, fun v H1 g1 x1 d1 => ⟨Z, g1, fun u H2 g2 x2 d2 => by
    cases d1
    cases d2
    refine ⟨_, _, rfl, rfl, _, rfl, ?_⟩
    cases hk : !decide (n2.cps.toList < n1.cps.toList) with
    | true => exact iteT ⟨Z, g2, fun w H3 g3 x3 d3 => by
        cases d3
        exact ⟨_, _, rfl, rfl, q _ H3 g3 ((x1.trans x2).trans x3) (by rw [hk]; exact .bl _)⟩⟩
    | false => exact iteF (q _ H2 g2 (x1.trans x2) (by rw [hk]; exact .bl _))⟩⟩
theorem b_chI {n1 n2 n3 : Int} (ha : ED T X true Γ a (.int n1)) (hb : ED T X true Γ b (.int n2)) (hc : ED T X true Γ c (.int n3)) (hm : lastMarks [.LtE, .LtE] [b, c] = false := by with_unfolding_all rfl) : BD T X Γ (.Compare a [.LtE, .LtE] [b, c] pos) (decide (n1 ≤ n2) && decide (n2 ≤ n3)) :=
  PT.imp' (pt_chain op_le op_le ha hb hc hm) fun σ H Q ⟨Z, g, q⟩ => ⟨Z, g, fun v H1 g1 x1 d1 => ⟨Z, g1, fun u H2 g2 x2 d2 => by
    cases d1
    cases d2
    refine ⟨_, _, rfl, rfl, _, rfl, ?_⟩
    cases hk : decide (n1 ≤ n2) with
    | true => exact iteT ⟨Z, g2, fun w H3 g3 x3 d3 => by
        cases d3
        exact ⟨_, _, rfl, rfl, _, rfl, by rw [hk] at q; exact q H3 g3 ((x1.trans x2).trans x3)⟩⟩
    | false => exact iteF ⟨_, rfl, by rw [hk] at q; exact q H2 g2 (x1.trans x2)⟩⟩⟩
/-- list(xs) -/
theorem l_listOf (hm : X.mg "list" = none) (h : ID T X Γ a ds) (hg : Gl X "list" := by rfl) (hs : starEach [a] X.env = (false, eval a X.env) :: starEach [] X.env := by rfl) : LD T X Γ (.Call (.Name "list" p) [a] [] pos) ds :=
  PE.imp' (pe_callTy call_list_of hg hm (by decide +kernel) (pa_cons h pa_nil hs) (by decide) (by decide) hs (by rfl)) fun σ H Q ⟨Z, g, q⟩ => ⟨Z, g, fun r vs H1 g1 x1 e1 e2 => ⟨r, vs, rfl, .inl (SqL.of (g1.sub _ _ e1)), fun l hl => q l vs H1 g1 x1 hl e2⟩⟩
/-- xs[::-1] -/
theorem l_rev {k : Nat} {p1 p2 p3 : Pos} (h : ID T X Γ a ds) : LD T X Γ (.Subscript a (.Slice none none (some (.UnaryOp .USub (.Constant (.int 1) k p1) p2)) p3) pos) ds.reverse :=
  PE.imp' (pe_revL h) fun σ H Q ⟨Z, g, q⟩ => ⟨Z, g, fun r vs H1 g1 x1 e1 e2 => ⟨r, vs, rfl, SqL.of (g1.sub _ _ e1), fun l hl => q l _ H1 g1 x1 hl e2.reverse⟩⟩
variable {lo hi : Option Expr} {o1 o2 : Option Int} {p2 : Pos}
/-- a slice of a tuple: another one -/
theorem e_sliceT (ha : ED T X m Γ e (.tup ds)) (hl : PO X lo (tP T X.K Γ o1)) (hh : PO X hi (tP T X.K Γ o2)) (hne : ¬ (HT.sIx ds.length 0 o1 = 0 ∧ HT.sIx ds.length ds.length o2 = ds.length)) : ED T X m Γ (.Subscript e (.Slice lo hi none p2) pos) (.tup (cutD ds o1 o2)) :=
  PE.imp' (pe_slice sl_tup ha hl hh) fun σ H Q ⟨Z, g, q⟩ => ⟨Z, g, fun v H1 g1 x1 d1 => by
    cases d1 with
    | tup e1 e2 =>
      exact ⟨Z, g1, fun H2 g2 x2 => ⟨Z, g2, fun H3 g3 x3 => by
        have e3 := e2.to (rg_ext (x2.trans x3))
        have hc := e3.cut o1 o2
        refine ⟨_, _, rfl, SqT.of (g3.sub _ _ (rg_ext (x2.trans x3) _ _ e1)), by rw [e3.length]; exact hne, fun p hp => q _ _ (g3.new hp) (((x1.trans x2).trans x3).trans (Ext.upd hp)) (.tup (rg_new g3 hp (fun _ z => by cases z)) (hc.to (rg_ext (Ext.upd hp))))⟩⟩⟩⟩
/-- tuples, one behind the other -/
theorem e_catT (hne : ds ≠ []) (hne2 : es ≠ []) (hl : ds.length + es.length ≤ 16777216) (ha : ED T X m Γ a (.tup ds)) (hb : ED T X m Γ b (.tup es)) : ED T X m Γ (.BinOp a .Add b pos) (.tup (ds ++ es)) :=
  e_op op_catT (fun Z H σ v u Q g d1 d2 q => by
    cases d1 with
    | tup e1 e2 =>
      cases d2 with
      | tup f1 f2 =>
        refine ⟨_, _, _, _, rfl, rfl, SqT.of (g.sub _ _ e1), SqT.of (g.sub _ _ f1), ?_, ?_, ?_, ?_⟩
        · intro z
          have := e2.length
          rw [z] at this
          exact hne (List.length_eq_zero_iff.mp this.symm)
        · rw [e2.length, f2.length, sizeLine_eq]
          exact hl
        · intro z
          have := f2.length
          rw [z] at this
          exact absurd (List.length_eq_zero_iff.mp this.symm) hne2
        · intro _ p hp
          exact q _ _ (g.new hp) (Ext.upd hp) (.tup (rg_new g hp (fun _ z => by cases z)) ((e2.append f2).to (rg_ext (Ext.upd hp))))) ha hb
end

/-! ### sorted texts -/
def sle (a b : Str) : Bool := !decide (b.cps.toList < a.cps.toList)
def ssort (xs : List Str) : List Str := xs.mergeSort sle
theorem sle_total (a b : Str) : (sle a b || sle b a) = true := by
  unfold sle
  simp only [Bool.or_eq_true, Bool.not_eq_true', decide_eq_false_iff_not]
  by_cases h : b.cps.toList < a.cps.toList
  · exact .inr (List.lt_asymm h)
  · exact .inl h
theorem sle_trans (a b c : Str) (h1 : sle a b = true) (h2 : sle b c = true) : sle a c = true := by
  unfold sle at *
  simp only [Bool.not_eq_true', decide_eq_false_iff_not] at *
  exact List.le_trans h1 h2
theorem sle_anti {a b : Str} (h1 : sle a b = true) (h2 : sle b a = true) : a = b := by
  unfold sle at *
  simp only [Bool.not_eq_true', decide_eq_false_iff_not] at *
  exact TL.ext_tl (List.le_antisymm h1 h2)
theorem sorted_pair : ∀ {ys : List Str}, PyProof.Rows.sortedS ys = true → ys.Pairwise fun a b => sle a b = true := by
  have key : ∀ (ys : List Str) (p : Str), PyProof.Rows.risingS p ys = true → (p :: ys).Pairwise fun a b => sle a b = true := by
    intro ys
    induction ys with
    | nil => intro p _; simp
    | cons y ys ih =>
      intro p h
      unfold PyProof.Rows.risingS at h
      have h' : sle p y = true ∧ PyProof.Rows.risingS y ys = true := by
        simp only [Bool.and_eq_true] at h
        exact ⟨by unfold sle; rw [PyProof.Rows.le_meets]; exact h.1, h.2⟩
      have q := ih y h'.2
      refine List.pairwise_cons.mpr ⟨fun z hz => ?_, q⟩
      rcases List.mem_cons.mp hz with e | hz
      · subst e; exact h'.1
      · exact sle_trans _ _ _ h'.1 ((List.pairwise_cons.mp q).1 z hz)
  intro ys h
  cases ys with
  | nil => exact .nil
  | cons y ys => exact key ys y h
theorem ssort_eq {xs ys : List Str} (h : ys.Perm xs) (hs : ys.Pairwise fun a b => sle a b = true) : ys = ssort xs := by
  refine List.Perm.eq_of_pairwise (le := fun a b => sle a b = true) (fun a b _ _ h1 h2 => sle_anti h1 h2) hs ?_ (h.trans (List.mergeSort_perm xs sle).symm)
  exact List.pairwise_mergeSort (le := sle) (fun a b c => sle_trans a b c) (fun a b => sle_total a b) xs
section
variable {T : Tb} {X : Cx} {Γ : Ev} {m : Bool} {e a : Expr} {pos p : Pos}
theorem l_sorted {xs : List Str} (hm : X.mg "sorted" = none) (hl : xs.length < 64) (h : ED T X false Γ a (.lst (xs.map D.str))) (hg : Gl X "sorted" := by rfl) (hs : starEach [a] X.env = (false, eval a X.env) :: starEach [] X.env := by rfl) : LD T X Γ (.Call (.Name "sorted" p) [a] [] pos) ((ssort xs).map D.str) :=
  PE.imp' (pe_callB cr_sortedS hg hm (by decide +kernel) (pa_cons h pa_nil hs) (by decide) (by decide) hs (by rfl)) fun σ H Q ⟨Z, g, q⟩ => ⟨Z, g, fun v H1 g1 x1 d1 => by
    cases d1 with
    | lst e1 e2 =>
      have ev := e2.strs
      subst ev
      refine ⟨_, xs, rfl, SqL.of (g1.sub _ _ e1), hl, fun ys p hperm hsrt hp => ?_⟩
      have ey := ssort_eq hperm (sorted_pair hsrt)
      subst ey
      exact q p _ H1 g1 x1 hp (DaAll.of_strs _ fun z hz => e2.sok z (hperm.mem_iff.mp hz))⟩
end

/-! ### comprehensions over typed lists -/
theorem compD_list {α : Type} (as : List α) (p : α → Bool) (h : α → D) (keep : Nat → Bool) (val : Nat → D) (hk : ∀ (i : Nat) (a : α), as[i]? = some a → keep i = p a) (hv : ∀ (i : Nat) (a : α), as[i]? = some a → val i = h a) :
    ∀ n, n ≤ as.length → compD keep val n = ((as.take n).filter p).map h
  | 0, _ => rfl
  | n + 1, hn => by
    have hlt : n < as.length := hn
    have e : as[n]? = some as[n] := by simp [hlt]
    rw [compD_succ, compD_list as p h keep val hk hv n (Nat.le_of_lt hlt), List.take_add_one, e, List.filter_append, List.map_append, hk n _ e, hv n _ e]
    cases q : p as[n] <;> simp [q]
theorem getD_map {α : Type} {f : α → D} {as : List α} {i : Nat} {a : α} (h : as[i]? = some a) : (as.map f).getD i .non = f a := by
  simp [List.getD, h]
section
variable {T : Tb} {X : Cx} {Γ : Ev} {elt iter : Expr} {ifs : List Expr} {scope : Scope} {pos tp : Pos} {x : Str} {j : Nat} {α : Type} {as : List α} {f : α → D}
/-- what the comprehension's block is told of -/
abbrev blkOf (X : Cx) (scope : Scope) (s : Shared) (H : Hp) (C : Addr) (cl : List (Str × Addr)) (fp : List Addr) : Cx := X.blk s H scope (compEnvC scope cl C X.env) fp
theorem l_mapL (j : Nat) (h : α → D) (nd : X.N.Nodup) (hn : as.length ≤ 16777216) (hi : ED T X true Γ iter (.lst (as.map f))) (ok : BlkOk X.N X.env.scope scope [(x, j)])
    (hg : ∀ (s : Shared) (H : Hp) (C : Addr) (cl : List (Str × Addr)) (fp : List Addr), PG (blkOf X scope s H C cl fp) (.Name x tp) (gName j))
    (he : ∀ (s : Shared) (H : Hp) (C : Addr) (cl : List (Str × Addr)) (fp : List Addr) (a : α), a ∈ as → ED T (blkOf X scope s H C cl fp) true ((Γ.set j none).set j (some (.sh (f a)))) elt (h a))
    (hj : j < Γ.length := by exact Nat.le_of_ble_eq_true rfl) (ho : owns (Γ.set j none) = owns Γ := by rfl) (hup : ∀ d, owns ((Γ.set j none).set j (some (.sh d))) = owns (Γ.set j none) := by intro _; rfl) (hc : X.calm = true := by rfl) (hs : ∀ x, foldedSetIterable iter X.env x = pure x := by intro _; rfl) :
    LD T X Γ (.ListComp elt [⟨.Name x tp, iter, [], 0⟩] scope pos) (as.map h) := by
  have hl : (as.map f).length = as.length := by simp
  refine LD.as (l_comp (g := gName j) (keep := fun _ => true) (val := fun i => (as[i]?.map h).getD .non) hc nd (src_list hi) ok hg (fun s H C cl fp i _ => PTs.mk fun pins s' σ H' Q I ⟨Z, g, q⟩ => (pts_nil (X := blkOf X scope s H C cl fp)).run pins s' σ H' Q I (q H' g (Ext.refl H'))) (fun s H C cl fp i hi' _ => ?_) (by rw [hl]; exact hn) (by simpa using hj) (by simp) trivial ho (fun i => hup _) hs) ?_
  · have hlt : i < as.length := by rw [← hl]; exact hi'
    have e : as[i]? = some as[i] := by simp [hlt]
    show ED T (blkOf X scope s H C cl fp) true ((Γ.set j none).set j (some (.sh ((as.map f).getD i .non)))) elt ((as[i]?.map h).getD .non)
    rw [getD_map e, e]
    exact he s H C cl fp as[i] (List.getElem_mem hlt)
  · rw [hl, compD_list as (fun _ => true) h _ _ (fun _ _ _ => rfl) (fun i a e => by simp [e]) as.length (Nat.le_refl _), List.take_length, List.filter_eq_self.mpr (by simp)]
theorem l_filL (j : Nat) (p : α → Bool) (h : α → D) {t : Expr} (nd : X.N.Nodup) (hn : as.length ≤ 16777216) (hi : ED T X true Γ iter (.lst (as.map f))) (ok : BlkOk X.N X.env.scope scope [(x, j)])
    (hg : ∀ (s : Shared) (H : Hp) (C : Addr) (cl : List (Str × Addr)) (fp : List Addr), PG (blkOf X scope s H C cl fp) (.Name x tp) (gName j))
    (ht : ∀ (s : Shared) (H : Hp) (C : Addr) (cl : List (Str × Addr)) (fp : List Addr) (a : α), a ∈ as → BD T (blkOf X scope s H C cl fp) ((Γ.set j none).set j (some (.sh (f a)))) t (p a))
    (he : ∀ (s : Shared) (H : Hp) (C : Addr) (cl : List (Str × Addr)) (fp : List Addr) (a : α), a ∈ as → p a = true → ED T (blkOf X scope s H C cl fp) true ((Γ.set j none).set j (some (.sh (f a)))) elt (h a))
    (hj : j < Γ.length := by exact Nat.le_of_ble_eq_true rfl) (ho : owns (Γ.set j none) = owns Γ := by rfl) (hup : ∀ d, owns ((Γ.set j none).set j (some (.sh d))) = owns (Γ.set j none) := by intro _; rfl) (hc : X.calm = true := by rfl) (hs : ∀ x, foldedSetIterable iter X.env x = pure x := by intro _; rfl) :
    LD T X Γ (.ListComp elt [⟨.Name x tp, iter, [t], 0⟩] scope pos) ((as.filter p).map h) := by
  have hl : (as.map f).length = as.length := by simp
  refine LD.as (l_comp (g := gName j) (keep := fun i => (as[i]?.map p).getD false) (val := fun i => (as[i]?.map h).getD .non) hc nd (src_list hi) ok hg (fun s H C cl fp i hi' => pts_one ?_) (fun s H C cl fp i hi' hk => ?_) (by rw [hl]; exact hn) (by simpa using hj) (by simp) trivial ho (fun i => hup _) hs) ?_
  · have hlt : i < as.length := by rw [← hl]; exact hi'
    have e : as[i]? = some as[i] := by simp [hlt]
    show BD T (blkOf X scope s H C cl fp) ((Γ.set j none).set j (some (.sh ((as.map f).getD i .non)))) t ((as[i]?.map p).getD false)
    rw [getD_map e, e]
    exact ht s H C cl fp as[i] (List.getElem_mem hlt)
  · have hlt : i < as.length := by rw [← hl]; exact hi'
    have e : as[i]? = some as[i] := by simp [hlt]
    show ED T (blkOf X scope s H C cl fp) true ((Γ.set j none).set j (some (.sh ((as.map f).getD i .non)))) elt ((as[i]?.map h).getD .non)
    rw [e] at hk
    rw [getD_map e, e]
    exact he s H C cl fp as[i] (List.getElem_mem hlt) hk
  · rw [hl, compD_list as p h _ _ (fun i a e => by simp [e]) (fun i a e => by simp [e]) as.length (Nat.le_refl _)]
    simp
/-- over range(n) -/
theorem l_mapR (j : Nat) (h : Nat → D) {n : Int} {a : Expr} {rp rpos : Pos} (nd : X.N.Nodup) (hm : X.mg "range" = none) (hn : n.toNat ≤ 16777216) (hi : ED T X true Γ a (.int n)) (ok : BlkOk X.N X.env.scope scope [(x, j)])
    (hg : ∀ (s : Shared) (H : Hp) (C : Addr) (cl : List (Str × Addr)) (fp : List Addr), PG (blkOf X scope s H C cl fp) (.Name x tp) (gName j))
    (he : ∀ (s : Shared) (H : Hp) (C : Addr) (cl : List (Str × Addr)) (fp : List Addr) (i : Nat), i < n.toNat → ED T (blkOf X scope s H C cl fp) true ((Γ.set j none).set j (some (.sh (.int (i : Nat))))) elt (h i))
    (hneg : -(2 ^ 62) ≤ n := by omega) (hj : j < Γ.length := by exact Nat.le_of_ble_eq_true rfl) (ho : owns (Γ.set j none) = owns Γ := by rfl) (hup : ∀ d, owns ((Γ.set j none).set j (some (.sh d))) = owns (Γ.set j none) := by intro _; rfl) (hc : X.calm = true := by rfl) (hgl : Gl X "range" := by rfl) (hst : starEach [a] X.env = [(false, eval a X.env)] := by rfl)
    (hs : ∀ x, foldedSetIterable (.Call (.Name "range" rp) [a] [] rpos) X.env x = pure x := by intro _; rfl) :
    LD T X Γ (.ListComp elt [⟨.Name x tp, .Call (.Name "range" rp) [a] [] rpos, [], 0⟩] scope pos) ((List.range n.toNat).map h) := by
  refine LD.as (l_comp (g := gName j) (keep := fun _ => true) (val := h) hc nd (src_range hm hneg (by omega) hi hgl hst) ok hg (fun s H C cl fp i _ => PTs.mk fun pins s' σ H' Q I ⟨Z, g, q⟩ => (pts_nil (X := blkOf X scope s H C cl fp)).run pins s' σ H' Q I (q H' g (Ext.refl H'))) (fun s H C cl fp i hi' _ => ?_) hn (by simpa using hj) (by simp) trivial ho (fun i => hup _) hs) ?_
  · show ED T (blkOf X scope s H C cl fp) true ((Γ.set j none).set j (some (.sh (.int (0 + (i : Int)))))) elt (h i)
    rw [Int.zero_add]
    exact he s H C cl fp i hi'
  · unfold compD
    rw [List.filter_eq_self.mpr (by simp)]
theorem l_filR (j : Nat) (p : Nat → Bool) (h : Nat → D) {n : Int} {a t : Expr} {rp rpos : Pos} (nd : X.N.Nodup) (hm : X.mg "range" = none) (hn : n.toNat ≤ 16777216) (hi : ED T X true Γ a (.int n)) (ok : BlkOk X.N X.env.scope scope [(x, j)])
    (hg : ∀ (s : Shared) (H : Hp) (C : Addr) (cl : List (Str × Addr)) (fp : List Addr), PG (blkOf X scope s H C cl fp) (.Name x tp) (gName j))
    (ht : ∀ (s : Shared) (H : Hp) (C : Addr) (cl : List (Str × Addr)) (fp : List Addr) (i : Nat), i < n.toNat → BD T (blkOf X scope s H C cl fp) ((Γ.set j none).set j (some (.sh (.int (i : Nat))))) t (p i))
    (he : ∀ (s : Shared) (H : Hp) (C : Addr) (cl : List (Str × Addr)) (fp : List Addr) (i : Nat), i < n.toNat → p i = true → ED T (blkOf X scope s H C cl fp) true ((Γ.set j none).set j (some (.sh (.int (i : Nat))))) elt (h i))
    (hneg : -(2 ^ 62) ≤ n := by omega) (hj : j < Γ.length := by exact Nat.le_of_ble_eq_true rfl) (ho : owns (Γ.set j none) = owns Γ := by rfl) (hup : ∀ d, owns ((Γ.set j none).set j (some (.sh d))) = owns (Γ.set j none) := by intro _; rfl) (hc : X.calm = true := by rfl) (hgl : Gl X "range" := by rfl) (hst : starEach [a] X.env = [(false, eval a X.env)] := by rfl)
    (hs : ∀ x, foldedSetIterable (.Call (.Name "range" rp) [a] [] rpos) X.env x = pure x := by intro _; rfl) :
    LD T X Γ (.ListComp elt [⟨.Name x tp, .Call (.Name "range" rp) [a] [] rpos, [t], 0⟩] scope pos) (((List.range n.toNat).filter p).map h) := by
  refine l_comp (g := gName j) (keep := p) (val := h) hc nd (src_range hm hneg (by omega) hi hgl hst) ok hg (fun s H C cl fp i hi' => pts_one ?_) (fun s H C cl fp i hi' hk => ?_) hn (by simpa using hj) (by simp) trivial ho (fun i => hup _) hs
  · show BD T (blkOf X scope s H C cl fp) ((Γ.set j none).set j (some (.sh (.int (0 + (i : Int)))))) t (p i)
    rw [Int.zero_add]
    exact ht s H C cl fp i hi'
  · show ED T (blkOf X scope s H C cl fp) true ((Γ.set j none).set j (some (.sh (.int (0 + (i : Int)))))) elt (h i)
    rw [Int.zero_add]
    exact he s H C cl fp i hi' hk
/-- over the signs of a text -/
theorem l_mapS (j : Nat) (h : Nat → D) {z : Str} (nd : X.N.Nodup) (hz : SOk z) (hi : ED T X true Γ iter (.str z)) (ok : BlkOk X.N X.env.scope scope [(x, j)])
    (hg : ∀ (s : Shared) (H : Hp) (C : Addr) (cl : List (Str × Addr)) (fp : List Addr), PG (blkOf X scope s H C cl fp) (.Name x tp) (gName j))
    (he : ∀ (s : Shared) (H : Hp) (C : Addr) (cl : List (Str × Addr)) (fp : List Addr) (k : Nat), k ∈ z.cps.toList → ED T (blkOf X scope s H C cl fp) true ((Γ.set j none).set j (some (.sh (.str ⟨#[k]⟩)))) elt (h k))
    (hj : j < Γ.length := by exact Nat.le_of_ble_eq_true rfl) (ho : owns (Γ.set j none) = owns Γ := by rfl) (hup : ∀ d, owns ((Γ.set j none).set j (some (.sh d))) = owns (Γ.set j none) := by intro _; rfl) (hc : X.calm = true := by rfl) (hs : ∀ x, foldedSetIterable iter X.env x = pure x := by intro _; rfl) :
    LD T X Γ (.ListComp elt [⟨.Name x tp, iter, [], 0⟩] scope pos) (z.cps.toList.map h) := by
  have hl : z.cps.toList.length = z.cps.size := by simp
  refine LD.as (l_comp (g := gName j) (keep := fun _ => true) (val := fun i => (z.cps.toList[i]?.map h).getD .non) hc nd (src_str hz hi) ok hg (fun s H C cl fp i _ => PTs.mk fun pins s' σ H' Q I ⟨Z, g, q⟩ => (pts_nil (X := blkOf X scope s H C cl fp)).run pins s' σ H' Q I (q H' g (Ext.refl H'))) (fun s H C cl fp i hi' _ => ?_) (by have := hz.2; show z.cps.size ≤ _; have q : z.length = z.cps.size := rfl; omega) (by simpa using hj) (by simp) trivial ho (fun i => hup _) hs) ?_
  · have hlt : i < z.cps.toList.length := by rw [hl]; exact hi'
    have e : z.cps.toList[i]? = some z.cps.toList[i] := by simp [hlt]
    show ED T (blkOf X scope s H C cl fp) true ((Γ.set j none).set j (some (.sh (.str ⟨#[z.cps.toList.getD i 0]⟩)))) elt ((z.cps.toList[i]?.map h).getD .non)
    have e2 : z.cps.toList.getD i 0 = z.cps.toList[i] := by simp [List.getD, e]
    rw [e2, e]
    exact he s H C cl fp _ (List.getElem_mem hlt)
  · rw [← hl, compD_list z.cps.toList (fun _ => true) h _ _ (fun _ _ _ => rfl) (fun i a e => by simp [e]) _ (Nat.le_refl _), List.take_length, List.filter_eq_self.mpr (by simp)]
end
section
variable {T : Tb} {X : Cx} {Γ : Ev} {iter : Expr} {pos tp : Pos} {x : Str} {α : Type} {as : List α} {f : α → D} {rest body : List Stmt} {P : Pst}
/-- for x in a stable list -/
theorem s_forL (j : Nat) (Γs : Nat → Ev) (L : Nat) (hi : ED T X true Γ iter (.lst (as.map f))) (hg : PG X (.Name x tp) (gName j)) (h0 : Wk Γ (Γs 0)) (hL : ∀ k, (Γs k).length = L) (hj : j < L)
    (hb : ∀ (k : Nat) (a : α), as[k]? = some a → SD T X ((Γs k).set j (some (.sh (f a)))) body { P with nx := fun Γ' => Wk Γ' (Γs (k + 1)) }) (hr : SD T X (Γs as.length) rest P) (hp : PassesOwn (model X.prog X.w) X.A X.env X.xe := by first | exact PassesOwn.never | exact L2.passes_of rfl | assumption) (hc : X.calm = true := by rfl) (hs : ∀ x, foldedSetIterable iter X.env x = pure x := by intro _; rfl) :
    SD T X Γ (.For (.Name x tp) iter body [] pos :: rest) P := by
  have hl : (as.map f).length = as.length := by simp
  refine s_for Γs L (src_list hi) hg h0 (fun _ _ => trivial) hL (by simpa using hj) (fun k hk => ?_) (by rw [hl]; exact hr) hp hc hs
  have hlt : k < as.length := by rw [← hl]; exact hk
  have e : as[k]? = some as[k] := by simp [hlt]
  show SD T X ((Γs k).set j (some (.sh ((as.map f).getD k .non)))) body _
  rw [getD_map e]
  exact hb k _ e
/-- for x in an owned list (slot i) that the loop leaves -/
theorem s_forO (i j : Nat) {p : Addr} {y : Str} {yp : Pos} (Γs : Nat → Ev) (L : Nat) (hi : Γ[i]? = some (some (.ow p (.lst (as.map f))))) (hg : PG X (.Name x tp) (gName j)) (h0 : Wk Γ (Γs 0)) (hk : ∀ k, (Γs k)[i]? = some (some (.ow p (.lst (as.map f))))) (hL : ∀ k, (Γs k).length = L) (hj : j < L)
    (hb : ∀ (k : Nat) (a : α), as[k]? = some a → SD T X ((Γs k).set j (some (.sh (f a)))) body { P with nx := fun Γ' => Wk Γ' (Γs (k + 1)) }) (hr : SD T X (Γs as.length) rest P)
    (hN : X.N[i]? = some y := by rfl) (hv : Vis X.env.scope y := by first | exact Or.inl rfl | exact Or.inr (Or.inl rfl) | exact Or.inr (Or.inr rfl)) (hd : (y == ("__debug__" : Str)) = false := by decide) (hcd : (y == ("__classdict__" : Str)) = false := by decide)
    (hp : PassesOwn (model X.prog X.w) X.A X.env X.xe := by first | exact PassesOwn.never | exact L2.passes_of rfl | assumption) (hc : X.calm = true := by rfl) (hs : ∀ x, foldedSetIterable (.Name y yp) X.env x = pure x := by intro _; rfl) :
    SD T X Γ (.For (.Name x tp) (.Name y yp) body [] pos :: rest) P := by
  have hl : (as.map f).length = as.length := by simp
  refine s_for Γs L (src_own hi hN hv hd hcd) hg h0 (fun k _ => hk k) hL (by simpa using hj) (fun k hk => ?_) (by rw [hl]; exact hr) hp hc hs
  have hlt : k < as.length := by rw [← hl]; exact hk
  have e : as[k]? = some as[k] := by simp [hlt]
  show SD T X ((Γs k).set j (some (.sh ((as.map f).getD k .non)))) body _
  rw [getD_map e]
  exact hb k _ e
/-- for x in range(n) -/
theorem s_forR (j : Nat) {n : Int} {a : Expr} {rp rpos : Pos} (Γs : Nat → Ev) (L : Nat) (hm : X.mg "range" = none) (hi : ED T X true Γ a (.int n)) (hg : PG X (.Name x tp) (gName j)) (h0 : Wk Γ (Γs 0)) (hL : ∀ k, (Γs k).length = L) (hj : j < L)
    (hb : ∀ (k : Nat), k < n.toNat → SD T X ((Γs k).set j (some (.sh (.int (k : Nat))))) body { P with nx := fun Γ' => Wk Γ' (Γs (k + 1)) }) (hr : SD T X (Γs n.toNat) rest P)
    (h1 : -(2 ^ 62) ≤ n := by omega) (h2 : n < 2 ^ 62 := by omega) (hp : PassesOwn (model X.prog X.w) X.A X.env X.xe := by first | exact PassesOwn.never | exact L2.passes_of rfl | assumption) (hc : X.calm = true := by rfl) (hgl : Gl X "range" := by rfl) (hst : starEach [a] X.env = [(false, eval a X.env)] := by rfl)
    (hs : ∀ x, foldedSetIterable (.Call (.Name "range" rp) [a] [] rpos) X.env x = pure x := by intro _; rfl) :
    SD T X Γ (.For (.Name x tp) (.Call (.Name "range" rp) [a] [] rpos) body [] pos :: rest) P := by
  refine s_for Γs L (src_range hm h1 h2 hi hgl hst) hg h0 (fun _ _ => trivial) hL (by simpa using hj) (fun k hk => ?_) hr hp hc hs
  show SD T X ((Γs k).set j (some (.sh (.int (0 + (k : Int)))))) body _
  rw [Int.zero_add]
  exact hb k hk
/-- for i, x in enumerate(a stable list) -/
theorem s_forE (j1 j2 : Nat) {a : Expr} {ep epos : Pos} {elts : List Expr} {kk : Nat} (Γs : Nat → Ev) (L : Nat) (hm : X.mg "enumerate" = none) (hi : ED T X true Γ a (.lst (as.map f))) (hg : PG X (.Tuple elts kk tp) (g2 X.K j1 j2)) (h0 : Wk Γ (Γs 0)) (hL : ∀ k, (Γs k).length = L) (hj1 : j1 < L) (hj2 : j2 < L)
    (hb : ∀ (k : Nat) (a : α), as[k]? = some a → SD T X (((Γs k).set j1 (some (.sh (.int (k : Nat))))).set j2 (some (.sh (f a)))) body { P with nx := fun Γ' => Wk Γ' (Γs (k + 1)) }) (hr : SD T X (Γs as.length) rest P)
    (hp : PassesOwn (model X.prog X.w) X.A X.env X.xe := by first | exact PassesOwn.never | exact L2.passes_of rfl | assumption) (hc : X.calm = true := by rfl) (hgl : Gl X "enumerate" := by rfl) (hst : starEach [a] X.env = [(false, eval a X.env)] := by rfl)
    (hs : ∀ x, foldedSetIterable (.Call (.Name "enumerate" ep) [a] [] epos) X.env x = pure x := by intro _; rfl) :
    SD T X Γ (.For (.Tuple elts kk tp) (.Call (.Name "enumerate" ep) [a] [] epos) body [] pos :: rest) P := by
  have hl : (as.map f).length = as.length := by simp
  refine s_for Γs L (src_enum hm hi hgl hst) hg h0 (fun _ _ => trivial) hL (by intro j hj; simp only [List.mem_cons, List.not_mem_nil, or_false] at hj; rcases hj with rfl | rfl <;> assumption) (fun k hk => ?_) (by rw [hl]; exact hr) hp hc hs
  have hlt : k < as.length := by rw [← hl]; exact hk
  have e : as[k]? = some as[k] := by simp [hlt]
  show SD T X (((Γs k).set j1 (some (.sh (.int (k : Nat))))).set j2 (some (.sh ((as.map f).getD k .non)))) body _
  rw [getD_map e]
  exact hb k _ e
/-- for a, b in zip(two stable lists of one length) -/
theorem s_forZ (j1 j2 : Nat) {β : Type} {bs : List β} {g : β → D} {a b : Expr} {ep epos : Pos} {elts : List Expr} {kk : Nat} (Γs : Nat → Ev) (L : Nat) (hm : X.mg "zip" = none) (hlen : as.length = bs.length) (ha : ED T X true Γ a (.lst (as.map f))) (hb' : ED T X true Γ b (.lst (bs.map g))) (hg : PG X (.Tuple elts kk tp) (g2 X.K j1 j2)) (h0 : Wk Γ (Γs 0)) (hL : ∀ k, (Γs k).length = L) (hj1 : j1 < L) (hj2 : j2 < L)
    (hb : ∀ (k : Nat) (a : α) (b : β), as[k]? = some a → bs[k]? = some b → SD T X (((Γs k).set j1 (some (.sh (f a)))).set j2 (some (.sh (g b)))) body { P with nx := fun Γ' => Wk Γ' (Γs (k + 1)) }) (hr : SD T X (Γs as.length) rest P)
    (hp : PassesOwn (model X.prog X.w) X.A X.env X.xe := by first | exact PassesOwn.never | exact L2.passes_of rfl | assumption) (hc : X.calm = true := by rfl) (hgl : Gl X "zip" := by rfl) (hs2 : starEach [b] X.env = (false, eval b X.env) :: starEach [] X.env := by rfl)
    (hst : starEach [a, b] X.env = (false, eval a X.env) :: starEach [b] X.env := by rfl) (hpl : (backTo epos (starEach [b] X.env)).any (·.1) = false := by rfl) (hs : ∀ x, foldedSetIterable (.Call (.Name "zip" ep) [a, b] [] epos) X.env x = pure x := by intro _; rfl) :
    SD T X Γ (.For (.Tuple elts kk tp) (.Call (.Name "zip" ep) [a, b] [] epos) body [] pos :: rest) P := by
  have hl : (as.map f).length = as.length := by simp
  refine s_for Γs L (src_zip hm (by simp [hlen]) ha hb' hgl hs2 hst hpl) hg h0 (fun _ _ => trivial) hL (by intro j hj; simp only [List.mem_cons, List.not_mem_nil, or_false] at hj; rcases hj with rfl | rfl <;> assumption) (fun k hk => ?_) (by rw [hl]; exact hr) hp hc hs
  have hlt : k < as.length := by rw [← hl]; exact hk
  have hlt2 : k < bs.length := by omega
  have e : as[k]? = some as[k] := by simp [hlt]
  have e2 : bs[k]? = some bs[k] := by simp [hlt2]
  show SD T X (((Γs k).set j1 (some (.sh ((as.map f).getD k .non)))).set j2 (some (.sh ((bs.map g).getD k .non)))) body _
  rw [getD_map e, getD_map e2]
  exact hb k _ _ e e2
end
end DD

/-! Names of built-ins, lists of numbers handed in, states of loops, small facts. -/
namespace DD
open PySem PySem.Spec L2

/-- the names of the built-ins are free -/
structure Bt (mg : Str → Option Value) : Prop where
  len : mg "len" = none
  all : mg "all" = none
  any : mg "any" = none
  sorted : mg "sorted" = none
  range : mg "range" = none
  str : mg "str" = none
  int : mg "int" = none
  list : mg "list" = none
  dict : mg "dict" = none
  set : mg "set" = none
  min : mg "min" = none
  max : mg "max" = none
  zip : mg "zip" = none
  enumerate : mg "enumerate" = none
  repr : mg "repr" = none
  isinstance : mg "isinstance" = none
  bool : mg "bool" = none
  tuple : mg "tuple" = none

/-! ### a list of numbers: the script or one of our own -/
def ILd (d : D) (ns : List Int) : Prop := d = .scr ns ∨ d = .lst (ns.map D.int)
section
variable {T : Tb} {X : Cx} {Γ : Ev} {m ma mb : Bool} {e a b c : Expr} {d da db dc : D} {pos p : Pos} {i : Nat} {x : Str} {ds es : List D}
theorem atI_map {α β : Type} (f : α → β) {xs : List α} {n : Int} {a : α} (h : atI xs n = some a) : atI (xs.map f) n = some (f a) := by
  unfold atI at *
  rw [List.length_map]
  cases hj : ixN xs.length n with
  | none => rw [hj] at h; cases h
  | some j =>
    rw [hj] at h
    have h' : xs[j]? = some a := h
    show (xs.map f)[j]? = some (f a)
    rw [List.getElem?_map, h']
    rfl
theorem atI_nat {α : Type} {xs : List α} {n : Int} {a : α} (h0 : 0 ≤ n) (h : xs[n.toNat]? = some a) : atI xs n = some a := by
  have hl : n.toNat < xs.length := (List.getElem?_eq_some_iff.mp h).1
  unfold atI ixN
  rw [if_pos h0, if_pos (by omega)]
  exact h
theorem atI_getD {α : Type} {xs : List α} {n : Int} (z : α) (h0 : 0 ≤ n) (h : n < xs.length) : atI xs n = some (xs.getD n.toNat z) := by
  have hl : n.toNat < xs.length := by omega
  exact atI_nat h0 (by simp [List.getD, hl])
theorem atI_last {α : Type} {xs : List α} (h : xs ≠ []) : atI xs (-1) = some (xs.getLast h) := by
  have hl : 0 < xs.length := List.length_pos_iff.mpr h
  unfold atI ixN
  rw [if_neg (by omega), if_pos (by omega)]
  show xs[(-1 + (xs.length : Int)).toNat]? = _
  have e : (-1 + (xs.length : Int)).toNat = xs.length - 1 := by omega
  rw [e, List.getLast_eq_getElem, List.getElem?_eq_getElem]
theorem e_ixScr {n k : Int} {ns : List Int} (h : atI ns n = some k) (ha : ED T X m Γ a (.scr ns)) (hb : ED T X true Γ b (.int n)) (hs : PlainIx b := by exact fun _ _ => rfl) : ED T X m Γ (.Subscript a b pos) (.int k) :=
  PE.imp' (pe_ix ix_list ha hb hs) fun σ H Q ⟨Z, g, q⟩ => ⟨Z, g, fun v H1 g1 x1 d1 => ⟨Z, g1, fun u H2 g2 x2 d2 => by
    cases d2
    cases d1 with
    | scr _ e1 =>
      exact ⟨_, _, n, .int k, rfl, rfl, SqL.mono g2.sub (SqL.mono (rg_ext x2) e1), atI_map V.int h, q _ H2 g2 (x1.trans x2) (.int k)⟩⟩⟩
theorem e_ixIL {n k : Int} {ns : List Int} (hd : ILd d ns) (h : atI ns n = some k) (ha : ED T X m Γ a d) (hb : ED T X true Γ b (.int n)) (hs : PlainIx b := by exact fun _ _ => rfl) : ED T X m Γ (.Subscript a b pos) (.int k) := by
  rcases hd with rfl | rfl
  · exact e_ixScr h ha hb hs
  · exact e_ixR (atI_map D.int h) ha hb hs
theorem e_lenIL {ns : List Int} (hd : ILd d ns) (hm : X.mg "len" = none) (h : ED T X false Γ a d) (hg : Gl X "len" := by rfl) (hs : starEach [a] X.env = (false, eval a X.env) :: starEach [] X.env := by rfl) : ED T X m Γ (.Call (.Name "len" p) [a] [] pos) (.int ns.length) := by
  rcases hd with rfl | rfl
  · exact e_lenScr hm h hg hs
  · have := e_lenL (m := m) (p := p) (pos := pos) hm h hg hs
    rwa [List.length_map] at this
variable {lo hi : Option Expr} {o1 o2 : Option Int} {p2 : Pos}
theorem l_sliceIL {ns : List Int} (hd : ILd d ns) (ha : ED T X true Γ e d) (hl : PO X lo (tP T X.K Γ o1)) (hh : PO X hi (tP T X.K Γ o2)) : LD T X Γ (.Subscript e (.Slice lo hi none p2) pos) ((cutD ns o1 o2).map D.int) := by
  rcases hd with rfl | rfl
  · exact l_sliceScr ha hl hh
  · exact (l_slice (i_of_e ha) hl hh).as (cutD_map _ _ _ _)
/-- tuples, one behind the other, empty ones too -/
theorem e_catA (hl : ds.length + es.length ≤ 16777216) (ha : ED T X m Γ a (.tup ds)) (hb : ED T X m Γ b (.tup es)) : ED T X m Γ (.BinOp a .Add b pos) (.tup (ds ++ es)) :=
  e_op op_catA (fun Z H σ v u Q g d1 d2 q => by
    cases d1 with
    | tup e1 e2 =>
      cases d2 with
      | tup f1 f2 =>
        rename_i a1 vs b1 ws
        refine ⟨_, _, _, _, rfl, rfl, SqT.of (g.sub _ _ e1), SqT.of (g.sub _ _ f1), ?_, ?_, ?_, ?_⟩
        · rw [e2.length, f2.length, sizeLine_eq]
          exact hl
        · intro z
          subst z
          cases e2
          exact q _ _ g (Ext.refl H) (by rw [List.nil_append]; exact .tup f1 f2)
        · intro _ z
          subst z
          cases f2
          exact q _ _ g (Ext.refl H) (by rw [List.append_nil]; exact .tup e1 e2)
        · intro _ _ p hp
          exact q _ _ (g.new hp) (Ext.upd hp) (.tup (rg_new g hp (fun _ z => by cases z)) ((e2.append f2).to (rg_ext (Ext.upd hp))))) ha hb
/-- a slice of a tuple, the whole of it too -/
theorem e_sliceA (ha : ED T X m Γ e (.tup ds)) (hl : PO X lo (tP T X.K Γ o1)) (hh : PO X hi (tP T X.K Γ o2)) : ED T X m Γ (.Subscript e (.Slice lo hi none p2) pos) (.tup (cutD ds o1 o2)) :=
  PE.imp' (pe_slice sl_tupA ha hl hh) fun σ H Q ⟨Z, g, q⟩ => ⟨Z, g, fun v H1 g1 x1 d1 => by
    cases d1 with
    | tup e1 e2 =>
      exact ⟨Z, g1, fun H2 g2 x2 => ⟨Z, g2, fun H3 g3 x3 => by
        have e3 := e2.to (rg_ext (x2.trans x3))
        have hc := e3.cut o1 o2
        refine ⟨_, _, rfl, SqT.of (g3.sub _ _ (rg_ext (x2.trans x3) _ _ e1)), fun z => ?_, fun _ p hp => q _ _ (g3.new hp) (((x1.trans x2).trans x3).trans (Ext.upd hp)) (.tup (rg_new g3 hp (fun _ z => by cases z)) (hc.to (rg_ext (Ext.upd hp))))⟩
        have ec : cutD ds o1 o2 = ds := by
          rw [e3.length] at z
          unfold cutD
          rw [z.1, z.2, List.drop_zero, Nat.sub_zero, List.take_length]
        rw [ec] at q
        exact q _ _ g3 ((x1.trans x2).trans x3) (.tup (rg_ext (x2.trans x3) _ _ e1) e3)⟩⟩⟩
end

/-! ### the state of a loop -/
def nst {α σ : Type} (step : Nat → α → σ → σ) (s0 : σ) (as : List α) : Nat → σ
  | 0 => s0
  | k + 1 => match as[k]? with
    | some a => step k a (nst step s0 as k)
    | none => nst step s0 as k
theorem nst_succ {α σ : Type} {step : Nat → α → σ → σ} {s0 : σ} {as : List α} {k : Nat} {a : α} (h : as[k]? = some a) : nst step s0 as (k + 1) = step k a (nst step s0 as k) := by
  rw [nst, h]
theorem nst_inv {α σ : Type} {step : Nat → α → σ → σ} {s0 : σ} {as : List α} (I : Nat → σ → Prop) (h0 : I 0 s0) (hs : ∀ k a s, as[k]? = some a → I k s → I (k + 1) (step k a s)) : ∀ k, k ≤ as.length → I k (nst step s0 as k)
  | 0, _ => h0
  | k + 1, h => by
    have hk : k < as.length := h
    have e : as[k]? = some as[k] := by simp [hk]
    rw [nst_succ e]
    exact hs k _ _ e (nst_inv I h0 hs k (Nat.le_of_lt hk))
/-- over range(n) -/
def nrg {σ : Type} (step : Nat → σ → σ) (s0 : σ) : Nat → σ
  | 0 => s0
  | k + 1 => step k (nrg step s0 k)
theorem nrg_inv {σ : Type} {step : Nat → σ → σ} {s0 : σ} {n : Nat} (I : Nat → σ → Prop) (h0 : I 0 s0) (hs : ∀ k s, k < n → I k s → I (k + 1) (step k s)) : ∀ k, k ≤ n → I k (nrg step s0 k)
  | 0, _ => h0
  | k + 1, h => hs k _ h (nrg_inv I h0 hs k (Nat.le_of_lt h))

/-! ### small facts about texts -/
theorem len_app (x y : Str) : (x ++ y).length = x.length + y.length := by
  show (x.cps ++ y.cps).size = _
  rw [Array.size_append]; rfl
theorem cps_app (x y : Str) : (x ++ y).cps.toList = x.cps.toList ++ y.cps.toList := by
  show (x.cps ++ y.cps).toList = _
  simp
theorem len_cps (x : Str) : x.length = x.cps.toList.length := by simp [Str.length]
end DD

/-! Marks, deeds, changes as data. -/
namespace DD
open PySem PySem.Spec L2

theorem enc_pair {α β : Type} [DecidableEq α] [DecidableEq β] {f : α → D} {g : β → D} {n : Nat} (E : Enc f n) (E' : Enc g n) : Enc (fun p : α × β => .tup [f p.1, g p.2]) (n + 1) :=
  ⟨fun a => by simp [plainD, plainDs, E.pl, E'.pl], fun a => by
    have h1 := E.dp a.1
    have h2 := E'.dp a.2
    simp only [toPy, toPys, PyData.depth, PyData.depthAll]
    omega, fun a b => by
    obtain ⟨a1, a2⟩ := a
    obtain ⟨b1, b2⟩ := b
    simp only [toPy, toPys, PyData.eqv, PyData.eqvAll, E.eq, E'.eq, Prod.mk.injEq]
    by_cases h : a1 = b1 <;> by_cases h' : a2 = b2 <;> simp [h, h']⟩
def eOp {α : Type} (f : α → D) : Option α → D
  | none => .non
  | some a => f a
theorem enc_opt {α : Type} [DecidableEq α] {f : α → D} {n : Nat} (E : Enc f n) (h1 : ∀ a, PyData.eqv .none (toPy (f a)) = false) (h2 : ∀ a, PyData.eqv (toPy (f a)) .none = false) : Enc (eOp f) n :=
  ⟨fun a => by cases a with
    | none => rfl
    | some a => exact E.pl a, fun a => by cases a with
    | none => simp [eOp, toPy, PyData.depth]
    | some a => exact E.dp a, fun a b => by
    cases a with
    | none => cases b with
      | none => simp [eOp, toPy, PyData.eqv]
      | some b => simp [eOp, toPy, h1 b]
    | some a => cases b with
      | none => simp [eOp, toPy, h2 a]
      | some b => simp [eOp, E.eq]⟩

abbrev Mk := Str × Int
/-- word, mark, line -/
abbrev Dd := Str × Option Mk × Option Str
/-- name, leans, deeds -/
abbrev Ch := Str × List Str × List Dd
def eMk (m : Mk) : D := .tup [.str m.1, .int m.2]
abbrev eOM : Option Mk → D := eOp eMk
def eLn : Option Str → List D
  | none => []
  | some z => [.str z]
def eDd (d : Dd) : D := .tup (.str d.1 :: eOM d.2.1 :: eLn d.2.2)
def eCh (c : Ch) : D := .tup [.str c.1, .lst (c.2.1.map D.str), .lst (c.2.2.map eDd)]
theorem enc_mk : Enc eMk 1 := enc_pair enc_str enc_int
theorem enc_om : Enc eOM 1 := enc_opt enc_mk (fun a => by simp [eMk, toPy, PyData.eqv]) (fun a => by simp [eMk, toPy, PyData.eqv])
instance instDecDd : DecidableEq Dd := instDecidableEqProd
instance instDecCh : DecidableEq Ch := instDecidableEqProd
theorem enc_dd : Enc eDd 2 := ⟨fun a => by
    obtain ⟨w, m, l⟩ := a
    have h := enc_om.pl m
    cases l <;> simp [eDd, eLn, plainD, plainDs, h], fun a => by
    obtain ⟨w, m, l⟩ := a
    have h := enc_om.dp m
    have h2 := enc_str.dp w
    cases l with
    | none => simp only [eDd, eLn, toPy, toPys, PyData.depth, PyData.depthAll] at *; omega
    | some z => simp only [eDd, eLn, toPy, toPys, PyData.depth, PyData.depthAll] at *; omega, fun a b => by
    obtain ⟨w, m, l⟩ := a
    obtain ⟨w', m', l'⟩ := b
    cases l with
    | none => cases l' with
      | none =>
        simp only [eDd, eLn, toPy, toPys, PyData.eqv, PyData.eqvAll, enc_om.eq, Prod.mk.injEq]
        by_cases h1 : w = w' <;> by_cases h2 : m = m' <;> simp [h1, h2]
      | some z =>
        simp only [eDd, eLn, toPy, toPys, PyData.eqv, PyData.eqvAll, enc_om.eq, Prod.mk.injEq]
        simp
    | some y => cases l' with
      | none =>
        simp only [eDd, eLn, toPy, toPys, PyData.eqv, PyData.eqvAll, enc_om.eq, Prod.mk.injEq]
        simp
      | some z =>
        simp only [eDd, eLn, toPy, toPys, PyData.eqv, PyData.eqvAll, enc_om.eq, Prod.mk.injEq]
        by_cases h1 : w = w' <;> by_cases h2 : m = m' <;> by_cases h3 : y = z <;> simp [h1, h2, h3]⟩
theorem enc_ch : Enc eCh 4 := by
  have h1 := (enc_list enc_str).mono (k := 3) (by decide)
  have h2 := enc_list enc_dd
  refine ⟨fun a => ?_, fun a => ?_, fun a b => ?_⟩
  · have q1 := h1.pl a.2.1
    have q2 := h2.pl a.2.2
    simp [eCh, plainD, plainDs] at *
    first | done | exact ⟨q1, q2⟩
  · have q1 := h1.dp a.2.1
    have q2 := h2.dp a.2.2
    have q3 := enc_str.dp a.1
    simp only [eCh, toPy, toPys, PyData.depth, PyData.depthAll] at *
    omega
  · obtain ⟨a1, a2, a3⟩ := a
    obtain ⟨b1, b2, b3⟩ := b
    have q1 := h1.eq a2 b2
    have q2 := h2.eq a3 b3
    have q3 := enc_str.eq a1 b1
    simp only [toPy] at q1 q2 q3
    simp only [eCh, toPy, toPys, PyData.eqv, PyData.eqvAll, Prod.mk.injEq] at *
    rw [q1, q2]
    by_cases h1 : a1 = b1 <;> by_cases h2 : a2 = b2 <;> by_cases h3 : a3 = b3 <;> simp [h1, h2, h3]
theorem imm_mk (m : Mk) : imm (eMk m) = true := rfl
theorem imm_om (m : Option Mk) : imm (eOM m) = true := by cases m <;> rfl
theorem imm_dd (d : Dd) : imm (eDd d) = true := by
  obtain ⟨w, m, l⟩ := d
  have := imm_om m
  cases l <;> simp [eDd, eLn, imm, immAll, this]
theorem imm_dds (ds : List Dd) : immAll (ds.map eDd) = true := immAll_map imm_dd ds
theorem imm_strs (ds : List Str) : immAll (ds.map D.str) = true := immAll_map (fun _ => rfl) ds
theorem imm_mks (ds : List Mk) : immAll (ds.map eMk) = true := immAll_map imm_mk ds
def dL (d : Dd) : List D := .str d.1 :: eOM d.2.1 :: eLn d.2.2
theorem dd0 (d : Dd) : atI (.str d.1 :: eOM d.2.1 :: eLn d.2.2) 0 = some (D.str d.1) := by
  obtain ⟨w, m, l⟩ := d
  cases l <;> rfl
theorem dd1 (d : Dd) : atI (.str d.1 :: eOM d.2.1 :: eLn d.2.2) 1 = some (eOM d.2.1) := by
  obtain ⟨w, m, l⟩ := d
  cases l <;> rfl
theorem dd2 {d : Dd} {z : Str} (h : d.2.2 = some z) : atI (.str d.1 :: eOM d.2.1 :: eLn d.2.2) 2 = some (D.str z) := by
  obtain ⟨w, m, l⟩ := d
  simp only at h
  subst h
  rfl

/-! ### comprehensions whose things are all of one kind -/
section
variable {T : Tb} {X : Cx} {Γ : Ev} {elt iter : Expr} {ifs : List Expr} {scope : Scope} {pos tp : Pos} {x : Str} {α β : Type} {as : List α} {f : α → D} {t : Expr}
theorem mpL (j : Nat) (f' : β → D) {h : α → β} (nd : X.N.Nodup) (hn : as.length ≤ 16777216) (hi : ED T X true Γ iter (.lst (as.map f))) (ok : BlkOk X.N X.env.scope scope [(x, j)])
    (hg : ∀ (s : Shared) (H : Hp) (C : Addr) (cl : List (Str × Addr)) (fp : List Addr), PG (blkOf X scope s H C cl fp) (.Name x tp) (gName j))
    (he : ∀ (s : Shared) (H : Hp) (C : Addr) (cl : List (Str × Addr)) (fp : List Addr) (a : α), a ∈ as → ED T (blkOf X scope s H C cl fp) true ((Γ.set j none).set j (some (.sh (f a)))) elt (f' (h a)))
    (hj : j < Γ.length := by exact Nat.le_of_ble_eq_true rfl) (ho : owns (Γ.set j none) = owns Γ := by rfl) (hup : ∀ d, owns ((Γ.set j none).set j (some (.sh d))) = owns (Γ.set j none) := by intro _; rfl) (hc : X.calm = true := by rfl) (hs : ∀ x, foldedSetIterable iter X.env x = pure x := by intro _; rfl) :
    LD T X Γ (.ListComp elt [⟨.Name x tp, iter, [], 0⟩] scope pos) ((as.map h).map f') :=
  (l_mapL j (fun a => f' (h a)) nd hn hi ok hg he hj ho hup hc hs).as (by rw [List.map_map]; rfl)
theorem flL (j : Nat) (f' : β → D) {h : α → β} {p : α → Bool} (nd : X.N.Nodup) (hn : as.length ≤ 16777216) (hi : ED T X true Γ iter (.lst (as.map f))) (ok : BlkOk X.N X.env.scope scope [(x, j)])
    (hg : ∀ (s : Shared) (H : Hp) (C : Addr) (cl : List (Str × Addr)) (fp : List Addr), PG (blkOf X scope s H C cl fp) (.Name x tp) (gName j))
    (ht : ∀ (s : Shared) (H : Hp) (C : Addr) (cl : List (Str × Addr)) (fp : List Addr) (a : α), a ∈ as → BD T (blkOf X scope s H C cl fp) ((Γ.set j none).set j (some (.sh (f a)))) t (p a))
    (he : ∀ (s : Shared) (H : Hp) (C : Addr) (cl : List (Str × Addr)) (fp : List Addr) (a : α), a ∈ as → p a = true → ED T (blkOf X scope s H C cl fp) true ((Γ.set j none).set j (some (.sh (f a)))) elt (f' (h a)))
    (hj : j < Γ.length := by exact Nat.le_of_ble_eq_true rfl) (ho : owns (Γ.set j none) = owns Γ := by rfl) (hup : ∀ d, owns ((Γ.set j none).set j (some (.sh d))) = owns (Γ.set j none) := by intro _; rfl) (hc : X.calm = true := by rfl) (hs : ∀ x, foldedSetIterable iter X.env x = pure x := by intro _; rfl) :
    LD T X Γ (.ListComp elt [⟨.Name x tp, iter, [t], 0⟩] scope pos) (((as.filter p).map h).map f') :=
  (l_filL j p (fun a => f' (h a)) nd hn hi ok hg ht he hj ho hup hc hs).as (by rw [List.map_map]; rfl)
theorem mpR (j : Nat) (f' : β → D) {h : Nat → β} {n : Int} {a : Expr} {rp rpos : Pos} (nd : X.N.Nodup) (hm : X.mg "range" = none) (hn : n.toNat ≤ 16777216) (hneg : -(2 ^ 62) ≤ n) (hi : ED T X true Γ a (.int n)) (ok : BlkOk X.N X.env.scope scope [(x, j)])
    (hg : ∀ (s : Shared) (H : Hp) (C : Addr) (cl : List (Str × Addr)) (fp : List Addr), PG (blkOf X scope s H C cl fp) (.Name x tp) (gName j))
    (he : ∀ (s : Shared) (H : Hp) (C : Addr) (cl : List (Str × Addr)) (fp : List Addr) (i : Nat), i < n.toNat → ED T (blkOf X scope s H C cl fp) true ((Γ.set j none).set j (some (.sh (.int (i : Nat))))) elt (f' (h i)))
    (hj : j < Γ.length := by exact Nat.le_of_ble_eq_true rfl) (ho : owns (Γ.set j none) = owns Γ := by rfl) (hup : ∀ d, owns ((Γ.set j none).set j (some (.sh d))) = owns (Γ.set j none) := by intro _; rfl) (hc : X.calm = true := by rfl) (hgl : Gl X "range" := by rfl) (hst : starEach [a] X.env = [(false, eval a X.env)] := by rfl)
    (hs : ∀ x, foldedSetIterable (.Call (.Name "range" rp) [a] [] rpos) X.env x = pure x := by intro _; rfl) :
    LD T X Γ (.ListComp elt [⟨.Name x tp, .Call (.Name "range" rp) [a] [] rpos, [], 0⟩] scope pos) (((List.range n.toNat).map h).map f') :=
  (l_mapR j (fun a => f' (h a)) nd hm hn hi ok hg he hneg hj ho hup hc hgl hst hs).as (by rw [List.map_map]; rfl)
theorem flR (j : Nat) (f' : β → D) {h : Nat → β} {p : Nat → Bool} {n : Int} {a : Expr} {rp rpos : Pos} (nd : X.N.Nodup) (hm : X.mg "range" = none) (hn : n.toNat ≤ 16777216) (hneg : -(2 ^ 62) ≤ n) (hi : ED T X true Γ a (.int n)) (ok : BlkOk X.N X.env.scope scope [(x, j)])
    (hg : ∀ (s : Shared) (H : Hp) (C : Addr) (cl : List (Str × Addr)) (fp : List Addr), PG (blkOf X scope s H C cl fp) (.Name x tp) (gName j))
    (ht : ∀ (s : Shared) (H : Hp) (C : Addr) (cl : List (Str × Addr)) (fp : List Addr) (i : Nat), i < n.toNat → BD T (blkOf X scope s H C cl fp) ((Γ.set j none).set j (some (.sh (.int (i : Nat))))) t (p i))
    (he : ∀ (s : Shared) (H : Hp) (C : Addr) (cl : List (Str × Addr)) (fp : List Addr) (i : Nat), i < n.toNat → p i = true → ED T (blkOf X scope s H C cl fp) true ((Γ.set j none).set j (some (.sh (.int (i : Nat))))) elt (f' (h i)))
    (hj : j < Γ.length := by exact Nat.le_of_ble_eq_true rfl) (ho : owns (Γ.set j none) = owns Γ := by rfl) (hup : ∀ d, owns ((Γ.set j none).set j (some (.sh d))) = owns (Γ.set j none) := by intro _; rfl) (hc : X.calm = true := by rfl) (hgl : Gl X "range" := by rfl) (hst : starEach [a] X.env = [(false, eval a X.env)] := by rfl)
    (hs : ∀ x, foldedSetIterable (.Call (.Name "range" rp) [a] [] rpos) X.env x = pure x := by intro _; rfl) :
    LD T X Γ (.ListComp elt [⟨.Name x tp, .Call (.Name "range" rp) [a] [] rpos, [t], 0⟩] scope pos) ((((List.range n.toNat).filter p).map h).map f') :=
  (l_filR j p (fun a => f' (h a)) nd hm hn hi ok hg ht he hneg hj ho hup hc hgl hst hs).as (by rw [List.map_map]; rfl)
theorem mpS (j : Nat) (f' : β → D) {h : Nat → β} {z : Str} (nd : X.N.Nodup) (hz : SOk z) (hi : ED T X true Γ iter (.str z)) (ok : BlkOk X.N X.env.scope scope [(x, j)])
    (hg : ∀ (s : Shared) (H : Hp) (C : Addr) (cl : List (Str × Addr)) (fp : List Addr), PG (blkOf X scope s H C cl fp) (.Name x tp) (gName j))
    (he : ∀ (s : Shared) (H : Hp) (C : Addr) (cl : List (Str × Addr)) (fp : List Addr) (k : Nat), k ∈ z.cps.toList → ED T (blkOf X scope s H C cl fp) true ((Γ.set j none).set j (some (.sh (.str ⟨#[k]⟩)))) elt (f' (h k)))
    (hj : j < Γ.length := by exact Nat.le_of_ble_eq_true rfl) (ho : owns (Γ.set j none) = owns Γ := by rfl) (hup : ∀ d, owns ((Γ.set j none).set j (some (.sh d))) = owns (Γ.set j none) := by intro _; rfl) (hc : X.calm = true := by rfl) (hs : ∀ x, foldedSetIterable iter X.env x = pure x := by intro _; rfl) :
    LD T X Γ (.ListComp elt [⟨.Name x tp, iter, [], 0⟩] scope pos) ((z.cps.toList.map h).map f') :=
  (l_mapS j (fun a => f' (h a)) nd hz hi ok hg he hj ho hup hc hs).as (by rw [List.map_map]; rfl)
end
end DD

/-! What the law's helpers compute, in plain Lean; facts of it. -/
namespace MM
open PySem L2 DD TL

/-! ### texts -/
theorem sok_of {z : Str} (h : ∀ k ∈ tl z, k < 256) (hl : z.length ≤ 8388608) : SOk z := by
  refine ⟨?_, hl⟩
  unfold PyData.strOk
  rw [← Array.all_toList, List.all_eq_true]
  intro k hk
  have := h k hk
  simpa using (by omega : k < 0x110000)
theorem tl_empty : tl ("" : Str) = [] := by decide +kernel
theorem joinL_nil : ∀ ps : List (List Nat), joinL [] ps = ps.flatten
  | [] => rfl
  | [p] => by simp [joinL]
  | p :: q :: r => by
    show p ++ ([] ++ joinL [] (q :: r)) = _
    rw [joinL_nil (q :: r)]
    simp
theorem tl_joinE (ps : List Str) : tl (Txt.join "" ps) = (ps.map tl).flatten := by
  rw [join_eq, tl_join, tl_empty, joinL_nil]
def sg (z : Str) (n : Int) : Str := ⟨#[z.cps.toList.getD n.toNat 0]⟩
theorem tl_sg (z : Str) (n : Int) : tl (sg z n) = [(tl z).getD n.toNat 0] := rfl
theorem sg_mem {z : Str} {n : Int} (h : n.toNat < (tl z).length) : (tl z).getD n.toNat 0 ∈ tl z := by
  have e : (tl z)[n.toNat]? = some (tl z)[n.toNat] := by simp [h]
  rw [List.getD, e]
  exact List.getElem_mem h
theorem flat_sg (f : Nat → Nat) (n : Nat) : ((List.range n).map fun i => [f i]).flatten = (List.range n).map f := by
  induction List.range n with
  | nil => rfl
  | cons a r ih => simp [ih]
theorem tl_joinSg (z : Str) (f : Nat → Int) (n : Nat) : tl (Txt.join "" ((List.range n).map fun i => sg z (f i))) = (List.range n).map fun i => (tl z).getD (f i).toNat 0 := by
  rw [tl_joinE, List.map_map]
  exact flat_sg (fun i => (tl z).getD (f i).toNat 0) n
theorem sum_sg (z : Str) (f : Nat → Int) (n : Nat) : ((((List.range n).map fun i => sg z (f i)).map (·.length)).sum + ((List.range n).map fun i => sg z (f i)).length * ("" : Str).length) = n := by
  have h : ∀ l : List Nat, ((l.map fun i => sg z (f i)).map (·.length)).sum = l.length := fun l => by
    induction l with
    | nil => rfl
    | cons a r ih =>
      simp only [List.map_cons, List.sum_cons, ih, List.length_cons]
      show 1 + r.length = _
      omega
  rw [h]
  have e : ("" : Str).length = 0 := by decide +kernel
  simp [e]
def dec (n : Int) : Str := (toString n : String)
theorem tl_dec (n : Nat) : tl (dec n) = numL n := tl_num n
theorem tl_cutS (z : Str) (o1 o2 : Option Int) : tl (cutS z o1 o2) = ((tl z).drop (HT.sIx z.length 0 o1)).take (HT.sIx z.length z.length o2 - HT.sIx z.length 0 o1) := rfl
theorem cut_take (z : Str) {n : Int} (h : 0 ≤ n) : tl (cutS z none (some n)) = (tl z).take n.toNat := by
  rw [tl_cutS]
  show ((tl z).drop 0).take ((if n < 0 then (n + (z.length : Int)).toNat else min n.toNat z.length) - 0) = _
  rw [if_neg (by omega), List.drop_zero, Nat.sub_zero, len_tl]
  by_cases hn : n.toNat ≤ (tl z).length
  · rw [Nat.min_eq_left hn]
  · rw [Nat.min_eq_right (by omega), List.take_of_length_le (Nat.le_refl _), List.take_of_length_le (by omega)]
theorem cut_drop (z : Str) {n : Int} (h : 0 ≤ n) : tl (cutS z (some n) none) = (tl z).drop n.toNat := by
  rw [tl_cutS]
  show ((tl z).drop (if n < 0 then (n + (z.length : Int)).toNat else min n.toNat z.length)).take (z.length - (if n < 0 then (n + (z.length : Int)).toNat else min n.toNat z.length)) = _
  rw [if_neg (by omega), List.take_of_length_le (by rw [List.length_drop, ← len_tl]; exact Nat.le_refl _)]
  by_cases hn : n.toNat ≤ z.length
  · rw [Nat.min_eq_left hn]
  · rw [Nat.min_eq_right (by omega), List.drop_of_length_le (by rw [← len_tl]; exact Nat.le_refl _), List.drop_of_length_le (by rw [← len_tl]; omega)]

/-! ### the numbers -/
def cell (ns : List Int) (k : Int) : Int := if k < ns.length then ns.getD k.toNat 0 else 0
def mixed (c k : Int) : Int := (c + 7919 * k) * 48271 % 2147483647
theorem mixed_lo (c k : Int) : 0 ≤ mixed c k := Int.emod_nonneg _ (by decide)
theorem mixed_hi (c k : Int) : mixed c k < 2147483647 := Int.emod_lt_of_pos _ (by decide)

/-! ### lines -/
def SOME : Str := (" !\"#$&'()*+,-./0123456789:;<=>?@ABCDEFGHIJKLMNOPQRSTUVWXYZ[\\]^_`" : Str) ++ ("abcdefghijklmnopqrstuvwxyz{|}~" : Str)
def lsize (c : Int) : Int := if c / 4 % 9 = 1 then c / 36 % 201 else c % 4
def line0 (c : Int) : Str := Txt.join "" ((List.range (lsize c).toNat).map fun (j : Nat) => sg SOME ((c / 7 + (j : Int) * (1 + c % 5)) % 94))
def line (c : Int) : Str := if c / 3 % 8 = 1 ∧ lsize c < 199 then cutS (line0 c) none (some 1) ++ (": " : Str) ++ cutS (line0 c) (some 1) none else line0 c
def isLn (z : Str) : Prop := z.length ≤ 200 ∧ ∀ k ∈ tl z, 32 ≤ k ∧ k ≤ 126
theorem SOME_len : (tl SOME).length = 94 := by decide +kernel
theorem SOME_ok : ∀ k ∈ tl SOME, 32 ≤ k ∧ k ≤ 126 := by decide +kernel
theorem lsize_lo (c : Int) : 0 ≤ lsize c := by unfold lsize; split <;> omega
theorem lsize_hi (c : Int) : lsize c ≤ 200 := by unfold lsize; split <;> omega
theorem tl_line0 (c : Int) : tl (line0 c) = (List.range (lsize c).toNat).map fun (j : Nat) => (tl SOME).getD (((c / 7 + (j : Int) * (1 + c % 5)) % 94)).toNat 0 := tl_joinSg SOME (fun (j : Nat) => (c / 7 + (j : Int) * (1 + c % 5)) % 94) _
theorem line0_len (c : Int) : (line0 c).length = (lsize c).toNat := by rw [len_tl, tl_line0]; simp
theorem line0_ok (c : Int) : ∀ k ∈ tl (line0 c), 32 ≤ k ∧ k ≤ 126 := by
  intro k hk
  rw [tl_line0] at hk
  obtain ⟨j, _, rfl⟩ := List.mem_map.mp hk
  exact SOME_ok _ (sg_mem (by rw [SOME_len]; omega))
theorem line0_sok (c : Int) : SOk (line0 c) := sok_of (fun k hk => by have := line0_ok c k hk; omega) (by rw [line0_len]; have := lsize_hi c; omega)
theorem line_tl (c : Int) : tl (line c) = if c / 3 % 8 = 1 ∧ lsize c < 199 then (tl (line0 c)).take 1 ++ [58, 32] ++ (tl (line0 c)).drop 1 else tl (line0 c) := by
  unfold line
  split
  · rw [tl_append, tl_append, cut_take _ (by decide), cut_drop _ (by decide)]
    rfl
  · rfl
theorem line_isLn (c : Int) : isLn (line c) := by
  have h1 := line0_len c
  have h2 := line0_ok c
  have h3 := lsize_hi c
  have h4 := lsize_lo c
  rw [len_tl] at h1
  refine ⟨?_, ?_⟩
  · rw [len_tl, line_tl]
    split
    · simp only [List.length_append, List.length_take, List.length_drop, List.length_cons, List.length_nil]
      omega
    · omega
  · rw [line_tl]
    split
    · intro k hk
      rcases List.mem_append.mp hk with hk | hk
      · rcases List.mem_append.mp hk with hk | hk
        · exact h2 k (List.mem_of_mem_take hk)
        · simp at hk
          omega
      · exact h2 k (List.mem_of_mem_drop hk)
    · exact h2
theorem isLn.sok {z : Str} (h : isLn z) : SOk z := sok_of (fun k hk => by have := h.2 k hk; omega) (by have := h.1; omega)
end MM

/-! Names, leans, marks, deeds, changes as the laws make them. -/
namespace MM
open PySem L2 DD TL

/-! ### names -/
def SIG : Str := "abcdefghijklmnopqrstuvwxyz0123456789"
def isNm (z : Str) : Prop := 1 ≤ z.length ∧ z.length ≤ 12 ∧ ∀ k ∈ tl z, k ∈ tl SIG
theorem SIG_len : (tl SIG).length = 36 := by decide +kernel
theorem SIG_hi : ∀ k ∈ tl SIG, 48 ≤ k ∧ k ≤ 122 := by decide +kernel
theorem SIG_dig : ∀ k : Nat, 48 ≤ k → k ≤ 57 → k ∈ tl SIG := by
  intro k h1 h2
  have : k = 48 ∨ k = 49 ∨ k = 50 ∨ k = 51 ∨ k = 52 ∨ k = 53 ∨ k = 54 ∨ k = 55 ∨ k = 56 ∨ k = 57 := by omega
  rcases this with h | h | h | h | h | h | h | h | h | h <;> subst h <;> decide +kernel
theorem isNm.sok {z : Str} (h : isNm z) : SOk z := sok_of (fun k hk => by have := SIG_hi k (h.2.2 k hk); omega) (by have := h.2.1; omega)
theorem isNm.ne {z : Str} (h : isNm z) : tl z ≠ [] := fun e => by have := h.1; rw [len_tl, e] at this; simp at this
theorem dec_digits (n : Nat) : ∀ k ∈ tl (dec n), 48 ≤ k ∧ k ≤ 57 := by rw [tl_dec]; exact numL_digits n
theorem dec_nm {n : Nat} (h : n < 10 ^ 12) : isNm (dec n) := by
  refine ⟨?_, ?_, fun k hk => ?_⟩
  · rw [len_tl, tl_dec]
    exact List.length_pos_iff.mpr (numL_ne n)
  · rw [len_tl, tl_dec]
    exact numL_len (by decide) h
  · have := dec_digits n k hk
    exact SIG_dig k this.1 this.2
theorem dec_sok {n : Int} (h0 : 0 ≤ n) (h : n < 1000000000000) : SOk (dec n) := by
  obtain ⟨k, rfl⟩ := Int.eq_ofNat_of_zero_le h0
  exact (dec_nm (by omega)).sok
theorem dec_log {n : Int} (h0 : 0 ≤ n) (h : n < 1000000000000) : n.natAbs.log2 < 1920 := by
  by_cases z : n.natAbs = 0
  · rw [z]; decide
  · have : n.natAbs.log2 < 40 := (Nat.log2_lt z).mpr (by omega)
    omega
theorem dec_inj {m n : Nat} (h : dec m = dec n) : m = n := numL_inj (by rw [← tl_dec, ← tl_dec, h])

def nm0 (c : Int) : Str := Txt.join "" ((List.range (1 + mixed c 5 % 12).toNat).map fun (j : Nat) => sg SIG (mixed c (j : Int) % 36))
def nm1 (c : Int) : Str := if c % 8 = 1 then dec (mixed c 5 % 130) else nm0 c
def nm2 (c : Int) (tk : List Str) : Str := if c % 8 = 2 ∧ tk ≠ [] then cutS (tk.getLastD "") none (some 11) ++ sg SIG (mixed c 5 % 36) else nm1 c
def npick (c : Int) (tk : List Str) : Str := tk.getD (mixed c 5 % tk.length).toNat ""
def nat (c : Int) (tk : List Str) : Int := mixed c 5 / 60 % (npick c tk).length
def nm3 (c : Int) (tk : List Str) : Str := if 4 < c % 8 ∧ tk ≠ [] then
    cutS (npick c tk) none (some (nat c tk)) ++ sg SIG (mixed c 5 / 720 % 36) ++ cutS (npick c tk) (some (nat c tk + 1)) none
  else nm2 c tk
def falls (tk : List Str) : List Str := ((List.range ((tk.length : Int) + 1).toNat).filter fun (j : Nat) => !decide (dec j ∈ tk)).map fun (j : Nat) => dec j
def fall (tk : List Str) : Str := (falls tk).getD 0 ""
def name (c : Int) (tk : List Str) : Str := if nm3 c tk ∉ tk then nm3 c tk else fall tk
theorem nm0_ok (c : Int) : isNm (nm0 c) := by
  have e : tl (nm0 c) = (List.range (1 + mixed c 5 % 12).toNat).map fun (j : Nat) => (tl SIG).getD (mixed c (j : Int) % 36).toNat 0 := tl_joinSg SIG (fun (j : Nat) => mixed c (j : Int) % 36) _
  have hl : (nm0 c).length = (1 + mixed c 5 % 12).toNat := by rw [len_tl, e]; simp
  refine ⟨by omega, by omega, fun k hk => ?_⟩
  rw [e] at hk
  obtain ⟨j, _, rfl⟩ := List.mem_map.mp hk
  exact sg_mem (by rw [SIG_len]; omega)
theorem nm1_ok (c : Int) : isNm (nm1 c) := by
  unfold nm1
  split
  · have h0 : 0 ≤ mixed c 5 % 130 := by omega
    obtain ⟨k, hk⟩ := Int.eq_ofNat_of_zero_le h0
    rw [hk]
    exact dec_nm (by omega)
  · exact nm0_ok c
theorem sg_nm (n : Int) : ∀ k ∈ tl (sg SIG (n % 36)), k ∈ tl SIG := by
  intro k hk
  rw [tl_sg] at hk
  rw [List.mem_singleton.mp hk]
  exact sg_mem (by rw [SIG_len]; omega)
theorem last_mem {tk : List Str} (h : tk ≠ []) : tk.getLastD "" ∈ tk := by
  rw [List.getLastD_eq_getLast?, List.getLast?_eq_getLast h]
  exact List.getLast_mem h
theorem nm2_ok (c : Int) {tk : List Str} (h : ∀ z ∈ tk, isNm z) : isNm (nm2 c tk) := by
  unfold nm2
  split
  · rename_i q
    have hm := h _ (last_mem q.2)
    have e : tl (cutS (tk.getLastD "") none (some 11) ++ sg SIG (mixed c 5 % 36)) = (tl (tk.getLastD "")).take 11 ++ tl (sg SIG (mixed c 5 % 36)) := by rw [tl_append, cut_take _ (by decide)]; rfl
    have l1 : (tl (sg SIG (mixed c 5 % 36))).length = 1 := rfl
    refine ⟨?_, ?_, ?_⟩
    · rw [len_tl, e, List.length_append, l1]; omega
    · rw [len_tl, e, List.length_append, l1, List.length_take]; omega
    · intro k hk
      rw [e] at hk
      rcases List.mem_append.mp hk with hk | hk
      · exact hm.2.2 k (List.mem_of_mem_take hk)
      · exact sg_nm _ k hk
  · exact nm1_ok c
theorem npick_mem (c : Int) {tk : List Str} (h : tk ≠ []) : atI tk (mixed c 5 % tk.length) = some (npick c tk) ∧ npick c tk ∈ tk := by
  have hl : 0 < tk.length := List.length_pos_iff.mpr h
  have h1 : 0 ≤ mixed c 5 % tk.length := Int.emod_nonneg _ (by omega)
  have h2 : mixed c 5 % tk.length < tk.length := Int.emod_lt_of_pos _ (by omega)
  have e := atI_getD (xs := tk) "" h1 h2
  exact ⟨e, mem_of_atI e⟩
theorem nat_ok (c : Int) {tk : List Str} (h : tk ≠ []) (hn : ∀ z ∈ tk, isNm z) : 0 ≤ nat c tk ∧ nat c tk < (npick c tk).length := by
  have q := (hn _ (npick_mem c h).2).1
  exact ⟨Int.emod_nonneg _ (by omega), Int.emod_lt_of_pos _ (by omega)⟩
theorem nm3_ok (c : Int) {tk : List Str} (h : ∀ z ∈ tk, isNm z) : isNm (nm3 c tk) := by
  unfold nm3
  split
  · rename_i q
    have hm := h _ (npick_mem c q.2).2
    obtain ⟨n0, n1⟩ := nat_ok c q.2 h
    generalize nat c tk = n at n0 n1
    generalize npick c tk = g at hm n1
    have e : tl (cutS g none (some n) ++ sg SIG (mixed c 5 / 720 % 36) ++ cutS g (some (n + 1)) none) = (tl g).take n.toNat ++ tl (sg SIG (mixed c 5 / 720 % 36)) ++ (tl g).drop (n + 1).toNat := by
      rw [tl_append, tl_append, cut_take _ n0, cut_drop _ (by omega)]
    have l1 : (tl (sg SIG (mixed c 5 / 720 % 36))).length = 1 := rfl
    have lg := len_tl g
    have m1 := hm.1
    have m2 := hm.2.1
    refine ⟨?_, ?_, ?_⟩
    · rw [len_tl, e, List.length_append, List.length_append, l1]; omega
    · rw [len_tl, e, List.length_append, List.length_append, l1, List.length_take, List.length_drop]; omega
    · intro k hk
      rw [e] at hk
      rcases List.mem_append.mp hk with hk | hk
      · rcases List.mem_append.mp hk with hk | hk
        · exact hm.2.2 k (List.mem_of_mem_take hk)
        · exact sg_nm _ k hk
      · exact hm.2.2 k (List.mem_of_mem_drop hk)
  · exact nm2_ok c h
theorem falls_ne (tk : List Str) : falls tk ≠ [] := by
  intro e
  have e' := List.map_eq_nil_iff.mp e
  have hs : ∀ j, j < tk.length + 1 → dec (j : Nat) ∈ tk := fun j hj => by
    have := List.filter_eq_nil_iff.mp e' j (List.mem_range.mpr (by omega))
    simpa using this
  have nd : ((List.range (tk.length + 1)).map fun (j : Nat) => dec j).Nodup := by
    rw [List.nodup_iff_pairwise_ne, List.pairwise_map]
    exact List.Pairwise.imp (fun h z => h (dec_inj z)) (List.nodup_iff_pairwise_ne.mp List.nodup_range)
  have sub : ((List.range (tk.length + 1)).map fun (j : Nat) => dec j) ⊆ tk := fun z hz => by
    obtain ⟨j, hj, rfl⟩ := List.mem_map.mp hz
    exact hs j (List.mem_range.mp hj)
  have := List.Nodup.length_le_of_subset nd sub
  simp at this
  omega
theorem fall_at (tk : List Str) : atI (falls tk) 0 = some (fall tk) := by
  have : 0 < (falls tk).length := List.length_pos_iff.mpr (falls_ne tk)
  exact atI_getD (xs := falls tk) "" (by decide) (by omega)
theorem fall_ok {tk : List Str} (hl : tk.length < 1000) : isNm (fall tk) ∧ fall tk ∉ tk := by
  have := mem_of_atI (fall_at tk)
  unfold falls at this
  obtain ⟨j, hj, e⟩ := List.mem_map.mp this
  obtain ⟨h1, h2⟩ := List.mem_filter.mp hj
  have h3 := List.mem_range.mp h1
  rw [← e]
  exact ⟨dec_nm (by omega), by simpa using h2⟩
theorem name_ok (c : Int) {tk : List Str} (hl : tk.length < 1000) (h : ∀ z ∈ tk, isNm z) : isNm (name c tk) ∧ name c tk ∉ tk := by
  unfold name
  split
  · exact ⟨nm3_ok c h, by assumption⟩
  · exact fall_ok hl

/-! ### leans -/
def lnLeft (c : Int) (k : Nat) (l : Int) : Int := if l / 3 < 100 then mixed c ((k : Int) + 2) else l / 3
def lnHit (c : Int) (n k : Nat) (l : Int) : Bool := (decide ((k : Int) = (n : Int) - 1) && decide (c % 7 = 3)) || (decide (l % (2 + c % 3) = 0) && (decide ((n : Int) < 20) || decide ((k : Int) % 7 = l / 4 % 7)))
def lnStep (c : Int) (n : Nat) (k : Nat) (ch : Ch) (s : Int × List Str) : Int × List Str := (lnLeft c k s.1, if lnHit c n k s.1 = true then s.2 ++ [ch.1] else s.2)
def lnSt (c : Int) (ah : List Ch) : Nat → Int × List Str := nst (lnStep c ah.length) (mixed c 1, []) ah
def leans (c : Int) (ah : List Ch) : List Str := ssort (lnSt c ah ah.length).2
theorem lnSt_inv (c : Int) (ah : List Ch) : ∀ k, k ≤ ah.length → 0 ≤ (lnSt c ah k).1 ∧ (lnSt c ah k).2.Sublist ((ah.take k).map (·.1)) :=
  nst_inv (fun (k : Nat) (s : Int × List Str) => 0 ≤ s.1 ∧ s.2.Sublist ((ah.take k).map (·.1))) ⟨mixed_lo _ _, by simp⟩ fun k a s e ⟨h1, h2⟩ => by
    refine ⟨?_, ?_⟩
    · show 0 ≤ lnLeft c k s.1
      unfold lnLeft
      split
      · exact mixed_lo _ _
      · omega
    · show (if lnHit c ah.length k s.1 = true then s.2 ++ [a.1] else s.2).Sublist _
      rw [List.take_add_one, e]
      split
      · simp only [Option.toList, List.map_append, List.map_cons, List.map_nil]
        exact h2.append (List.Sublist.refl _)
      · simp only [Option.toList, List.map_append, List.map_cons, List.map_nil]
        exact h2.trans (List.sublist_append_left _ _)
theorem leans_perm (c : Int) (ah : List Ch) : (leans c ah).Perm (lnSt c ah ah.length).2 := List.mergeSort_perm _ _
theorem leans_len (c : Int) (ah : List Ch) : (lnSt c ah ah.length).2.length ≤ ah.length := by
  have := (lnSt_inv c ah ah.length (Nat.le_refl _)).2.length_le
  simpa using this
theorem leans_sub (c : Int) (ah : List Ch) : ∀ z ∈ leans c ah, z ∈ ah.map (·.1) := fun z hz => by
  have h := (lnSt_inv c ah ah.length (Nat.le_refl _)).2.subset ((leans_perm c ah).mem_iff.mp hz)
  rwa [List.take_length] at h
def slt (a b : Str) : Prop := a.cps.toList < b.cps.toList
def rising (xs : List Str) : Prop := xs.Pairwise slt
theorem slt_of {a b : Str} (h : sle a b = true) (n : a ≠ b) : slt a b := by
  unfold sle at h
  simp only [Bool.not_eq_true', decide_eq_false_iff_not] at h
  unfold slt
  by_cases q : a.cps.toList < b.cps.toList
  · exact q
  · exact absurd (ext_tl (List.le_antisymm h q)) n
theorem slt_ne {a b : Str} (h : slt a b) : a ≠ b := fun e => by subst e; exact List.lt_irrefl _ h
theorem rising_of {xs : List Str} (nd : xs.Nodup) : rising (ssort xs) := by
  have h1 : (ssort xs).Pairwise fun a b => sle a b = true := List.pairwise_mergeSort (le := sle) (fun a b c => sle_trans a b c) (fun a b => sle_total a b) xs
  have h2 : (ssort xs).Nodup := (List.mergeSort_perm xs sle).nodup_iff.mpr nd
  exact (h1.and (List.nodup_iff_pairwise_ne.mp h2)).imp fun h => slt_of h.1 h.2
theorem leans_rising (c : Int) {ah : List Ch} (nd : (ah.map (·.1)).Nodup) : rising (leans c ah) := by
  refine rising_of ?_
  have h := (lnSt_inv c ah ah.length (Nat.le_refl _)).2
  rw [List.take_length] at h
  exact h.nodup nd
end MM

/-! Marks, deeds, changes as the laws make them. -/
namespace MM
open PySem L2 DD TL

/-! ### marks -/
def adds (ds : List Dd) : Nat := (ds.filter fun d => decide (d.1 = ("add" : Str))).length
def mks (ch : Ch) : List Mk := (List.range (adds ch.2.2)).map fun (j : Nat) => (ch.1, (j : Int))
theorem adds_le (ds : List Dd) : adds ds ≤ ds.length := List.length_filter_le _ _
theorem adds_app (xs ys : List Dd) : adds (xs ++ ys) = adds xs + adds ys := by unfold adds; rw [List.filter_append, List.length_append]
theorem adds_cut (m : Option Mk) (l : Option Str) : adds [(("cut" : Str), m, l)] = 0 := by
  unfold adds
  rw [List.filter_cons, if_neg]
  · rfl
  · simp only [decide_eq_true_eq]
    decide +kernel
theorem adds_set (m : Option Mk) (l : Option Str) : adds [(("set" : Str), m, l)] = 0 := by
  unfold adds
  rw [List.filter_cons, if_neg]
  · rfl
  · simp only [decide_eq_true_eq]
    decide +kernel
theorem mks_len (ch : Ch) : (mks ch).length = adds ch.2.2 := by simp [mks]
theorem mem_mks {ch : Ch} {m : Mk} : m ∈ mks ch ↔ m.1 = ch.1 ∧ 0 ≤ m.2 ∧ m.2 < adds ch.2.2 := by
  obtain ⟨a, b⟩ := m
  unfold mks
  rw [List.mem_map]
  constructor
  · rintro ⟨j, hj, e⟩
    cases e
    have := List.mem_range.mp hj
    exact ⟨rfl, by omega, by show ((j : Nat) : Int) < _; omega⟩
  · rintro ⟨h1, h2, h3⟩
    simp only at h1 h2 h3
    exact ⟨b.toNat, List.mem_range.mpr (by omega), by rw [h1]; simp; omega⟩

/-! ### deeds -/
def mkD : Mk := (("" : Str), 0)
def dKnown (nm : Str) (ms : List Mk) (own : Int) : List Mk := ms ++ (List.range own.toNat).map fun (j : Nat) => (nm, (j : Int))
def dAt (nm : Str) (c : Int) (ms : List Mk) (k : Nat) (own : Int) : Int := mixed c (k : Int) / 5 % ((dKnown nm ms own).length + 1)
def dPut (nm : Str) (c : Int) (ms : List Mk) (k : Nat) (own : Int) : Option Mk := if 0 < dAt nm c ms k own then some ((dKnown nm ms own).getD (dAt nm c ms k own - 1).toNat mkD) else none
def dHit (nm : Str) (c : Int) (ms : List Mk) (k : Nat) (own : Int) : Mk := (dKnown nm ms own).getD (dAt nm c ms k own % (dKnown nm ms own).length).toNat mkD
def dAdd (nm : Str) (c : Int) (ms : List Mk) (k : Nat) (own : Int) : Bool := decide (mixed c (k : Int) % 5 < 3) || (dKnown nm ms own).isEmpty
def dStep (nm : Str) (c : Int) (ms : List Mk) (k : Nat) (s : List Dd × Int) : List Dd × Int :=
  if dAdd nm c ms k s.2 = true then (s.1 ++ [(("add" : Str), dPut nm c ms k s.2, some (line (mixed c (k : Int) / 365)))], s.2 + 1)
  else if mixed c (k : Int) % 5 = 3 then (s.1 ++ [(("cut" : Str), some (dHit nm c ms k s.2), none)], s.2)
  else (s.1 ++ [(("set" : Str), some (dHit nm c ms k s.2), some (line (mixed c (k : Int) / 365)))], s.2)
def dSt (nm : Str) (c : Int) (ms : List Mk) : Nat → List Dd × Int := nrg (dStep nm c ms) ([], 0)
def deeds (nm : Str) (c many : Int) (ms : List Mk) : List Dd := (dSt nm c ms many.toNat).1
theorem dKnown_mem {nm : Str} {ms : List Mk} {own : Int} {m : Mk} (h : m ∈ dKnown nm ms own) : m ∈ ms ∨ (m.1 = nm ∧ 0 ≤ m.2 ∧ m.2 < own) := by
  unfold dKnown at h
  rcases List.mem_append.mp h with h | h
  · exact .inl h
  · obtain ⟨j, hj, e⟩ := List.mem_map.mp h
    have := List.mem_range.mp hj
    subst e
    exact .inr ⟨rfl, by simp, by simp; omega⟩
theorem dKnown_len (nm : Str) (ms : List Mk) (own : Int) : (dKnown nm ms own).length = ms.length + own.toNat := by simp [dKnown]
/-- what one deed is, known marks ms, n own ones ahead -/
def okDd (nm : Str) (ms : List Mk) (n : Nat) (d : Dd) : Prop :=
  (d.1 = ("add" : Str) ∧ (∀ m, d.2.1 = some m → m ∈ ms ∨ (m.1 = nm ∧ 0 ≤ m.2 ∧ m.2 < n)) ∧ ∃ z, d.2.2 = some z ∧ isLn z) ∨
  (∃ m, (m ∈ ms ∨ (m.1 = nm ∧ 0 ≤ m.2 ∧ m.2 < n)) ∧ ((d = (("cut" : Str), some m, none)) ∨ ∃ z, isLn z ∧ d = (("set" : Str), some m, some z)))
def okDds (nm : Str) (ms : List Mk) (ds : List Dd) : Prop := ∀ (i : Nat) (d : Dd), ds[i]? = some d → okDd nm ms (adds (ds.take i)) d
theorem okDds_snoc {nm : Str} {ms : List Mk} {ds : List Dd} {d : Dd} (h : okDds nm ms ds) (hd : okDd nm ms (adds ds) d) : okDds nm ms (ds ++ [d]) := by
  intro i e he
  by_cases hi : i < ds.length
  · rw [List.getElem?_append_left hi] at he
    rw [List.take_append_of_le_length (by omega)]
    exact h i e he
  · have hi2 : i < (ds ++ [d]).length := (List.getElem?_eq_some_iff.mp he).1
    simp at hi2
    have : i = ds.length := by omega
    subst this
    simp at he
    subst he
    rw [List.take_append_of_le_length (by omega), List.take_length]
    exact hd
theorem dAt_lo (nm : Str) (c : Int) (ms : List Mk) (k : Nat) (own : Int) : 0 ≤ dAt nm c ms k own := Int.emod_nonneg _ (by omega)
theorem dAt_hi (nm : Str) (c : Int) (ms : List Mk) (k : Nat) (own : Int) : dAt nm c ms k own ≤ (dKnown nm ms own).length := by
  have : dAt nm c ms k own < ((dKnown nm ms own).length : Int) + 1 := Int.emod_lt_of_pos _ (by omega)
  omega
theorem dPut_at (nm : Str) (c : Int) (ms : List Mk) (k : Nat) (own : Int) (h : 0 < dAt nm c ms k own) : atI (dKnown nm ms own) (dAt nm c ms k own - 1) = some ((dKnown nm ms own).getD (dAt nm c ms k own - 1).toNat mkD) :=
  atI_getD mkD (by omega) (by have := dAt_hi nm c ms k own; omega)
theorem dHit_at (nm : Str) (c : Int) (ms : List Mk) (k : Nat) (own : Int) (h : dKnown nm ms own ≠ []) : atI (dKnown nm ms own) (dAt nm c ms k own % (dKnown nm ms own).length) = some (dHit nm c ms k own) := by
  have hl : 0 < (dKnown nm ms own).length := List.length_pos_iff.mpr h
  exact atI_getD mkD (Int.emod_nonneg _ (by omega)) (Int.emod_lt_of_pos _ (by omega))
theorem dSt_inv (nm : Str) (c : Int) (ms : List Mk) (n : Nat) : ∀ k, k ≤ n → okDds nm ms (dSt nm c ms k).1 ∧ (dSt nm c ms k).2 = (adds (dSt nm c ms k).1 : Nat) ∧ (dSt nm c ms k).1.length = k :=
  nrg_inv (fun (k : Nat) (s : List Dd × Int) => okDds nm ms s.1 ∧ s.2 = (adds s.1 : Nat) ∧ s.1.length = k) ⟨fun i d h => by simp at h, rfl, rfl⟩ fun k s hk ⟨h1, h2, h3⟩ => by
    have hz := line_isLn (mixed c (k : Int) / 365)
    have kn : ∀ m, m ∈ dKnown nm ms s.2 → m ∈ ms ∨ (m.1 = nm ∧ 0 ≤ m.2 ∧ m.2 < (adds s.1 : Nat)) := fun m hm => by
      have := dKnown_mem hm
      rwa [h2] at this
    unfold dStep
    split
    · refine ⟨okDds_snoc h1 (.inl ⟨rfl, fun m hm => ?_, _, rfl, hz⟩), ?_, by simp [h3]⟩
      · unfold dPut at hm
        by_cases q : 0 < dAt nm c ms k s.2
        · simp only [if_pos q] at hm
          have e := Option.some.inj hm
          subst e
          exact kn _ (mem_of_atI (dPut_at nm c ms k s.2 q))
        · simp only [if_neg q] at hm
          cases hm
      · show s.2 + 1 = _
        rw [adds_app, h2]
        simp [adds]
    · rename_i hA
      have hne : dKnown nm ms s.2 ≠ [] := fun e => hA (by unfold dAdd; rw [e]; simp)
      have hm := kn _ (mem_of_atI (dHit_at nm c ms k s.2 hne))
      split
      · refine ⟨okDds_snoc h1 (.inr ⟨_, hm, .inl rfl⟩), ?_, by simp [h3]⟩
        show s.2 = _
        rw [adds_app, adds_cut, Nat.add_zero]
        exact h2
      · refine ⟨okDds_snoc h1 (.inr ⟨_, hm, .inr ⟨_, hz, rfl⟩⟩), ?_, by simp [h3]⟩
        show s.2 = _
        rw [adds_app, adds_set, Nat.add_zero]
        exact h2
theorem deeds_ok (nm : Str) (c many : Int) (ms : List Mk) : okDds nm ms (deeds nm c many ms) ∧ (deeds nm c many ms).length = many.toNat := by
  have := dSt_inv nm c ms many.toNat many.toNat (Nat.le_refl _)
  exact ⟨this.1, this.2.2⟩

/-! ### changes -/
def mkStep (ln : List Str) (k : Nat) (ch : Ch) (s : List Mk) : List Mk := if ch.1 ∈ ln then s ++ mks ch else s
def mkSt (ln : List Str) (fs : List Ch) : Nat → List Mk := nst (mkStep ln) [] fs
def mksOf (ln : List Str) (fs : List Ch) : List Mk := mkSt ln fs fs.length
theorem mkSt_mem (ln : List Str) (fs : List Ch) : ∀ k, k ≤ fs.length → ∀ m ∈ mkSt ln fs k, ∃ ch ∈ fs, ch.1 ∈ ln ∧ m ∈ mks ch :=
  nst_inv (fun (k : Nat) (s : List Mk) => ∀ m ∈ s, ∃ ch ∈ fs, ch.1 ∈ ln ∧ m ∈ mks ch) (by simp) fun k a s e h m hm => by
    unfold mkStep at hm
    split at hm
    · rcases List.mem_append.mp hm with hm | hm
      · exact h m hm
      · exact ⟨a, List.mem_of_getElem? e, by assumption, hm⟩
    · exact h m hm
theorem mksOf_mem {ln : List Str} {fs : List Ch} {m : Mk} (h : m ∈ mksOf ln fs) : ∃ ch ∈ fs, ch.1 ∈ ln ∧ m ∈ mks ch := mkSt_mem ln fs _ (Nat.le_refl _) m h
theorem mkSt_len (ln : List Str) (fs : List Ch) (b : Nat) (hb : ∀ ch ∈ fs, adds ch.2.2 ≤ b) : ∀ k, k ≤ fs.length → (mkSt ln fs k).length ≤ k * b :=
  nst_inv (fun (k : Nat) (s : List Mk) => s.length ≤ k * b) (by simp) fun k a s e h => by
    have := hb a (List.mem_of_getElem? e)
    unfold mkStep
    rw [Nat.add_mul]
    split
    · rw [List.length_append, mks_len]; omega
    · omega
def many (c : Int) : Int := if c / 5 % 16 = 1 then 20 - c / 80 % 16 else c % 5
theorem many_lo (c : Int) : 0 ≤ many c := by unfold many; split <;> omega
theorem many_hi (c : Int) : many c ≤ 20 := by unfold many; split <;> omega
def cAt (cs : List Int) (k : Nat) (j : Int) : Int := cs.getD (4 * (k : Int) + j).toNat 0
def chNew (cs : List Int) (k : Nat) (s : List Ch × List Str) : Ch :=
  (name (cAt cs k 0) s.2, leans (cAt cs k 1) s.1, deeds (name (cAt cs k 0) s.2) (cAt cs k 2) (many (cAt cs k 3)) (mksOf (leans (cAt cs k 1) s.1) s.1))
def chStep (cs : List Int) (k : Nat) (s : List Ch × List Str) : List Ch × List Str := (s.1 ++ [chNew cs k s], s.2 ++ [name (cAt cs k 0) s.2])
def chSt (cs : List Int) : Nat → List Ch × List Str := nrg (chStep cs) ([], ["0"])
def chN (cs : List Int) (most : Int) : Int := min ((cs.length : Int) / 4) most
def changes (cs : List Int) (most : Int) : List Ch := (chSt cs (chN cs most).toNat).1
/-- a change that stands behind those of fs -/
structure okCh (fs : List Ch) (ch : Ch) : Prop where
  nm : isNm ch.1
  new : ∀ f ∈ fs, f.1 ≠ ch.1
  lns : ∀ z ∈ ch.2.1, z ∈ fs.map (·.1)
  ris : rising ch.2.1
  dds : ∃ ms, (∀ m ∈ ms, ∃ f ∈ fs, f.1 ∈ ch.2.1 ∧ m ∈ mks f) ∧ okDds ch.1 ms ch.2.2
  len : ch.2.2.length ≤ 20
/-- changes, each upon those ahead -/
def okChs (cs : List Ch) : Prop := ∀ (i : Nat) (ch : Ch), cs[i]? = some ch → okCh (cs.take i) ch
theorem okChs_snoc {cs : List Ch} {ch : Ch} (h : okChs cs) (hc : okCh cs ch) : okChs (cs ++ [ch]) := by
  intro i e he
  by_cases hi : i < cs.length
  · rw [List.getElem?_append_left hi] at he
    rw [List.take_append_of_le_length (by omega)]
    exact h i e he
  · have hi2 : i < (cs ++ [ch]).length := (List.getElem?_eq_some_iff.mp he).1
    simp at hi2
    have : i = cs.length := by omega
    subst this
    simp at he
    subst he
    rw [List.take_append_of_le_length (by omega), List.take_length]
    exact hc
theorem zero_nm : isNm ("0" : Str) := ⟨by decide +kernel, by decide +kernel, by decide +kernel⟩
structure ChInv (k : Nat) (s : List Ch × List Str) : Prop where
  ok : okChs s.1
  nd : (s.1.map (·.1)).Nodup
  tk : s.2 = ("0" : Str) :: s.1.map (·.1)
  tn : ∀ z ∈ s.2, isNm z
  len : s.1.length = k
theorem ChInv.step {cs : List Int} {k : Nat} {s : List Ch × List Str} (hk : k < 900) (I : ChInv k s) : ChInv (k + 1) (chStep cs k s) := by
  have hl : s.2.length < 1000 := by rw [I.tk]; simp [I.len]; omega
  obtain ⟨n1, n2⟩ := name_ok (cAt cs k 0) hl I.tn
  have n3 : name (cAt cs k 0) s.2 ∉ s.1.map (·.1) := fun h => n2 (by rw [I.tk] at h ⊢; exact List.mem_cons_of_mem _ h)
  refine ⟨okChs_snoc I.ok ⟨n1, fun f hf e => n3 (List.mem_map.mpr ⟨f, hf, e⟩), leans_sub _ _, leans_rising _ I.nd, ⟨_, fun m hm => mksOf_mem hm, (deeds_ok _ _ _ _).1⟩, ?_⟩, ?_, ?_, ?_, ?_⟩
  · show (deeds _ _ _ _).length ≤ 20
    rw [(deeds_ok _ _ _ _).2]
    have := many_hi (cAt cs k 3)
    omega
  · show ((s.1 ++ [chNew cs k s]).map (·.1)).Nodup
    rw [List.map_append]
    refine List.nodup_append.mpr ⟨I.nd, by simp, fun a ha b hb e => ?_⟩
    subst e
    simp at hb
    subst hb
    exact n3 ha
  · show s.2 ++ [_] = _ :: (s.1 ++ [chNew cs k s]).map (·.1)
    rw [List.map_append, ← List.cons_append, ← I.tk]
    rfl
  · intro z hz
    rcases List.mem_append.mp hz with hz | hz
    · exact I.tn z hz
    · rw [List.mem_singleton.mp hz]; exact n1
  · show (s.1 ++ [_]).length = _
    simp [I.len]
theorem chSt_inv (cs : List Int) {n : Nat} (hn : n < 900) : ∀ k, k ≤ n → ChInv k (chSt cs k) :=
  nrg_inv (fun k s => ChInv k s) ⟨fun i d h => by simp at h, by simp, rfl, fun z hz => by rw [List.mem_singleton.mp hz]; exact zero_nm, rfl⟩ fun k s hk I => I.step (by omega)
theorem changes_inv (cs : List Int) {most : Int} (h : most < 900) : ChInv (chN cs most).toNat (chSt cs (chN cs most).toNat) := chSt_inv cs (n := (chN cs most).toNat) (by unfold chN; omega) _ (Nat.le_refl _)
end MM

/-! Loops that may return early, zips of any lengths, tuples of the module, try that runs through. -/
namespace DD
open PySem PySem.Spec L2
section
variable {T : Tb} {X : Cx} {Γ : Ev} {m : Bool} {e a b c : Expr} {d da db dc d1 d2 d3 : D} {pos px p tpos : Pos} {i j j1 j2 : Nat} {x : Str} {ds es : List D} {rest body th el : List Stmt} {P : Pst} {k : Bool} {elts : List Expr} {kk : Nat}
theorem s_forI {tg iter : Expr} {g : TG} {n : Nat} {js : List Nat} {up : Nat → Ev → Ev} {Keep : Ev → Prop} (I : Nat → Prop) (Γs : Nat → Ev) (L : Nat) (hi : PI X tg iter (tSrc T X.K Γ g n js up Keep)) (hg : PG X tg g) (h0 : Wk Γ (Γs 0)) (i0 : I 0) (hk : ∀ k, k ≤ n → Keep (Γs k)) (hL : ∀ k, (Γs k).length = L) (hj : ∀ j ∈ js, j < L)
    (hb : ∀ k, k < n → I k → SD T X (up k (Γs k)) body { P with nx := fun Γ' => Wk Γ' (Γs (k + 1)) ∧ I (k + 1) }) (hr : I n → SD T X (Γs n) rest P) (hp : PassesOwn (model X.prog X.w) X.A X.env X.xe := by first | exact PassesOwn.never | exact L2.passes_of rfl | assumption) (hc : X.calm = true := by rfl) (hs : ∀ x, foldedSetIterable iter X.env x = pure x := by intro _; rfl) :
    SD T X Γ (.For tg iter body [] pos :: rest) P :=
  s_seq (u := fun E σ H => I n ∧ tSt T X.K (Γs n) P E σ H) (ps_for (tb := fun E σ H => ∃ k, k < n ∧ I k ∧ tSt T X.K (up k (Γs k)) { P with nx := fun Γ' => Wk Γ' (Γs (k + 1)) ∧ I (k + 1) } E σ H) hp hc hi hg ⟨fun pins s σ H E J ⟨k, hk, ik, h⟩ => (hb k hk ik).run pins s σ H E J h⟩ hs) ⟨fun pins s σ H E J ⟨ik, h⟩ => (hr ik).run pins s σ H E J h⟩ fun E σ H ⟨Z, gz, f⟩ =>
    ⟨Z, gz, fun J Good H1 g1 x1 st good => by
      have gA : GOk T X.K { Z with B := rg true Z H1 Γ } H1 σ (Γs 0) := (g1.rebase (Same.refl _)).wk h0
      refine ⟨fun i m σ H => m = n - i ∧ i ≤ n ∧ I i ∧ GOk T X.K { Z with B := rg true Z H1 Γ } H σ (Γs i), ⟨n, by simp, Nat.zero_le _, i0, gA⟩, ?_⟩
      rintro i m σ2 H2 ⟨rfl, hi2, ii, g2⟩
      have gd := good { Z with B := rg true Z H1 Γ } H2 σ2 (Γs i) g2 (Same.refl _) (hk i hi2) (.inr trivial)
      by_cases hlt : i < n
      · obtain ⟨go, turn⟩ := st.turn { Z with B := rg true Z H1 Γ } i H2 σ2 (Γs i) hlt g2 gd (fun j q => by rw [hL]; exact hj j q)
        refine .inr ⟨go, fun σ H => I (i + 1) ∧ GOk T X.K { Z with B := rg true Z H1 Γ } H σ (Γs (i + 1)), fun σ' H' p' => ⟨n - (i + 1), by omega, rfl, hlt, p'.1, p'.2⟩, fun v H' y => turn v H' y _ fun σ3 H3 g3 x3 _ => ⟨i, hlt, ii, { Z with B := rg true Z H1 Γ }, g3, ?_⟩⟩
        exact ⟨fun Γ' σ' H' w g' => ⟨w.2, g'.wk w.1⟩, f.rt, f.rl, f.ro, fun c Γ' σ' H' e g' => f.xc c Γ' σ' H' e (g'.rebase (B := Z.B) (g1.base.trans g'.base)), f.rn, fun d Γ' v σ' H' e g' da => f.rm d Γ' v σ' H' e (g'.rebase (B := Z.B) (g1.base.trans g'.base)) da, f.h0⟩
      · have e : i = n := by omega
        subst e
        exact .inl ⟨st.stop { Z with B := rg true Z H1 Γ } H2 σ2 (Γs i) g2 gd, ii, Z, g2.rebase (B := Z.B) (g1.base.trans g2.base), f⟩⟩
/-- zip of two lists of any lengths -/
theorem stp_zipN {K : PySem.W.Frag} {a b : Addr} {n : Nat} (h1 : n ≤ ds.length) (h2 : n ≤ es.length) (h3 : ds.length ≤ n ∨ es.length ≤ n) : Stp T K (Itz K a b) (g2 K j1 j2) n [j1, j2] (upN2 j1 j2 (fun i => ds.getD i .non) fun i => es.getD i .non) (fun Z H Γ => GoodL K a ds Z H Γ ∧ GoodL K b es Z H Γ) where
  stop := fun Z H σ Γ g ⟨⟨vs, e1, e2⟩, ⟨ws, f1, f2⟩⟩ => ⟨vs, ws, SqL.of e1, SqL.of f1, by rw [e2.length, f2.length]; exact h3⟩
  turn := fun Z i H σ Γ hi g ⟨⟨vs, e1, e2⟩, ⟨ws, f1, f2⟩⟩ hj => by
    have l1 := e2.length
    have l2 := f2.length
    have hv : i < vs.length := by omega
    have hw : i < ws.length := by omega
    refine ⟨⟨vs, ws, vs[i], ws[i], SqL.of e1, SqL.of f1, by simp [hv], by simp [hw]⟩, fun v H' y Q q => ?_⟩
    obtain ⟨t, x, u, rfl, ht, rfl, y1, y2⟩ := y
    obtain ⟨d, hd, h⟩ := e2.get' (y1 vs (SqL.of e1))
    obtain ⟨d', hd', h'⟩ := f2.get' (y2 ws (SqL.of f1))
    have ed : ds.getD i .non = d := by simp [List.getD, hd]
    have ed' : es.getD i .non = d' := by simp [List.getD, hd']
    refine take_pair (g.new ht) (SqT.of upd_same) (h.to (rg_ext (Ext.upd ht))) (h'.to (rg_ext (Ext.upd ht))) (hj j1 (by simp)) (hj j2 (by simp)) fun σ2 g2 hw => q σ2 _ ?_ (Ext.upd ht) hw
    show GOk T K Z _ σ2 ((Γ.set j1 (some (.sh (ds.getD i .non)))).set j2 (some (.sh (es.getD i .non))))
    rw [ed, ed']
    exact g2
theorem src_zipN {a b : Expr} {n : Nat} (hm : X.mg "zip" = none) (h1 : n ≤ ds.length) (h2 : n ≤ es.length) (h3 : ds.length ≤ n ∨ es.length ≤ n) (ha : ED T X true Γ a (.lst ds)) (hb : ED T X true Γ b (.lst es)) (hg : Gl X "zip" := by rfl) (hs2 : starEach [b] X.env = (false, eval b X.env) :: starEach [] X.env := by rfl)
    (hs : starEach [a, b] X.env = (false, eval a X.env) :: starEach [b] X.env := by rfl) (hpl : (backTo pos (starEach [b] X.env)).any (·.1) = false := by rfl) :
    PI X (.Tuple elts kk tpos) (.Call (.Name "zip" p) [a, b] [] pos) (tSrc T X.K Γ (g2 X.K j1 j2) n [j1, j2] (upN2 j1 j2 (fun i => ds.getD i .non) fun i => es.getD i .non) fun _ => True) :=
  PI.imp' (pi_zip hg hm (a_two ha hb hs2 hs) hs hpl) fun σ H R ⟨Z, g, q⟩ => ⟨Z, g, fun vs H1 g1 x1 d1 => by
    cases d1 with
    | cons h1' h2' =>
      cases h2' with
      | cons h2' h3' =>
        cases h3'
        cases h1' with
        | lst e1 e2 =>
          cases h2' with
          | lst f1 f2 =>
            exact ⟨_, _, _, _, rfl, SqL.of (g1.sub _ _ e1), SqL.of (g1.sub _ _ f1), q _ (fun Z H Γ => GoodL X.K _ ds Z H Γ ∧ GoodL X.K _ es Z H Γ) H1 g1 x1 (stp_zipN h1 h2 h3) fun Z2 H2 σ2 Γ2 g2 sm _ _ =>
              ⟨⟨_, g2.sub _ _ (g2.base _ _ (sm _ _ e1)), (e2.to sm).to g2.base⟩, ⟨_, g2.sub _ _ (g2.base _ _ (sm _ _ f1)), (f2.to sm).to g2.base⟩⟩⟩⟩
/-- a tuple of texts of the module -/
theorem e_gtup {xs : List Str} (hm : ∃ a, X.mg x = some (.ref a) ∧ ∀ G, SqT X.K G a (xs.map V.str)) (hk : ∀ z ∈ xs, SOk z := by decide +kernel) (hg : Gl X x := by rfl) (hd : (x == ("__debug__" : Str)) = false := by decide) : ED T X m Γ (.Name x pos) (.ktp xs) := by
  obtain ⟨a, hm, hq⟩ := hm
  exact PE.imp' (pe_glob hg hm (v := .ref a) rfl hd) fun σ H Q ⟨Z, g, q⟩ => q _ H g (Ext.refl H) (.ktp xs (hq _))
/-- try: a body that raises nothing -/
theorem s_try {hh : ExceptHandler} {hs : List ExceptHandler} (Γj : Ev) (hb : SD T X.nox Γ body { P with nx := fun Γ' => Wk Γ' Γj }) (hr : SD T X Γj rest P) : SD T X Γ (.Try body (hh :: hs) [] [] pos :: rest) P :=
  s_seq (ps_try_thru0 hb) hr fun E σ H ⟨Z, g, f⟩ => ⟨Z, g, ⟨fun Γ' σ' H' w g' => ⟨Z, g'.wk w, f⟩, f.rt, f.rl, f.ro, f.xc, f.rn, f.rm, f.h0⟩⟩
end
section
variable {T : Tb} {X : Cx} {Γ : Ev} {iter : Expr} {pos tp : Pos} {x : Str} {α β : Type} {as : List α} {bs : List β} {f : α → D} {g : β → D} {rest body : List Stmt} {P : Pst} {elt : Expr} {scope : Scope}
/-- for x in a stable list, left early -/
theorem s_forLI (I : Nat → Prop) (j : Nat) (Γs : Nat → Ev) (L : Nat) (hi : ED T X true Γ iter (.lst (as.map f))) (hg : PG X (.Name x tp) (gName j)) (h0 : Wk Γ (Γs 0)) (i0 : I 0) (hL : ∀ k, (Γs k).length = L) (hj : j < L)
    (hb : ∀ (k : Nat) (a : α), as[k]? = some a → I k → SD T X ((Γs k).set j (some (.sh (f a)))) body { P with nx := fun Γ' => Wk Γ' (Γs (k + 1)) ∧ I (k + 1) }) (hr : I as.length → SD T X (Γs as.length) rest P) (hp : PassesOwn (model X.prog X.w) X.A X.env X.xe := by first | exact PassesOwn.never | exact L2.passes_of rfl | assumption) (hc : X.calm = true := by rfl) (hs : ∀ x, foldedSetIterable iter X.env x = pure x := by intro _; rfl) :
    SD T X Γ (.For (.Name x tp) iter body [] pos :: rest) P := by
  have hl : (as.map f).length = as.length := by simp
  refine s_forI I Γs L (src_list hi) hg h0 i0 (fun _ _ => trivial) hL (by simpa using hj) (fun k hk ik => ?_) (by rw [hl]; exact hr) hp hc hs
  have hlt : k < as.length := by rw [← hl]; exact hk
  have e : as[k]? = some as[k] := by simp [hlt]
  show SD T X ((Γs k).set j (some (.sh ((as.map f).getD k .non)))) body _
  rw [getD_map e]
  exact hb k _ e ik
/-- for a, b in zip(..), left early -/
theorem s_forZI (I : Nat → Prop) (j1 j2 : Nat) {a b : Expr} {ep epos : Pos} {elts : List Expr} {kk n : Nat} (Γs : Nat → Ev) (L : Nat) (hm : X.mg "zip" = none) (h1 : n ≤ as.length) (h2 : n ≤ bs.length) (h3 : as.length ≤ n ∨ bs.length ≤ n) (ha : ED T X true Γ a (.lst (as.map f))) (hb' : ED T X true Γ b (.lst (bs.map g))) (hg : PG X (.Tuple elts kk tp) (g2 X.K j1 j2)) (h0 : Wk Γ (Γs 0)) (i0 : I 0) (hL : ∀ k, (Γs k).length = L) (hj1 : j1 < L) (hj2 : j2 < L)
    (hb : ∀ (k : Nat) (a : α) (b : β), as[k]? = some a → bs[k]? = some b → I k → SD T X (((Γs k).set j1 (some (.sh (f a)))).set j2 (some (.sh (g b)))) body { P with nx := fun Γ' => Wk Γ' (Γs (k + 1)) ∧ I (k + 1) }) (hr : I n → SD T X (Γs n) rest P)
    (hp : PassesOwn (model X.prog X.w) X.A X.env X.xe := by first | exact PassesOwn.never | exact L2.passes_of rfl | assumption) (hc : X.calm = true := by rfl) (hgl : Gl X "zip" := by rfl) (hs2 : starEach [b] X.env = (false, eval b X.env) :: starEach [] X.env := by rfl)
    (hst : starEach [a, b] X.env = (false, eval a X.env) :: starEach [b] X.env := by rfl) (hpl : (backTo epos (starEach [b] X.env)).any (·.1) = false := by rfl) (hs : ∀ x, foldedSetIterable (.Call (.Name "zip" ep) [a, b] [] epos) X.env x = pure x := by intro _; rfl) :
    SD T X Γ (.For (.Tuple elts kk tp) (.Call (.Name "zip" ep) [a, b] [] epos) body [] pos :: rest) P := by
  refine s_forI I Γs L (src_zipN (n := n) hm (by simpa using h1) (by simpa using h2) (by simpa using h3) ha hb' hgl hs2 hst hpl) hg h0 i0 (fun _ _ => trivial) hL (by intro j hj; simp only [List.mem_cons, List.not_mem_nil, or_false] at hj; rcases hj with rfl | rfl <;> assumption) (fun k hk ik => ?_) hr hp hc hs
  have hlt : k < as.length := by omega
  have hlt2 : k < bs.length := by omega
  have e : as[k]? = some as[k] := by simp [hlt]
  have e2 : bs[k]? = some bs[k] := by simp [hlt2]
  show SD T X (((Γs k).set j1 (some (.sh ((as.map f).getD k .non)))).set j2 (some (.sh ((bs.map g).getD k .non)))) body _
  rw [getD_map e, getD_map e2]
  exact hb k _ _ e e2 ik
/-- [.. for a, b in zip(..)] of lists of one length -/
theorem mpZ (j1 j2 : Nat) {γ : Type} (f' : γ → D) {h : Nat → γ} {x1 x2 : Str} {a b : Expr} {ep epos : Pos} {elts : List Expr} {kk : Nat} (nd : X.N.Nodup) (hm : X.mg "zip" = none) (hlen : as.length = bs.length) (hn : as.length ≤ 16777216) (ha : ED T X true Γ a (.lst (as.map f))) (hb' : ED T X true Γ b (.lst (bs.map g))) (ok : BlkOk X.N X.env.scope scope [(x1, j1), (x2, j2)])
    (hg : ∀ (s : Shared) (H : Hp) (C : Addr) (cl : List (Str × Addr)) (fp : List Addr), PG (blkOf X scope s H C cl fp) (.Tuple elts kk tp) (g2 X.K j1 j2))
    (he : ∀ (s : Shared) (H : Hp) (C : Addr) (cl : List (Str × Addr)) (fp : List Addr) (k : Nat) (a : α) (b : β), as[k]? = some a → bs[k]? = some b → ED T (blkOf X scope s H C cl fp) true (((wipeE Γ [j1, j2]).set j1 (some (.sh (f a)))).set j2 (some (.sh (g b)))) elt (f' (h k)))
    (hj1 : j1 < Γ.length := by exact Nat.le_of_ble_eq_true rfl) (hj2 : j2 < Γ.length := by exact Nat.le_of_ble_eq_true rfl) (ho : owns (wipeE Γ [j1, j2]) = owns Γ := by rfl) (hup : ∀ d d', owns (((wipeE Γ [j1, j2]).set j1 (some (.sh d))).set j2 (some (.sh d'))) = owns (wipeE Γ [j1, j2]) := by intro _ _; rfl) (hc : X.calm = true := by rfl) (hgl : Gl X "zip" := by rfl)
    (hs2 : starEach [b] X.env = (false, eval b X.env) :: starEach [] X.env := by rfl)
    (hst : starEach [a, b] X.env = (false, eval a X.env) :: starEach [b] X.env := by rfl) (hpl : (backTo epos (starEach [b] X.env)).any (·.1) = false := by rfl) (hs : ∀ x, foldedSetIterable (.Call (.Name "zip" ep) [a, b] [] epos) X.env x = pure x := by intro _; rfl) :
    LD T X Γ (.ListComp elt [⟨.Tuple elts kk tp, .Call (.Name "zip" ep) [a, b] [] epos, [], 0⟩] scope pos) (((List.range as.length).map h).map f') := by
  refine LD.as (l_comp (g := g2 X.K j1 j2) (n := as.length) (keep := fun _ => true) (val := fun i => f' (h i)) hc nd (src_zipN (n := as.length) hm (by simp) (by simp [hlen]) (by simp) ha hb' hgl hs2 hst hpl) ok hg (fun s H C cl fp i _ => PTs.mk fun pins s' σ H' Q I ⟨Z, g, q⟩ => (pts_nil (X := blkOf X scope s H C cl fp)).run pins s' σ H' Q I (q H' g (Ext.refl H'))) (fun s H C cl fp i hi' _ => ?_) hn (by intro j hj; simp only [List.mem_cons, List.not_mem_nil, or_false] at hj; rcases hj with rfl | rfl <;> assumption) (by simp) trivial ho (fun i => hup _ _) hs) ?_
  · have hlt2 : i < bs.length := by omega
    have e : as[i]? = some as[i] := by simp [hi']
    have e2 : bs[i]? = some bs[i] := by simp [hlt2]
    show ED T (blkOf X scope s H C cl fp) true (((wipeE Γ [j1, j2]).set j1 (some (.sh ((as.map f).getD i .non)))).set j2 (some (.sh ((bs.map g).getD i .non)))) elt (f' (h i))
    rw [getD_map e, getD_map e2]
    exact he s H C cl fp i _ _ e e2
  · unfold compD
    rw [List.filter_eq_self.mpr (by simp), List.map_map]
    rfl
end
end DD

/-! What is a change by itself; a change written. -/
namespace MM
open PySem L2 DD TL

/-! ### names, lines, rising, as the program looks at them -/
theorem all_map {α : Type} (p : α → Bool) (l : List α) : ((l.map p).all fun b => b) = true ↔ ∀ x ∈ l, p x = true := by
  rw [List.all_map, List.all_eq_true]
  rfl
def nmB (z : Str) : Bool := (decide ((1 : Int) ≤ z.length) && decide ((z.length : Int) ≤ 12)) && ((z.cps.toList.map fun k => decide (k ∈ SIG.cps.toList)).all fun b => b)
theorem nmB_iff (z : Str) : nmB z = true ↔ isNm z := by
  unfold nmB isNm
  rw [Bool.and_eq_true, Bool.and_eq_true, decide_eq_true_eq, decide_eq_true_eq, all_map]
  simp only [decide_eq_true_eq]
  constructor
  · rintro ⟨⟨h1, h2⟩, h3⟩
    exact ⟨by omega, by omega, h3⟩
  · rintro ⟨h1, h2, h3⟩
    exact ⟨⟨by omega, by omega⟩, h3⟩
def lnK (k : Nat) : Bool := !decide ((⟨#[k]⟩ : Str).cps.toList < (" " : Str).cps.toList) && !decide (("~" : Str).cps.toList < (⟨#[k]⟩ : Str).cps.toList)
theorem one_lt (a b : Nat) : ([a] < [b]) ↔ a < b := by
  constructor
  · intro h
    rcases List.cons_lt_cons_iff.mp h with h | ⟨_, h⟩
    · exact h
    · exact absurd h (by simp)
  · intro h
    exact List.cons_lt_cons_iff.mpr (.inl h)
theorem lnK_iff (k : Nat) : lnK k = true ↔ 32 ≤ k ∧ k ≤ 126 := by
  unfold lnK
  have e1 : (" " : Str).cps.toList = [32] := by decide +kernel
  have e2 : ("~" : Str).cps.toList = [126] := by decide +kernel
  rw [e1, e2]
  show (!decide ([k] < [32]) && !decide ([126] < [k])) = true ↔ _
  rw [Bool.and_eq_true, Bool.not_eq_true', Bool.not_eq_true', decide_eq_false_iff_not, decide_eq_false_iff_not, one_lt, one_lt]
  omega
def lnB (z : Str) : Bool := decide ((z.length : Int) ≤ 200) && ((z.cps.toList.map lnK).all fun b => b)
theorem lnB_iff (z : Str) : lnB z = true ↔ isLn z := by
  unfold lnB isLn
  rw [Bool.and_eq_true, decide_eq_true_eq, all_map]
  simp only [lnK_iff]
  constructor
  · rintro ⟨h1, h2⟩
    exact ⟨by omega, h2⟩
  · rintro ⟨h1, h2⟩
    exact ⟨by omega, h2⟩
instance instDecSlt (a b : Str) : Decidable (slt a b) := inferInstanceAs (Decidable (a.cps.toList < b.cps.toList))
instance instDecRising (xs : List Str) : Decidable (rising xs) := inferInstanceAs (Decidable (xs.Pairwise slt))
theorem slt_trans {a b c : Str} (h : slt a b) (h' : slt b c) : slt a c := List.lt_trans h h'
theorem rising_adj {xs : List Str} (h : ∀ (i : Nat) (a b : Str), xs[i]? = some a → xs[i + 1]? = some b → slt a b) : rising xs := by
  refine List.pairwise_iff_getElem.mpr fun i j hi hj hij => ?_
  obtain ⟨k, rfl⟩ : ∃ k, j = i + 1 + k := ⟨j - (i + 1), by omega⟩
  induction k with
  | zero => exact h i _ _ (by simp [hi]) (by simp [hj])
  | succ k ih =>
    exact slt_trans (ih (by omega) (by omega)) (h (i + 1 + k) _ _ (List.getElem?_eq_getElem (by omega)) (List.getElem?_eq_getElem hj))
theorem rising_get {xs : List Str} (h : rising xs) {i : Nat} {a b : Str} (ha : xs[i]? = some a) (hb : xs[i + 1]? = some b) : slt a b := by
  obtain ⟨h1, e1⟩ := List.getElem?_eq_some_iff.mp ha
  obtain ⟨h2, e2⟩ := List.getElem?_eq_some_iff.mp hb
  rw [← e1, ← e2]
  exact List.pairwise_iff_getElem.mp h i (i + 1) h1 h2 (by omega)
theorem cutD_from {α : Type} (xs : List α) {n : Int} (h : 0 ≤ n) : cutD xs (some n) none = xs.drop n.toNat := by
  unfold cutD
  show (xs.drop (if n < 0 then (n + (xs.length : Int)).toNat else min n.toNat xs.length)).take (xs.length - (if n < 0 then (n + (xs.length : Int)).toNat else min n.toNat xs.length)) = _
  rw [if_neg (by omega), List.take_of_length_le (by rw [List.length_drop]; exact Nat.le_refl _)]
  by_cases hn : n.toNat ≤ xs.length
  · rw [Nat.min_eq_left hn]
  · rw [Nat.min_eq_right (by omega), List.drop_of_length_le (Nat.le_refl _), List.drop_of_length_le (by omega)]

/-! ### a change by itself -/
def dkB (d : Dd) : Bool := if d.1 ∉ [("add" : Str), "cut", "set"] then false else if d.1 = ("cut" : Str) then d.2.1.isSome else (lnB (d.2.2.getD "") && (decide (d.1 = ("add" : Str)) || d.2.1.isSome))
/-- a deed: word, mark, line -/
def shDd (d : Dd) : Prop := (d.1 = ("add" : Str) ∧ ∃ z, d.2.2 = some z ∧ isLn z) ∨ (∃ m, d = (("cut" : Str), some m, none)) ∨ ∃ m z, isLn z ∧ d = (("set" : Str), some m, some z)
structure wfCh (ch : Ch) : Prop where
  nm : isNm ch.1
  lns : ∀ z ∈ ch.2.1, isNm z
  ris : rising ch.2.1
  own : ch.1 ∉ ch.2.1
  dds : ∀ d ∈ ch.2.2, shDd d
  len : ch.2.2.length ≤ 20
  mks : ∀ d ∈ ch.2.2, ∀ m, d.2.1 = some m → m.1 = ch.1 ∨ m.1 ∈ ch.2.1
theorem ne_ac : ("add" : Str) ≠ ("cut" : Str) := by decide +kernel
theorem ne_sc : ("set" : Str) ≠ ("cut" : Str) := by decide +kernel
theorem ne_sa : ("set" : Str) ≠ ("add" : Str) := by decide +kernel
theorem shDd.ok {d : Dd} (h : shDd d) : dkB d = true := by
  unfold dkB
  rcases h with ⟨h1, z, h2, h3⟩ | ⟨m, rfl⟩ | ⟨m, z, hz, rfl⟩
  · rw [h1, h2, if_neg (by simp), if_neg ne_ac]
    simp [(lnB_iff z).mpr h3]
  · rw [if_neg (by simp), if_pos rfl]
    rfl
  · rw [if_neg (by simp), if_neg ne_sc]
    simp [(lnB_iff z).mpr hz]
theorem shDd.line {d : Dd} (h : shDd d) (hc : d.1 ≠ ("cut" : Str)) : ∃ z, d.2.2 = some z ∧ isLn z := by
  rcases h with ⟨h1, z, h2, h3⟩ | ⟨m, rfl⟩ | ⟨m, z, hz, rfl⟩
  · exact ⟨z, h2, h3⟩
  · exact absurd rfl hc
  · exact ⟨z, rfl, hz⟩
theorem shDd.word {d : Dd} (h : shDd d) : d.1 = ("add" : Str) ∨ d.1 = ("cut" : Str) ∨ d.1 = ("set" : Str) := by
  rcases h with ⟨h1, z, h2, h3⟩ | ⟨m, rfl⟩ | ⟨m, z, hz, rfl⟩
  · exact .inl h1
  · exact .inr (.inl rfl)
  · exact .inr (.inr rfl)
theorem okDd.sh {nm : Str} {ms : List Mk} {n : Nat} {d : Dd} (h : okDd nm ms n d) : shDd d := by
  rcases h with ⟨h1, _, h3⟩ | ⟨m, _, rfl | ⟨z, hz, rfl⟩⟩
  · exact .inl ⟨h1, h3⟩
  · exact .inr (.inl ⟨m, rfl⟩)
  · exact .inr (.inr ⟨m, z, hz, rfl⟩)
theorem okDd.mk {nm : Str} {ms : List Mk} {n : Nat} {d : Dd} (h : okDd nm ms n d) {m : Mk} (hm : d.2.1 = some m) : m ∈ ms ∨ (m.1 = nm ∧ 0 ≤ m.2 ∧ m.2 < n) := by
  rcases h with ⟨_, h2, _⟩ | ⟨m', h', rfl | ⟨z, hz, rfl⟩⟩
  · exact h2 m hm
  · cases Option.some.inj hm; exact h'
  · cases Option.some.inj hm; exact h'
theorem isNon_om (m : Option Mk) : isNon (eOM m) = m.isNone := by cases m <;> rfl

/-! ### a change written -/
def asc (z : Str) : Prop := ∀ k ∈ tl z, k < 256
theorem asc.app {x y : Str} (h : asc x) (h' : asc y) : asc (x ++ y) := fun k hk => by
  rw [tl_append] at hk
  rcases List.mem_append.mp hk with hk | hk
  · exact h k hk
  · exact h' k hk
theorem joinL_mem {S : List Nat} : ∀ {ps : List (List Nat)} {k : Nat}, k ∈ joinL S ps → k ∈ S ∨ ∃ p ∈ ps, k ∈ p
  | [], k, h => by simp [joinL] at h
  | [p], k, h => .inr ⟨p, by simp, h⟩
  | p :: q :: r, k, h => by
    have h' : k ∈ p ++ (S ++ joinL S (q :: r)) := h
    rcases List.mem_append.mp h' with h | h
    · exact .inr ⟨p, by simp, h⟩
    · rcases List.mem_append.mp h with h | h
      · exact .inl h
      · rcases joinL_mem h with h | ⟨p', hp, h⟩
        · exact .inl h
        · exact .inr ⟨p', List.mem_cons_of_mem _ hp, h⟩
theorem tl_joinT (y : Str) (ps : List Str) : tl (Txt.join y ps) = joinL (tl y) (ps.map tl) := by rw [join_eq, tl_join]
theorem asc.join {y : Str} {ps : List Str} (h : asc y) (hp : ∀ p ∈ ps, asc p) : asc (Txt.join y ps) := fun k hk => by
  rw [tl_joinT] at hk
  rcases joinL_mem hk with hk | ⟨p, hp', hk⟩
  · exact h k hk
  · obtain ⟨z, hz, rfl⟩ := List.mem_map.mp hp'
    exact hp z hz k hk
theorem joinL_len {S : List Nat} : ∀ {ps : List (List Nat)}, (joinL S ps).length ≤ (ps.map List.length).sum + ps.length * S.length
  | [] => by simp [joinL]
  | [p] => by simp [joinL]
  | p :: q :: r => by
    have := joinL_len (S := S) (ps := q :: r)
    show (p ++ (S ++ joinL S (q :: r))).length ≤ _
    rw [List.length_append, List.length_append]
    simp only [List.map_cons, List.sum_cons, List.length_cons, Nat.add_mul, Nat.one_mul] at *
    omega
theorem sum_le {l : List Nat} {b : Nat} (h : ∀ x ∈ l, x ≤ b) : l.sum ≤ l.length * b := by
  induction l with
  | nil => simp
  | cons a r ih =>
    have h1 := h a (by simp)
    have h2 := ih fun x hx => h x (by simp [hx])
    simp only [List.sum_cons, List.length_cons, Nat.add_mul, Nat.one_mul]
    omega
theorem join_cost {y : Str} {ps : List Str} {b : Nat} (h : ∀ p ∈ ps, p.length ≤ b) : (ps.map (·.length)).sum + ps.length * y.length ≤ ps.length * (b + y.length) := by
  have := sum_le (l := ps.map (·.length)) (b := b) (by intro x hx; obtain ⟨p, hp, rfl⟩ := List.mem_map.mp hx; exact h p hp)
  rw [List.length_map] at this
  rw [Nat.mul_add]
  omega
theorem join_len {y : Str} {ps : List Str} {b : Nat} (h : ∀ p ∈ ps, p.length ≤ b) : (Txt.join y ps).length ≤ ps.length * (b + y.length) := by
  have h1 := join_cost (y := y) h
  rw [len_tl, tl_joinT]
  have h2 := joinL_len (S := tl y) (ps := ps.map tl)
  rw [List.length_map, List.map_map] at h2
  have e : (ps.map (List.length ∘ tl)) = ps.map (·.length) := by
    refine List.map_congr_left fun p _ => ?_
    show (tl p).length = _
    rw [len_tl]
  rw [e, ← len_tl] at h2
  omega
theorem isLn.asc {z : Str} (h : isLn z) : asc z := fun k hk => by have := h.2 k hk; omega
theorem isNm.asc {z : Str} (h : isNm z) : asc z := fun k hk => by have := SIG_hi k (h.2.2 k hk); omega
theorem dec_asc {n : Int} (h : 0 ≤ n) : asc (dec n) := fun k hk => by
  obtain ⟨m, rfl⟩ := Int.eq_ofNat_of_zero_le h
  have := dec_digits m k hk
  omega
theorem dec_len {n : Int} (h : 0 ≤ n) (h2 : n < 1000000000000) : (dec n).length ≤ 12 := by
  obtain ⟨m, rfl⟩ := Int.eq_ofNat_of_zero_le h
  exact (dec_nm (n := m) (by omega)).2.1
def mwr : Option Mk → Str
  | none => "-"
  | some m => m.1 ++ (" " : Str) ++ dec m.2
/-- a mark that may be written -/
def okMk (m : Mk) : Prop := isNm m.1 ∧ 0 ≤ m.2 ∧ m.2 < 1000000000
def okOM (o : Option Mk) : Prop := ∀ m, o = some m → okMk m
theorem l1 : (" " : Str).length = 1 := by decide +kernel
theorem mwr_ok {o : Option Mk} (h : okOM o) : (mwr o).length ≤ 30 ∧ asc (mwr o) := by
  cases o with
  | none => exact ⟨by decide +kernel, by unfold asc; decide +kernel⟩
  | some m =>
    obtain ⟨h1, h2, h3⟩ := h m rfl
    refine ⟨?_, (h1.asc.app (by unfold asc; decide +kernel)).app (dec_asc h2)⟩
    show (m.1 ++ (" " : Str) ++ dec m.2).length ≤ 30
    have := dec_len h2 (by omega)
    have := h1.2.1
    rw [len_app, len_app, l1]
    omega
def dwr (d : Dd) : Str := if d.1 = ("cut" : Str) then d.1 ++ (" " : Str) ++ mwr d.2.1 else d.1 ++ (" " : Str) ++ mwr d.2.1 ++ (": " : Str) ++ d.2.2.getD ""
theorem word_ok {d : Dd} (h : shDd d) : d.1.length ≤ 3 ∧ asc d.1 := by
  rcases h.word with e | e | e <;> rw [e] <;> exact ⟨by decide +kernel, by unfold asc; decide +kernel⟩
theorem l2' : (": " : Str).length = 2 := by decide +kernel
theorem dwr_ok {d : Dd} (h : shDd d) (hm : okOM d.2.1) : (dwr d).length ≤ 300 ∧ asc (dwr d) := by
  obtain ⟨w1, w2⟩ := word_ok h
  obtain ⟨m1, m2⟩ := mwr_ok hm
  have s1 : asc (" " : Str) := by unfold asc; decide +kernel
  have s2 : asc (": " : Str) := by unfold asc; decide +kernel
  unfold dwr
  split
  · refine ⟨?_, (w2.app s1).app m2⟩
    rw [len_app, len_app, l1]
    omega
  · rename_i hc
    obtain ⟨z, hz, hl⟩ := h.line hc
    rw [hz]
    refine ⟨?_, (((w2.app s1).app m2).app s2).app hl.asc⟩
    show (_ ++ z).length ≤ 300
    rw [len_app, len_app, len_app, len_app, l1, l2']
    have := hl.1
    omega
def hwr (ch : Ch) : Str := if ch.2.1 = [] then ("change " : Str) ++ ch.1 else ("change " : Str) ++ ch.1 ++ (" on " : Str) ++ Txt.join " " ch.2.1
def cwr (ch : Ch) : Str := Txt.join "\n" (hwr ch :: ch.2.2.map dwr)
/-- a change that may be written -/
structure wrCh (ch : Ch) : Prop where
  wf : wfCh ch
  few : ch.2.1.length ≤ 100
  num : ∀ d ∈ ch.2.2, okOM d.2.1
theorem lns_ok {ch : Ch} (h : wrCh ch) : (Txt.join " " ch.2.1).length ≤ 1300 ∧ asc (Txt.join " " ch.2.1) := by
  have := join_len (y := (" " : Str)) (ps := ch.2.1) (b := 12) fun p hp => (h.wf.lns p hp).2.1
  rw [l1] at this
  have := h.few
  exact ⟨by omega, asc.join (by unfold asc; decide +kernel) fun p hp => (h.wf.lns p hp).asc⟩
theorem l7 : ("change " : Str).length = 7 := by decide +kernel
theorem l4 : (" on " : Str).length = 4 := by decide +kernel
theorem hwr_ok {ch : Ch} (h : wrCh ch) : (hwr ch).length ≤ 1400 ∧ asc (hwr ch) := by
  obtain ⟨j1, j2⟩ := lns_ok h
  have n1 := h.wf.nm.2.1
  have n2 := h.wf.nm.asc
  have s1 : asc ("change " : Str) := by unfold asc; decide +kernel
  have s2 : asc (" on " : Str) := by unfold asc; decide +kernel
  unfold hwr
  split
  · exact ⟨by rw [len_app, l7]; omega, s1.app n2⟩
  · exact ⟨by rw [len_app, len_app, len_app, l7, l4]; omega, ((s1.app n2).app s2).app j2⟩
theorem rows_ok {ch : Ch} (h : wrCh ch) : ∀ p ∈ hwr ch :: ch.2.2.map dwr, p.length ≤ 1400 ∧ asc p := fun p hp => by
  rcases List.mem_cons.mp hp with rfl | hp
  · exact hwr_ok h
  · obtain ⟨d, hd, rfl⟩ := List.mem_map.mp hp
    have := dwr_ok (h.wf.dds d hd) (h.num d hd)
    exact ⟨by omega, this.2⟩
theorem ln : ("\n" : Str).length = 1 := by decide +kernel
theorem cwr_ok {ch : Ch} (h : wrCh ch) : (cwr ch).length ≤ 40000 ∧ asc (cwr ch) := by
  have := join_len (y := ("\n" : Str)) (ps := hwr ch :: ch.2.2.map dwr) (b := 1400) fun p hp => (rows_ok h p hp).1
  have hl := h.wf.len
  simp only [List.length_cons, List.length_map, ln] at this
  exact ⟨by unfold cwr; omega, asc.join (by unfold asc; decide +kernel) fun p hp => (rows_ok h p hp).2⟩
theorem cwr_sok {ch : Ch} (h : wrCh ch) : SOk (cwr ch) := sok_of (cwr_ok h).2 (by have := (cwr_ok h).1; omega)
end MM

/-! A change written, read again. -/
namespace MM
open PySem L2 DD TL
def prn (z : Str) : Prop := ∀ k ∈ tl z, 32 ≤ k ∧ k ≤ 126
theorem prn.app {x y : Str} (h : prn x) (h' : prn y) : prn (x ++ y) := fun k hk => by
  rw [tl_append] at hk
  rcases List.mem_append.mp hk with hk | hk
  · exact h k hk
  · exact h' k hk
theorem prn.join {y : Str} {ps : List Str} (h : prn y) (hp : ∀ p ∈ ps, prn p) : prn (Txt.join y ps) := fun k hk => by
  rw [tl_joinT] at hk
  rcases joinL_mem hk with hk | ⟨p, hp', hk⟩
  · exact h k hk
  · obtain ⟨z, hz, rfl⟩ := List.mem_map.mp hp'
    exact hp z hz k hk
theorem isNm.prn {z : Str} (h : isNm z) : prn z := fun k hk => by have := SIG_hi k (h.2.2 k hk); omega
theorem dec_prn {n : Int} (h : 0 ≤ n) : prn (dec n) := fun k hk => by
  obtain ⟨m, rfl⟩ := Int.eq_ofNat_of_zero_le h
  have := dec_digits m k hk
  omega
theorem s1p : prn (" " : Str) := by unfold prn; decide +kernel
theorem mwr_prn {o : Option Mk} (h : okOM o) : prn (mwr o) := by
  cases o with
  | none => unfold prn; decide +kernel
  | some m =>
    obtain ⟨h1, h2, h3⟩ := h m rfl
    exact (h1.prn.app s1p).app (dec_prn h2)
theorem word_prn {d : Dd} (h : shDd d) : prn d.1 := by
  rcases h.word with e | e | e <;> rw [e] <;> unfold prn <;> decide +kernel
theorem dwr_prn {d : Dd} (h : shDd d) (hm : okOM d.2.1) : prn (dwr d) := by
  have w2 := word_prn h
  have m2 := mwr_prn hm
  have s2 : prn (": " : Str) := by unfold prn; decide +kernel
  unfold dwr
  split
  · exact (w2.app s1p).app m2
  · rename_i hc
    obtain ⟨z, hz, hl⟩ := h.line hc
    rw [hz]
    exact (((w2.app s1p).app m2).app s2).app hl.2
theorem hwr_prn {ch : Ch} (h : wrCh ch) : prn (hwr ch) := by
  have n2 := h.wf.nm.prn
  have s1 : prn ("change " : Str) := by unfold prn; decide +kernel
  have s2 : prn (" on " : Str) := by unfold prn; decide +kernel
  unfold hwr
  split
  · exact s1.app n2
  · exact ((s1.app n2).app s2).app (s1p.join fun p hp => (h.wf.lns p hp).prn)
theorem prn.no {z : Str} (h : prn z) : 10 ∉ tl z := fun hk => by have := h 10 hk; omega
theorem tl_nl : tl ("\n" : Str) = [10] := by decide +kernel
theorem tl_sp : tl (" " : Str) = [32] := by decide +kernel
theorem tl_co : tl (": " : Str) = [58, 32] := by decide +kernel
theorem cwr_split {ch : Ch} (h : wrCh ch) : Txt.split (cwr ch) "\n" = hwr ch :: ch.2.2.map dwr := by
  refine split_join (s := 10) (S := []) tl_nl (by decide +kernel) (by simp) fun p hp => ?_
  rcases List.mem_cons.mp hp with rfl | hp
  · exact (hwr_prn h).no
  · obtain ⟨d, hd, rfl⟩ := List.mem_map.mp hp
    exact (dwr_prn (h.wf.dds d hd) (h.num d hd)).no
theorem isNm.nosp {z : Str} (h : isNm z) : 32 ∉ tl z := fun hk => by have := SIG_hi 32 (h.2.2 32 hk); omega
theorem isNm.noco {z : Str} (h : isNm z) : 58 ∉ tl z := fun hk => by
  have h1 := h.2.2 58 hk
  revert h1
  decide +kernel
def hparts (ch : Ch) : List Str := if ch.2.1 = [] then [("change" : Str), ch.1] else ("change" : Str) :: ch.1 :: ("on" : Str) :: ch.2.1
theorem hwr_join (ch : Ch) : hwr ch = Txt.join " " (hparts ch) := by
  refine ext_tl ?_
  rw [tl_joinT, tl_sp]
  have e1 : tl ("change " : Str) = tl ("change" : Str) ++ [32] := by decide +kernel
  have e2 : tl (" on " : Str) = 32 :: (tl ("on" : Str) ++ [32]) := by decide +kernel
  unfold hwr hparts
  split
  · rw [tl_append, e1]
    simp [joinL]
  · rename_i hne
    rw [tl_append, tl_append, tl_append, tl_joinT, e1, e2, tl_sp]
    cases hl : ch.2.1 with
    | nil => exact absurd hl hne
    | cons a r => simp [joinL]
theorem hwr_split {ch : Ch} (h : wrCh ch) : Txt.split (hwr ch) " " = hparts ch := by
  rw [hwr_join]
  refine split_join (s := 32) (S := []) tl_sp (by decide +kernel) (by unfold hparts; split <;> simp) fun p hp => ?_
  unfold hparts at hp
  have n1 : 32 ∉ tl ("change" : Str) := by decide +kernel
  have n2 : 32 ∉ tl ("on" : Str) := by decide +kernel
  split at hp
  · simp only [List.mem_cons, List.not_mem_nil, or_false] at hp
    rcases hp with rfl | rfl
    · exact n1
    · exact h.wf.nm.nosp
  · simp only [List.mem_cons] at hp
    rcases hp with rfl | rfl | rfl | hp
    · exact n1
    · exact h.wf.nm.nosp
    · exact n2
    · exact (h.wf.lns p hp).nosp
theorem hparts_sok {ch : Ch} (h : wrCh ch) : ∀ z ∈ hparts ch, SOk z := by
  intro z hz
  unfold hparts at hz
  have n1 : SOk ("change" : Str) := by decide +kernel
  have n2 : SOk ("on" : Str) := by decide +kernel
  split at hz
  · simp only [List.mem_cons, List.not_mem_nil, or_false] at hz
    rcases hz with rfl | rfl
    · exact n1
    · exact h.wf.nm.sok
  · simp only [List.mem_cons] at hz
    rcases hz with rfl | rfl | rfl | hz
    · exact n1
    · exact h.wf.nm.sok
    · exact n2
    · exact (h.wf.lns z hz).sok
theorem mwr_ne (m : Mk) : mwr (some m) ≠ ("-" : Str) := fun e => by
  have h := congrArg tl e
  have e1 : tl ("-" : Str) = [45] := by decide +kernel
  have e2 : tl (mwr (some m)) = tl m.1 ++ [32] ++ tl (dec m.2) := by
    show tl (m.1 ++ (" " : Str) ++ dec m.2) = _
    rw [tl_append, tl_append, tl_sp]
  rw [e1, e2] at h
  have : 32 ∈ [45] := by rw [← h]; simp
  simp at this
theorem mwr_part {m : Mk} (h : okMk m) : Txt.partition (mwr (some m)) " " = (m.1, (" " : Str), dec m.2) := partition_app tl_sp h.1.nosp
theorem mwr_noco {o : Option Mk} (h : okOM o) : 58 ∉ tl (mwr o) := by
  cases o with
  | none => decide +kernel
  | some m =>
    obtain ⟨h1, h2, h3⟩ := h m rfl
    have e2 : tl (mwr (some m)) = tl m.1 ++ [32] ++ tl (dec m.2) := by
      show tl (m.1 ++ (" " : Str) ++ dec m.2) = _
      rw [tl_append, tl_append, tl_sp]
    rw [e2]
    intro hk
    rcases List.mem_append.mp hk with hk | hk
    · rcases List.mem_append.mp hk with hk | hk
      · exact h1.noco hk
      · simp at hk
    · obtain ⟨n, hn⟩ := Int.eq_ofNat_of_zero_le h2
      rw [hn] at hk
      have := dec_digits n 58 hk
      omega
def drest (d : Dd) : Str := if d.1 = ("cut" : Str) then mwr d.2.1 else mwr d.2.1 ++ (": " : Str) ++ d.2.2.getD ""
theorem app_assoc (x y z : Str) : x ++ y ++ z = x ++ (y ++ z) := ext_tl (by simp only [tl_append, List.append_assoc])
theorem dwr_eq (d : Dd) : dwr d = d.1 ++ (" " : Str) ++ drest d := by
  unfold dwr drest
  split
  · rfl
  · simp only [app_assoc]
theorem word_nosp {d : Dd} (h : shDd d) : 32 ∉ tl d.1 := by
  rcases h.word with e | e | e <;> rw [e] <;> decide +kernel
theorem dwr_part {d : Dd} (h : shDd d) : Txt.partition (dwr d) " " = (d.1, (" " : Str), drest d) := by
  rw [dwr_eq]
  exact partition_app tl_sp (word_nosp h)
theorem drest_part {d : Dd} (hm : okOM d.2.1) (hc : d.1 ≠ ("cut" : Str)) : Txt.partition (drest d) ": " = (mwr d.2.1, (": " : Str), d.2.2.getD "") := by
  unfold drest
  rw [if_neg hc]
  exact partition_app tl_co (mwr_noco hm)
theorem drest_ok {d : Dd} (h : shDd d) (hm : okOM d.2.1) : (drest d).length ≤ 300 ∧ SOk (drest d) := by
  obtain ⟨h1, h2⟩ := dwr_ok h hm
  rw [dwr_eq] at h1 h2
  rw [len_app] at h1
  refine ⟨by omega, sok_of (fun k hk => h2 k ?_) (by omega)⟩
  rw [tl_append]
  exact List.mem_append_right _ hk
theorem numL_head : ∀ n : Nat, 0 < n → (numL n).head? ≠ some 48 := by
  intro n
  induction n using Nat.strongRecOn with
  | _ n ih =>
    intro h0
    by_cases h : n < 10
    · rw [numL_lt h]
      simp
      omega
    · rw [numL_step (by omega)]
      have := ih (n / 10) (by omega) (by omega)
      have hne := numL_ne (n / 10)
      cases hq : numL (n / 10) with
      | nil => exact absurd hq hne
      | cons a r => rw [hq] at this; simpa using this
end MM

/-! Dicts by data: keys texts, or marks. -/
namespace DD
open PySem PySem.Spec L2
section
variable {κ β : Type} [DecidableEq κ]
def aget (m : List (κ × β)) (k : κ) : Option β := (m.find? fun p => decide (p.1 = k)).map (·.2)
def aput (m : List (κ × β)) (k : κ) (b : β) : List (κ × β) := if (m.any fun p => decide (p.1 = k)) = true then m.map (fun p => if p.1 = k then (p.1, b) else p) else m ++ [(k, b)]
theorem aget_nil (k : κ) : aget ([] : List (κ × β)) k = none := rfl
theorem aget_cons (p : κ × β) (m : List (κ × β)) (k : κ) : aget (p :: m) k = if p.1 = k then some p.2 else aget m k := by
  unfold aget
  rw [List.find?_cons]
  by_cases h : p.1 = k <;> simp [h]
end
theorem valV_map {κ κ' β : Type} [DecidableEq κ] [DecidableEq κ'] {K : PySem.W.Frag} {G : Hp} (enc : κ → κ') (inj : ∀ a b, enc a = enc b → a = b) (g : β → D) (k : κ) :
    ∀ (m : List (κ × β)) (kvs : List (κ' × V)), kvs.map (fun p => p.1) = m.map (fun p => enc p.1) → DaAll K G (kvs.map (fun p => p.2)) (m.map fun p => g p.2) →
      (∀ b, aget m k = some b → ∃ v, valV kvs (enc k) = some v ∧ Da K G v (g b)) ∧ (aget m k = none → valV kvs (enc k) = none)
  | [], kvs, h1, h2 => by
    have : kvs = [] := List.map_eq_nil_iff.mp h1
    subst this
    exact ⟨fun b h => (by cases h), fun _ => rfl⟩
  | p :: m, [], h1, h2 => by simp at h1
  | p :: m, q :: kvs, h1, h2 => by
    simp only [List.map_cons, List.cons.injEq] at h1
    cases h2 with
    | cons a1 a2 =>
      obtain ⟨r1, r2⟩ := valV_map enc inj g k m kvs h1.2 a2
      by_cases e : p.1 = k
      · refine ⟨fun b h => ⟨q.2, valV_pos (by rw [h1.1, e]), ?_⟩, fun h => ?_⟩
        · rw [aget_cons, if_pos e] at h
          cases h
          exact a1
        · rw [aget_cons, if_pos e] at h
          cases h
      · have ne : ¬ q.1 = enc k := fun z => e (inj _ _ (h1.1.symm.trans z))
        rw [valV_neg ne]
        refine ⟨fun b h => r1 b ?_, fun h => r2 ?_⟩ <;> (rw [aget_cons, if_neg e] at h; exact h)
theorem putK_map {κ κ' β : Type} [DecidableEq κ] [DecidableEq κ'] {K : PySem.W.Frag} {G : Hp} (enc : κ → κ') (inj : ∀ a b, enc a = enc b → a = b) (g : β → D) (k : κ) (b : β) {v : V} (hv : Da K G v (g b)) (m : List (κ × β)) (kvs : List (κ' × V)) (h1 : kvs.map (fun p => p.1) = m.map (fun p => enc p.1)) (h2 : DaAll K G (kvs.map (fun p => p.2)) (m.map fun p => g p.2)) :
    (putK kvs (enc k) v).map (fun p => p.1) = (aput m k b).map (fun p => enc p.1) ∧ DaAll K G ((putK kvs (enc k) v).map (fun p => p.2)) ((aput m k b).map fun p => g p.2) := by
  have hany : ∀ (m : List (κ × β)) (kvs : List (κ' × V)), kvs.map (fun p => p.1) = m.map (fun p => enc p.1) → (kvs.any fun q => decide (q.1 = enc k)) = (m.any fun p => decide (p.1 = k)) := by
    intro m
    induction m with
    | nil =>
      intro kvs h
      have : kvs = [] := List.map_eq_nil_iff.mp h
      subst this
      rfl
    | cons p m ih =>
      intro kvs h
      cases kvs with
      | nil => simp at h
      | cons q kvs =>
        simp only [List.map_cons, List.cons.injEq] at h
        rw [List.any_cons, List.any_cons, ih kvs h.2]
        congr 1
        by_cases e : p.1 = k
        · rw [decide_eq_true e, decide_eq_true (by rw [h.1, e])]
        · rw [decide_eq_false e, decide_eq_false fun z => e (inj _ _ (h.1.symm.trans z))]
  have hrep : ∀ (m : List (κ × β)) (kvs : List (κ' × V)), kvs.map (fun p => p.1) = m.map (fun p => enc p.1) → DaAll K G (kvs.map (fun p => p.2)) (m.map fun p => g p.2) →
      (kvs.map (fun kv => if kv.1 = enc k then (kv.1, v) else kv)).map (fun p => p.1) = (m.map (fun p => if p.1 = k then (p.1, b) else p)).map (fun p => enc p.1) ∧
      DaAll K G ((kvs.map (fun kv => if kv.1 = enc k then (kv.1, v) else kv)).map (fun p => p.2)) ((m.map (fun p => if p.1 = k then (p.1, b) else p)).map fun p => g p.2) := by
    intro m
    induction m with
    | nil =>
      intro kvs h h'
      have : kvs = [] := List.map_eq_nil_iff.mp h
      subst this
      exact ⟨rfl, .nil⟩
    | cons p m ih =>
      intro kvs h h'
      cases kvs with
      | nil => simp at h
      | cons q kvs =>
        simp only [List.map_cons, List.cons.injEq] at h
        cases h' with
        | cons a1 a2 =>
          obtain ⟨r1, r2⟩ := ih kvs h.2 a2
          by_cases e : p.1 = k
          · have e' : q.1 = enc k := by rw [h.1, e]
            simp only [List.map_cons, if_pos e, if_pos e']
            exact ⟨by rw [r1, h.1], .cons hv r2⟩
          · have e' : ¬ q.1 = enc k := fun z => e (inj _ _ (h.1.symm.trans z))
            simp only [List.map_cons, if_neg e, if_neg e']
            exact ⟨by rw [r1, h.1], .cons a1 r2⟩
  unfold putK aput
  rw [hany m kvs h1]
  cases q : m.any fun p => decide (p.1 = k) with
  | true =>
    rw [if_pos rfl, if_pos rfl]
    exact hrep m kvs h1 h2
  | false =>
    rw [if_neg (by decide), if_neg (by decide)]
    refine ⟨by rw [List.map_append, List.map_append, h1]; rfl, ?_⟩
    rw [List.map_append, List.map_append]
    exact h2.append (.one hv)
theorem aput_len {κ β : Type} [DecidableEq κ] (m : List (κ × β)) (k : κ) (b : β) : (aput m k b).length ≤ m.length + 1 := by
  unfold aput
  split
  · simp
  · simp
def kS (z : Str) : Key := .inr z
def kM (m : Mk) : List Key := [.inr m.1, .inl m.2]
theorem kS_inj (a b : Str) (h : kS a = kS b) : a = b := Sum.inr.inj h
theorem kM_inj (a b : Mk) (h : kM a = kM b) : a = b := by
  obtain ⟨a1, a2⟩ := a
  obtain ⟨b1, b2⟩ := b
  simp only [kM, List.cons.injEq, and_true] at h
  rw [Sum.inr.inj h.1, Sum.inl.inj h.2]
/-- a dict from texts, from marks -/
def sdic {β : Type} (g : β → D) (m : List (Str × β)) : D := .dic (m.map fun p => kS p.1) (m.map fun p => g p.2)
def mdic {β : Type} (g : β → D) (m : List (Mk × β)) : D := .dit (m.map fun p => kM p.1) (m.map fun p => g p.2)
section
variable {T : Tb} {X : Cx} {Γ : Ev} {m0 : Bool} {e a b c : Expr} {d : D} {pos px pos' : Pos} {i : Nat} {x : Str} {rest : List Stmt} {P : Pst} {β : Type} {g : β → D} {p : Addr} {xp : Pos}

theorem DaAll.key {K : PySem.W.Frag} {G : Hp} {v : V} {k : Str} (s : Da K G v (D.str k)) : v = kV (kS k) := by
  cases s with
  | str _ _ => rfl
/-- d[k], d a dict that this name alone tells -/
theorem e_dgetO (i : Nat) {m : List (Str × β)} {k : Str} {w : β} (hu : X.A.units + 64 < cLine) (hi : Γ[i]? = some (some (.ow p (sdic g m)))) (hg : aget m k = some w) (hk : ED T X true Γ b (D.str k)) (hs : NoSl b := by exact fun _ _ => rfl)
    (hN : X.N[i]? = some x := by rfl) (hv : Vis X.env.scope x := by first | exact Or.inl rfl | exact Or.inr (Or.inl rfl) | exact Or.inr (Or.inr rfl)) (hd : (x == ("__debug__" : Str)) = false := by decide) (hcd : (x == ("__classdict__" : Str)) = false := by decide) :
    ED T X m0 Γ (.Subscript (.Name x xp) b pos) (g w) :=
  PE.imp' (pe_dget (by omega) (pe_var hN hv hd hcd) hk hs) fun σ H Q ⟨Z, gz, q⟩ => by
    obtain ⟨v, e1, rfl, kvs, h1, h2, h3⟩ := gz.slots i _ hi
    refine ⟨_, e1, Z, gz, fun y H1 g1 x1 dy => ?_⟩
    obtain ⟨v', e1', _, kvs1, h1', h2', h3'⟩ := g1.slots i _ hi
    obtain ⟨u, hu1, hu2⟩ := (valV_map kS kS_inj g k m kvs1 h2' h3').1 w hg
    refine ⟨p, u, rfl, ?_, q u H1 g1 x1 (hu2.to rg_stab)⟩
    rw [DaAll.key dy, ← hu1]
    exact DGet.k h1'
/-- d[k], d a dict -/
theorem e_dgetR {m : List (Str × β)} {k : Str} {w : β} (hu : X.A.units + 64 < cLine) (he : ED T X m0 Γ a (sdic g m)) (hg : aget m k = some w) (hk : ED T X true Γ b (D.str k)) (hs : NoSl b := by exact fun _ _ => rfl) :
    ED T X m0 Γ (.Subscript a b pos) (g w) :=
  PE.imp' (pe_dget (by omega) he hk hs) fun σ H Q ⟨Z, gz, q⟩ => ⟨Z, gz, fun v H0 g0 x0 d0 => ⟨Z, g0, fun y H1 g1 x1 dy => by
    cases d0 with
    | dic h1 h2 h3 =>
      have h1' := g1.sub _ _ (rg_ext x1 _ _ h1)
      obtain ⟨u, hu1, hu2⟩ := (valV_map kS kS_inj g k m _ h2 h3).1 w hg
      refine ⟨_, u, rfl, ?_, q u H1 g1 (x0.trans x1) (hu2.to (rg_ext x1))⟩
      rw [DaAll.key dy, ← hu1]
      exact DGet.k h1'⟩⟩
theorem c_inDic {m : List (Str × β)} {k : Str} (hu : X.A.units + 64 < cLine) (hk : ED T X true Γ a (D.str k)) (he : ED T X false Γ b (sdic g m)) : CD T X Γ .In a b (aget m k).isSome :=
  PC.imp' (pc_din (by omega) hk he) fun σ H Q ⟨Z, gz, q⟩ => ⟨Z, gz, fun y H0 g0 x0 dy0 => ⟨Z, g0, fun v H1 g1 x1 d0 => by
    have dy := dy0.to (rg_ext x1)
    cases d0 with
    | dic h1 h2 h3 =>
      have h1' := g1.sub _ _ h1
      have hval := valV_map kS kS_inj g k m _ h2 h3
      rename_i kvs1
      have eo : (valV kvs1 (kS k)).isSome = (aget m k).isSome := by
        cases hm : aget m k with
        | none => rw [hval.2 hm]; rfl
        | some w =>
          obtain ⟨u, hu1, _⟩ := hval.1 w hm
          rw [hu1]; rfl
      refine ⟨_, valV kvs1 (kS k), rfl, ?_, ?_⟩
      · rw [DaAll.key dy]
        exact DGet.k h1'
      · rw [eo]
        exact q _ H1 g1 (x0.trans x1) (.bl _)⟩⟩
theorem c_notInDic {m : List (Str × β)} {k : Str} (hu : X.A.units + 64 < cLine) (hk : ED T X true Γ a (D.str k)) (he : ED T X false Γ b (sdic g m)) : CD T X Γ .NotIn a b (!(aget m k).isSome) :=
  PC.imp' (pc_dnotin (by omega) hk he) fun σ H Q ⟨Z, gz, q⟩ => ⟨Z, gz, fun y H0 g0 x0 dy0 => ⟨Z, g0, fun v H1 g1 x1 d0 => by
    have dy := dy0.to (rg_ext x1)
    cases d0 with
    | dic h1 h2 h3 =>
      have h1' := g1.sub _ _ h1
      have hval := valV_map kS kS_inj g k m _ h2 h3
      rename_i kvs1
      have eo : (valV kvs1 (kS k)).isSome = (aget m k).isSome := by
        cases hm : aget m k with
        | none => rw [hval.2 hm]; rfl
        | some w =>
          obtain ⟨u, hu1, _⟩ := hval.1 w hm
          rw [hu1]; rfl
      refine ⟨_, valV kvs1 (kS k), rfl, ?_, ?_⟩
      · rw [DaAll.key dy]
        exact DGet.k h1'
      · rw [eo]
        exact q _ H1 g1 (x0.trans x1) (.bl _)⟩⟩
/-- d[k] = e -/
theorem s_dput (i : Nat) {m : List (Str × β)} {k : Str} {w : β} (hu : X.A.units + 64 < cLine) (hi : Γ[i]? = some (some (.ow p (sdic g m)))) (hn : m.length < 16777216) (he : ED T X true Γ e (g w)) (hk : ED T X true Γ b (D.str k)) (hr : SD T X (Γ.set i (some (.ow p (sdic g (aput m k w))))) rest P)
    (hN : X.N[i]? = some x := by rfl) (hv : Vis X.env.scope x := by first | exact Or.inl rfl | exact Or.inr (Or.inl rfl) | exact Or.inr (Or.inr rfl)) (hd : (x == ("__debug__" : Str)) = false := by decide) (hcd : (x == ("__classdict__" : Str)) = false := by decide)
    (hs : swapsWith e (some (.Subscript (.Name x xp) b pos')) pos.line X.env = pure false := by rfl) : SD T X Γ (.Assign [.Subscript (.Name x xp) b pos'] e pos :: rest) P :=
  s_seq (ps_dput (by omega) (pe_var hN hv hd hcd) hk he hs) hr fun E σ H ⟨Z, gz, f⟩ => ⟨Z, gz, fun v H1 g1 x1 d1 => by
    obtain ⟨u, e1, rfl, kvs, h1, h2, h3⟩ := g1.slots i _ hi
    refine ⟨_, e1, Z, g1, fun y H2 g2 x2 dy => ?_⟩
    obtain ⟨u', e1', _, kvs2, h1', h2', h3'⟩ := g2.slots i _ hi
    have hv2 := d1.to (rg_ext x2)
    obtain ⟨r1, r2⟩ := putK_map kS kS_inj g k w hv2 m kvs2 h2' h3'
    have hlen : kvs2.length < sizeLine := by
      have := congrArg List.length h2'
      rw [List.length_map, List.length_map] at this
      rw [this, sizeLine_eq]
      exact hn
    refine ⟨p, _, rfl, (by rw [DaAll.key dy]; exact DPut.k h1' hlen), Z, g2.updOw hi ⟨_, upd_same, r1, r2⟩, f⟩⟩

theorem DaAll.keyM {K : PySem.W.Frag} {G : Hp} {v : V} {k : Mk} (s : Da K G v (eMk k)) : ∃ a, v = .ref a ∧ G a = some (.tup ((kM k).map kV)) := by
  cases s with
  | tup h1 h2 =>
    cases h2 with
    | cons a1 a2 =>
      cases a2 with
      | cons a2 a3 =>
        cases a3
        cases a1 with
        | str _ _ =>
          cases a2
          exact ⟨_, rfl, h1⟩
/-- d[k], d a dict that this name alone tells -/
theorem e_dgetOM (i : Nat) {m : List (Mk × β)} {k : Mk} {w : β} (hu : X.A.units + 64 < cLine) (hi : Γ[i]? = some (some (.ow p (mdic g m)))) (hg : aget m k = some w) (hk : ED T X true Γ b (eMk k)) (hs : NoSl b := by exact fun _ _ => rfl)
    (hN : X.N[i]? = some x := by rfl) (hv : Vis X.env.scope x := by first | exact Or.inl rfl | exact Or.inr (Or.inl rfl) | exact Or.inr (Or.inr rfl)) (hd : (x == ("__debug__" : Str)) = false := by decide) (hcd : (x == ("__classdict__" : Str)) = false := by decide) :
    ED T X m0 Γ (.Subscript (.Name x xp) b pos) (g w) :=
  PE.imp' (pe_dget (by omega) (pe_var hN hv hd hcd) hk hs) fun σ H Q ⟨Z, gz, q⟩ => by
    obtain ⟨v, e1, rfl, kvs, h1, h2, h3⟩ := gz.slots i _ hi
    refine ⟨_, e1, Z, gz, fun y H1 g1 x1 dy => ?_⟩
    obtain ⟨v', e1', _, kvs1, h1', h2', h3'⟩ := g1.slots i _ hi
    obtain ⟨u, hu1, hu2⟩ := (valV_map kM kM_inj g k m kvs1 h2' h3').1 w hg
    refine ⟨p, u, rfl, ?_, q u H1 g1 x1 (hu2.to rg_stab)⟩
    obtain ⟨t, rfl, ht⟩ := DaAll.keyM dy
    rw [← hu1]
    exact DGet.t h1' (g1.sub _ _ ht)
/-- d[k], d a dict -/
theorem e_dgetRM {m : List (Mk × β)} {k : Mk} {w : β} (hu : X.A.units + 64 < cLine) (he : ED T X m0 Γ a (mdic g m)) (hg : aget m k = some w) (hk : ED T X true Γ b (eMk k)) (hs : NoSl b := by exact fun _ _ => rfl) :
    ED T X m0 Γ (.Subscript a b pos) (g w) :=
  PE.imp' (pe_dget (by omega) he hk hs) fun σ H Q ⟨Z, gz, q⟩ => ⟨Z, gz, fun v H0 g0 x0 d0 => ⟨Z, g0, fun y H1 g1 x1 dy => by
    cases d0 with
    | dit h1 h2 h3 =>
      have h1' := g1.sub _ _ (rg_ext x1 _ _ h1)
      obtain ⟨u, hu1, hu2⟩ := (valV_map kM kM_inj g k m _ h2 h3).1 w hg
      refine ⟨_, u, rfl, ?_, q u H1 g1 (x0.trans x1) (hu2.to (rg_ext x1))⟩
      obtain ⟨t, rfl, ht⟩ := DaAll.keyM dy
      rw [← hu1]
      exact DGet.t h1' (g1.sub _ _ ht)⟩⟩
theorem c_inDicM {m : List (Mk × β)} {k : Mk} (hu : X.A.units + 64 < cLine) (hk : ED T X true Γ a (eMk k)) (he : ED T X false Γ b (mdic g m)) : CD T X Γ .In a b (aget m k).isSome :=
  PC.imp' (pc_din (by omega) hk he) fun σ H Q ⟨Z, gz, q⟩ => ⟨Z, gz, fun y H0 g0 x0 dy0 => ⟨Z, g0, fun v H1 g1 x1 d0 => by
    have dy := dy0.to (rg_ext x1)
    cases d0 with
    | dit h1 h2 h3 =>
      have h1' := g1.sub _ _ h1
      have hval := valV_map kM kM_inj g k m _ h2 h3
      rename_i kvs1
      have eo : (valV kvs1 (kM k)).isSome = (aget m k).isSome := by
        cases hm : aget m k with
        | none => rw [hval.2 hm]; rfl
        | some w =>
          obtain ⟨u, hu1, _⟩ := hval.1 w hm
          rw [hu1]; rfl
      refine ⟨_, valV kvs1 (kM k), rfl, ?_, ?_⟩
      · obtain ⟨t, rfl, ht⟩ := DaAll.keyM dy
        exact DGet.t h1' (g1.sub _ _ ht)
      · rw [eo]
        exact q _ H1 g1 (x0.trans x1) (.bl _)⟩⟩
theorem c_notInDicM {m : List (Mk × β)} {k : Mk} (hu : X.A.units + 64 < cLine) (hk : ED T X true Γ a (eMk k)) (he : ED T X false Γ b (mdic g m)) : CD T X Γ .NotIn a b (!(aget m k).isSome) :=
  PC.imp' (pc_dnotin (by omega) hk he) fun σ H Q ⟨Z, gz, q⟩ => ⟨Z, gz, fun y H0 g0 x0 dy0 => ⟨Z, g0, fun v H1 g1 x1 d0 => by
    have dy := dy0.to (rg_ext x1)
    cases d0 with
    | dit h1 h2 h3 =>
      have h1' := g1.sub _ _ h1
      have hval := valV_map kM kM_inj g k m _ h2 h3
      rename_i kvs1
      have eo : (valV kvs1 (kM k)).isSome = (aget m k).isSome := by
        cases hm : aget m k with
        | none => rw [hval.2 hm]; rfl
        | some w =>
          obtain ⟨u, hu1, _⟩ := hval.1 w hm
          rw [hu1]; rfl
      refine ⟨_, valV kvs1 (kM k), rfl, ?_, ?_⟩
      · obtain ⟨t, rfl, ht⟩ := DaAll.keyM dy
        exact DGet.t h1' (g1.sub _ _ ht)
      · rw [eo]
        exact q _ H1 g1 (x0.trans x1) (.bl _)⟩⟩
/-- d[k] = e -/
theorem s_dputM (i : Nat) {m : List (Mk × β)} {k : Mk} {w : β} (hu : X.A.units + 64 < cLine) (hi : Γ[i]? = some (some (.ow p (mdic g m)))) (hn : m.length < 16777216) (he : ED T X true Γ e (g w)) (hk : ED T X true Γ b (eMk k)) (hr : SD T X (Γ.set i (some (.ow p (mdic g (aput m k w))))) rest P)
    (hN : X.N[i]? = some x := by rfl) (hv : Vis X.env.scope x := by first | exact Or.inl rfl | exact Or.inr (Or.inl rfl) | exact Or.inr (Or.inr rfl)) (hd : (x == ("__debug__" : Str)) = false := by decide) (hcd : (x == ("__classdict__" : Str)) = false := by decide)
    (hs : swapsWith e (some (.Subscript (.Name x xp) b pos')) pos.line X.env = pure false := by rfl) : SD T X Γ (.Assign [.Subscript (.Name x xp) b pos'] e pos :: rest) P :=
  s_seq (ps_dput (by omega) (pe_var hN hv hd hcd) hk he hs) hr fun E σ H ⟨Z, gz, f⟩ => ⟨Z, gz, fun v H1 g1 x1 d1 => by
    obtain ⟨u, e1, rfl, kvs, h1, h2, h3⟩ := g1.slots i _ hi
    refine ⟨_, e1, Z, g1, fun y H2 g2 x2 dy => ?_⟩
    obtain ⟨u', e1', _, kvs2, h1', h2', h3'⟩ := g2.slots i _ hi
    have hv2 := d1.to (rg_ext x2)
    obtain ⟨r1, r2⟩ := putK_map kM kM_inj g k w hv2 m kvs2 h2' h3'
    have hlen : kvs2.length < sizeLine := by
      have := congrArg List.length h2'
      rw [List.length_map, List.length_map] at this
      rw [this, sizeLine_eq]
      exact hn
    refine ⟨p, _, rfl, (by obtain ⟨t, rfl, ht⟩ := DaAll.keyM dy; exact DPut.t h1' (g2.sub _ _ ht) hlen), Z, g2.updOw hi ⟨_, upd_same, r1, r2⟩, f⟩⟩

end
end DD


/-! max with a default; three new things at once; index, insert, pop. -/
namespace DD
open PySem PySem.Spec L2
theorem toPys_map {α : Type} (f : α → D) : ∀ as : List α, toPys (as.map f) = as.map fun a => toPy (f a)
  | [] => rfl
  | a :: as => by simp [toPys, toPys_map f as]
theorem depthAll_ints : ∀ ns : List Int, PyData.depthAll (ns.map PyData.int) = 0
  | [] => by simp [PyData.depthAll]
  | n :: ns => by simp [PyData.depthAll, PyData.depth, depthAll_ints ns]
def maxI : List Int → Int
  | [] => 0
  | n :: ns => ns.foldl max n
theorem readsAll_ints {h : Heap} : ∀ (ns : List Int) (us : List Value), Vals (ns.map V.int) us → ReadsAll h us (ns.map .int) []
  | [], _, r => by cases r; exact .nil
  | n :: ns, _, r => by
    cases r with
    | cons a b =>
      obtain ⟨t, rfl⟩ := a
      exact .cons (as := []) (bs := []) (.int n t) (readsAll_ints ns _ b)
section
variable {T : Tb} {X : Cx} {Γ : Ev} {m : Bool} {e a b c : Expr} {d : D} {pos px p' pos' kpos : Pos} {i j l : Nat} {x y z : Str} {rest : List Stmt} {P : Pst} {p : Addr} {xp : Pos}
/-- max(xs, default=0), xs a list of ints -/
theorem e_maxDef {ns : List Int} (hm : X.mg "max" = none) (hu : X.A.units + 64 < cLine) (h : ED T X false Γ a (.lst (ns.map D.int))) (hb : ED T X true Γ b (.int 0)) (hc : X.calm = true := by rfl) (hg : Gl X "max" := by rfl)
    (he : backTo pos (starEach [a] X.env) = (false, eval a X.env) :: backTo pos (starEach [] X.env) := by rfl) (hpl : (backTo pos (starEach [a] X.env)).any (·.1) = false := by rfl)
    (hall : (backToKw pos (keywordEach [⟨some "default", b, kpos⟩] X.env)).all (·.1.isSome) = true := by rfl) (hnone : (backToKw pos (keywordEach [⟨some "default", b, kpos⟩] X.env)).any (·.1.isNone) = false := by rfl) (hks : (backToKw pos (keywordEach [⟨some "default", b, kpos⟩] X.env)).filterMap (·.1) = (["default"] : List Str) := by rfl)
    (hs : starEach [a] X.env = (false, eval a X.env) :: starEach [] X.env := by rfl) :
    ED T X m Γ (.Call (.Name "max" p') [a] [⟨some "default", b, kpos⟩] pos) (.int (maxI ns)) := by
  have hcr : CallRK X (.builtin "max") (["default"] : List Str) (fun xs zs H Q => ∃ (l : Addr) (ns : List Int), xs = [.ref l] ∧ zs = [.int 0] ∧ SqL X.K H l (ns.map V.int) ∧ Q (.int (maxI ns)) H) := by
    intro pins s σ H xs zs us ws Q I rx rz hh
    obtain ⟨l, ns, rfl, rfl, hq, q⟩ := hh
    obtain ⟨u, rfl, ru⟩ := rx.one
    obtain ⟨w, rfl, rw'⟩ := rz.one
    cases ru
    obtain ⟨t0, rfl⟩ := rw'
    obtain ⟨its, r, hl, hz⟩ := I.list hq
    have hr := readsAll_ints (h := s.heap) ns _ r
    have hdep := depthAll_ints ns
    refine PySem.W.max_list_default (I.ok.hd hc) hl.isList (vs := its.toArray) (xs := ns.map PyData.int) (by simpa using hr) ⟨fun x hx y hy => ?_, fun x hx => ?_⟩ (by omega) (fun h0 h' tk hk => ?_) fun y ys k v h' tk bs e hv rd hk => ?_
    · obtain ⟨a, _, rfl⟩ := List.mem_map.mp hx
      obtain ⟨b, _, rfl⟩ := List.mem_map.mp hy
      simp [PySem.W.alike]
    · obtain ⟨a, _, rfl⟩ := List.mem_map.mp hx
      simp
    · have : ns = [] := List.map_eq_nil_iff.mp h0
      subst this
      exact ⟨.int 0, H, I.kept hk, ⟨_, rfl⟩, q⟩
    · cases ns with
      | nil => cases e
      | cons n ns =>
        simp only [List.map_cons, List.cons.injEq] at e
        obtain ⟨e1, e2⟩ := e
        subst e1 e2
        rw [PySem.W.maxD_ints] at rd
        cases rd with
        | int k t => exact ⟨.int (maxI (n :: ns)), H, I.kept hk, ⟨_, rfl⟩, q⟩
  exact PE.imp' (pe_callBK hcr hg hm (by decide +kernel) (a_one h hs) (pk_cons hb pk_nil) (by decide) (by decide) he hpl hall hnone hks) fun σ H Q ⟨Z, g, q⟩ => ⟨Z, g, fun vs H1 g1 x1 d1 => by
    cases d1 with
    | cons d1 d2 =>
      cases d2
      refine ⟨Z, g1, fun w H2 g2 x2 d2 => ?_⟩
      cases d2
      cases d1 with
      | lst e1 e2 =>
        have ev := e2.ints
        subst ev
        exact ⟨_, ns, rfl, rfl, SqL.of (g2.sub _ _ (rg_ext x2 _ _ e1)), q _ H2 g2 (x1.trans x2) (.int _)⟩⟩
/-- a, b, c = [], {}, {} (the dicts from marks) -/
theorem s_par3 (i j l : Nat) {pb pc kp pa pt pt2 py pz : Pos} {kt k2 : Nat} (nd : X.N.Nodup) (hr : ∀ p1 p2 p3, SD T X (((Γ.set i (some (.ow p1 (.lst [])))).set j (some (.ow p2 (.dit [] [])))).set l (some (.ow p3 (.dit [] [])))) rest P)
    (l1 : i < Γ.length := by exact Nat.le_of_ble_eq_true rfl) (l2 : j < Γ.length := by exact Nat.le_of_ble_eq_true rfl) (l3 : l < Γ.length := by exact Nat.le_of_ble_eq_true rfl) (hc : X.calm = true := by rfl)
    (hi : X.N[i]? = some x := by rfl) (hj : X.N[j]? = some y := by rfl) (hl : X.N[l]? = some z := by rfl) (hij : i ≠ j := by decide) (hil : i ≠ l := by decide) (hjl : j ≠ l := by decide)
    (hx : X.env.scope.names.lookup x = some .local := by rfl) (hy : X.env.scope.names.lookup y = some .local := by rfl) (hz : X.env.scope.names.lookup z = some .local := by rfl)
    (hw : swappedStores [.Tuple [.Name x px, .Name y py, .Name z pz] kt pt] (.Tuple [.List [] pa, .Dict [] [] pb, .Dict [] [] pc] k2 pt2) X.env = pure (some [x, y, z]) := by rfl)
    (hs : swapsWithSole [.Tuple [.Name x px, .Name y py, .Name z pz] kt pt] (.Tuple [.List [] pa, .Dict [] [] pb, .Dict [] [] pc] k2 pt2) pos.line X.env = pure false := by rfl)
    (hs1 : starEach [.List [] pa, .Dict [] [] pb, .Dict [] [] pc] X.env = (false, eval (.List [] pa) X.env) :: starEach [.Dict [] [] pb, .Dict [] [] pc] X.env := by rfl)
    (hs2 : starEach [.Dict [] [] pb, .Dict [] [] pc] X.env = (false, eval (.Dict [] [] pb) X.env) :: starEach [.Dict [] [] pc] X.env := by rfl) (hs3 : starEach [.Dict [] [] pc] X.env = (false, eval (.Dict [] [] pc) X.env) :: starEach [] X.env := by rfl) :
    SD T X Γ (.Assign [.Tuple [.Name x px, .Name y py, .Name z pz] kt pt] (.Tuple [.List [] pa, .Dict [] [] pb, .Dict [] [] pc] k2 pt2) pos :: rest) P :=
  s_seq (u := fun E σ H => ∃ p1 p2 p3, tSt T X.K (((Γ.set i (some (.ow p1 (.lst [])))).set j (some (.ow p2 (.dit [] [])))).set l (some (.ow p3 (.dit [] [])))) P E σ H)
    (ps_par3 hc nd hi hj hl hij hil hjl hx hy hz (pa_cons (pe_lst pa_nil) (pa_cons pe_dnewT (pa_cons pe_dnewT pa_nil hs3) hs2) hs1) hw hs) ⟨fun pins s σ H E I ⟨p1, p2, p3, h⟩ => (hr p1 p2 p3).run pins s σ H E I h⟩
    fun E σ H ⟨Z, g, f⟩ => ⟨Nat.zero_le _, fun p1 h1 p2 h2 p3 h3 => ⟨_, _, _, rfl, p1, p2, p3, Z, by
      have g1 := g.newOw (i := i) (d := .lst []) l1 h1 ⟨[], upd_same, .nil⟩
      have g2 := g1.newOw (i := j) (d := .dit [] []) (by rw [List.length_set]; exact l2) h2 ⟨[], upd_same, rfl, .nil⟩
      exact g2.newOw (i := l) (d := .dit [] []) (by rw [List.length_set, List.length_set]; exact l3) h3 ⟨[], upd_same, rfl, .nil⟩, f⟩⟩
variable {apos cpos : Pos} {α : Type} [DecidableEq α] {f : α → D} {n : Nat} {as : List α} {v : α}
/-- name.index(e), name an owned list -/
theorem e_indexO (i : Nat) (E : Enc f n) (hu : X.A.units + 65 < cLine) (hi : Γ[i]? = some (some (.ow p (.lst (as.map f))))) (hmem : v ∈ as) (he : ED T X true Γ e (f v)) (hn : n ≤ 63 := by decide)
    (hN : X.N[i]? = some x := by rfl) (hv : Vis X.env.scope x := by first | exact Or.inl rfl | exact Or.inr (Or.inl rfl) | exact Or.inr (Or.inr rfl)) (hd : (x == ("__debug__" : Str)) = false := by decide)
    (hcd : (x == ("__classdict__" : Str)) = false := by decide) (hs1 : starEach [e] X.env = (false, eval e X.env) :: starEach [] X.env := by rfl) (hbase : attributeBase (.Name x xp) "index" X.env (eval (.Name x xp) X.env) = eval (.Name x xp) X.env := by rfl)
    (hfew : ((backTo cpos (starEach [e] X.env)).all (fun x => !x.1) && (backToKw cpos (keywordEach [] X.env)).all (fun x => x.1.isSome) && decide ([e].length + ([] : List Keyword).length + (if ([] : List Keyword).isEmpty then 0 else 1) < 30)) = true := by rfl)
    (hline : (apos.endLine == cpos.line) = true := by rfl) :
    ED T X m Γ (.Call (.Attribute (.Name x xp) "index" apos) [e] [] cpos) (.int (as.idxOf v : Nat)) :=
  PE.imp' (pe_bm PySem.F.plainAttrs_list PySem.F.slot_list_index PySem.F.type_list_index (mt_indexD hu) (pe_var hN hv hd hcd) (pa_cons he pa_nil hs1) hbase hfew hline hs1) fun σ H Q ⟨Z, g, q⟩ => by
    obtain ⟨w, e1, rfl, vs, h1, h2⟩ := g.slots i _ hi
    refine ⟨_, e1, .inl ⟨rfl, _, SqL.of h1⟩, Z, g, fun u H1 g1 x1 d1 => ?_⟩
    obtain ⟨w', e1', _, vs1, h1', h2'⟩ := g1.slots i _ hi
    obtain ⟨a1, a2⟩ := Da.dp g1.sub _ _ (E.pl v) d1
    obtain ⟨b1, b2⟩ := DaAll.dp g1.sub _ _ (plainDs_map E.pl as) h2'
    have hdep := depthAll_map E.dp as
    have hlt : as.idxOf v < as.length := List.idxOf_lt_length_of_mem hmem
    refine ⟨p, u, toPy (f v), toPys (as.map f), as.idxOf v, toPy (f v), rfl, rfl, .lst (SqL.of h1') b1, a1, shaped_of b2 (by simp only [PyData.depth]; omega), shaped_of a2 (Nat.le_trans (E.dp v) (by omega)), ?_, by rw [E.eq]; exact decide_eq_true rfl, fun k z' hk hz => ?_, q _ H1 g1 x1 (.int _)⟩
    · rw [toPys_map, List.getElem?_map, List.getElem?_eq_getElem hlt]
      simp
    · rw [toPys_map, List.getElem?_map] at hz
      have hkl : k < as.length := by omega
      rw [List.getElem?_eq_getElem hkl] at hz
      cases Option.some.inj hz
      rw [E.eq]
      refine decide_eq_false fun e => ?_
      have := List.not_of_lt_findIdx hk
      simp [e] at this
/-- name.insert(n, e) -/
theorem s_insert (i : Nat) {ds : List D} {k : Int} (hi : Γ[i]? = some (some (.ow p (.lst ds)))) (h0 : 0 ≤ k) (h1 : k < 2 ^ 62) (hn : ds.length < 16777216) (hk : ED T X true Γ a (.int k)) (he : ED T X true Γ e d) (hr : SD T X (Γ.set i (some (.ow p (.lst (ds.take k.toNat ++ [d] ++ ds.drop k.toNat))))) rest P)
    (hN : X.N[i]? = some x := by rfl) (hv : Vis X.env.scope x := by first | exact Or.inl rfl | exact Or.inr (Or.inl rfl) | exact Or.inr (Or.inr rfl)) (hd : (x == ("__debug__" : Str)) = false := by decide)
    (hcd : (x == ("__classdict__" : Str)) = false := by decide) (hs2 : starEach [e] X.env = (false, eval e X.env) :: starEach [] X.env := by rfl) (hs1 : starEach [a, e] X.env = (false, eval a X.env) :: starEach [e] X.env := by rfl) (hbase : attributeBase (.Name x xp) "insert" X.env (eval (.Name x xp) X.env) = eval (.Name x xp) X.env := by rfl)
    (hfew : ((backTo cpos (starEach [a, e] X.env)).all (fun x => !x.1) && (backToKw cpos (keywordEach [] X.env)).all (fun x => x.1.isSome) && decide ([a, e].length + ([] : List Keyword).length + (if ([] : List Keyword).isEmpty then 0 else 1) < 30)) = true := by rfl)
    (hpl : (backTo cpos (starEach [e] X.env)).any (·.1) = false := by rfl)
    (hline : (apos.endLine == cpos.line) = true := by rfl) (hs : swapsWith (.Call (.Attribute (.Name x xp) "insert" apos) [a, e] [] cpos) none pos.line X.env = pure false := by rfl) :
    SD T X Γ (.Expr (.Call (.Attribute (.Name x xp) "insert" apos) [a, e] [] cpos) pos :: rest) P :=
  s_seq (ps_expr (pe_bm PySem.F.plainAttrs_list PySem.F.slot_list_insert PySem.F.type_list_insert mt_insert (pe_var hN hv hd hcd) (pa_cons hk (pa_cons he pa_nil hs2) hs1) hbase hfew hline hs1 hpl) hs) hr fun E σ H ⟨Z, g, f⟩ => by
    obtain ⟨v, e1, rfl, vs, h1', h2⟩ := g.slots i _ hi
    refine ⟨_, e1, .inl ⟨rfl, _, SqL.of h1'⟩, Z, g, fun u H1 g1 x1 d1 => ⟨Z, g1, fun w H2 g2 x2 d2 => ?_⟩⟩
    cases d1
    obtain ⟨v', e1', rfl', vs1, h1'', h2'⟩ := g2.slots i _ hi
    have hl := h2'.length
    refine ⟨p, vs1, k, w, rfl, rfl, h1'', by rw [hl, sizeLine_eq]; exact hn, h0, by omega, Z, g2.updOw hi ⟨_, upd_same, ?_⟩, f⟩
    exact ((h2'.take _).append (.one d2)).append (h2'.drop _)
/-- name.pop(n), for its effect -/
theorem s_popAt (i : Nat) {ds : List D} {k : Int} {jj : Nat} (hi : Γ[i]? = some (some (.ow p (.lst ds)))) (h0 : -(2 ^ 62) ≤ k) (h1 : k < 2 ^ 62) (hj : seqIndex? k ds.length = some jj) (hlt : jj < ds.length) (hk : ED T X true Γ a (.int k)) (hr : SD T X (Γ.set i (some (.ow p (.lst (ds.eraseIdx jj))))) rest P)
    (hN : X.N[i]? = some x := by rfl) (hv : Vis X.env.scope x := by first | exact Or.inl rfl | exact Or.inr (Or.inl rfl) | exact Or.inr (Or.inr rfl)) (hd : (x == ("__debug__" : Str)) = false := by decide)
    (hcd : (x == ("__classdict__" : Str)) = false := by decide) (hs1 : starEach [a] X.env = (false, eval a X.env) :: starEach [] X.env := by rfl) (hbase : attributeBase (.Name x xp) "pop" X.env (eval (.Name x xp) X.env) = eval (.Name x xp) X.env := by rfl)
    (hfew : ((backTo cpos (starEach [a] X.env)).all (fun x => !x.1) && (backToKw cpos (keywordEach [] X.env)).all (fun x => x.1.isSome) && decide ([a].length + ([] : List Keyword).length + (if ([] : List Keyword).isEmpty then 0 else 1) < 30)) = true := by rfl)
    (hline : (apos.endLine == cpos.line) = true := by rfl) (hs : swapsWith (.Call (.Attribute (.Name x xp) "pop" apos) [a] [] cpos) none pos.line X.env = pure false := by rfl) :
    SD T X Γ (.Expr (.Call (.Attribute (.Name x xp) "pop" apos) [a] [] cpos) pos :: rest) P :=
  s_seq (ps_expr (pe_bm PySem.F.plainAttrs_list PySem.F.slot_list_pop PySem.F.type_list_pop mt_popAt (pe_var hN hv hd hcd) (pa_cons hk pa_nil hs1) hbase hfew hline hs1) hs) hr fun E σ H ⟨Z, g, f⟩ => by
    obtain ⟨v, e1, rfl, vs, h1', h2⟩ := g.slots i _ hi
    refine ⟨_, e1, .inl ⟨rfl, _, SqL.of h1'⟩, Z, g, fun u H1 g1 x1 d1 => ?_⟩
    cases d1
    obtain ⟨v', e1', rfl', vs1, h1'', h2'⟩ := g1.slots i _ hi
    have hl := h2'.length
    have hjv : jj < vs1.length := by omega
    exact ⟨p, vs1, k, jj, vs1[jj], rfl, rfl, h1'', by omega, by omega, by rw [hl]; exact hj, List.getElem?_eq_getElem hjv, Z, g1.updOw hi ⟨_, upd_same, h2'.eraseIdx jj⟩, f⟩
end
end DD

/-! sorted by a key that a lambda tells. -/
namespace DD
open PySem PySem.Spec L2 PySem.W
structure LamP (sc scope : Scope) (y : Str) : Prop where
  kind : scope.kind = .function
  co : scope.isCoroutine = false
  gen : scope.isGenerator = false
  nocell : ∀ q ∈ scope.names, q.2 ≠ .cell
  par : scope.names.lookup y = some .local
  free : ∀ q ∈ scope.names, q.2 = .free → sc.names.lookup q.1 = some .cell ∨ sc.names.lookup q.1 = some .free
def KeyV (r : Value) (k : PyData) : Prop := (∃ i t, r = .int i t ∧ k = .int i) ∨ ∃ z t, r = .str z t ∧ k = .str z
/-- what the body of the lambda y: body gives of each a of as -/
def RawK (T : Tb) (X : Cx) (Γ : Ev) (scope : Scope) (y : Str) (body : Expr) {α : Type} (as : List α) (f : α → D) (key : α → PyData) : Prop :=
  ∀ (Z : Zn) (σ : St) (H : Hp) (pins : List (Addr × Obj)) (s : Shared), Inv X pins σ H s → GOk T X.K Z H σ Γ → ∀ a ∈ as, ∀ (v : V) (u : Value), Da X.K (rg true Z H Γ) v (f a) → RelV v u → ∀ (A : Around) (fA c' L : Addr) (h₁ : Heap) (tk : Nat) (Q : Value → Shared → Prop) (E : Value → Shared → Prop),
    (∀ b o, s.heap.get? b = some o → h₁.get? b = some o) → h₁.Ns L (fun x => [(y, u)].reverse.lookup x) → (∀ r tk', KeyV r (key a) → Q r { s with heap := h₁, toks := tk' }) →
    wpAny (model X.prog X.w) A (eval body (LamX.lamEnv X scope L fA c')) Q E { s with heap := h₁, toks := tk }
section
variable {T : Tb} {X : Cx} {Γ : Ev} {scope : Scope} {y d : Str} {α : Type} {as : List α} {f : α → D} {e : Expr} {py ps pk pd : Pos} {k0 : Nat}
theorem raw_name {h : α → Str} (L : LamP X.env.scope scope y) (hf : ∀ a, f a = .str (h a)) (hd : (y == ("__debug__" : Str)) = false := by decide) : RawK T X Γ scope y (.Name y py) as f (fun a => .str (h a)) := by
  intro Z σ H pins s I g a ha v u dv rv A fA c' L0 h₁ tk Q E kp hn q
  rw [hf] at dv
  cases dv with
  | str _ _ =>
    obtain ⟨t, rfl⟩ := rv
    exact PySem.wpAny_Name (wpAny_loadName_local L.kind L.par (v := .str (h a) t) hn (by simp) (q _ _ (.inr ⟨_, t, rfl, rfl⟩))) hd
theorem raw_first {h : α → Str} {r : α → List D} (L : LamP X.env.scope scope y) (hf : ∀ a, f a = .tup (.str (h a) :: r a)) (hd : (y == ("__debug__" : Str)) = false := by decide) (hs : NoSl (.Constant (.int 0) k0 pk) := by exact fun _ _ => rfl) :
    RawK T X Γ scope y (.Subscript (.Name y py) (.Constant (.int 0) k0 pk) ps) as f (fun a => .str (h a)) := by
  intro Z σ H pins s I g a ha v u dv rv A fA c' L0 h₁ tk Q E kp hn q
  rw [hf] at dv
  cases dv with
  | tup h1 h2 =>
    rename_i t xs
    obtain rfl : u = Value.ref t := rv
    obtain ⟨its, r, pl, hz⟩ := I.tuple (SqT.of (g.sub _ _ h1))
    obtain ⟨o, ho, pl2⟩ := id pl
    have pl1 : PyProof.Rows.IsTup h₁ t its.toArray := ⟨o, kp _ _ ho, pl2⟩
    refine subD_of PyProof.Rows.slot_tuple_getitem.lookup hs (PySem.wpAny_Name (wpAny_loadName_local L.kind L.par (v := .ref t) hn (by simp) ?_) hd)
    refine PySem.wpAny_Constant_int ⟨?_, ?_⟩
    · exact PyProof.Rows.IsTup.typeIs pl1
    · cases h2 with
      | cons a1 a2 =>
        cases a1 with
        | str _ _ =>
          cases r with
          | cons r1 r2 =>
            obtain ⟨t1, rfl⟩ := r1
            exact PyProof.Rows.getItem_tuple (j := 0) pl1 (by decide) (by decide) (by simp [seqIndex?]) rfl (q _ _ (.inr ⟨_, t1, rfl, rfl⟩))
theorem raw_dict (i : Nat) {h : α → Str} {n : α → Int} {m : List (Str × Int)} (L : LamP X.env.scope scope y) (he : RawK T X Γ scope y e as f (fun a => .str (h a))) (hi : Γ[i]? = some (some (.sh (sdic D.int m)))) (hg : ∀ a ∈ as, aget m (h a) = some (n a)) (hs : NoSl e) (hN : X.N[i]? = some d := by rfl)
    (hc : X.env.scope.names.lookup d = some .cell := by rfl) (hfr : scope.names.lookup d = some .free := by rfl) (hd : (d == ("__debug__" : Str)) = false := by decide) (hcd : (d == ("__classdict__" : Str)) = false := by decide) :
    RawK T X Γ scope y (.Subscript (.Name d pd) e ps) as f (fun a => .int (n a)) := by
  intro Z σ H pins s I g a ha v u dv rv A fA c' L0 h₁ tk Q E kp hn q
  obtain ⟨vd, e1, e2⟩ := g.slots i _ hi
  obtain ⟨m0, hn0, hl⟩ := I.loc
  obtain ⟨ud, rd, l⟩ := hl i d vd hN e1 (.inr (.inl hc))
  obtain ⟨c, hcl, hcell⟩ : ∃ c, X.env.cells.lookup d = some c ∧ s.heap.IsCell c (some ud) := by
    rcases l with ⟨hk, _⟩ | ⟨_, c, h1, h2⟩
    · have hk' : X.env.scope.names.lookup d = some .local := hk
      rw [hc] at hk'
      cases hk'
    · exact ⟨c, h1, h2⟩
  have hmem : (d, NameKind.free) ∈ scope.names := PySem.mem_of_lookup hfr
  obtain ⟨c2, hc2⟩ := L2.mem_lookup (L2.cloFrom_has (cells := X.env.cells) (acc := []) hmem)
  have ec : c2 = c := by
    rcases L2.cloFrom_mem (PySem.mem_of_lookup hc2) with hm | ⟨h1, h2⟩
    · cases hm
    · rw [h2, hcl]
      rfl
  subst ec
  obtain ⟨o, ho, ho2⟩ := hcell
  have e2' : Da X.K (rg true Z H Γ) vd (sdic D.int m) := e2
  cases e2' with
  | dic h1 h2 h3 =>
    rename_i p kvs
    obtain rfl : ud = Value.ref p := rd
    obtain ⟨z, hsys, vs, rel, dd⟩ := dk_rd I.hok (.inl (g.sub _ _ h1))
    obtain ⟨w, hw, hw2⟩ := (valV_map kS kS_inj D.int (h a) m kvs h2 h3).1 _ (hg a ha)
    cases hw2
    obtain ⟨ob, es, ep, d1, d2⟩ := id dd
    have dd1 : h₁.DictOf (mixKind X.prog X.w) p vs := ⟨ob, es, ep, kp _ _ d1, d2⟩
    refine subD_of PySem.F.slot_dict_getitem.lookup hs (PySem.wpAny_Name (wpAny_loadName_free L.kind hfr hc2 ⟨o, kp _ _ ho, ho2⟩ ?_ hcd) hd)
    refine he Z σ H pins s I g a ha v u dv rv A fA c' L0 h₁ tk _ E kp hn fun r tk' hr => ?_
    rcases hr with ⟨_, _, _, hr⟩ | ⟨z', t, rfl, hr⟩
    · cases hr
    · cases hr
      refine ⟨dd1.typeIs, ?_⟩
      obtain ⟨w', hw', rw'⟩ := RelO.some_of (v := .int (n a)) (o := valueAt vs (kS (h a))) (by rw [← hw]; exact rel.val (kS (h a)))
      obtain ⟨t', rfl⟩ := rw'
      exact wpAny_getItem_of (s := { s with heap := h₁, toks := tk' }) (kV_is (k := kS (h a)) ⟨t, rfl⟩) dd1.mapOf hw' (q _ _ (.inl ⟨_, t', rfl, rfl⟩))
/-- what the maker of a lambda is told of -/
def LamT (T : Tb) (X : Cx) : Prop := ∃ c P, LamX.TabB X.base X.mg c P ∧ X.env.code = .ref c ∧ (P, X.env.qual ++ ("<lambda>" : Str)) ∈ T ∧ ∀ p ∈ T, p.1 = P → p.2 = X.env.qual ++ ("<lambda>" : Str)
theorem KeyV.reads {r : Value} {k : PyData} (h : KeyV r k) (hp : Heap) : Reads hp r k [] := by
  rcases h with ⟨i, t, rfl, rfl⟩ | ⟨z, t, rfl, rfl⟩
  · exact .int i t
  · exact .str z t
theorem each_vals {β : Type} : ∀ {out : List Value} {bs : List (V × β)}, EachIs (fun u (p : V × β) => RelV p.1 u) out bs → Vals (bs.map (·.1)) out
  | _, _, .nil => .nil
  | _, _, .cons h t => .cons h (each_vals t)
theorem da_zip {K : PySem.W.Frag} {G : Hp} : ∀ {as : List α} {vs : List V}, DaAll K G vs (as.map f) → ∃ bs : List (V × α), bs.map (·.1) = vs ∧ bs.map (·.2) = as ∧ ∀ p ∈ bs, Da K G p.1 (f p.2)
  | [], _, h => by cases h; exact ⟨[], rfl, rfl, by simp⟩
  | a :: as, _, h => by
    cases h with
    | cons h1 h2 =>
      obtain ⟨bs, e1, e2, e3⟩ := da_zip (as := as) h2
      refine ⟨(_, a) :: bs, by rw [List.map_cons, e1], by rw [List.map_cons, e2], fun p hp => ?_⟩
      rcases List.mem_cons.mp hp with rfl | hp
      · exact h1
      · exact e3 p hp
theorem zip_da {K : PySem.W.Frag} {G : Hp} : ∀ {bs : List (V × α)}, (∀ p ∈ bs, Da K G p.1 (f p.2)) → DaAll K G (bs.map (·.1)) ((bs.map (·.2)).map f)
  | [], _ => .nil
  | p :: bs, h => .cons (h p (by simp)) (zip_da fun q hq => h q (by simp [hq]))
theorem vals_each {β : Type} : ∀ {bs : List (V × β)} {us : List Value}, Vals (bs.map (·.1)) us → EachIs (fun u (p : V × β) => RelV p.1 u) us bs
  | [], _, h => by cases h; exact .nil
  | p :: bs, _, h => by
    cases h with
    | cons h1 h2 => exact .cons h1 (vals_each h2)
end
section
variable {T : Tb} {X : Cx} {Γ : Ev} {scope : Scope} {y : Str} {α : Type} {as : List α} {f : α → D} {a body : Expr} {p pos lpos kpos kpos2 ppos : Pos} {params : Arguments} {key : α → PyData} {k k1 : Nat}

theorem l_sortKey (hm : X.mg "sorted" = none) (hu8 : X.A.units + 64 < cLine) (hr : Room 2 X.A) (hT : LamT T X) (L : LamP X.env.scope scope y) (hn : as.length ≤ 16777216) (ha : ID T X Γ a (as.map f)) (hk : RawK T X Γ scope y body as f key)
    (hal : ∀ a b, alike (key a) (key b) = true) (hnt : ∀ a, key a ≠ .none ∧ (∀ xs, key a ≠ .tuple xs) ∧ (key a).depth = 0) (hdef : defaultsOf params X.env = ([], []) := by rfl)
    (hbind : ∀ (q : Str) (cl : List (Str × Addr)) (pm cv ctv u : Value), bindArgs (kla_fn "<lambda>" q params body scope cl pm cv ctv) ⟨[u], []⟩ = pure [(y, u)] := by intro _ _ _ _ _ _; rfl) (hg : Gl X "sorted" := by rfl)
    (he : backTo pos (starEach [a] X.env) = (false, eval a X.env) :: backTo pos (starEach [] X.env) := by rfl) (hpl : (backTo pos (starEach [a] X.env)).any (·.1) = false := by rfl)
    (hall : (backToKw pos (keywordEach [⟨some "key", .Lambda params body scope lpos, kpos⟩] X.env)).all (·.1.isSome) = true := by rfl) (hnone : (backToKw pos (keywordEach [⟨some "key", .Lambda params body scope lpos, kpos⟩] X.env)).any (·.1.isNone) = false := by rfl)
    (hks : (backToKw pos (keywordEach [⟨some "key", .Lambda params body scope lpos, kpos⟩] X.env)).filterMap (·.1) = (["key"] : List Str) := by rfl) (hs : starEach [a] X.env = (false, eval a X.env) :: starEach [] X.env := by rfl) :
    LD T X Γ (.Call (.Name "sorted" p) [a] [⟨some "key", .Lambda params body scope lpos, kpos⟩] pos) ((as.mergeSort (dataLe false key)).map f) := by
  obtain ⟨c, P, TB, hcode, hmT, hu⟩ := hT
  refine ⟨fun pins s σ H Q I h => ?_⟩
  obtain ⟨Z, g, q⟩ := h
  have hv : bootBuiltins "sorted" = some (.builtin "sorted") := by decide +kernel
  refine wpAny_Call_Name_kw (ld_blt I hg hm hv ?_ (by decide) (by decide))
  refine PyProof.Rows.callWith_kw (thn ((pa_cons ha pa_nil hs).run pos pins s σ H (fun vs H1 => GOk T X.K Z H1 σ Γ ∧ Ext H H1 ∧ ∃ l ws, vs = [.ref l] ∧ rg false Z H1 Γ l = some (.lst ws) ∧ DaAll X.K (rg true Z H1 Γ) ws (as.map f)) I ⟨Z, g, fun l ws H1 g1 x1 e1 e2 => ⟨g1, x1, l, ws, rfl, e1, e2⟩⟩) fun us s1 ⟨vs, H1, I1, r1, g1, x1, l, ws, evs, e1, e2⟩ => ?_) he hpl hall hnone
  subst evs
  obtain ⟨u, rfl, ru⟩ := r1.one
  obtain rfl : u = Value.ref l := ru
  rw [hks]
  have hfree : ∀ z ∈ scope.names, z.2 = .free → ∃ c, X.env.cells.lookup z.1 = some c := fun z hz e => by
    rcases L.free z hz e with k | k
    · exact I1.ok.has _ (.inl k)
    · exact I1.ok.has _ (.inr k)
  show wpAny _ _ (evalAll ((do let v ← eval (.Lambda params body scope lpos) X.env; standAt pos; pure v) :: (backToKw pos (keywordEach [] X.env)).map (·.2))) _ _ s1
  refine wpAny_evalAll_cons (wpAny_bind (LamX.lam_make2 I1 TB hcode hmT hu g1.tab hdef hfree fun fA c' pm ctv H2 s2 I2 eN T2 ho hfn hfr hco => wpAny_bind (wpAny_standAt (wpAny_pure ?_))))
  refine wpAny_evalAll_nil ?_
  have x2 : Ext H1 H2 := ⟨eN, trivial⟩
  have g2 := g1.to x2 T2
  have f1 := rg_ext (m := false) (Z := Z) (Γ := Γ) x2 _ _ e1
  have f2 := e2.to (rg_ext (m := true) (Z := Z) (Γ := Γ) x2)
  obtain ⟨bs, b1, b2, b3⟩ := da_zip f2
  obtain ⟨its, r, hl, hz⟩ := I2.list (SqL.of (g2.sub _ _ f1))
  subst b1 b2
  have ee := vals_each r
  have hlen : bs.length ≤ sizeLine := by rw [sizeLine_eq]; simpa using hn
  obtain ⟨⟨oc, vsc, tq, hoc, hdc, hvc⟩, _, _⟩ := I2.hok c' _ hco
  refine sorted_key_data (b := false) (vs := its) (bs := bs) (R := fun u (p : V × α) => RelV p.1 u) (fun p => key p.2) hl.isList ee (AllAlike.of fun p q => hal p.2 q.2) (Sortable.others fun p => ⟨(hnt p.2).1, (hnt p.2).2.1⟩) hlen (fun p _ => by rw [(hnt p.2).2.2]; omega) (PyProof.Rows.ksk_s1 _ _) (fun _ => PyProof.Rows.ksk_l1 _ _) (fun _ => PyProof.Rows.ksk_t1 _ _) (fun u p hR hp h tk kp => ?_) fun out cc h' tk kp fresh hD ho2 eo => ?_
  · refine wpAny_call (kla_callFunE ((hr.in1).in1.depth) (kp _ _ ho) rfl L.co L.gen rfl ⟨c', oc, vsc, tq, rfl, kp _ _ hoc, hdc, hvc⟩ ?_)
    rw [hbind]
    refine wpAny_pure (wpAny_newFunctionEnv L.nocell (fun z hz => ?_) (fun h₁ hns hsb => ⟨(I2.nolimit.keeps kp).fresh _ hsb, ?_⟩) L.kind)
    · rw [List.mem_singleton.mp hz]
      exact L.par
    · show codeAny _ _ (.expr body (LamX.lamEnv X scope h.objs.size fA c')) _ _
      have kp1 : ∀ b o, h.get? b = some o → h₁.get? b = some o := fun b o e => hsb.extBut b o (Nat.ne_of_lt (Heap.lt_size e)) (Heap.get?_push_of_some _ e)
      refine kla_codeExpr (hk Z σ H2 pins _ I2 g2 p.2 (List.mem_map.mpr ⟨p, hp, rfl⟩) p.1 u (b3 p hp) hR _ fA c' _ h₁ _ _ _ (fun b o e => kp1 b o (kp b o e)) hns fun rv tk' hkv => ?_)
      exact ⟨h₁, tk', rfl, kp1, hkv.reads h₁⟩
  · have hv2 : Vals ((bs.mergeSort (dataLe false fun p => key p.2)).map (·.1)) out := each_vals eo
    have hperm := List.mergeSort_perm bs (dataLe false fun p => key p.2)
    have hlen2 : ((bs.mergeSort (dataLe false fun p => key p.2)).map (·.1)).length ≤ sizeLine := by rw [List.length_map, hperm.length_eq]; exact hlen
    refine ⟨.ref _, upd H2 (s2.heap.objs.size + 1) (.lst ((bs.mergeSort (dataLe false fun p => key p.2)).map (·.1))), I2.laid kp (Nat.le_succ _) ⟨hlen2, _, cc, hv2, hD⟩, rfl, ?_⟩
    have hda : DaAll X.K (rg true Z H2 Γ) ((bs.mergeSort (dataLe false fun p => key p.2)).map (·.1)) (((bs.map (·.2)).mergeSort (dataLe false key)).map f) := by
      have em : ((bs.mergeSort (dataLe false fun p => key p.2)).map (·.2)) = (bs.map (·.2)).mergeSort (dataLe false key) := List.map_mergeSort fun _ _ _ _ => rfl
      rw [← em]
      exact zip_da fun p hp => b3 p (hperm.mem_iff.mp hp)
    exact q _ _ H2 g2 (x1.trans x2) (I2.hok.fresh (Nat.le_succ _)) hda

theorem l_sortKeyR (hm : X.mg "sorted" = none) (hu8 : X.A.units + 64 < cLine) (hr : Room 2 X.A) (hT : LamT T X) (L : LamP X.env.scope scope y) (hn : as.length ≤ 16777216) (ha : ID T X Γ a (as.map f)) (hk : RawK T X Γ scope y body as f key)
    (hal : ∀ a b, alike (key a) (key b) = true) (hnt : ∀ a, key a ≠ .none ∧ (∀ xs, key a ≠ .tuple xs) ∧ (key a).depth = 0) (hdef : defaultsOf params X.env = ([], []) := by rfl)
    (hbind : ∀ (q : Str) (cl : List (Str × Addr)) (pm cv ctv u : Value), bindArgs (kla_fn "<lambda>" q params body scope cl pm cv ctv) ⟨[u], []⟩ = pure [(y, u)] := by intro _ _ _ _ _ _; rfl) (hg : Gl X "sorted" := by rfl)
    (he : backTo pos (starEach [a] X.env) = (false, eval a X.env) :: backTo pos (starEach [] X.env) := by rfl) (hpl : (backTo pos (starEach [a] X.env)).any (·.1) = false := by rfl)
    (hall : (backToKw pos (keywordEach [⟨some "key", .Lambda params body scope lpos, kpos⟩, ⟨some "reverse", .Constant (.bool true) k1 ppos, kpos2⟩] X.env)).all (·.1.isSome) = true := by rfl) (hnone : (backToKw pos (keywordEach [⟨some "key", .Lambda params body scope lpos, kpos⟩, ⟨some "reverse", .Constant (.bool true) k1 ppos, kpos2⟩] X.env)).any (·.1.isNone) = false := by rfl)
    (hks : (backToKw pos (keywordEach [⟨some "key", .Lambda params body scope lpos, kpos⟩, ⟨some "reverse", .Constant (.bool true) k1 ppos, kpos2⟩] X.env)).filterMap (·.1) = (["key", "reverse"] : List Str) := by rfl) (hs : starEach [a] X.env = (false, eval a X.env) :: starEach [] X.env := by rfl) :
    LD T X Γ (.Call (.Name "sorted" p) [a] [⟨some "key", .Lambda params body scope lpos, kpos⟩, ⟨some "reverse", .Constant (.bool true) k1 ppos, kpos2⟩] pos) ((as.mergeSort (dataLe true key)).map f) := by
  obtain ⟨c, P, TB, hcode, hmT, hu⟩ := hT
  refine ⟨fun pins s σ H Q I h => ?_⟩
  obtain ⟨Z, g, q⟩ := h
  have hv : bootBuiltins "sorted" = some (.builtin "sorted") := by decide +kernel
  refine wpAny_Call_Name_kw (ld_blt I hg hm hv ?_ (by decide) (by decide))
  refine PyProof.Rows.callWith_kw (thn ((pa_cons ha pa_nil hs).run pos pins s σ H (fun vs H1 => GOk T X.K Z H1 σ Γ ∧ Ext H H1 ∧ ∃ l ws, vs = [.ref l] ∧ rg false Z H1 Γ l = some (.lst ws) ∧ DaAll X.K (rg true Z H1 Γ) ws (as.map f)) I ⟨Z, g, fun l ws H1 g1 x1 e1 e2 => ⟨g1, x1, l, ws, rfl, e1, e2⟩⟩) fun us s1 ⟨vs, H1, I1, r1, g1, x1, l, ws, evs, e1, e2⟩ => ?_) he hpl hall hnone
  subst evs
  obtain ⟨u, rfl, ru⟩ := r1.one
  obtain rfl : u = Value.ref l := ru
  rw [hks]
  have hfree : ∀ z ∈ scope.names, z.2 = .free → ∃ c, X.env.cells.lookup z.1 = some c := fun z hz e => by
    rcases L.free z hz e with k | k
    · exact I1.ok.has _ (.inl k)
    · exact I1.ok.has _ (.inr k)
  show wpAny _ _ (evalAll ((do let v ← eval (.Lambda params body scope lpos) X.env; standAt pos; pure v) :: (backToKw pos (keywordEach [⟨some "reverse", .Constant (.bool true) k1 ppos, kpos2⟩] X.env)).map (·.2))) _ _ s1
  refine wpAny_evalAll_cons (wpAny_bind (LamX.lam_make2 I1 TB hcode hmT hu g1.tab hdef hfree fun fA c' pm ctv H2 s2 I2 eN T2 ho hfn hfr hco => wpAny_bind (wpAny_standAt (wpAny_pure ?_))))
  show wpAny _ _ (evalAll ((do let v ← eval (.Constant (.bool true) k1 ppos) X.env; standAt pos; pure v) :: (backToKw pos (keywordEach [] X.env)).map (·.2))) _ _ s2
  refine wpAny_evalAll_cons (wpAny_bind (PyProof.Rows.Constant_bool (wpAny_bind (wpAny_standAt (wpAny_pure ?_)))))
  refine wpAny_evalAll_nil ?_
  have x2 : Ext H1 H2 := ⟨eN, trivial⟩
  have g2 := g1.to x2 T2
  have f1 := rg_ext (m := false) (Z := Z) (Γ := Γ) x2 _ _ e1
  have f2 := e2.to (rg_ext (m := true) (Z := Z) (Γ := Γ) x2)
  obtain ⟨bs, b1, b2, b3⟩ := da_zip f2
  obtain ⟨its, r, hl, hz⟩ := I2.list (SqL.of (g2.sub _ _ f1))
  subst b1 b2
  have ee := vals_each r
  have hlen : bs.length ≤ sizeLine := by rw [sizeLine_eq]; simpa using hn
  obtain ⟨⟨oc, vsc, tq, hoc, hdc, hvc⟩, _, _⟩ := I2.hok c' _ hco
  refine sorted_key_data (b := true) (vs := its) (bs := bs) (R := fun u (p : V × α) => RelV p.1 u) (fun p => key p.2) hl.isList ee (AllAlike.of fun p q => hal p.2 q.2) (Sortable.others fun p => ⟨(hnt p.2).1, (hnt p.2).2.1⟩) hlen (fun p _ => by rw [(hnt p.2).2.2]; omega) (PyProof.Rows.ksk_s2 _ _ _) (fun _ => PyProof.Rows.ksk_l2 _ _ _) (fun _ => PyProof.Rows.ksk_t2 _ _ _) (fun u p hR hp h tk kp => ?_) fun out cc h' tk kp fresh hD ho2 eo => ?_
  · refine wpAny_call (kla_callFunE ((hr.in1).in1.depth) (kp _ _ ho) rfl L.co L.gen rfl ⟨c', oc, vsc, tq, rfl, kp _ _ hoc, hdc, hvc⟩ ?_)
    rw [hbind]
    refine wpAny_pure (wpAny_newFunctionEnv L.nocell (fun z hz => ?_) (fun h₁ hns hsb => ⟨(I2.nolimit.keeps kp).fresh _ hsb, ?_⟩) L.kind)
    · rw [List.mem_singleton.mp hz]
      exact L.par
    · show codeAny _ _ (.expr body (LamX.lamEnv X scope h.objs.size fA c')) _ _
      have kp1 : ∀ b o, h.get? b = some o → h₁.get? b = some o := fun b o e => hsb.extBut b o (Nat.ne_of_lt (Heap.lt_size e)) (Heap.get?_push_of_some _ e)
      refine kla_codeExpr (hk Z σ H2 pins _ I2 g2 p.2 (List.mem_map.mpr ⟨p, hp, rfl⟩) p.1 u (b3 p hp) hR _ fA c' _ h₁ _ _ _ (fun b o e => kp1 b o (kp b o e)) hns fun rv tk' hkv => ?_)
      exact ⟨h₁, tk', rfl, kp1, hkv.reads h₁⟩
  · have hv2 : Vals ((bs.mergeSort (dataLe true fun p => key p.2)).map (·.1)) out := each_vals eo
    have hperm := List.mergeSort_perm bs (dataLe true fun p => key p.2)
    have hlen2 : ((bs.mergeSort (dataLe true fun p => key p.2)).map (·.1)).length ≤ sizeLine := by rw [List.length_map, hperm.length_eq]; exact hlen
    refine ⟨.ref _, upd H2 (s2.heap.objs.size + 1) (.lst ((bs.mergeSort (dataLe true fun p => key p.2)).map (·.1))), I2.laid kp (Nat.le_succ _) ⟨hlen2, _, cc, hv2, hD⟩, rfl, ?_⟩
    have hda : DaAll X.K (rg true Z H2 Γ) ((bs.mergeSort (dataLe true fun p => key p.2)).map (·.1)) (((bs.map (·.2)).mergeSort (dataLe true key)).map f) := by
      have em : ((bs.mergeSort (dataLe true fun p => key p.2)).map (·.2)) = (bs.map (·.2)).mergeSort (dataLe true key) := List.map_mergeSort fun _ _ _ _ => rfl
      rw [← em]
      exact zip_da fun p hp => b3 p (hperm.mem_iff.mp hp)
    exact q _ _ H2 g2 (x1.trans x2) (I2.hok.fresh (Nat.le_succ _)) hda

end
end DD


/-! Heights, the plain order, deeds done. -/
namespace MM
open PySem L2 DD TL

/-! ### tables -/
section
variable {κ β : Type} [DecidableEq κ]
theorem aget_put (m : List (κ × β)) (k z : κ) (b : β) : aget (aput m k b) z = if k = z then some b else aget m z := by
  have hrep : ∀ m : List (κ × β), (m.any fun p => decide (p.1 = k)) = true → aget (m.map (fun p => if p.1 = k then (p.1, b) else p)) z = if k = z then some b else aget m z := by
    intro m
    induction m with
    | nil => intro h; simp at h
    | cons p m ih =>
      intro h
      rw [List.map_cons, aget_cons, aget_cons]
      by_cases e : p.1 = k
      · rw [if_pos e]
        by_cases ez : k = z
        · rw [if_pos (by show p.1 = z; rw [e, ez]), if_pos ez]
        · rw [if_neg (by show ¬ p.1 = z; rw [e]; exact ez), if_neg ez, if_neg (by rw [e]; exact ez)]
          have hother : ∀ m : List (κ × β), aget (m.map (fun p => if p.1 = k then (p.1, b) else p)) z = aget m z := by
            intro m
            induction m with
            | nil => rfl
            | cons p m ih =>
              rw [List.map_cons, aget_cons, aget_cons, ih]
              by_cases e : p.1 = k
              · rw [if_pos e, if_neg (by show ¬ p.1 = z; rw [e]; exact ez), if_neg (by rw [e]; exact ez)]
              · rw [if_neg e]
          exact hother m
      · rw [if_neg e]
        have hm : (m.any fun p => decide (p.1 = k)) = true := by simpa [e] using h
        rw [ih hm]
        by_cases ez : k = z
        · subst ez; simp [e]
        · simp [ez]
  have happ : ∀ m : List (κ × β), (m.any fun p => decide (p.1 = k)) = false → aget (m ++ [(k, b)]) z = if k = z then some b else aget m z := by
    intro m
    induction m with
    | nil =>
      intro _
      rw [List.nil_append, aget_cons]
    | cons p m ih =>
      intro h
      simp only [List.any_cons, Bool.or_eq_false_iff, decide_eq_false_iff_not] at h
      rw [List.cons_append, aget_cons, aget_cons, ih h.2]
      by_cases ez : k = z
      · subst ez; simp [h.1]
      · simp [ez]
  unfold aput
  cases q : m.any fun p => decide (p.1 = k) with
  | true => rw [if_pos rfl]; exact hrep m q
  | false => rw [if_neg (by decide)]; exact happ m q
theorem aget_put_self (m : List (κ × β)) (k : κ) (b : β) : aget (aput m k b) k = some b := by rw [aget_put, if_pos rfl]
theorem aget_put_ne (m : List (κ × β)) {k z : κ} (b : β) (h : k ≠ z) : aget (aput m k b) z = aget m z := by rw [aget_put, if_neg h]
end
theorem foldl_max_ge : ∀ (ns : List Int) (a : Int), a ≤ ns.foldl max a ∧ ∀ x ∈ ns, x ≤ ns.foldl max a
  | [], a => ⟨Int.le_refl _, by simp⟩
  | n :: ns, a => by
    obtain ⟨h1, h2⟩ := foldl_max_ge ns (max a n)
    refine ⟨Int.le_trans (Int.le_max_left a n) h1, fun x hx => ?_⟩
    rcases List.mem_cons.mp hx with rfl | hx
    · exact Int.le_trans (Int.le_max_right _ _) h1
    · exact h2 x hx
theorem maxI_ge {ns : List Int} {x : Int} (h : x ∈ ns) : x ≤ maxI ns := by
  cases ns with
  | nil => simp at h
  | cons n ns =>
    obtain ⟨h1, h2⟩ := foldl_max_ge ns n
    rcases List.mem_cons.mp h with rfl | h
    · exact h1
    · exact h2 x h

/-! ### heights -/
def htOf (m : List (Str × Int)) (ls : List Str) : Int := maxI (ls.map fun l => (aget m l).getD 0 + 1)
def htSt (chs : List Ch) : Nat → List (Str × Int) := nst (fun _ ch m => aput m ch.1 (htOf m ch.2.1)) [] chs
def hts (chs : List Ch) : List (Str × Int) := htSt chs chs.length
def hOf (chs : List Ch) (z : Str) : Int := (aget (hts chs) z).getD 0
/-- each leans on names ahead alone -/
def inOrd (chs : List Ch) : Prop := ∀ (i : Nat) (ch : Ch), chs[i]? = some ch → ∀ z ∈ ch.2.1, z ∈ (chs.take i).map (·.1)
theorem okChs.ord {chs : List Ch} (h : okChs chs) : inOrd chs := fun i ch e => (h i ch e).lns
theorem htSt_keys (chs : List Ch) : ∀ k, k ≤ chs.length → (htSt chs k).length ≤ k ∧ ∀ z, (aget (htSt chs k) z).isSome = true ↔ z ∈ (chs.take k).map (·.1) :=
  nst_inv (fun (k : Nat) (m : List (Str × Int)) => m.length ≤ k ∧ ∀ z, (aget m z).isSome = true ↔ z ∈ (chs.take k).map (·.1)) ⟨Nat.zero_le _, fun z => by simp [aget]⟩ fun k ch m e ⟨h1, h2⟩ => by
    refine ⟨Nat.le_trans (aput_len _ _ _) (by omega), fun z => ?_⟩
    rw [aget_put, List.take_add_one, e, List.map_append]
    by_cases q : ch.1 = z
    · rw [if_pos q]
      simp [q]
    · rw [if_neg q, h2 z]
      have q' : ¬ z = ch.1 := fun w => q w.symm
      simp [q']
/-- the equation of the heights -/
theorem hts_eq {chs : List Ch} (ho : inOrd chs) (nd : (chs.map (·.1)).Nodup) : ∀ ch ∈ chs, hOf chs ch.1 = maxI (ch.2.1.map fun l => hOf chs l + 1) := by
  have stay : ∀ (j k : Nat) (z : Str), k ≤ j → j ≤ chs.length → z ∈ (chs.take k).map (·.1) → aget (htSt chs j) z = aget (htSt chs k) z := by
    intro j k z hkj hj hz
    induction j with
    | zero => have : k = 0 := by omega
              rw [this]
    | succ j ih =>
      by_cases e : k = j + 1
      · rw [e]
      · have hjl : j < chs.length := hj
        have ej : chs[j]? = some chs[j] := by simp [hjl]
        have st : htSt chs (j + 1) = aput (htSt chs j) chs[j].1 (htOf (htSt chs j) chs[j].2.1) := nst_succ ej
        rw [st, aget_put_ne, ih (by omega) (by omega)]
        intro w
        obtain ⟨f, hf, hf2⟩ := List.mem_map.mp hz
        obtain ⟨i, hi⟩ := List.getElem?_of_mem hf
        have hik : i < k := by
          have := (List.getElem?_eq_some_iff.mp hi).1
          simp at this
          omega
        rw [List.getElem?_take_of_lt hik] at hi
        have hil : i < chs.length := (List.getElem?_eq_some_iff.mp hi).1
        have e1 : (chs.map (·.1))[i]? = some z := by rw [List.getElem?_map, hi]; simp [hf2]
        have e2 : (chs.map (·.1))[j]? = some z := by rw [List.getElem?_map, ej]; simp [w]
        have hij : i = j := (List.getElem?_inj (by simp; exact hil) nd).mp (e1.trans e2.symm)
        omega
  intro ch hch
  obtain ⟨i, hi⟩ := List.getElem?_of_mem hch
  have hil : i < chs.length := (List.getElem?_eq_some_iff.mp hi).1
  have st : htSt chs (i + 1) = aput (htSt chs i) ch.1 (htOf (htSt chs i) ch.2.1) := nst_succ hi
  have h1 : hOf chs ch.1 = htOf (htSt chs i) ch.2.1 := by
    unfold hOf hts
    rw [stay chs.length (i + 1) ch.1 (by omega) (Nat.le_refl _) (by rw [List.take_add_one, hi]; simp), st, aget_put_self]
    rfl
  rw [h1]
  unfold htOf
  congr 1
  refine List.map_congr_left fun l hl => ?_
  unfold hOf hts
  rw [stay chs.length i l (by omega) (Nat.le_refl _) (ho i ch hi l hl)]
theorem hOf_lean {chs : List Ch} (ho : inOrd chs) (nd : (chs.map (·.1)).Nodup) {ch : Ch} (h : ch ∈ chs) {z : Str} (hz : z ∈ ch.2.1) : hOf chs z < hOf chs ch.1 := by
  rw [hts_eq ho nd ch h]
  have := maxI_ge (ns := ch.2.1.map fun l => hOf chs l + 1) (x := hOf chs z + 1) (List.mem_map.mpr ⟨z, hz, rfl⟩)
  omega

/-! ### the plain order -/
def byName (chs : List Ch) : List Ch := chs.mergeSort (PySem.W.dataLe true fun ch => .str ch.1)
def plain (h : Str → Int) (chs : List Ch) : List Ch := (byName chs).mergeSort (PySem.W.dataLe false fun ch => .int (h ch.1))
theorem plain_perm (h : Str → Int) (chs : List Ch) : (plain h chs).Perm chs := (List.mergeSort_perm _ _).trans (List.mergeSort_perm _ _)
theorem plain_up (h : Str → Int) (chs : List Ch) : (plain h chs).Pairwise fun a b => h a.1 ≤ h b.1 := by
  have e := PySem.W.dataLe_int (β := Ch) (fun ch => h ch.1)
  unfold plain
  rw [e]
  refine (List.pairwise_mergeSort (le := fun (a b : Ch) => decide (h a.1 ≤ h b.1)) (fun a b c h1 h2 => ?_) (fun a b => ?_) _).imp fun h => of_decide_eq_true h
  · exact decide_eq_true (Int.le_trans (of_decide_eq_true h1) (of_decide_eq_true h2))
  · rcases Int.le_total (h a.1) (h b.1) with q | q
    · rw [decide_eq_true q]; rfl
    · rw [decide_eq_true q, Bool.or_true]

/-! ### deeds done -/
abbrev Rw := List Mk × List (Mk × Str) × List (Mk × Bool)
def insAt (r : List Mk) (o : Option Mk) (x : Mk) : List Mk := r.take (match o with | none => 0 | some m => r.idxOf m + 1) ++ [x] ++ r.drop (match o with | none => 0 | some m => r.idxOf m + 1)
def dDeed (nm : Str) (d : Dd) (s : Rw × Int) : Rw × Int :=
  if d.1 = ("add" : Str) then ((insAt s.1.1 d.2.1 (nm, s.2), aput s.1.2.1 (nm, s.2) (d.2.2.getD ""), s.1.2.2), s.2 + 1)
  else if d.1 = ("set" : Str) then ((s.1.1, aput s.1.2.1 (d.2.1.getD mkD) (d.2.2.getD ""), s.1.2.2), s.2)
  else ((s.1.1, s.1.2.1, aput s.1.2.2 (d.2.1.getD mkD) true), s.2)
def deedSt (nm : Str) (ds : List Dd) (s : Rw) : Nat → Rw × Int := nst (fun _ d st => dDeed nm d st) (s, 0) ds
def dCh (ch : Ch) (s : Rw) : Rw := (deedSt ch.1 ch.2.2 s ch.2.2.length).1
def doSt (L : List Ch) : Nat → Rw := nst (fun _ ch s => dCh ch s) ([], [], []) L
def doAll (L : List Ch) : Rw := doSt L L.length
/-- the marks of all adds -/
def allMks (L : List Ch) : List Mk := L.flatMap mks
def okSeq (L : List Ch) : Prop := ∀ (i : Nat) (ch : Ch), L[i]? = some ch → okDds ch.1 (allMks (L.take i)) ch.2.2
/-- each deed tells a line of a lean or an own one -/
def vChs (chs : List Ch) : Prop := ∀ ch ∈ chs, ∃ ms, (∀ m ∈ ms, ∃ f ∈ chs, f.1 ∈ ch.2.1 ∧ m ∈ mks f) ∧ okDds ch.1 ms ch.2.2
theorem okDd.mono {nm : Str} {ms ms' : List Mk} {n : Nat} {d : Dd} (h : okDd nm ms n d) (hm : ∀ m ∈ ms, m ∈ ms') : okDd nm ms' n d := by
  rcases h with ⟨h1, h2, h3⟩ | ⟨m, h', h2⟩
  · exact .inl ⟨h1, fun m e => (h2 m e).imp (hm m) id, h3⟩
  · exact .inr ⟨m, h'.imp (hm m) id, h2⟩
theorem okDds.mono {nm : Str} {ms ms' : List Mk} {ds : List Dd} (h : okDds nm ms ds) (hm : ∀ m ∈ ms, m ∈ ms') : okDds nm ms' ds := fun i d e => (h i d e).mono hm
theorem okChs.v {chs : List Ch} (h : okChs chs) : vChs chs := fun ch hch => by
  obtain ⟨i, hi⟩ := List.getElem?_of_mem hch
  obtain ⟨ms, h1, h2⟩ := (h i ch hi).dds
  refine ⟨ms, fun m hm => ?_, h2⟩
  obtain ⟨f, f1, f2⟩ := h1 m hm
  exact ⟨f, List.mem_of_mem_take f1, f2⟩
theorem okSeq_of {chs L : List Ch} {h : Str → Int} (hv : vChs chs) (hl : ∀ ch ∈ chs, ∀ z ∈ ch.2.1, h z < h ch.1) (hp : L.Perm chs) (hu : L.Pairwise fun a b => h a.1 ≤ h b.1) : okSeq L := fun i ch e => by
  have hm : ch ∈ chs := hp.mem_iff.mp (List.mem_of_getElem? e)
  obtain ⟨ms, h1, h2⟩ := hv ch hm
  refine h2.mono fun m hm' => ?_
  obtain ⟨f, f1, f2, f3⟩ := h1 m hm'
  have hlt := hl ch hm f.1 f2
  obtain ⟨j, hj⟩ := List.getElem?_of_mem (hp.mem_iff.mpr f1)
  have hji : j < i := by
    rcases Nat.lt_trichotomy j i with q | q | q
    · exact q
    · subst q
      rw [e] at hj
      cases hj
      omega
    · obtain ⟨hjl, ej⟩ := List.getElem?_eq_some_iff.mp hj
      obtain ⟨hil, ei⟩ := List.getElem?_eq_some_iff.mp e
      have := List.pairwise_iff_getElem.mp hu i j hil hjl q
      rw [ej, ei] at this
      omega
  exact List.mem_flatMap.mpr ⟨f, List.mem_of_getElem? (by rw [List.getElem?_take_of_lt hji]; exact hj), f3⟩
theorem insAt_mem (r : List Mk) (o : Option Mk) (x m : Mk) : m ∈ insAt r o x ↔ m = x ∨ m ∈ r := by
  unfold insAt
  generalize (match o with | none => 0 | some m => r.idxOf m + 1) = n
  have : m ∈ r ↔ m ∈ r.take n ∨ m ∈ r.drop n := by rw [← List.mem_append, List.take_append_drop]
  simp only [List.mem_append, List.mem_singleton, this]
  constructor
  · rintro ((h | h) | h)
    · exact .inr (.inl h)
    · exact .inl h
    · exact .inr (.inr h)
  · rintro (h | h | h)
    · exact .inl (.inr h)
    · exact .inl (.inl h)
    · exact .inr h
theorem insAt_len (r : List Mk) (o : Option Mk) (x : Mk) : (insAt r o x).length = r.length + 1 := by
  unfold insAt
  generalize (match o with | none => 0 | some m => r.idxOf m + 1) = n
  have := congrArg List.length (List.take_append_drop n r)
  rw [List.length_append] at this
  rw [List.length_append, List.length_append, List.length_singleton]
  omega
/-- what holds of a row with marks as told, of at most n deeds -/
structure RwOk (s : Rw) (M : Mk → Prop) (n : Nat) : Prop where
  mem : ∀ m, m ∈ s.1 ↔ M m
  wd : ∀ m ∈ s.1, (aget s.2.1 m).isSome = true
  l1 : s.1.length ≤ n
  l2 : s.2.1.length ≤ n
  l3 : s.2.2.length ≤ n
theorem aget_put_some {κ β : Type} [DecidableEq κ] {m : List (κ × β)} {k z : κ} {b : β} (h : k = z ∨ (aget m z).isSome = true) : (aget (aput m k b) z).isSome = true := by
  rw [aget_put]
  by_cases q : k = z
  · rw [if_pos q]; rfl
  · rw [if_neg q]
    rcases h with h | h
    · exact absurd h q
    · exact h
/-- one deed -/
theorem dDeed_ok {nm : Str} {ms : List Mk} {d : Dd} {s : Rw} {n a : Nat} (h : RwOk s (fun m => m ∈ ms ∨ (m.1 = nm ∧ 0 ≤ m.2 ∧ m.2 < (a : Int))) n) (hd : okDd nm ms a d) :
    (∀ m, d.2.1 = some m → m ∈ s.1) ∧ (dDeed nm d (s, (a : Int))).2 = (((a + adds [d]) : Nat) : Int) ∧ RwOk (dDeed nm d (s, (a : Int))).1 (fun m => m ∈ ms ∨ (m.1 = nm ∧ 0 ≤ m.2 ∧ m.2 < (((a + adds [d]) : Nat) : Int))) (n + 1) := by
  have hin : ∀ m, d.2.1 = some m → m ∈ s.1 := fun m e => by
    rw [h.mem]
    rcases hd with ⟨_, h2, _⟩ | ⟨m', h', rfl | ⟨z, hz, rfl⟩⟩
    · exact h2 m e
    · cases Option.some.inj e; exact h'
    · cases Option.some.inj e; exact h'
  refine ⟨hin, ?_⟩
  rcases hd with ⟨h1, h2, h3⟩ | ⟨m', h', rfl | ⟨z, hz, rfl⟩⟩
  · have ea : adds [d] = 1 := by unfold adds; rw [List.filter_cons, if_pos (decide_eq_true h1)]; rfl
    unfold dDeed
    rw [if_pos h1, ea]
    refine ⟨rfl, fun m => ?_, fun m hm => ?_, ?_, Nat.le_trans (aput_len _ _ _) (Nat.succ_le_succ h.l2), Nat.le_trans h.l3 (by omega)⟩
    · show m ∈ insAt s.1 d.2.1 (nm, (a : Int)) ↔ _
      rw [insAt_mem, h.mem]
      obtain ⟨m1, m2⟩ := m
      constructor
      · rintro (e | q | ⟨q1, q2, q3⟩)
        · cases e; exact .inr ⟨rfl, by simp, by simp; omega⟩
        · exact .inl q
        · exact .inr ⟨q1, q2, by simp at q3 ⊢; omega⟩
      · rintro (q | ⟨q1, q2, q3⟩)
        · exact .inr (.inl q)
        · simp only at q1 q2 q3
          by_cases e : m2 = (a : Int)
          · exact .inl (by rw [q1, e])
          · exact .inr (.inr ⟨q1, q2, by simp; omega⟩)
    · refine aget_put_some ?_
      rcases (insAt_mem _ _ _ _).mp hm with e | q
      · exact .inl e.symm
      · exact .inr (h.wd m q)
    · show (insAt s.1 d.2.1 (nm, (a : Int))).length ≤ n + 1
      rw [insAt_len]
      have := h.l1
      omega
  · have e1 : ("cut" : Str) ≠ ("add" : Str) := by decide +kernel
    have e2 : ("cut" : Str) ≠ ("set" : Str) := by decide +kernel
    unfold dDeed
    rw [if_neg e1, if_neg e2, adds_cut, Nat.add_zero]
    exact ⟨rfl, h.mem, h.wd, Nat.le_trans h.l1 (by omega), Nat.le_trans h.l2 (by omega), Nat.le_trans (aput_len _ _ _) (Nat.succ_le_succ h.l3)⟩
  · have e1 : ("set" : Str) ≠ ("add" : Str) := by decide +kernel
    unfold dDeed
    rw [if_neg e1, if_pos rfl, adds_set, Nat.add_zero]
    refine ⟨rfl, h.mem, fun m hm => aget_put_some (.inr (h.wd m hm)), Nat.le_trans h.l1 (by omega), Nat.le_trans (aput_len _ _ _) (Nat.succ_le_succ h.l2), Nat.le_trans h.l3 (by omega)⟩
theorem deedSt_ok {nm : Str} {ms : List Mk} {ds : List Dd} {s : Rw} {n : Nat} (h : RwOk s (fun m => m ∈ ms) n) (hd : okDds nm ms ds) : ∀ k, k ≤ ds.length →
    (deedSt nm ds s k).2 = ((adds (ds.take k) : Nat) : Int) ∧ RwOk (deedSt nm ds s k).1 (fun m => m ∈ ms ∨ (m.1 = nm ∧ 0 ≤ m.2 ∧ m.2 < ((adds (ds.take k) : Nat) : Int))) (n + k) :=
  nst_inv (fun (k : Nat) (st : Rw × Int) => st.2 = ((adds (ds.take k) : Nat) : Int) ∧ RwOk st.1 (fun m => m ∈ ms ∨ (m.1 = nm ∧ 0 ≤ m.2 ∧ m.2 < ((adds (ds.take k) : Nat) : Int))) (n + k))
    ⟨rfl, fun m => by rw [h.mem]; simp [adds]; intro _ h1 h2; omega, h.wd, h.l1, h.l2, h.l3⟩ fun k d st e ⟨q1, q2⟩ => by
      obtain ⟨s', a'⟩ := st
      simp only at q1 q2
      subst q1
      obtain ⟨_, r1, r2⟩ := dDeed_ok q2 (hd k d e)
      rw [List.take_add_one, e]
      show (dDeed nm d (s', _)).2 = _ ∧ _
      rw [show (ds.take k ++ (some d).toList) = ds.take k ++ [d] from rfl, adds_app]
      exact ⟨r1, r2⟩
theorem dCh_ok {ch : Ch} {ms : List Mk} {s : Rw} {n : Nat} (h : RwOk s (fun m => m ∈ ms) n) (hd : okDds ch.1 ms ch.2.2) : RwOk (dCh ch s) (fun m => m ∈ ms ++ mks ch) (n + ch.2.2.length) := by
  obtain ⟨q1, q2⟩ := deedSt_ok h hd ch.2.2.length (Nat.le_refl _)
  rw [List.take_length] at q2
  refine ⟨fun m => ?_, q2.wd, q2.l1, q2.l2, q2.l3⟩
  show m ∈ (dCh ch s).1 ↔ _
  rw [List.mem_append, mem_mks]
  exact q2.mem m
theorem doSt_ok {L : List Ch} {b : Nat} (h : okSeq L) (hb : ∀ ch ∈ L, ch.2.2.length ≤ b) : ∀ k, k ≤ L.length → RwOk (doSt L k) (fun m => m ∈ allMks (L.take k)) (k * b) :=
  nst_inv (fun (k : Nat) (s : Rw) => RwOk s (fun m => m ∈ allMks (L.take k)) (k * b)) ⟨fun m => by simp [allMks], by simp, by simp, by simp, by simp⟩ fun k ch s e q => by
    have r := dCh_ok q (h k ch e)
    have hc := hb ch (List.mem_of_getElem? e)
    have em : allMks (L.take (k + 1)) = allMks (L.take k) ++ mks ch := by unfold allMks; rw [List.take_add_one, e]; simp
    rw [em]
    exact ⟨r.mem, r.wd, Nat.le_trans r.l1 (by rw [Nat.add_mul]; omega), Nat.le_trans r.l2 (by rw [Nat.add_mul]; omega), Nat.le_trans r.l3 (by rw [Nat.add_mul]; omega)⟩
def toldOf (r : Rw) : List (Mk × Str) := (r.1.filter fun m => !(aget r.2.2 m).isSome).map fun m => (m, (aget r.2.1 m).getD "")
def eTl (p : Mk × Str) : D := .tup [eMk p.1, .str p.2]
def model (chs : List Ch) : Rw := doAll (plain (hOf chs) chs)
end MM

/-! Mirrors: wide, some, ground, closed. -/
namespace MM
open PySem PySem.Spec L2 DD
/-! ### wide -/
def wideN (flag most : Int) : Int := 4 * (most + flag / 12 % (61 - most))
def wideC (cs : List Int) (flag : Int) : Prop := (cs.length : Int) < 4 ∨ flag % 12 ≠ 5
instance (cs : List Int) (flag : Int) : Decidable (wideC cs flag) := by unfold wideC; infer_instance
def wideAt (cs : List Int) (flag : Int) (j : Nat) : Int :=
  if ((j : Int) % 4 = 1 ∧ flag / 12 % 2 = 1) then mixed (cs.getD ((j : Int) % cs.length).toNat 0) j / 7 * 7 + 3 else mixed (cs.getD ((j : Int) % cs.length).toNat 0) j
def wideTo (cs : List Int) (flag : Int) (n : Nat) : List Int := (List.range n).map (wideAt cs flag)
theorem wideTo_len (cs : List Int) (flag : Int) (n : Nat) : (wideTo cs flag n).length = n := by simp [wideTo]
theorem wideTo_succ (cs : List Int) (flag : Int) (n : Nat) : wideTo cs flag (n + 1) = wideTo cs flag n ++ [wideAt cs flag n] := by unfold wideTo; rw [List.range_succ, List.map_append]; rfl
def wideD (x : D) (cs : List Int) (flag most : Int) : D := if wideC cs flag then x else .lst ((wideTo cs flag (wideN flag most).toNat).map D.int)
def wide (cs : List Int) (flag most : Int) : List Int := if wideC cs flag then cs else wideTo cs flag (wideN flag most).toNat
theorem wideD_il {x : D} {cs : List Int} (flag most : Int) (h : ILd x cs) : ILd (wideD x cs flag most) (wide cs flag most) := by
  unfold wideD wide
  split
  · exact h
  · exact .inr rfl
/-! ### some -/
def someStep (c : Int) (k : Nat) (a : Ch) (s : List Str × Int) : List Str × Int :=
  (if s.2 % 3 = 0 then s.1 ++ [a.1] else s.1, if s.2 / 3 < 3 then mixed c ((k : Int) + 4) else s.2 / 3)
def someSt (c : Int) (chs : List Ch) : Nat → List Str × Int := nst (someStep c) ([], mixed c 3) chs
def some' (c : Int) (chs : List Ch) : List Str := (someSt c chs chs.length).1
theorem someSt_ok (c : Int) (chs : List Ch) : ∀ k, k ≤ chs.length → (someSt c chs k).1.length ≤ k ∧ ∀ z ∈ (someSt c chs k).1, z ∈ chs.map (·.1) :=
  nst_inv (fun (k : Nat) (s : List Str × Int) => s.1.length ≤ k ∧ ∀ z ∈ s.1, z ∈ chs.map (·.1)) ⟨Nat.zero_le _, by simp⟩ fun k a s e ⟨h1, h2⟩ => by
    unfold someStep
    refine ⟨?_, fun z hz => ?_⟩
    · show (if s.2 % 3 = 0 then s.1 ++ [a.1] else s.1).length ≤ k + 1
      split
      · simp; omega
      · omega
    · have hz' : z ∈ (if s.2 % 3 = 0 then s.1 ++ [a.1] else s.1) := hz
      split at hz'
      · rcases List.mem_append.mp hz' with q | q
        · exact h2 z q
        · rw [List.mem_singleton] at q
          subst q
          exact List.mem_map.mpr ⟨a, List.mem_of_getElem? e, rfl⟩
      · exact h2 z hz'
/-! ### ground -/
def lnsSt (chs : List Ch) : Nat → List (Str × List Str) := nst (fun _ ch m => aput m ch.1 ch.2.1) [] chs
def lnsD (chs : List Ch) : List (Str × List Str) := lnsSt chs chs.length
def lnsOf (chs : List Ch) (z : Str) : List Str := (aget (lnsD chs) z).getD []
theorem lnsSt_ok {chs : List Ch} (nd : (chs.map (·.1)).Nodup) : ∀ k, k ≤ chs.length → (lnsSt chs k).length ≤ k ∧ ∀ i ch, chs[i]? = some ch → i < k → aget (lnsSt chs k) ch.1 = some ch.2.1 :=
  nst_inv (fun (k : Nat) (m : List (Str × List Str)) => m.length ≤ k ∧ ∀ i ch, chs[i]? = some ch → i < k → aget m ch.1 = some ch.2.1) ⟨Nat.zero_le _, fun i ch _ h => by omega⟩ fun k a m e ⟨h1, h2⟩ => by
    refine ⟨Nat.le_trans (aput_len _ _ _) (by omega), fun i ch hi hlt => ?_⟩
    by_cases q : i = k
    · subst q
      rw [e] at hi
      cases hi
      exact aget_put_self _ _ _
    · rw [aget_put_ne, h2 i ch hi (by omega)]
      intro w
      have hil : i < chs.length := (List.getElem?_eq_some_iff.mp hi).1
      have e1 : (chs.map (·.1))[i]? = some ch.1 := by rw [List.getElem?_map, hi]; rfl
      have e2 : (chs.map (·.1))[k]? = some ch.1 := by rw [List.getElem?_map, e]; simp [w]
      have := (List.getElem?_inj (by simp; exact hil) nd).mp (e1.trans e2.symm)
      exact q this
theorem lns_get {chs : List Ch} (nd : (chs.map (·.1)).Nodup) {z : Str} (h : z ∈ chs.map (·.1)) : ∃ ch ∈ chs, ch.1 = z ∧ aget (lnsD chs) z = some ch.2.1 := by
  obtain ⟨ch, hch, e⟩ := List.mem_map.mp h
  obtain ⟨i, hi⟩ := List.getElem?_of_mem hch
  have hil := (List.getElem?_eq_some_iff.mp hi).1
  refine ⟨ch, hch, e, ?_⟩
  rw [← e]
  exact (lnsSt_ok nd chs.length (Nat.le_refl _)).2 i ch hi hil
abbrev GS := List Str × List Str
/-- one turn: the last waiting name is taken -/
def gStep (m : List (Str × List Str)) (s : GS) : GS :=
  match s.2.getLast? with
  | none => s
  | some z => if z ∈ s.1 then (s.1, s.2.dropLast) else (s.1 ++ [z], s.2.dropLast ++ (aget m z).getD [])
def gRun (m : List (Str × List Str)) : Nat → GS → List Str
  | 0, s => s.1
  | n + 1, s => if s.2 = [] then s.1 else gRun m n (gStep m s)
def gMu (n b : Nat) (s : GS) : Nat := (n - s.1.length) * (b + 1) + s.2.length
def ground (chs : List Ch) (ns : List Str) (b : Nat) : List Str := gRun (lnsD chs) (gMu chs.length b ([], ns)) ([], ns)
/-- what holds at each turn -/
structure GOn (chs : List Ch) (ns : List Str) (s : GS) : Prop where
  nd : s.1.Nodup
  f : ∀ z ∈ s.1, z ∈ chs.map (·.1)
  w : ∀ z ∈ s.2, z ∈ chs.map (·.1)
  up : ∀ z ∈ ns, z ∈ s.1 ∨ z ∈ s.2
  cl : ∀ ch ∈ chs, ch.1 ∈ s.1 → ∀ z ∈ ch.2.1, z ∈ s.1 ∨ z ∈ s.2
theorem nodup_len {α : Type} [DecidableEq α] : ∀ {xs ys : List α}, xs.Nodup → (∀ x ∈ xs, x ∈ ys) → xs.length ≤ ys.length
  | [], ys, _, _ => Nat.zero_le _
  | x :: xs, ys, nd, h => by
    rw [List.nodup_cons] at nd
    have hx := h x List.mem_cons_self
    have := nodup_len (xs := xs) (ys := ys.erase x) nd.2 fun z hz => by
      have hne : z ≠ x := fun e => nd.1 (e ▸ hz)
      exact (List.mem_erase_of_ne hne).mpr (h z (List.mem_cons_of_mem _ hz))
    rw [List.length_erase_of_mem hx] at this
    have := List.length_pos_of_mem hx
    rw [List.length_cons]
    omega
theorem GOn.len {chs : List Ch} {ns : List Str} {s : GS} (h : GOn chs ns s) : s.1.length ≤ chs.length := by
  have := nodup_len h.nd h.f
  simpa using this
theorem split_last {α : Type} {xs : List α} {z : α} (h : xs.getLast? = some z) : xs = xs.dropLast ++ [z] := by
  have hne : xs ≠ [] := by intro e; subst e; simp at h
  rw [List.getLast?_eq_some_getLast hne] at h
  cases h
  exact (List.dropLast_concat_getLast hne).symm
theorem gStep_ok {chs : List Ch} {ns : List Str} {s : GS} {b : Nat} (nd : (chs.map (·.1)).Nodup) (hl : ∀ ch ∈ chs, ∀ z ∈ ch.2.1, z ∈ chs.map (·.1)) (hb : ∀ ch ∈ chs, ch.2.1.length ≤ b) (h : GOn chs ns s) (hne : s.2 ≠ []) :
    GOn chs ns (gStep (lnsD chs) s) ∧ gMu chs.length b (gStep (lnsD chs) s) < gMu chs.length b s := by
  obtain ⟨f, w⟩ := s
  simp only at hne
  have eg := List.getLast?_eq_some_getLast hne
  generalize w.getLast hne = z at eg
  have ew := split_last eg
  have hlen : w.length = w.dropLast.length + 1 := by have := congrArg List.length ew; rw [List.length_append] at this; simpa using this
  have hz : z ∈ chs.map (·.1) := h.w z (by show z ∈ w; rw [ew]; simp)
  have hdw : ∀ x ∈ w.dropLast, x ∈ w := fun x hx => List.dropLast_subset _ hx
  have hcase : ∀ x, x ∈ w → x = z ∨ x ∈ w.dropLast := fun x hx => by
    rw [ew] at hx
    rcases List.mem_append.mp hx with q | q
    · exact .inr q
    · exact .inl (List.mem_singleton.mp q)
  unfold gStep
  simp only [eg]
  by_cases q : z ∈ f
  · rw [if_pos q]
    refine ⟨⟨h.nd, h.f, fun x hx => h.w x (hdw x hx), fun x hx => ?_, fun ch hch hc x hx => ?_⟩, ?_⟩
    · rcases h.up x hx with r | r
      · exact .inl r
      · rcases hcase x r with r | r
        · exact .inl (r ▸ q)
        · exact .inr r
    · rcases h.cl ch hch hc x hx with r | r
      · exact .inl r
      · rcases hcase x r with r | r
        · exact .inl (r ▸ q)
        · exact .inr r
    · unfold gMu
      show (chs.length - f.length) * (b + 1) + w.dropLast.length < (chs.length - f.length) * (b + 1) + w.length
      omega
  · rw [if_neg q]
    obtain ⟨cz, hcz, ez, hget⟩ := lns_get nd hz
    rw [hget]
    have nd' : (f ++ [z]).Nodup := List.nodup_append.mpr ⟨h.nd, by simp, fun a ha b hb e => by rw [List.mem_singleton] at hb; subst hb; exact q (e ▸ ha)⟩
    have hf' : ∀ x ∈ f ++ [z], x ∈ chs.map (·.1) := fun x hx => by
      rcases List.mem_append.mp hx with r | r
      · exact h.f x r
      · rw [List.mem_singleton] at r; exact r ▸ hz
    refine ⟨⟨nd', hf', fun x hx => ?_, fun x hx => ?_, fun ch hch hc x hx => ?_⟩, ?_⟩
    · rcases List.mem_append.mp hx with r | r
      · exact h.w x (hdw x r)
      · exact hl cz hcz x r
    · rcases h.up x hx with r | r
      · exact .inl (List.mem_append_left _ r)
      · rcases hcase x r with r | r
        · exact .inl (by rw [r]; simp)
        · exact .inr (List.mem_append_left _ r)
    · have hc' : ch.1 ∈ f ++ [z] := hc
      rcases List.mem_append.mp hc' with r | r
      · rcases h.cl ch hch r x hx with r | r
        · exact .inl (List.mem_append_left _ r)
        · rcases hcase x r with r | r
          · exact .inl (by rw [r]; simp)
          · exact .inr (List.mem_append_left _ r)
      · rw [List.mem_singleton] at r
        obtain ⟨cy, hcy, ey, hget2⟩ := lns_get nd (z := ch.1) (List.mem_map.mpr ⟨ch, hch, rfl⟩)
        refine .inr (List.mem_append_right _ ?_)
        obtain ⟨i, hi⟩ := List.getElem?_of_mem hch
        have hil := (List.getElem?_eq_some_iff.mp hi).1
        have h3 := (lnsSt_ok nd chs.length (Nat.le_refl _)).2 i ch hi hil
        have h4 : aget (lnsD chs) z = some ch.2.1 := by rw [← r]; exact h3
        rw [hget] at h4
        rw [show (some cz.2.1).getD [] = cz.2.1 from rfl, Option.some.inj h4]
        exact hx
    · have hlen2 := nodup_len nd' hf'
      rw [List.length_append, List.length_map] at hlen2
      have hb' := hb cz hcz
      unfold gMu
      show (chs.length - (f ++ [z]).length) * (b + 1) + (w.dropLast ++ cz.2.1).length < (chs.length - f.length) * (b + 1) + w.length
      rw [List.length_append, List.length_append]
      have e1 : chs.length - f.length = (chs.length - (f.length + [z].length)) + 1 := by simp at hlen2 ⊢; omega
      rw [e1, Nat.add_mul, Nat.one_mul]
      omega
/-- the end of the run -/
theorem gRun_ok {chs : List Ch} {ns : List Str} {b : Nat} (nd : (chs.map (·.1)).Nodup) (hl : ∀ ch ∈ chs, ∀ z ∈ ch.2.1, z ∈ chs.map (·.1)) (hb : ∀ ch ∈ chs, ch.2.1.length ≤ b) :
    ∀ (n : Nat) (s : GS), GOn chs ns s → gMu chs.length b s ≤ n → GOn chs ns (gRun (lnsD chs) n s, [])
  | 0, s, h, hm => by
    obtain ⟨f, w⟩ := s
    have : w = [] := by
      unfold gMu at hm
      simp only at hm
      exact List.eq_nil_of_length_eq_zero (by omega)
    subst this
    exact h
  | n + 1, s, h, hm => by
    unfold gRun
    by_cases q : s.2 = []
    · rw [if_pos q]
      obtain ⟨f, w⟩ := s
      simp only at q
      subst q
      exact h
    · rw [if_neg q]
      obtain ⟨h1, h2⟩ := gStep_ok nd hl hb h q
      exact gRun_ok nd hl hb n _ h1 (by omega)
theorem ground_ok {chs : List Ch} {ns : List Str} {b : Nat} (nd : (chs.map (·.1)).Nodup) (hl : ∀ ch ∈ chs, ∀ z ∈ ch.2.1, z ∈ chs.map (·.1)) (hb : ∀ ch ∈ chs, ch.2.1.length ≤ b) (hn : ∀ z ∈ ns, z ∈ chs.map (·.1)) :
    GOn chs ns (ground chs ns b, []) :=
  gRun_ok nd hl hb _ _ ⟨by simp, by simp, hn, fun z h => Or.inr h, by simp⟩ (Nat.le_refl _)
/-- a part: closed under leaning -/
def closed (chs : List Ch) (g : List Str) : List Ch := chs.filter fun ch => decide (ch.1 ∈ g)
end MM

/-! Comprehensions over tuples; lists within what was told, that are changed. -/
namespace DD
open PySem PySem.Spec L2
section
variable {T : Tb} {X : Cx} {Γ : Ev} {e : Expr} {ds es : List D} {tg : Expr} {j j1 j2 : Nat}
def GoodT (K : PySem.W.Frag) (a : Addr) (ds : List D) : Zn → Hp → Ev → Prop := fun Z H Γ => ∃ vs, SqT K H a vs ∧ DaAll K (rg true Z H Γ) vs ds
theorem stp_tup {K : PySem.W.Frag} {a : Addr} : Stp T K (Itt K a) (gName j) ds.length [j] (upN j fun i => ds.getD i .non) (GoodT K a ds) where
  stop := fun Z H σ Γ g ⟨vs, e1, e2⟩ => ⟨vs, e1, by rw [e2.length]; exact Nat.le_refl _⟩
  turn := fun Z i H σ Γ hi g ⟨vs, e1, e2⟩ hj => by
    have hl := e2.length
    have hv : i < vs.length := by omega
    refine ⟨⟨vs, vs[i], e1, by simp [hv]⟩, fun v H' y Q q => ?_⟩
    obtain ⟨rfl, y⟩ := y
    have hx := y vs e1
    obtain ⟨d, hd, h⟩ := e2.get' hx
    have ed : ds.getD i .non = d := by simp [List.getD, hd]
    refine q _ _ (g.set (hj j (by simp)) (by dsimp only; rw [ed]; exact h)) (Ext.refl _) fun vs hvs => wipe_set1 (hvs j (by simp))
/-- a tuple -/
theorem src_tup (h : ED T X true Γ e (.tup ds)) : PI X tg e (tSrc T X.K Γ (gName j) ds.length [j] (upN j fun i => ds.getD i .non) fun _ => True) :=
  PI.imp' (pi_tup h) fun σ H R ⟨Z, g, q⟩ => ⟨Z, g, fun v H1 g1 x1 d1 => by
    cases d1 with
    | tup e1 e2 =>
      exact ⟨_, rfl, ⟨_, SqT.of (g1.sub _ _ e1)⟩, q _ (GoodT X.K _ ds) H1 g1 x1 stp_tup fun Z2 H2 σ2 Γ2 g2 sm _ _ => ⟨_, SqT.of (g2.sub _ _ (g2.base _ _ (sm _ _ e1))), (e2.to sm).to g2.base⟩⟩⟩
variable {elt iter : Expr} {scope : Scope} {pos tp : Pos} {x : Str} {α β : Type} {as : List α} {f : α → D} {t : Expr}
theorem mpT (j : Nat) (f' : β → D) {h : α → β} (nd : X.N.Nodup) (hn : as.length ≤ 16777216) (hi : ED T X true Γ iter (.tup (as.map f))) (ok : BlkOk X.N X.env.scope scope [(x, j)])
    (hg : ∀ (s : Shared) (H : Hp) (C : Addr) (cl : List (Str × Addr)) (fp : List Addr), PG (blkOf X scope s H C cl fp) (.Name x tp) (gName j))
    (he : ∀ (s : Shared) (H : Hp) (C : Addr) (cl : List (Str × Addr)) (fp : List Addr) (a : α), a ∈ as → ED T (blkOf X scope s H C cl fp) true ((Γ.set j none).set j (some (.sh (f a)))) elt (f' (h a)))
    (hj : j < Γ.length := by exact Nat.le_of_ble_eq_true rfl) (ho : owns (Γ.set j none) = owns Γ := by rfl) (hup : ∀ d, owns ((Γ.set j none).set j (some (.sh d))) = owns (Γ.set j none) := by intro _; rfl) (hc : X.calm = true := by rfl) (hs : ∀ x, foldedSetIterable iter X.env x = pure x := by intro _; rfl) :
    LD T X Γ (.ListComp elt [⟨.Name x tp, iter, [], 0⟩] scope pos) ((as.map h).map f') := by
  have hl : (as.map f).length = as.length := by simp
  refine LD.as (l_comp (g := gName j) (keep := fun _ => true) (val := fun i => (as[i]?.map fun a => f' (h a)).getD .non) hc nd (src_tup hi) ok hg (fun s H C cl fp i _ => PTs.mk fun pins s' σ H' Q I ⟨Z, g, q⟩ => (pts_nil (X := blkOf X scope s H C cl fp)).run pins s' σ H' Q I (q H' g (Ext.refl H'))) (fun s H C cl fp i hi' _ => ?_) (by rw [hl]; exact hn) (by simpa using hj) (by simp) trivial ho (fun i => hup _) hs) ?_
  · have hlt : i < as.length := by rw [← hl]; exact hi'
    have e : as[i]? = some as[i] := by simp [hlt]
    show ED T (blkOf X scope s H C cl fp) true ((Γ.set j none).set j (some (.sh ((as.map f).getD i .non)))) elt ((as[i]?.map fun a => f' (h a)).getD .non)
    rw [getD_map e, e]
    exact he s H C cl fp as[i] (List.getElem_mem hlt)
  · rw [hl, compD_list as (fun _ => true) (fun a => f' (h a)) _ _ (fun _ _ _ => rfl) (fun i a e => by simp [e]) as.length (Nat.le_refl _), List.take_length, List.filter_eq_self.mpr (by simp), List.map_map]
    rfl
end

/-! ### what was told, and is changed within -/
def flatD : D → Bool
  | .non => true
  | .bl _ => true
  | .int _ => true
  | .str _ => true
  | _ => false
theorem Da.flat {K : PySem.W.Frag} {G G' : Hp} {v : V} {d : D} (h : Da K G v d) (hf : flatD d = true) : Da K G' v d := by
  cases h with
  | non => exact .non
  | bl b => exact .bl b
  | int i => exact .int i
  | str x q => exact .str x q
  | _ => cases hf
theorem DaAll.flat {K : PySem.W.Frag} {G G' : Hp} : ∀ {ds : List D} {vs : List V}, DaAll K G vs ds → ds.all flatD = true → DaAll K G' vs ds
  | [], _, h, _ => by cases h; exact .nil
  | d :: ds, _, h, hf => by
    rw [List.all_cons, Bool.and_eq_true] at hf
    cases h with
    | cons h1 h2 => exact .cons (h1.flat hf.1) (DaAll.flat h2 hf.2)
theorem SqT.ext {K : PySem.W.Frag} {H H' : Hp} (x : Ext H H') {a : Addr} {xs : List V} (h : SqT K H a xs) : SqT K H' a xs := by
  rcases h with (h | ⟨o, h⟩) | h
  · exact .inl (.inl (x.1 _ _ h (fun _ z => by cases z)))
  · exact .inl (.inr ⟨o, x.1 _ _ h (fun _ z => by cases z)⟩)
  · exact .inr h
theorem owns_all {Γ : Ev} (h : owns Γ = []) {i : Nat} {p : Addr} {d : D} : Γ[i]? ≠ some (some (.ow p d)) := fun e => by
  have := mem_owns.mpr ⟨i, d, e⟩
  rw [h] at this
  simp at this
theorem owns_setNone {Γ : Ev} (h : owns Γ = []) (i : Nat) : owns (Γ.set i none) = [] := by
  have := owns_drop Γ i none (fun p d z => by cases z)
  rw [h] at this
  exact List.sublist_nil.mp this
theorem owns_setSh {Γ : Ev} (h : owns Γ = []) (i : Nat) (d : D) : owns (Γ.set i (some (.sh d))) = [] := by
  have := owns_drop Γ i (some (.sh d)) (fun p d z => by cases z)
  rw [h] at this
  exact List.sublist_nil.mp this
section
variable {T : Tb} {K : PySem.W.Frag} {Z : Zn} {H : Hp} {σ : St} {Γ : Ev}
theorem rg_none2 {G0 H0 B H : Hp} {Γ : Ev} (ow : owns Γ = []) {m : Bool} : rg m ⟨G0, H0, B, []⟩ H Γ = gr G0 H0 H := by
  funext a
  unfold rg
  rw [ow]
  simp
theorem gr_self {G H : Hp} (s : Same G H) (n : NoTbl G) : Same G (gr G H H) := fun a o e => by
  unfold gr
  rw [nt_of (s a o e) (fun ps z => by subst z; exact n a ps e)]
  cases o <;> first | rfl | exact e
theorem GOk.freeze (g : GOk T K Z H σ Γ) (ow : owns Γ = []) : GOk T K ⟨rg true Z H Γ, H, fun _ => none, []⟩ H σ Γ := by
  refine ⟨g.sub, rg_noTbl g, Ext.refl H, g.tab, by rw [ow]; exact List.nodup_nil, fun p hp => ?_, fun p hp => ?_, g.len, fun i s e => ?_, fun a o e => by cases e⟩
  · rw [ow] at hp; simp at hp
  · simp at hp
  · obtain ⟨v, e1, e2⟩ := g.slots i s e
    cases s with
    | sh d =>
      refine ⟨v, e1, ?_⟩
      show Da K (rg true ⟨rg true Z H Γ, H, fun _ => none, []⟩ H Γ) v d
      rw [rg_none2 ow]
      exact Da.to e2 (gr_self g.sub (rg_noTbl g))
    | ow p d => exact absurd e (owns_all ow)
end
def Nw (Z : Zn) (H : Hp) (n : Nat) (p : Addr) : Prop := nt Z.H0 p = none ∧ ∃ xs, H p = some (.lst xs) ∧ xs.length ≤ n
structure S2 (K : PySem.W.Frag) (Z : Zn) (H : Hp) (σ : St) (Γo : Ev) (i n : Nat) : Prop where
  ex : Z.ex = []
  b : ∀ a, Z.B a = none
  own : owns Γo = []
  len : σ.length = Γo.length
  old : ∀ (j : Nat) (d : D), Γo[j]? = some (some (.sh d)) → ∃ v, σ[j]? = some (some v) ∧ Da K Z.G0 v d
  nw : ∃ t v0 p1 p2, σ[i]? = some (some (.ref t)) ∧ SqT K H t [v0, .ref p1, .ref p2] ∧ Nw Z H n p1 ∧ Nw Z H n p2
theorem S2.ext {K : PySem.W.Frag} {Z : Zn} {H H' : Hp} {σ : St} {Γo : Ev} {i n : Nat} (s : S2 K Z H σ Γo i n) (x : Ext H H') : S2 K Z H' σ Γo i n := by
  obtain ⟨t, v0, p1, p2, h1, h2, ⟨a1, xs, a2, a3⟩, b1, ys, b2, b3⟩ := s.nw
  exact ⟨s.ex, s.b, s.own, s.len, s.old, t, v0, p1, p2, h1, SqT.ext x h2, ⟨a1, xs, x.1 _ _ a2 (fun _ z => by cases z), a3⟩, b1, ys, x.1 _ _ b2 (fun _ z => by cases z), b3⟩
def tS2 (T : Tb) (K : PySem.W.Frag) (Γ Γo : Ev) (i n : Nat) (P : Pst) : TS := fun E σ H => ∃ Z, GOk T K Z H σ Γ ∧ S2 K Z H σ Γo i n ∧ FinP T K Z P E
abbrev S2D (T : Tb) (X : Cx) (Γ Γo : Ev) (i n : Nat) (sts : List Stmt) (P : Pst) : Prop := PSs X sts (tS2 T X.K Γ Γo i n P)
section
variable {T : Tb} {X : Cx} {Γ Γo : Ev} {m : Bool} {e a b c : Expr} {d d0 : D} {pos px p : Pos} {i n : Nat} {x y : Str} {ds l1 l2 : List D} {rest body th el : List Stmt} {P : Pst} {k : Bool} {es' : List Expr} {q : Nat} {ps : List Str}
theorem FinP.freeze {Z : Zn} {H : Hp} {σ : St} {E : Ends} (g : GOk T X.K Z H σ Γ) (f : FinP T X.K Z P E) (hnx : ∀ Γ', ¬ P.nx Γ') (hxc : ∀ c Γ', ¬ P.xc c Γ') (hrm : ∀ d Γ', ¬ P.rm d Γ') (hh0 : P.h0 = none) : FinP T X.K ⟨rg true Z H Γ, H, fun _ => none, []⟩ P E :=
  ⟨fun Γ' σ' H' h _ => absurd h (hnx Γ'), fun d v H' h x t da => f.rt d v H' h (g.ext.trans x) t (da.to fun a o e => rg_gr a o (rg_after g x a o e)), fun es p ws H' h x t hp da => f.rl es p ws H' h (g.ext.trans x) t hp (da.to fun a o e => rg_gr a o (rg_after g x a o e)), fun d a dx p H' h x t hp ha ho => f.ro d a dx p H' h (g.ext.trans x) t (g.ext.free' hp) (rg_gr _ _ (rg_after g x _ _ ha)) (ho.to (fun b o w => by
    by_cases hb : b = p
    · rw [hb, mns_self] at w; cases w
    · rw [mns_ne hb] at w ⊢
      exact rg_gr _ _ (rg_after g x _ _ w)) fun o w _ => w), fun c Γ' σ' H' h _ => absurd h (hxc c Γ'), fun d v H' h x t da => f.rn d v H' h (g.ext.trans x) t (da.to (gr_old g.ext x)), fun d Γ' v σ' H' h _ => absurd h (hrm d Γ'), fun h e => by rw [hh0] at e; cases e⟩
/-- name = f(..), a new tuple (text, list, list); what stood ahead stands by itself from here on -/
theorem s2_set (i : Nat) {R : List D → D → Prop} (nd : X.N.Nodup) (C : Cal X.prog X.w X.K X.mg X.base x ps q (spE T X.K R)) (hr : Room q X.A) (h : R ds (.tup [d0, .lst l1, .lst l2])) (hf : ds.all flatD = true) (h1 : l1.length ≤ n) (h2 : l2.length ≤ n) (ha : AD T X false Γ (a :: es') ds) (ow : owns Γ = []) (hnx : ∀ Γ', ¬ P.nx Γ')
    (hrest : S2D T X (Γ.set i (some (.sh (.tup [d0, .lst l1, .lst l2])))) (Γ.set i none) i n rest P)
    (hxc : ∀ c Γ', ¬ P.xc c Γ' := by exact fun _ _ h => h) (hrm : ∀ d Γ', ¬ P.rm d Γ' := by exact fun _ _ h => h) (hh0 : P.h0 = none := by rfl) (hg : Gl X x := by rfl) (hdb : (x == ("__debug__" : Str)) = false := by decide)
    (he : starEach (a :: es') X.env = (false, eval a X.env) :: starEach es' X.env := by rfl) (hpl : (backTo pos (starEach es' X.env)).any (·.1) = false := by rfl) {spos : Pos}
    (hl : i < Γ.length := by exact Nat.le_of_ble_eq_true rfl) (hi : X.N[i]? = some y := by rfl) (hx : Loc X.env.scope y := by first | exact .inl rfl | exact .inr rfl)
    (hs : swapsWith (.Call (.Name x p) (a :: es') [] pos) (some (.Name y px)) spos.line X.env = pure false := by rfl) (hfn : X.fn y = true ∨ X.env.scope.names.lookup y = some .local := by first | exact .inl rfl | exact .inr rfl) :
    SD T X Γ (.Assign [.Name y px] (.Call (.Name x p) (a :: es') [] pos) spos :: rest) P := by
  obtain ⟨f, fd, hm, hk, hb, F⟩ := C.ex
  refine s_seq (ps_set nd hi hx (pe_call F hr hg hm hk.1 hb .nil pass0 ha hdb he hpl) hs hfn) hrest fun E σ H ⟨Z, g, ff⟩ => ⟨Z, g, fun vs H1 g1 x1 d1 => ?_⟩
  dsimp only
  rw [List.append_nil]
  refine ⟨fun _ => none, ds, _, (fun a o e => by cases e), (fun a ps e => by cases e), d1.flat hf, h, g1.tab, fun v H2 x2 t2 d2 => ?_⟩
  have gf := (g1.freeze ow).to x2 t2
  have sm : Same (gr (fun _ => none) H1 H2) (rg true ⟨rg true Z H1 Γ, H1, fun _ => none, []⟩ H2 Γ) := fun a o e => by
    rw [rg_none2 ow]
    unfold gr at e ⊢
    cases hh : nt H1 a with
    | none => rw [hh] at e; exact e
    | some o1 =>
      rw [hh] at e
      cases o1 with
      | tup xs => exact e
      | _ => cases e
  have fr : ∀ {p : Addr} {xs : List V}, gr (fun _ => none) H1 H2 p = some (.lst xs) → nt H1 p = none ∧ H2 p = some (.lst xs) := fun {p xs} e => by
    unfold gr at e
    cases hh : nt H1 p with
    | none =>
      rw [hh] at e
      exact ⟨rfl, (nt_some e).1⟩
    | some o1 =>
      rw [hh] at e
      cases o1 <;> cases e
  have hil : i < σ.length := by rw [g1.len]; exact hl
  refine ⟨_, gf.set hl (d2.to sm), ⟨rfl, fun _ => rfl, owns_setNone ow i, by rw [List.length_set, List.length_set]; exact g1.len, fun j d hj => ?_, ?_⟩, FinP.freeze g1 ff hnx hxc hrm hh0⟩
  · have hij : i ≠ j := fun e => by
      subst e
      rw [List.getElem?_set_self hl] at hj
      cases hj
    rw [List.getElem?_set_ne hij] at hj
    obtain ⟨v', e1, e2⟩ := g1.slots j _ hj
    exact ⟨v', by rw [List.getElem?_set_ne hij]; exact e1, e2⟩
  · cases d2 with
    | tup t1 t2 =>
      cases t2 with
      | cons u1 u2 =>
        cases u2 with
        | cons u2 u3 =>
          cases u3 with
          | cons u3 u4 =>
            cases u4
            cases u2 with
            | lst a1 a2 =>
              cases u3 with
              | lst b1 b2 =>
                obtain ⟨f1, f2⟩ := fr a1
                obtain ⟨f3, f4⟩ := fr b1
                refine ⟨_, _, _, _, List.getElem?_set_self hil, SqT.of (gf.sub _ _ (sm _ _ t1)), ⟨f1, _, f2, by rw [a2.length]; exact h1⟩, f3, _, f4, by rw [b2.length]; exact h2⟩
theorem s2_ift (hc : BD T X Γ c k) (h1 : k = true → SD T X Γ th { P with nx := fun _ => False }) (hr : k = false → S2D T X Γ Γo i n rest P) : S2D T X Γ Γo i n (.If c th [] pos :: rest) P := by
  cases k with
  | true => exact s_seq (ps_if hc (h1 rfl) pss_never) pss_never fun E σ H ⟨Z, g, s, f⟩ => ⟨Z, g, fun H1 g1 x1 => iteT ⟨Z, g1, ⟨fun Γ' σ' H' w g' => False.elim w, f.rt, f.rl, f.ro, f.xc, f.rn, f.rm, f.h0⟩⟩⟩
  | false => exact s_seq (ps_if hc pss_never pss_nil) (hr rfl) fun E σ H ⟨Z, g, s, f⟩ => ⟨Z, g, fun H1 g1 x1 => iteF ⟨Z, g1, s.ext x1, f⟩⟩
/-- back: what is new is forgotten -/
theorem S2.gok {Z : Zn} {H H' : Hp} {σ : St} (g : GOk T X.K Z H σ Γ) (s : S2 X.K Z H σ Γo i n) (x : Ext Z.H0 H') (t : LamX.Tabs T H') : GOk T X.K Z H' σ Γo := by
  have eo : Z.ex ++ owns Γo = [] := by rw [s.ex, s.own]; rfl
  refine ⟨g.g0, g.gt, x, t, by rw [eo]; exact List.nodup_nil, fun p hp => ?_, fun p hp => ?_, s.len, fun j sl hj => ?_, fun a o e => ?_⟩
  · rw [eo] at hp; simp at hp
  · rw [s.ex] at hp; simp at hp
  · cases sl with
    | sh d =>
      obtain ⟨v, e1, e2⟩ := s.old j d hj
      refine ⟨v, e1, ?_⟩
      show Da X.K (rg true Z H' Γo) v d
      refine e2.to fun a o e => ?_
      have h0 := g.g0 a o e
      unfold rg
      rw [eo, if_neg (by simp)]
      unfold gr
      rw [nt_of h0 (fun ps z => by subst z; exact g.gt a ps e)]
      cases o <;> first | rfl | exact e
    | ow p d => exact absurd hj (owns_all s.own)
  · rw [s.b a] at e; cases e
theorem s2_back (h : SD T X Γo rest P) : S2D T X Γ Γo i n rest P := PSs.imp' h fun E σ H ⟨Z, g, s, f⟩ => ⟨Z, s.gok g g.ext g.tab, f⟩
theorem ext_of_upd {Z : Zn} {H : Hp} {p : Addr} {o : HO} (x : Ext Z.H0 H) (h : nt Z.H0 p = none) : Ext Z.H0 (upd H p o) := ext_upd_new x h
theorem S2.upd {K : PySem.W.Frag} {Z : Zn} {H : Hp} {σ : St} {n' : Nat} (s : S2 K Z H σ Γo i n) {p : Addr} {xs ys : List V} (h : H p = some (.lst xs)) (hn : n ≤ n') (hy : ys.length ≤ n') : S2 K Z (upd H p (.lst ys)) σ Γo i n' := by
  obtain ⟨t, v0, p1, p2, h1, h2, ⟨a1, as, a2, a3⟩, b1, bs, b2, b3⟩ := s.nw
  refine ⟨s.ex, s.b, s.own, s.len, s.old, t, v0, p1, p2, h1, ?_, ⟨a1, ?_⟩, b1, ?_⟩
  · rcases h2 with (h2 | ⟨o, h2⟩) | h2
    · exact .inl (.inl (by rw [upd_ne (fun z => by subst z; rw [h] at h2; cases h2)]; exact h2))
    · exact .inl (.inr ⟨o, by rw [upd_ne (fun z => by subst z; rw [h] at h2; cases h2)]; exact h2⟩)
    · exact .inr h2
  · by_cases z : p1 = p
    · subst z; exact ⟨ys, upd_same, hy⟩
    · exact ⟨as, by rw [upd_ne z]; exact a2, by omega⟩
  · by_cases z : p2 = p
    · subst z; exact ⟨ys, upd_same, hy⟩
    · exact ⟨bs, by rw [upd_ne z]; exact b2, by omega⟩
variable {apos cpos xp ixp cp : Pos} {ck : Nat}
/-- name[1].append(e) -/
theorem s2_append1 (he : ED T X true Γ e d) (hn : n < 16777216) (hrest : S2D T X Γo Γo i (n + 1) rest P)
    (hN : X.N[i]? = some x := by rfl) (hv : Vis X.env.scope x := by first | exact Or.inl rfl | exact Or.inr (Or.inl rfl) | exact Or.inr (Or.inr rfl)) (hd : (x == ("__debug__" : Str)) = false := by decide)
    (hcd : (x == ("__classdict__" : Str)) = false := by decide) (hpx : PlainIx (.Constant (.int 1) ck cp) := by exact fun _ _ => rfl) (hs1 : starEach [e] X.env = (false, eval e X.env) :: starEach [] X.env := by rfl) (hbase : attributeBase (.Subscript (.Name x xp) (.Constant (.int 1) ck cp) ixp) "append" X.env (eval (.Subscript (.Name x xp) (.Constant (.int 1) ck cp) ixp) X.env) = eval (.Subscript (.Name x xp) (.Constant (.int 1) ck cp) ixp) X.env := by rfl)
    (hfew : ((backTo cpos (starEach [e] X.env)).all (fun x => !x.1) && (backToKw cpos (keywordEach [] X.env)).all (fun x => x.1.isSome) && decide ([e].length + ([] : List Keyword).length + (if ([] : List Keyword).isEmpty then 0 else 1) < 30)) = true := by rfl)
    (hline : (apos.endLine == cpos.line) = true := by rfl) (hs : swapsWith (.Call (.Attribute (.Subscript (.Name x xp) (.Constant (.int 1) ck cp) ixp) "append" apos) [e] [] cpos) none pos.line X.env = pure false := by rfl) :
    S2D T X Γ Γo i n (.Expr (.Call (.Attribute (.Subscript (.Name x xp) (.Constant (.int 1) ck cp) ixp) "append" apos) [e] [] cpos) pos :: rest) P :=
  s_seq (ps_expr (pe_bm PySem.F.plainAttrs_list PySem.F.slot_list_append PySem.F.type_list_append mt_append (pe_ix ix_tup (pe_var hN hv hd hcd) pe_int hpx) (pa_cons he pa_nil hs1) hbase hfew hline hs1) hs) hrest fun E σ H ⟨Z, g, s, f⟩ => by
    obtain ⟨t, v0, p1, p2, h1, h2, ⟨a1, as, a2, a3⟩, b1, bs, b2, b3⟩ := s.nw
    refine ⟨_, h1, t, _, 1, .ref p1, rfl, rfl, h2, rfl, .inl ⟨rfl, _, SqL.of a2⟩, Z, g, fun v H1 g1 x1 d1 => ?_⟩
    have a2' := x1.1 _ _ a2 (fun _ z => by cases z)
    have s1 := s.ext x1
    refine ⟨p1, as, v, rfl, rfl, a2', by rw [sizeLine_eq]; omega, Z, s1.gok g1 (ext_of_upd g1.ext a1) (tabs_upd g1.tab (.inl ⟨_, a2'⟩)), s1.upd a2' (by omega) (by simp; omega), f⟩
/-- name[2].clear() -/
theorem s2_clear2 (hrest : S2D T X Γo Γo i n rest P)
    (hN : X.N[i]? = some x := by rfl) (hv : Vis X.env.scope x := by first | exact Or.inl rfl | exact Or.inr (Or.inl rfl) | exact Or.inr (Or.inr rfl)) (hd : (x == ("__debug__" : Str)) = false := by decide)
    (hcd : (x == ("__classdict__" : Str)) = false := by decide) (hpx : PlainIx (.Constant (.int 2) ck cp) := by exact fun _ _ => rfl) (hbase : attributeBase (.Subscript (.Name x xp) (.Constant (.int 2) ck cp) ixp) "clear" X.env (eval (.Subscript (.Name x xp) (.Constant (.int 2) ck cp) ixp) X.env) = eval (.Subscript (.Name x xp) (.Constant (.int 2) ck cp) ixp) X.env := by rfl)
    (hline : (apos.endLine == cpos.line) = true := by rfl) (hs : swapsWith (.Call (.Attribute (.Subscript (.Name x xp) (.Constant (.int 2) ck cp) ixp) "clear" apos) [] [] cpos) none pos.line X.env = pure false := by rfl) :
    S2D T X Γ Γo i n (.Expr (.Call (.Attribute (.Subscript (.Name x xp) (.Constant (.int 2) ck cp) ixp) "clear" apos) [] [] cpos) pos :: rest) P :=
  s_seq (ps_expr (pe_bm0 PySem.F.plainAttrs_list PySem.F.slot_list_clear PySem.F.type_list_clear mt_clear (pe_ix ix_tup (pe_var hN hv hd hcd) pe_int hpx) hbase hline) hs) hrest fun E σ H ⟨Z, g, s, f⟩ => by
    obtain ⟨t, v0, p1, p2, h1, h2, ⟨a1, as, a2, a3⟩, b1, bs, b2, b3⟩ := s.nw
    refine ⟨_, h1, t, _, 2, .ref p2, rfl, rfl, h2, rfl, .inl ⟨rfl, _, SqL.of b2⟩, p2, bs, rfl, rfl, b2, Z, s.gok g (ext_of_upd g.ext b1) (tabs_upd g.tab (.inl ⟨_, b2⟩)), s.upd b2 (Nat.le_refl _) (by simp), f⟩
end
end DD

/-! Defs that make lambdas. -/
namespace DD
open PySem PySem.Spec L2
/-- the def x, its code object, its table of codes -/
structure DfC (T : Tb) (K : PySem.W.Frag) (mg : Str → Option Value) (base : Heap) (x : Str) (st : Stmt) : Prop where
  ex : ∃ f fd c P, mg x = some (.ref f) ∧ FunD K x x (defArgs st) (defBody st) (defScope st) [] [] f fd ∧ fd.code = .ref c ∧ LamX.TabB base mg c P ∧ (P, x ++ (".<locals>." : Str) ++ ("<lambda>" : Str)) ∈ T ∧ ∀ p ∈ T, p.1 = P → p.2 = x ++ (".<locals>." : Str) ++ ("<lambda>" : Str)
section
variable {T : Tb} {P : Program} {w : World} {K : PySem.W.Frag} {mg : Str → Option Value} {base : Heap} {x : Str} {st : Stmt} {N ps : List Str} {k : Nat}
theorem cal_EC {R : List D → D → Prop} (F : DfC T K mg base x st) (S : FnScope N ps (defScope st)) (hb : ∀ (kV doc pm : Value) (an : Option Addr) (cdv ct : Value) (us : List Value), us.length = ps.length → bindArgs (PySem.W.fnOf x x (defArgs st) (defBody st) (defScope st) .none kV doc pm an cdv ct) ⟨us, []⟩ = pure (ps.zip us))
    (hlen : ∀ ds d, R ds d → ds.length = ps.length) (hpn : ps.length ≤ N.length)
    (hbody : ∀ (f : Addr) (cdv : Value) (A : Around) (outer : List Env) (s : Shared) (H : Hp) (E : XK), Room k (cxN P w K mg base N x (defScope st) f cdv A outer s H E).A → LamT T (cxN P w K mg base N x (defScope st) f cdv A outer s H E) → ∀ ds d, R ds d → SD T (cxN P w K mg base N x (defScope st) f cdv A outer s H E) (env0 N.length ds) (defBody st) { nx := fun _ => d = .non, rt := fun d' => d' = d, rl := fun es => d = .lst es }) :
    Cal P w K mg base x ps (k + 1) (spE T K R) := by
  obtain ⟨f, fd, c, Pt, hm, F, hc, tb, t1, t2⟩ := F.ex
  obtain ⟨a1, a2, a3, a4, a5, a6, a7, cdv, a9, b1, rfl, b3, b4, b5, b6⟩ := id F.ex
  have ec : cdv = .ref c := hc
  refine ⟨f, _, hm, (DD.FunD.keepF F), F.bindsN hb, fn_of b3 b4 S (fun vs H Q E ⟨G, ds, d, h1, h2, h3, h4, _⟩ => by rw [h3.length]; exact hlen _ _ h4) fun A outer s H vs Q E hr h => ?_⟩
  obtain ⟨G, ds, d, h1, h2, h3, h4, h5, q⟩ := h
  have hl := hlen _ _ h4
  have hl3 := h3.length
  refine ⟨_, (hbody f cdv A outer s H E hr ⟨c, Pt, tb, ec, t1, t2⟩ ds d h4).nox, ⟨G, H, fun _ => none, []⟩, start_ok h1 h2 h3 h5 (by omega), ?_⟩
  refine ⟨fun Γ' σ' H' e g' => ?_, fun d' v H' e x t da => ?_, fun es p ws H' e x t hp da => ?_, fun _ _ _ _ _ e => False.elim e, fun _ _ _ _ e => False.elim e, fun _ _ _ e => False.elim e, fun _ _ _ _ _ e => False.elim e, fun _ e => nomatch e⟩
  · refine q _ _ g'.ext g'.tab ?_
    rw [e]
    exact .non
  · subst e
    exact q v H' x t da
  · refine q _ _ (x.trans (Ext.upd hp)) (t.ext (same_upd hp)) ?_
    rw [e]
    have hg : gr G H (upd H' p (.lst ws)) p = some (.lst ws) := by
      unfold gr
      rw [x.free hp]
      exact nt_of upd_same (fun ps z => by cases z)
    exact .lst hg (da.to (gr_ext (Ext.upd hp)))
theorem cal_LC {R : List D → List D → Prop} (F : DfC T K mg base x st) (S : FnScope N ps (defScope st)) (hb : ∀ (kV doc pm : Value) (an : Option Addr) (cdv ct : Value) (us : List Value), us.length = ps.length → bindArgs (PySem.W.fnOf x x (defArgs st) (defBody st) (defScope st) .none kV doc pm an cdv ct) ⟨us, []⟩ = pure (ps.zip us))
    (hlen : ∀ ds d, R ds d → ds.length = ps.length) (hpn : ps.length ≤ N.length)
    (hbody : ∀ (f : Addr) (cdv : Value) (A : Around) (outer : List Env) (s : Shared) (H : Hp) (E : XK), Room k (cxN P w K mg base N x (defScope st) f cdv A outer s H E).A → LamT T (cxN P w K mg base N x (defScope st) f cdv A outer s H E) → ∀ ds es, R ds es → SD T (cxN P w K mg base N x (defScope st) f cdv A outer s H E) (env0 N.length ds) (defBody st) { rl := fun es' => es' = es }) :
    Cal P w K mg base x ps (k + 1) (spL T K R) := by
  obtain ⟨f, fd, c, Pt, hm, F, hc, tb, t1, t2⟩ := F.ex
  obtain ⟨a1, a2, a3, a4, a5, a6, a7, cdv, a9, b1, rfl, b3, b4, b5, b6⟩ := id F.ex
  have ec : cdv = .ref c := hc
  refine ⟨f, _, hm, (DD.FunD.keepF F), F.bindsN hb, fn_of b3 b4 S (fun vs H Q E ⟨G, ds, d, h1, h2, h3, h4, _⟩ => by rw [h3.length]; exact hlen _ _ h4) fun A outer s H vs Q E hr h => ?_⟩
  obtain ⟨G, ds, es, h1, h2, h3, h4, h5, q⟩ := h
  have hl := hlen _ _ h4
  have hl3 := h3.length
  refine ⟨_, (hbody f cdv A outer s H E hr ⟨c, Pt, tb, ec, t1, t2⟩ ds es h4).nox, ⟨G, H, fun _ => none, []⟩, start_ok h1 h2 h3 h5 (by omega), ?_⟩
  exact ⟨fun Γ' σ' H' e g' => False.elim e, fun d' v H' e x t da => False.elim e, fun es' p ws H' e x t hp da => by subst e; exact q p ws H' x t hp da, fun _ _ _ _ _ e => False.elim e, fun _ _ _ _ e => False.elim e, fun _ _ _ e => False.elim e, fun _ _ _ _ _ e => False.elim e, fun _ e => nomatch e⟩
end
end DD

/-! Several new things at once, names captured. -/
namespace DD
open PySem PySem.Spec L2
section
variable {T : Tb} {X : Cx} {Γ : Ev} {pos : Pos} {i j l : Nat} {rest : List Stmt} {P : Pst}
/-- a, b, c = [], {}, {} (the dicts from marks), some of the names captured -/
theorem s_par3c (i j l : Nat) {es : List Expr} {pb pc pa pt pt2 : Pos} {kt k2 : Nat} (hg : PG X (.Tuple es kt pt) (g3 X.K i j l)) (hr : ∀ p1 p2 p3, SD T X (((Γ.set i (some (.ow p1 (.lst [])))).set j (some (.ow p2 (.dit [] [])))).set l (some (.ow p3 (.dit [] [])))) rest P)
    (l1 : i < Γ.length := by exact Nat.le_of_ble_eq_true rfl) (l2 : j < Γ.length := by exact Nat.le_of_ble_eq_true rfl) (l3 : l < Γ.length := by exact Nat.le_of_ble_eq_true rfl)
    (hs : swapsWithSole [.Tuple es kt pt] (.Tuple [.List [] pa, .Dict [] [] pb, .Dict [] [] pc] k2 pt2) pos.line X.env = pure false := by rfl) (hw : swappedStores [.Tuple es kt pt] (.Tuple [.List [] pa, .Dict [] [] pb, .Dict [] [] pc] k2 pt2) X.env = pure none := by rfl) (h1 : (assignEach [.Tuple es kt pt] X.env).map (·.2) = [assign (.Tuple es kt pt) X.env] := by rfl)
    (hs1 : starEach [.List [] pa, .Dict [] [] pb, .Dict [] [] pc] X.env = (false, eval (.List [] pa) X.env) :: starEach [.Dict [] [] pb, .Dict [] [] pc] X.env := by rfl)
    (hs2 : starEach [.Dict [] [] pb, .Dict [] [] pc] X.env = (false, eval (.Dict [] [] pb) X.env) :: starEach [.Dict [] [] pc] X.env := by rfl) (hs3 : starEach [.Dict [] [] pc] X.env = (false, eval (.Dict [] [] pc) X.env) :: starEach [] X.env := by rfl) :
    SD T X Γ (.Assign [.Tuple es kt pt] (.Tuple [.List [] pa, .Dict [] [] pb, .Dict [] [] pc] k2 pt2) pos :: rest) P :=
  s_seq (u := fun E σ H => ∃ p1 p2 p3, tSt T X.K (((Γ.set i (some (.ow p1 (.lst [])))).set j (some (.ow p2 (.dit [] [])))).set l (some (.ow p3 (.dit [] [])))) P E σ H)
    (ps_asg (pe_tup (pa_cons (pe_lst pa_nil) (pa_cons pe_dnewT (pa_cons pe_dnewT pa_nil hs3) hs2) hs1)) hg hs hw h1) ⟨fun pins s σ H E I ⟨p1, p2, p3, h⟩ => (hr p1 p2 p3).run pins s σ H E I h⟩
    fun E σ H ⟨Z, g, f⟩ => ⟨Nat.zero_le _, fun p1 h1 p2 h2 p3 h3 => ⟨by rw [sizeLine_eq]; simp, fun p hp => ⟨_, _, rfl, SqT.of upd_same, rfl, _, _, rfl, _, _, rfl, _, _, rfl, rfl, p1, p2, p3, Z, by
      have g1 := g.newOw (i := i) (d := .lst []) l1 h1 ⟨[], upd_same, .nil⟩
      have g2 := g1.newOw (i := j) (d := .dit [] []) (by rw [List.length_set]; exact l2) h2 ⟨[], upd_same, rfl, .nil⟩
      have g3 := g2.newOw (i := l) (d := .dit [] []) (by rw [List.length_set, List.length_set]; exact l3) h3 ⟨[], upd_same, rfl, .nil⟩
      exact g3.new hp, f⟩⟩⟩
end
end DD

/-! Down a range; dict(pairs) with marks as keys. -/
namespace DD
open PySem PySem.Spec L2
section
variable {T : Tb} {X : Cx} {Γ : Ev} {m : Bool} {tg iter e a b c : Expr} {d : D} {pos tp : Pos} {j : Nat} {x : Str} {rest body : List Stmt} {P : Pst}
theorem stp_rangeC {K : PySem.W.Frag} {lo c : Int} {n : Nat} : Stp T K (Itc lo c n) (gName j) n [j] (upN j fun i => .int (lo + (i : Nat) * c)) fun _ _ _ => True where
  stop := fun Z H σ Γ g _ => Nat.le_refl n
  turn := fun Z i H σ Γ hi g _ hj => ⟨hi, fun v H' y Q q => by
    obtain ⟨rfl, rfl⟩ := y
    exact q _ _ (g.set (hj j (by simp)) (.int _)) (Ext.refl _) fun vs hvs => wipe_set1 (hvs j (by simp))⟩
theorem src_rangeD {n : Int} {p : Pos} (hm : X.mg "range" = none) (h1 : -(2 ^ 62) ≤ n) (h2 : n < 2 ^ 62) (ha : ED T X true Γ a (.int n)) (hb : ED T X true Γ b (.int (-1))) (hc : ED T X true Γ c (.int (-1))) (hg : Gl X "range" := by rfl)
    (hs : starEach [a, b, c] X.env = (false, eval a X.env) :: starEach [b, c] X.env := by rfl) (hs2 : starEach [b, c] X.env = (false, eval b X.env) :: starEach [c] X.env := by rfl) (hs3 : starEach [c] X.env = (false, eval c X.env) :: starEach [] X.env := by rfl) (hpl : (backTo pos (starEach [b, c] X.env)).any (·.1) = false := by rfl) :
    PI X tg (.Call (.Name "range" p) [a, b, c] [] pos) (tSrc T X.K Γ (gName j) (n + 1).toNat [j] (upN j fun i => .int (n - (i : Nat))) fun _ => True) :=
  PI.imp' (pi_range3 hg hm (a_cons ha (a_cons hb (a_cons hc a_nil hs3) hs2) hs) hs hpl) fun σ H R ⟨Z, g, q⟩ => ⟨Z, g, fun vs H1 g1 x1 d1 => by
    cases d1 with
    | cons h1' h2' =>
      cases h2' with
      | cons h2' h3' =>
        cases h3' with
        | cons h3' h4' =>
          cases h4'
          cases h1'
          cases h2'
          cases h3'
          have eu : (fun (i : Nat) => D.int (n + (i : Nat) * (-1))) = fun (i : Nat) => D.int (n - (i : Nat)) := by funext i; congr 1; omega
          have := stp_rangeC (T := T) (K := X.K) (j := j) (lo := n) (c := -1) (n := (n + 1).toNat)
          rw [eu] at this
          have hr := RgC.neg (i := n) (j := -1) h1 h2 (by decide) (by decide)
          rw [show n - -1 = n + 1 by omega] at hr
          exact ⟨n, -1, -1, _, rfl, hr, q _ (fun _ _ _ => True) H1 g1 x1 this fun _ _ _ _ _ _ _ _ => trivial⟩⟩
/-- for x in range(n, -1, -1) -/
theorem s_forD (j : Nat) {n : Int} {rp rpos : Pos} (Γs : Nat → Ev) (L : Nat) (hm : X.mg "range" = none) (ha : ED T X true Γ a (.int n)) (hb1 : ED T X true Γ b (.int (-1))) (hc1 : ED T X true Γ c (.int (-1))) (hg : PG X (.Name x tp) (gName j)) (h0 : Wk Γ (Γs 0)) (hL : ∀ k, (Γs k).length = L) (hj : j < L)
    (hb : ∀ (k : Nat), k < (n + 1).toNat → SD T X ((Γs k).set j (some (.sh (.int (n - (k : Nat)))))) body { P with nx := fun Γ' => Wk Γ' (Γs (k + 1)) }) (hr : SD T X (Γs (n + 1).toNat) rest P)
    (h1 : -(2 ^ 62) ≤ n := by omega) (h2 : n < 2 ^ 62 := by omega) (hp : PassesOwn (model X.prog X.w) X.A X.env X.xe := by first | exact PassesOwn.never | exact L2.passes_of rfl | assumption) (hc : X.calm = true := by rfl) (hgl : Gl X "range" := by rfl)
    (hs0 : starEach [a, b, c] X.env = (false, eval a X.env) :: starEach [b, c] X.env := by rfl) (hs2 : starEach [b, c] X.env = (false, eval b X.env) :: starEach [c] X.env := by rfl) (hs3 : starEach [c] X.env = (false, eval c X.env) :: starEach [] X.env := by rfl) (hpl : (backTo rpos (starEach [b, c] X.env)).any (·.1) = false := by rfl)
    (hs : ∀ x, foldedSetIterable (.Call (.Name "range" rp) [a, b, c] [] rpos) X.env x = pure x := by intro _; rfl) :
    SD T X Γ (.For (.Name x tp) (.Call (.Name "range" rp) [a, b, c] [] rpos) body [] pos :: rest) P := by
  exact s_for Γs L (src_rangeD hm h1 h2 ha hb1 hc1 hgl hs0 hs2 hs3 hpl) hg h0 (fun _ _ => trivial) hL (by simpa using hj) (fun k hk => hb k hk) hr hp hc hs
end

/-! ### dict(pairs), tuples as keys -/
abbrev QT := List Key × Addr × V
def PrQ (K : PySem.W.Frag) (H : Hp) (p : Addr) (q : QT) : Prop := SqT K H p [.ref q.2.1, q.2.2] ∧ H q.2.1 = some (.tup (q.1.map kV))
def mergeT (acc : List (List Key × V)) (qs : List QT) : List (List Key × V) := qs.foldl (fun acc q => putK acc q.1 q.2.2) acc
theorem mergeT_len : ∀ (qs : List QT) (acc : List (List Key × V)), (mergeT acc qs).length ≤ acc.length + qs.length
  | [], acc => Nat.le_refl _
  | q :: qs, acc => by
    have h1 := mergeT_len qs (putK acc q.1 q.2.2)
    have h2 := length_putK acc q.1 q.2.2
    show (mergeT (putK acc q.1 q.2.2) qs).length ≤ _
    rw [List.length_cons]
    omega
def RelQ (q : QT) (r : List Key × Addr × Value) : Prop := q.1 = r.1 ∧ q.2.1 = r.2.1 ∧ RelV q.2.2 r.2.2
theorem pairs_ofT {X : Cx} {pins : List (Addr × Obj)} {σ : St} {H : Hp} {s : Shared} (I : Inv X pins σ H s) : ∀ {ps : List Addr} {qs : List QT}, Paired (PrQ X.K H) ps qs →
    ∃ prs : List (List Key × Addr × Value), Paired RelQ qs prs ∧ prs.length = ps.length ∧ ∀ (j : Nat) (r : List Key × Addr × Value), prs[j]? = some r → ∃ b, ps[j]? = some b ∧ PyProof.Rows.IsTup s.heap b #[.ref r.2.1, r.2.2] ∧ H r.2.1 = some (.tup (r.1.map kV))
  | _, _, .nil => ⟨[], .nil, rfl, fun j q e => by simp at e⟩
  | _, _, .cons (a := p) (b := kv) h t => by
    obtain ⟨prs, r, hl, hp⟩ := pairs_ofT I t
    obtain ⟨its, rv, ht, _⟩ := I.tuple h.1
    obtain ⟨u, y, ei, ru, ry⟩ := vals2 rv
    subst ei
    cases (show u = Value.ref kv.2.1 from ru)
    refine ⟨(kv.1, kv.2.1, y) :: prs, .cons ⟨rfl, rfl, ry⟩ r, by rw [List.length_cons, List.length_cons, hl], fun j q e => ?_⟩
    cases j with
    | zero =>
      cases Option.some.inj e
      exact ⟨p, rfl, ht, h.2⟩
    | succ j =>
      obtain ⟨b, e1, e2, e3⟩ := hp j q (by simpa using e)
      exact ⟨b, by simpa using e1, e2, e3⟩
theorem KT.merge {H : Hp} : ∀ {qs : List QT} {prs : List (List Key × Addr × Value)} {acc : List (List Key × V)} {xs : List (List Key × Addr × Value)}, Paired RelQ qs prs → (∀ q ∈ qs, H q.2.1 = some (.tup (q.1.map kV))) → KT H acc xs →
    KT H (mergeT acc qs) (storedAllH xs prs)
  | _, _, _, _, .nil, _, k => k
  | _, _, acc, xs, .cons (a := q) (b := r) (l₁ := qs) (l₂ := rs) ⟨h1, h2, h3⟩ t, hq, k => by
    obtain ⟨r1, r2, r3⟩ := r
    simp only at h1 h2 h3
    subst h1 h2
    exact KT.merge (acc := putK acc q.1 q.2.2) (xs := storedH xs q.1 q.2.1 r3) t (fun z hz => hq z (List.mem_cons_of_mem _ hz)) (k.put q.1 (hq q (List.mem_cons_self)) h3)
theorem call_dictT {X : Cx} (hcalm : X.calm = true) (hu : X.A.units + 64 < cLine) : CallR X (.type "dict") (fun xs H Q => ∃ (a : Addr) (ps : List Addr) (qs : List QT), xs = [.ref a] ∧ SqL X.K H a (ps.map V.ref) ∧ Paired (PrQ X.K H) ps qs ∧ (∀ q ∈ qs, H q.2.1 = some (.tup (q.1.map kV))) ∧
    ∀ p, H p = none → Q (.ref p) (upd H p (.dT (mergeT [] qs)))) := by
  intro pins s σ H xs us Q I r q
  obtain ⟨a, ps, qs, ex, hq, hp, hk, q⟩ := q
  subst ex
  obtain ⟨u, eu, rx⟩ := vals1 r
  subst eu
  cases rx
  obtain ⟨its, rv, pl, hz⟩ := I.list hq
  have ei := refs_at rv
  subst ei
  rw [List.length_map] at hz
  obtain ⟨prs, rel, hl, hpr⟩ := pairs_ofT I hp
  obtain ⟨o, n, ho, hc, hd, hdat⟩ := pl
  have len1 : prs.length ≤ sizeLine := by rw [hl]; exact hz
  refine call_dict_pairsH (knd := tupleKind (mixKind X.prog X.w)) (ps := prs) (PairArg.list a (ps.map Value.ref).toArray (fun j => ps.getD j 0) (prs.map fun r => (Value.ref r.2.1, r.2.2))) (I.ok.hd hcalm) (show X.A.in1.in1.units < cLine from by show X.A.units + 1 + 1 < cLine; omega)
    ⟨⟨o, n, ho, hc, hd, hdat⟩, by simp [hl], fun j k v e => ?_⟩ ⟨by simp, fun i key v e => ?_⟩ (fun h' hkp x hx => ?_) (by simpa using len1) fun h' tk hd' k => ?_
  · rw [List.getElem?_map] at e
    cases e2 : prs[j]? with
    | none => rw [e2] at e; cases e
    | some r =>
      rw [e2] at e
      cases e
      obtain ⟨b, h1, h2, h3⟩ := hpr j r e2
      refine ⟨by rw [List.getElem?_toArray, List.getElem?_map, h1]; simp [h1], .inl ?_⟩
      show s.heap.IsTuple (ps.getD j 0) _
      rw [show ps.getD j 0 = b by simp [h1]]
      obtain ⟨o', g1, g2, n', g3⟩ := h2
      exact ⟨o', g1, g2, n', g3⟩
  · have e' : (prs.map fun r => (Value.ref r.2.1, r.2.2))[i]? = some (key, v) := e
    rw [List.getElem?_map] at e'
    cases e2 : prs[i]? with
    | none => rw [e2] at e'; cases e'
    | some r =>
      rw [e2] at e'
      cases e'
      exact ⟨r.1, r.2.1, rfl, rfl⟩
  · obtain ⟨j, hj⟩ := List.getElem?_of_mem hx
    obtain ⟨b, h1, h2, h3⟩ := hpr j x hj
    obtain ⟨o', its', n', g1, g2, g3, g4⟩ := key_of (P := X.prog) (w := X.w) I.hok h3
    exact ⟨o', its', n', hkp _ _ (Nat.ne_of_lt (Heap.lt_size g1)) (fun z => nomatch z) g1, g2, g3, g4⟩
  · have hm : (s.heap.objs.size == sysModules) = false := beq_eq_false_iff_ne.mpr (Nat.ne_of_gt I.big)
    have hfree := I.hok.fresh (Nat.le_refl s.heap.objs.size)
    have hlen : (mergeT [] qs).length ≤ sizeLine := by
      refine Nat.le_trans (mergeT_len qs []) ?_
      rw [List.length_nil, Nat.zero_add, Paired.length rel]
      exact len1
    obtain ⟨o', es, ep, hq', h2, h3, h4, _, h5⟩ := hd'
    have kt := KT.merge (acc := []) (xs := []) rel hk .nil
    refine ⟨.ref s.heap.objs.size, upd H s.heap.objs.size (.dT (mergeT [] qs)), I.laid (t' := tk) (fun b o e => k b o (fun z => nomatch z) e) (Nat.le_refl _) (show ObjOk X.prog X.w _ _ _ (.dT (mergeT [] qs)) from ⟨hlen, hm, _, kt.keeps fun c ys ec => ?_, o', es, ep, hq', h2, h3, h4, h5⟩), rfl, q _ hfree⟩
    rw [upd_ne (fun z => by rw [z, hfree] at ec; cases ec)]
    exact ec
section
variable {β : Type} {g : β → D} {T : Tb} {X : Cx} {Γ : Ev} {m : Bool} {e : Expr} {p pos : Pos}
def dictOf (ps : List (Mk × β)) : List (Mk × β) := ps.foldl (fun m p => aput m p.1 p.2) []
theorem da_pairsM {K : PySem.W.Frag} {G : Hp} : ∀ {ps : List (Mk × β)} {vs : List V}, DaAll K G vs (ps.map fun p => D.tup [eMk p.1, g p.2]) →
    ∃ (as : List Addr) (qs : List QT), vs = as.map V.ref ∧ Paired (PrQ K G) as qs ∧ (∀ q ∈ qs, G q.2.1 = some (.tup (q.1.map kV))) ∧ qs.map (fun q => q.1) = ps.map (fun p => kM p.1) ∧ DaAll K G (qs.map (fun q => q.2.2)) (ps.map fun p => g p.2)
  | [], _, h => by cases h; exact ⟨[], [], rfl, Paired.nil, by simp, rfl, .nil⟩
  | p :: ps, _, h => by
    cases h with
    | cons h1 h2 =>
      obtain ⟨as, qs, e1, e2, e3, e4, e5⟩ := da_pairsM h2
      subst e1
      cases h1 with
      | tup t1 t2 =>
        rename_i a xs
        cases t2 with
        | cons a1 a2 =>
          cases a2 with
          | cons a2 a3 =>
            cases a3
            obtain ⟨t, rfl, ht⟩ := DaAll.keyM a1
            rename_i w
            exact ⟨a :: as, (kM p.1, t, w) :: qs, rfl, .cons ⟨SqT.of t1, ht⟩ e2, fun q hq => by rcases List.mem_cons.mp hq with z | z; exact z ▸ ht; exact e3 q z, by simp [e4], .cons a2 e5⟩
theorem mergeT_da {K : PySem.W.Frag} {G : Hp} : ∀ {ps : List (Mk × β)} {qs : List QT} {m : List (Mk × β)} {kvs : List (List Key × V)}, qs.map (fun q => q.1) = ps.map (fun p => kM p.1) → DaAll K G (qs.map (fun q => q.2.2)) (ps.map fun p => g p.2) →
    kvs.map (fun p => p.1) = m.map (fun p => kM p.1) → DaAll K G (kvs.map (fun p => p.2)) (m.map fun p => g p.2) →
    (mergeT kvs qs).map (fun p => p.1) = (ps.foldl (fun m p => aput m p.1 p.2) m).map (fun p => kM p.1) ∧ DaAll K G ((mergeT kvs qs).map (fun p => p.2)) ((ps.foldl (fun m p => aput m p.1 p.2) m).map fun p => g p.2)
  | [], qs, m, kvs, e, _, h1, h2 => by
    have : qs = [] := List.map_eq_nil_iff.mp e
    subst this
    exact ⟨h1, h2⟩
  | p :: ps, qs, m, kvs, e, hd, h1, h2 => by
    cases qs with
    | nil => simp at e
    | cons q qs =>
      simp only [List.map_cons, List.cons.injEq] at e
      cases hd with
      | cons d1 d2 =>
        obtain ⟨r1, r2⟩ := putK_map kM kM_inj g p.1 p.2 d1 m kvs h1 h2
        have := mergeT_da (m := aput m p.1 p.2) (kvs := putK kvs (kM p.1) q.2.2) e.2 d2 r1 r2
        show (mergeT (putK kvs q.1 q.2.2) qs).map _ = _ ∧ DaAll K G ((mergeT (putK kvs q.1 q.2.2) qs).map _) _
        rw [e.1]
        exact this
/-- dict(pairs), the keys marks -/
theorem e_dictOfM {ps : List (Mk × β)} (hm : X.mg "dict" = none) (hu : X.A.units + 64 < cLine) (h : ED T X true Γ e (.lst (ps.map fun p => D.tup [eMk p.1, g p.2]))) (hc : X.calm = true := by rfl) (hg : Gl X "dict" := by rfl) (hs : starEach [e] X.env = (false, eval e X.env) :: starEach [] X.env := by rfl) :
    ED T X m Γ (.Call (.Name "dict" p) [e] [] pos) (mdic g (dictOf ps)) :=
  PE.imp' (pe_callTy (call_dictT hc hu) hg hm (by decide +kernel) (a_one h hs) (by decide) (by decide) hs (by rfl)) fun σ H Q ⟨Z, gz, q⟩ => ⟨Z, gz, fun vs H1 g1 x1 d1 => by
    cases d1 with
    | cons d1 d2 =>
      cases d2
      cases d1 with
      | lst e1 e2 =>
        obtain ⟨as, qs, r1, r2, r3, r4, r5⟩ := da_pairsM e2
        subst r1
        refine ⟨_, as, qs, rfl, SqL.of (g1.sub _ _ e1), Paired.mapP r2 fun _ _ z => ⟨SqT.mono g1.sub z.1, g1.sub _ _ z.2⟩, fun q hq => g1.sub _ _ (r3 q hq), fun p hp => ?_⟩
        obtain ⟨k1, k2⟩ := mergeT_da (m := []) (kvs := []) r4 r5 rfl .nil
        exact q _ _ (g1.new hp) (x1.trans (Ext.upd hp)) (.dit (rg_new g1 hp (fun _ z => by cases z)) k1 ((k2.to (rg_ext (Ext.upd hp))).to rg_stab))⟩
end
end DD

/-! Mirrors: steps between told lines. -/
namespace MM
open PySem PySem.Spec L2 DD
abbrev Tl := Mk × Str
/-- word, place, line -/
abbrev Sp := Str × Int × Option Str
def eSp (s : Sp) : D := .tup (.str s.1 :: .int s.2.1 :: eLn s.2.2)
theorem enc_tl : Enc eTl 2 := enc_pair enc_mk (enc_str.mono (by decide))
instance instDecSp : DecidableEq Sp := instDecidableEqProd
theorem enc_sp : Enc eSp 1 := ⟨fun a => by
    obtain ⟨w, m, l⟩ := a
    cases l <;> rfl, fun a => by
    obtain ⟨w, m, l⟩ := a
    cases l <;> simp [eSp, eLn, toPy, toPys, PyData.depth, PyData.depthAll], fun a b => by
    obtain ⟨w, m, l⟩ := a
    obtain ⟨w', m', l'⟩ := b
    have q3 := enc_str.eq w w'
    have q4 := enc_int.eq m m'
    simp only [toPy] at q3 q4
    cases l with
    | none => cases l' with
      | none =>
        simp only [eSp, eLn, toPy, toPys, PyData.eqv, PyData.eqvAll, Prod.mk.injEq] at *
        by_cases h1 : w = w' <;> by_cases h2 : m = m' <;> simp [h1, h2]
      | some z =>
        simp only [eSp, eLn, toPy, toPys, PyData.eqv, PyData.eqvAll, Prod.mk.injEq] at *
        simp
    | some y => cases l' with
      | none =>
        simp only [eSp, eLn, toPy, toPys, PyData.eqv, PyData.eqvAll, Prod.mk.injEq] at *
        simp
      | some z =>
        simp only [eSp, eLn, toPy, toPys, PyData.eqv, PyData.eqvAll, Prod.mk.injEq] at *
        by_cases h1 : w = w' <;> by_cases h2 : m = m' <;> by_cases h3 : y = z <;> simp [h1, h2, h3]⟩
def keys (a : List Tl) : List Mk := a.map (·.1)
def valAt (a : List Tl) (m : Mk) : Str := (aget a m).getD ""
def spOut (n : Int) : Sp := (("out" : Str), n, none)
def spPut (n : Int) (z : Str) : Sp := (("put" : Str), n, some z)
def spSay (n : Int) (z : Str) : Sp := (("say" : Str), n, some z)
def tlD : Tl := (mkD, "")
/-- the outs: turn k looks at place length - 1 - k -/
def outStep (one other : List Tl) (k : Nat) (s : List Sp) : List Sp :=
  if (one.getD (one.length - 1 - k) tlD).1 ∈ keys other then s else s ++ [spOut ((one.length : Int) - 1 - (k : Nat))]
def outSt (one other : List Tl) : Nat → List Sp := nrg (outStep one other) []
def outs (one other : List Tl) : List Sp := outSt one other one.length
def putStep (one : List Tl) (k : Nat) (p : Tl) (s : List Sp) : List Sp :=
  if p.1 ∈ keys one then (if valAt one p.1 = p.2 then s else s ++ [spSay (k : Int) p.2]) else s ++ [spPut (k : Int) p.2]
def putSt (one other : List Tl) : Nat → List Sp := nst (putStep one) (outs one other) other
def due (one other : List Tl) : List Sp := putSt one other other.length
theorem outSt_len (one other : List Tl) (n : Nat) : ∀ k, k ≤ n → (outSt one other k).length ≤ k :=
  nrg_inv (fun (k : Nat) (s : List Sp) => s.length ≤ k) (Nat.zero_le _) fun k s hk h => by
    unfold outStep
    split
    · omega
    · rw [List.length_append, List.length_singleton]; omega
theorem putSt_len (one other : List Tl) : ∀ k, k ≤ other.length → (putSt one other k).length ≤ one.length + k :=
  nst_inv (fun (k : Nat) (s : List Sp) => s.length ≤ one.length + k) (outSt_len one other one.length one.length (Nat.le_refl _)) fun k p s e h => by
    unfold putStep
    split
    · split
      · omega
      · rw [List.length_append, List.length_singleton]; omega
    · rw [List.length_append, List.length_singleton]; omega
/-! ### steps done -/
def doStep (l : List Str) (s : Sp) : List Str :=
  if s.1 = ("out" : Str) then l.eraseIdx s.2.1.toNat
  else if s.1 = ("put" : Str) then l.take s.2.1.toNat ++ [s.2.2.getD ""] ++ l.drop s.2.1.toNat
  else l.set s.2.1.toNat (s.2.2.getD "")
def okSp (l : List Str) (s : Sp) : Prop :=
  0 ≤ s.2.1 ∧ ((s.1 = ("out" : Str) ∧ s.2.1 < l.length) ∨ (s.1 = ("put" : Str) ∧ s.2.1 ≤ l.length ∧ ∃ z, s.2.2 = some z) ∨ (s.1 = ("say" : Str) ∧ s.2.1 < l.length ∧ ∃ z, s.2.2 = some z))
def doneS (l : List Str) : List Sp → List Str
  | [] => l
  | s :: r => doneS (doStep l s) r
def okRun (l : List Str) : List Sp → Prop
  | [] => True
  | s :: r => okSp l s ∧ okRun (doStep l s) r
theorem doneS_app (l : List Str) : ∀ a b : List Sp, doneS l (a ++ b) = doneS (doneS l a) b
  | [], b => rfl
  | s :: a, b => doneS_app (doStep l s) a b
theorem okRun_app (l : List Str) : ∀ a b : List Sp, okRun l a → okRun (doneS l a) b → okRun l (a ++ b)
  | [], b, _, h => h
  | s :: a, b, ⟨h1, h2⟩, h => ⟨h1, okRun_app (doStep l s) a b h2 h⟩
theorem okRun_take (l : List Str) : ∀ (a : List Sp) (k : Nat) (s : Sp), okRun l a → a[k]? = some s → okSp (doneS l (a.take k)) s
  | [], k, s, _, e => by simp at e
  | x :: a, 0, s, h, e => by cases e; exact h.1
  | x :: a, k + 1, s, h, e => okRun_take (doStep l x) a k s h.2 (by simpa using e)
def doneSt (l : List Str) (r : List Sp) : Nat → List Str := nst (fun _ s l => doStep l s) l r
theorem doneSt_eq (l : List Str) (r : List Sp) : ∀ k, k ≤ r.length → doneSt l r k = doneS l (r.take k) :=
  nst_inv (fun (k : Nat) (t : List Str) => t = doneS l (r.take k)) rfl fun k s t e h => by
    rw [h, List.take_add_one, e]
    show doStep _ s = doneS l (r.take k ++ [s])
    rw [doneS_app]
    rfl
theorem doStep_out (l : List Str) (n : Int) : doStep l (spOut n) = l.eraseIdx n.toNat := rfl
theorem doStep_put (l : List Str) (n : Int) (z : Str) : doStep l (spPut n z) = l.take n.toNat ++ [z] ++ l.drop n.toNat := by
  unfold doStep
  rw [if_neg (show ¬ (spPut n z).1 = ("out" : Str) from (by decide +kernel : ¬ ("put" : Str) = ("out" : Str))), if_pos (show (spPut n z).1 = ("put" : Str) from rfl)]
  rfl
theorem doStep_say (l : List Str) (n : Int) (z : Str) : doStep l (spSay n z) = l.set n.toNat z := by
  unfold doStep
  rw [if_neg (show ¬ (spSay n z).1 = ("out" : Str) from (by decide +kernel : ¬ ("say" : Str) = ("out" : Str))), if_neg (show ¬ (spSay n z).1 = ("put" : Str) from (by decide +kernel : ¬ ("say" : Str) = ("put" : Str)))]
  rfl
theorem okRun_one {l : List Str} {s : Sp} (h : okSp l s) : okRun l [s] := ⟨h, trivial⟩
/-! ### the outs -/
def snds (a : List Tl) : List Str := a.map (·.2)
/-- those of one that other has -/
def both (one other : List Tl) : List Tl := one.filter fun p => decide (p.1 ∈ keys other)
theorem erase_mid {α : Type} (a : List α) (x : α) (b : List α) : (a ++ x :: b).eraseIdx a.length = a ++ b := by
  rw [List.eraseIdx_append_of_length_le (Nat.le_refl _), Nat.sub_self]
  rfl
theorem outs_ok (one other : List Tl) : ∀ k, k ≤ one.length → okRun (snds one) (outSt one other k) ∧ doneS (snds one) (outSt one other k) = snds (one.take (one.length - k) ++ both (one.drop (one.length - k)) other) :=
  nrg_inv (fun (k : Nat) (s : List Sp) => okRun (snds one) s ∧ doneS (snds one) s = snds (one.take (one.length - k) ++ both (one.drop (one.length - k)) other)) ⟨trivial, by simp [doneS, both]⟩ fun k s hk ⟨h1, h2⟩ => by
    have hlt : one.length - 1 - k < one.length := by omega
    obtain ⟨p, hp⟩ : ∃ p, one[one.length - 1 - k]? = some p := ⟨_, List.getElem?_eq_getElem hlt⟩
    have e1 : one.length - k = (one.length - 1 - k) + 1 := by omega
    have e2 : one.length - (k + 1) = one.length - 1 - k := by omega
    have ed : one.drop (one.length - 1 - k) = p :: one.drop (one.length - k) := by
      rw [List.drop_eq_getElem_cons hlt, e1]
      congr 1
      exact (List.getElem?_eq_some_iff.mp hp).2
    have et : one.take (one.length - k) = one.take (one.length - 1 - k) ++ [p] := by
      rw [e1, List.take_add_one, hp]; rfl
    have eg : one.getD (one.length - 1 - k) tlD = p := by simp [hp]
    unfold outStep
    rw [eg, e2, ed]
    rw [et] at h2
    by_cases q : p.1 ∈ keys other
    · rw [if_pos q]
      refine ⟨h1, ?_⟩
      rw [h2]
      unfold both
      rw [List.filter_cons, if_pos (decide_eq_true q), List.append_assoc]
      rfl
    · rw [if_neg q]
      have hpl : ((one.length : Int) - 1 - (k : Nat)) = ((one.length - 1 - k : Nat) : Int) := by omega
      have lenT : (snds (one.take (one.length - 1 - k))).length = one.length - 1 - k := by unfold snds; rw [List.length_map, List.length_take]; omega
      have hd : doneS (snds one) s = snds (one.take (one.length - 1 - k)) ++ p.2 :: snds (both (one.drop (one.length - k)) other) := by
        rw [h2]; unfold snds; simp
      refine ⟨okRun_app _ _ _ h1 (okRun_one ⟨by show 0 ≤ (one.length : Int) - 1 - (k : Nat); omega, .inl ⟨rfl, ?_⟩⟩), ?_⟩
      · rw [hd, List.length_append, lenT, List.length_cons]
        show ((one.length : Int) - 1 - (k : Nat)) < _
        omega
      · rw [doneS_app, hd]
        show doStep _ (spOut _) = _
        rw [doStep_out, hpl, Int.toNat_natCast]
        have := erase_mid (snds (one.take (one.length - 1 - k))) p.2 (snds (both (one.drop (one.length - k)) other))
        rw [lenT] at this
        rw [this]
        unfold both
        rw [List.filter_cons, if_neg (by simp [q])]
        unfold snds
        simp
/-! ### the puts -/
theorem keys_get {a : List Tl} (nd : (keys a).Nodup) {p : Tl} (h : p ∈ a) : aget a p.1 = some p.2 := by
  induction a with
  | nil => cases h
  | cons q a ih =>
    unfold keys at nd
    rw [List.map_cons, List.nodup_cons] at nd
    rw [aget_cons]
    rcases List.mem_cons.mp h with e | e
    · subst e; rw [if_pos rfl]
    · rw [if_neg, ih nd.2 e]
      intro w
      exact nd.1 (List.mem_map.mpr ⟨p, e, w.symm⟩)
/-- the lines of the ones that both have, as one tells them, in the order of other -/
def olds (one : List Tl) (other : List Tl) : List Str := (both other one).map fun p => valAt one p.1
theorem olds_eq {one other : List Tl} (nd : (keys one).Nodup) (hc : keys (both one other) = keys (both other one)) : snds (both one other) = olds one other := by
  have e1 : snds (both one other) = (both one other).map fun p => valAt one p.1 := List.map_congr_left fun p hp => by
    unfold valAt
    rw [keys_get nd ((List.mem_filter.mp hp).1)]
    rfl
  have e2 : ∀ a : List Tl, (a.map fun p => valAt one p.1) = (keys a).map (valAt one) := fun a => by unfold keys; rw [List.map_map]; rfl
  rw [e1, e2, hc, ← e2]
  rfl
theorem puts_ok {one other : List Tl} (nd : (keys one).Nodup) (hc : keys (both one other) = keys (both other one)) : ∀ k, k ≤ other.length →
    okRun (snds one) (putSt one other k) ∧ doneS (snds one) (putSt one other k) = snds (other.take k) ++ olds one (other.drop k) :=
  nst_inv (fun (k : Nat) (s : List Sp) => okRun (snds one) s ∧ doneS (snds one) s = snds (other.take k) ++ olds one (other.drop k))
    ⟨(outs_ok one other one.length (Nat.le_refl _)).1, by
      rw [show outs one other = outSt one other one.length from rfl, (outs_ok one other one.length (Nat.le_refl _)).2, Nat.sub_self]
      show snds ([] ++ both one other) = [] ++ olds one other
      exact olds_eq nd hc⟩ fun k p s e ⟨h1, h2⟩ => by
    have hk : k < other.length := (List.getElem?_eq_some_iff.mp e).1
    have ed : other.drop k = p :: other.drop (k + 1) := by
      rw [List.drop_eq_getElem_cons hk]
      congr 1
      exact (List.getElem?_eq_some_iff.mp e).2
    have et : snds (other.take (k + 1)) = snds (other.take k) ++ [p.2] := by
      unfold snds
      rw [List.take_add_one, e, List.map_append]; rfl
    have lenT : (snds (other.take k)).length = k := by unfold snds; rw [List.length_map, List.length_take]; omega
    rw [ed] at h2
    unfold putStep
    rw [et]
    by_cases q : p.1 ∈ keys one
    · rw [if_pos q]
      have eo : olds one (p :: other.drop (k + 1)) = valAt one p.1 :: olds one (other.drop (k + 1)) := by
        unfold olds both
        rw [List.filter_cons, if_pos (decide_eq_true q)]; rfl
      rw [eo] at h2
      by_cases q2 : valAt one p.1 = p.2
      · rw [if_pos q2]
        refine ⟨h1, ?_⟩
        rw [h2, q2, List.append_assoc]; rfl
      · rw [if_neg q2]
        refine ⟨okRun_app _ _ _ h1 (okRun_one ⟨by show 0 ≤ (k : Int); omega, .inr (.inr ⟨rfl, ?_, _, rfl⟩)⟩), ?_⟩
        · rw [h2, List.length_append, lenT, List.length_cons]
          show (k : Int) < _
          omega
        · rw [doneS_app, h2]
          show doStep _ (spSay _ _) = _
          rw [doStep_say, Int.toNat_natCast, List.set_append_right _ _ (by omega), lenT, Nat.sub_self, List.append_assoc]
          rfl
    · rw [if_neg q]
      have eo : olds one (p :: other.drop (k + 1)) = olds one (other.drop (k + 1)) := by
        unfold olds both
        rw [List.filter_cons, if_neg (by simp [q])]
      rw [eo] at h2
      refine ⟨okRun_app _ _ _ h1 (okRun_one ⟨by show 0 ≤ (k : Int); omega, .inr (.inl ⟨rfl, ?_, _, rfl⟩)⟩), ?_⟩
      · rw [h2, List.length_append, lenT]
        show (k : Int) ≤ _
        omega
      · rw [doneS_app, h2]
        show doStep _ (spPut _ _) = _
        rw [doStep_put, Int.toNat_natCast]
        have t1 : (snds (other.take k) ++ olds one (other.drop (k + 1))).take k = snds (other.take k) := by
          rw [List.take_append_of_le_length (by omega), List.take_of_length_le (by omega)]
        have t2 : (snds (other.take k) ++ olds one (other.drop (k + 1))).drop k = olds one (other.drop (k + 1)) := by
          rw [List.drop_append_of_le_length (by omega), List.drop_of_length_le (by omega)]; rfl
        rw [t1, t2]
theorem due_ok {one other : List Tl} (nd : (keys one).Nodup) (hc : keys (both one other) = keys (both other one)) : okRun (snds one) (due one other) ∧ doneS (snds one) (due one other) = snds other := by
  obtain ⟨h1, h2⟩ := puts_ok nd hc other.length (Nat.le_refl _)
  refine ⟨h1, h2.trans ?_⟩
  rw [List.take_length, List.drop_length]
  show snds other ++ [] = _
  rw [List.append_nil]
/-! ### one order -/
theorem filter_keys {W A : List Mk} (nd : W.Nodup) (h : A.Sublist W) : A = W.filter fun m => decide (m ∈ A) := by
  induction h with
  | slnil => rfl
  | @cons A W x h ih =>
    rw [List.nodup_cons] at nd
    rw [List.filter_cons, if_neg (by simp; exact fun w => nd.1 (h.subset w))]
    exact ih nd.2
  | @cons_cons A W x h ih =>
    rw [List.nodup_cons] at nd
    rw [List.filter_cons, if_pos (by simp)]
    congr 1
    refine (ih nd.2).trans (List.filter_congr fun z hz => ?_)
    have hne : z ≠ x := fun e => nd.1 (e ▸ hz)
    simp [hne]
theorem keys_both (one other : List Tl) : keys (both one other) = (keys one).filter fun m => decide (m ∈ keys other) := by
  unfold both
  generalize keys other = ks
  unfold keys
  induction one with
  | nil => rfl
  | cons p one ih =>
    rw [List.filter_cons, List.map_cons, List.filter_cons]
    by_cases q : p.1 ∈ ks
    · rw [if_pos (decide_eq_true q), if_pos (decide_eq_true q), List.map_cons, ih]
    · rw [if_neg (by simp [q]), if_neg (by simp [q]), ih]
theorem common {W : List Mk} {one other : List Tl} (nd : W.Nodup) (h1 : (keys one).Sublist W) (h2 : (keys other).Sublist W) : keys (both one other) = keys (both other one) := by
  rw [keys_both, keys_both]
  have e1 := filter_keys nd h1
  have e2 := filter_keys nd h2
  conv => lhs; rw [e1]
  conv => rhs; rw [e2]
  rw [List.filter_filter, List.filter_filter]
  refine List.filter_congr fun z hz => ?_
  exact Bool.and_comm _ _
/-- dict(pairs) of pairs whose marks differ -/
theorem dictOf_nodup {a : List Tl} (nd : (keys a).Nodup) : dictOf a = a := by
  have h : ∀ (b acc : List Tl), (keys (acc ++ b)).Nodup → b.foldl (fun m p => aput m p.1 p.2) acc = acc ++ b := by
    intro b
    induction b with
    | nil => intro acc _; rw [List.append_nil]; rfl
    | cons p b ih =>
      intro acc nd
      have hn : (acc.any fun q => decide (q.1 = p.1)) = false := by
        refine Bool.eq_false_iff.mpr fun w => ?_
        obtain ⟨q, hq, e⟩ := List.any_eq_true.mp w
        have e := of_decide_eq_true e
        unfold keys at nd
        rw [List.map_append, List.nodup_append] at nd
        exact nd.2.2 q.1 (List.mem_map.mpr ⟨q, hq, rfl⟩) p.1 (by simp) e
      have e1 : aput acc p.1 p.2 = acc ++ [p] := by unfold aput; rw [if_neg (by rw [hn]; decide)]
      show b.foldl _ (aput acc p.1 p.2) = _
      rw [e1, ih _ (by rw [List.append_assoc]; exact nd), List.append_assoc]
      rfl
  exact h a [] nd
theorem aget_keys {a : List Tl} {m : Mk} : (aget a m).isSome = decide (m ∈ keys a) := by
  induction a with
  | nil => rfl
  | cons p a ih =>
    rw [aget_cons]
    unfold keys at *
    by_cases q : p.1 = m
    · rw [if_pos q]; simp [q]
    · rw [if_neg q, ih]
      have : m ≠ p.1 := fun e => q e.symm
      simp [this]
end MM

/-! Parts closed under leaning: heights, order, rows. -/
namespace MM
open PySem PySem.Spec L2 DD
/-- a set of names that, with a change, holds its leans -/
def Shut (chs : List Ch) (g : List Str) : Prop := ∀ ch ∈ chs, ch.1 ∈ g → ∀ z ∈ ch.2.1, z ∈ g
theorem closed_mem {chs : List Ch} {g : List Str} {ch : Ch} : ch ∈ closed chs g ↔ ch ∈ chs ∧ ch.1 ∈ g := by
  unfold closed
  rw [List.mem_filter]
  simp
theorem closed_sub (chs : List Ch) (g : List Str) : (closed chs g).Sublist chs := List.filter_sublist
theorem closed_nd {chs : List Ch} (nd : (chs.map (·.1)).Nodup) (g : List Str) : ((closed chs g).map (·.1)).Nodup := (closed_sub chs g).map _ |>.nodup nd
theorem closed_ord {chs : List Ch} {g : List Str} (ho : inOrd chs) (hs : Shut chs g) : inOrd (closed chs g) := fun i ch e z hz => by
  obtain ⟨hch, hg⟩ := closed_mem.mp (List.mem_of_getElem? e)
  have hzg := hs ch hch hg z hz
  -- the place of ch in chs
  have key : ∀ (chs : List Ch) (i : Nat), (closed chs g)[i]? = some ch → ∃ j : Nat, chs[j]? = some ch ∧ (closed chs g).take i = closed (chs.take j) g := by
    intro chs
    induction chs with
    | nil => intro i e; simp [closed] at e
    | cons c chs ih =>
      intro i e
      by_cases q : c.1 ∈ g
      · have ec : closed (c :: chs) g = c :: closed chs g := by unfold closed; rw [List.filter_cons, if_pos (decide_eq_true q)]
        rw [ec] at e ⊢
        cases i with
        | zero => exact ⟨0, by simpa using e, rfl⟩
        | succ i =>
          obtain ⟨j, j1, j2⟩ := ih i (by simpa using e)
          refine ⟨j + 1, by simpa using j1, ?_⟩
          rw [List.take_succ_cons, List.take_succ_cons, j2]
          unfold closed
          rw [List.filter_cons, if_pos (decide_eq_true q)]
      · have ec : closed (c :: chs) g = closed chs g := by unfold closed; rw [List.filter_cons, if_neg (by simp [q])]
        rw [ec] at e ⊢
        obtain ⟨j, j1, j2⟩ := ih i e
        refine ⟨j + 1, by simpa using j1, ?_⟩
        rw [List.take_succ_cons, j2]
        unfold closed
        rw [List.filter_cons, if_neg (by simp [q])]
  obtain ⟨j, j1, j2⟩ := key chs i e
  obtain ⟨f, f1, f2⟩ := List.mem_map.mp (ho j ch j1 z hz)
  rw [j2]
  exact List.mem_map.mpr ⟨f, closed_mem.mpr ⟨f1, by rw [f2]; exact hzg⟩, f2⟩
theorem closed_v {chs : List Ch} {g : List Str} (hv : vChs chs) (hs : Shut chs g) : vChs (closed chs g) := fun ch hch => by
  obtain ⟨h1, h2⟩ := closed_mem.mp hch
  obtain ⟨ms, m1, m2⟩ := hv ch h1
  refine ⟨ms, fun m hm => ?_, m2⟩
  obtain ⟨f, f1, f2, f3⟩ := m1 m hm
  exact ⟨f, closed_mem.mpr ⟨f1, hs ch h1 h2 _ f2⟩, f2, f3⟩
/-! ### heights -/
theorem maxI_congr {α : Type} {xs : List α} {f g : α → Int} (h : ∀ x ∈ xs, f x = g x) : maxI (xs.map f) = maxI (xs.map g) := by rw [List.map_congr_left h]
/-- the heights of a part are those of the whole -/
theorem closed_h {chs : List Ch} {g : List Str} (ho : inOrd chs) (nd : (chs.map (·.1)).Nodup) (hs : Shut chs g) : ∀ ch ∈ closed chs g, hOf (closed chs g) ch.1 = hOf chs ch.1 := by
  have hoc := closed_ord ho hs
  have ndc := closed_nd nd g
  have go : ∀ (n i : Nat), i ≤ n → ∀ (ch : Ch), (closed chs g)[i]? = some ch → hOf (closed chs g) ch.1 = hOf chs ch.1 := by
    intro n
    induction n with
    | zero =>
      intro i hi ch e
      have hch := List.mem_of_getElem? e
      rw [hts_eq hoc ndc ch hch, hts_eq ho nd ch (closed_mem.mp hch).1]
      refine maxI_congr fun z hz => ?_
      have := hoc i ch e z hz
      have hi0 : i = 0 := by omega
      subst hi0
      simp at this
    | succ n ih =>
      intro i hi ch e
      have hch := List.mem_of_getElem? e
      rw [hts_eq hoc ndc ch hch, hts_eq ho nd ch (closed_mem.mp hch).1]
      refine maxI_congr fun z hz => ?_
      obtain ⟨f, f1, f2⟩ := List.mem_map.mp (hoc i ch e z hz)
      obtain ⟨j, hj⟩ := List.getElem?_of_mem f1
      have hjl : j < i := by
        have := (List.getElem?_eq_some_iff.mp hj).1
        simp at this
        omega
      rw [List.getElem?_take_of_lt hjl] at hj
      have := ih j (by omega) f hj
      rw [f2] at this
      rw [this]
  intro ch hch
  obtain ⟨i, hi⟩ := List.getElem?_of_mem hch
  exact go i i (Nat.le_refl _) ch hi
/-! ### the order -/
def Gt' (a b : Ch) : Prop := sle b.1 a.1 = true ∧ a.1 ≠ b.1
/-- a stands ahead of b: less high, or as high and of a greater name -/
def Lt' (h : Str → Int) (a b : Ch) : Prop := h a.1 ≤ h b.1 ∧ (h b.1 ≤ h a.1 → Gt' a b)
theorem byName_sorted {chs : List Ch} (nd : (chs.map (·.1)).Nodup) : (byName chs).Pairwise Gt' := by
  have e := PySem.W.dataGe_str (β := Ch) (fun ch => ch.1)
  have e2 : (PySem.W.dataLe true fun (ch : Ch) => PyData.str ch.1) = fun a b => sle b.1 a.1 := e.trans (by funext a b; unfold sle; exact (PySem.W.not_lt_str _ _).symm)
  have h1 : (byName chs).Pairwise fun a b => sle b.1 a.1 = true := by
    unfold byName
    rw [e2]
    exact List.pairwise_mergeSort (le := fun (a b : Ch) => sle b.1 a.1) (fun a b c h1 h2 => sle_trans _ _ _ h2 h1) (fun a b => sle_total _ _) chs
  have h2 : ((byName chs).map (·.1)).Nodup := ((List.mergeSort_perm chs _).map _).nodup_iff.mpr nd
  have h3 : (byName chs).Pairwise fun a b => a.1 ≠ b.1 := List.pairwise_map.mp h2
  exact h1.and h3 |>.imp fun h => h
theorem two_in {α : Type} {L : List α} {a b : α} (ha : a ∈ L) (hb : b ∈ L) (hne : a ≠ b) : [a, b].Sublist L ∨ [b, a].Sublist L := by
  induction L with
  | nil => cases ha
  | cons c L ih =>
    rcases List.mem_cons.mp ha with e | ha'
    · subst e
      rcases List.mem_cons.mp hb with e | hb'
      · exact absurd e.symm hne
      · exact .inl (.cons_cons _ (List.singleton_sublist.mpr hb'))
    · rcases List.mem_cons.mp hb with e | hb'
      · subst e
        exact .inr (.cons_cons _ (List.singleton_sublist.mpr ha'))
      · exact (ih ha' hb').imp (fun h => .cons _ h) (fun h => .cons _ h)
theorem not_both {α : Type} {M : List α} {a b : α} (nd : M.Nodup) (h1 : [a, b].Sublist M) (h2 : [b, a].Sublist M) : False := by
  induction M with
  | nil => cases h1
  | cons c M ih =>
    rw [List.nodup_cons] at nd
    cases h1 with
    | cons _ h1 =>
      cases h2 with
      | cons _ h2 => exact ih nd.2 h1 h2
      | cons_cons _ h2 => exact nd.1 (h1.subset (by simp))
    | cons_cons _ h1 =>
      cases h2 with
      | cons _ h2 => exact nd.1 (h2.subset (by simp))
      | cons_cons _ h2 => exact nd.1 (h1.subset (by simp))
theorem plain_sorted {h : Str → Int} {chs : List Ch} (nd : (chs.map (·.1)).Nodup) : (plain h chs).Pairwise (Lt' h) := by
  have e := PySem.W.dataLe_int (β := Ch) (fun ch => h ch.1)
  have tr : ∀ (a b c : Ch), decide (h a.1 ≤ h b.1) = true → decide (h b.1 ≤ h c.1) = true → decide (h a.1 ≤ h c.1) = true := fun a b c h1 h2 => decide_eq_true (Int.le_trans (of_decide_eq_true h1) (of_decide_eq_true h2))
  have tot : ∀ (a b : Ch), (decide (h a.1 ≤ h b.1) || decide (h b.1 ≤ h a.1)) = true := fun a b => by
    rcases Int.le_total (h a.1) (h b.1) with q | q
    · rw [decide_eq_true q]; rfl
    · rw [decide_eq_true q, Bool.or_true]
  have hN := byName_sorted nd
  have pN : (byName chs).Perm chs := List.mergeSort_perm _ _
  have ndc : chs.Nodup := List.Pairwise.of_map (·.1) (fun a b hne he => hne (he ▸ rfl)) nd
  have ndM : (plain h chs).Nodup := (plain_perm h chs).nodup_iff.mpr ndc
  refine List.pairwise_iff_forall_sublist.mpr fun {a b} hs => ?_
  have hle : h a.1 ≤ h b.1 := List.pairwise_iff_forall_sublist.mp (plain_up h chs) hs
  refine ⟨hle, fun hge => ?_⟩
  have ha : a ∈ byName chs := pN.mem_iff.mpr ((plain_perm h chs).mem_iff.mp (hs.subset (by simp)))
  have hb : b ∈ byName chs := pN.mem_iff.mpr ((plain_perm h chs).mem_iff.mp (hs.subset (by simp)))
  have hne : a ≠ b := List.pairwise_iff_forall_sublist.mp ndM hs
  rcases two_in ha hb hne with q | q
  · exact List.pairwise_iff_forall_sublist.mp hN q
  · exfalso
    have : [b, a].Sublist (plain h chs) := by
      unfold plain
      rw [e]
      exact List.pair_sublist_mergeSort (le := fun (a b : Ch) => decide (h a.1 ≤ h b.1)) tr tot (decide_eq_true hge) q
    exact not_both ndM hs this
theorem lt_anti {h : Str → Int} {a b : Ch} (h1 : Lt' h a b) (h2 : Lt' h b a) : a = b := by
  exfalso
  obtain ⟨q1, q2⟩ := h1.2 h2.1
  obtain ⟨q3, q4⟩ := h2.2 h1.1
  exact q2 (sle_anti q3 q1)
/-- the order of a part is that of the whole -/
theorem plain_closed {chs : List Ch} {g : List Str} (ho : inOrd chs) (nd : (chs.map (·.1)).Nodup) (hs : Shut chs g) : plain (hOf (closed chs g)) (closed chs g) = closed (plain (hOf chs) chs) g := by
  have hh := closed_h ho nd hs
  have p1 := plain_perm (hOf (closed chs g)) (closed chs g)
  have s1 : (plain (hOf (closed chs g)) (closed chs g)).Pairwise (Lt' (hOf chs)) := (plain_sorted (closed_nd nd g)).imp_of_mem fun ha hb q => by
    have ea := hh _ (p1.mem_iff.mp ha)
    have eb := hh _ (p1.mem_iff.mp hb)
    unfold Lt' at q ⊢
    rw [ea, eb] at q
    exact q
  have s2 : (closed (plain (hOf chs) chs) g).Pairwise (Lt' (hOf chs)) := (plain_sorted nd).sublist (closed_sub _ g)
  refine List.Perm.eq_of_pairwise (le := Lt' (hOf chs)) (fun a b _ _ q1 q2 => lt_anti q1 q2) s1 s2 (p1.trans ?_)
  unfold closed
  exact ((plain_perm (hOf chs) chs).filter _).symm
/-! ### rows -/
def inG (g : List Str) (m : Mk) : Bool := decide (m.1 ∈ g)
theorem insAt_some {A B : List Mk} {m x : Mk} (h : m ∉ A) : insAt (A ++ m :: B) (some m) x = A ++ m :: x :: B := by
  unfold insAt
  have e : (A ++ m :: B).idxOf m = A.length := by
    rw [List.idxOf_append, if_neg h, List.idxOf_cons_self, Nat.zero_add]
  show (A ++ m :: B).take ((A ++ m :: B).idxOf m + 1) ++ [x] ++ (A ++ m :: B).drop ((A ++ m :: B).idxOf m + 1) = _
  rw [e]
  have t1 : (A ++ m :: B).take (A.length + 1) = A ++ [m] := by
    rw [List.take_append, List.take_of_length_le (by omega), show A.length + 1 - A.length = 1 by omega]
    rfl
  have t2 : (A ++ m :: B).drop (A.length + 1) = B := by
    rw [List.drop_append, List.drop_of_length_le (by omega), show A.length + 1 - A.length = 1 by omega]
    rfl
  rw [t1, t2]
  simp
theorem split_first {α : Type} [DecidableEq α] {r : List α} {m : α} (h : m ∈ r) : ∃ A B, r = A ++ m :: B ∧ m ∉ A := by
  induction r with
  | nil => cases h
  | cons c r ih =>
    by_cases q : m = c
    · subst q; exact ⟨[], r, rfl, by simp⟩
    · rcases List.mem_cons.mp h with e | e
      · exact absurd e q
      · obtain ⟨A, B, e1, e2⟩ := ih e
        exact ⟨c :: A, B, by rw [e1]; rfl, by simp [q, e2]⟩
theorem insAt_in {g : List Str} {r : List Mk} {o : Option Mk} {x : Mk} (hx : inG g x = true) (ho : ∀ m, o = some m → m ∈ r ∧ inG g m = true) : (insAt r o x).filter (inG g) = insAt (r.filter (inG g)) o x := by
  cases o with
  | none =>
    unfold insAt
    simp [hx]
  | some m =>
    obtain ⟨h1, h2⟩ := ho m rfl
    obtain ⟨A, B, e, hA⟩ := split_first h1
    subst e
    rw [insAt_some hA]
    have : (A ++ m :: B).filter (inG g) = A.filter (inG g) ++ m :: B.filter (inG g) := by rw [List.filter_append, List.filter_cons, if_pos h2]
    rw [this, insAt_some (fun h => hA (List.mem_filter.mp h).1), List.filter_append, List.filter_cons, if_pos h2, List.filter_cons, if_pos hx]
theorem insAt_out {g : List Str} {r : List Mk} {o : Option Mk} {x : Mk} (hx : inG g x = false) : (insAt r o x).filter (inG g) = r.filter (inG g) := by
  unfold insAt
  generalize (match o with | none => 0 | some m => r.idxOf m + 1) = n
  rw [List.filter_append, List.filter_append, List.filter_cons, if_neg (by rw [hx]; decide), List.filter_nil, List.append_nil, ← List.filter_append, List.take_append_drop]
theorem insAt_n (r : List Mk) (o : Option Mk) (x : Mk) : ∃ n, insAt r o x = r.take n ++ [x] ++ r.drop n := ⟨_, rfl⟩
theorem insAt_nd {r : List Mk} {o : Option Mk} {x : Mk} (nd : r.Nodup) (hx : x ∉ r) : (insAt r o x).Nodup := by
  have p : (insAt r o x).Perm (x :: r) := by
    obtain ⟨n, en⟩ := insAt_n r o x
    rw [en]
    have : (r.take n ++ [x] ++ r.drop n).Perm (x :: (r.take n ++ r.drop n)) := by
      rw [List.append_assoc]
      exact List.perm_middle
    rw [List.take_append_drop] at this
    exact this
  exact p.nodup_iff.mpr (List.nodup_cons.mpr ⟨hx, nd⟩)
/-- the row behind one deed -/
theorem dDeed_row (nm : Str) (d : Dd) (s : Rw) (a : Int) : (dDeed nm d (s, a)).1.1 = (if d.1 = ("add" : Str) then insAt s.1 d.2.1 (nm, a) else s.1) ∧ (dDeed nm d (s, a)).2 = (if d.1 = ("add" : Str) then a + 1 else a) := by
  unfold dDeed
  by_cases h1 : d.1 = ("add" : Str)
  · rw [if_pos h1, if_pos h1, if_pos h1]; exact ⟨rfl, rfl⟩
  · rw [if_neg h1, if_neg h1, if_neg h1]
    by_cases h2 : d.1 = ("set" : Str)
    · rw [if_pos h2]; exact ⟨rfl, rfl⟩
    · rw [if_neg h2]; exact ⟨rfl, rfl⟩
/-- deeds of a change that is not in the part leave the part's row -/
theorem deedSt_out {g : List Str} {nm : Str} (hn : nm ∉ g) (ds : List Dd) (s : Rw) : ∀ k, k ≤ ds.length → (deedSt nm ds s k).1.1.filter (inG g) = s.1.filter (inG g) :=
  nst_inv (fun (k : Nat) (st : Rw × Int) => st.1.1.filter (inG g) = s.1.filter (inG g)) rfl fun k d st e h => by
    obtain ⟨s1, a⟩ := st
    rw [(dDeed_row nm d s1 a).1]
    split
    · rw [insAt_out (by unfold inG; exact decide_eq_false hn)]; exact h
    · exact h
theorem deedSt_in {g : List Str} {nm : Str} {ms : List Mk} {ds : List Dd} {s s' : Rw} {n : Nat} (hn : nm ∈ g) (hms : ∀ m ∈ ms, m.1 ∈ g) {M : List Mk} (hM : RwOk s (fun m => m ∈ M) n) (hd0 : okDds nm M ds) (hd : okDds nm ms ds) (he : s'.1 = s.1.filter (inG g)) :
    ∀ k, k ≤ ds.length → (deedSt nm ds s' k).1.1 = (deedSt nm ds s k).1.1.filter (inG g) ∧ (deedSt nm ds s' k).2 = (deedSt nm ds s k).2 := by
  intro k
  induction k with
  | zero => intro _; exact ⟨he, rfl⟩
  | succ k ih =>
    intro hk
    obtain ⟨h1, h2⟩ := ih (by omega)
    have hlt : k < ds.length := hk
    have e : ds[k]? = some ds[k] := by simp [hlt]
    have st1 : deedSt nm ds s' (k + 1) = dDeed nm ds[k] (deedSt nm ds s' k) := nst_succ e
    have st2 : deedSt nm ds s (k + 1) = dDeed nm ds[k] (deedSt nm ds s k) := nst_succ e
    obtain ⟨q1, q2⟩ := deedSt_ok hM hd0 k (by omega)
    have okd := hd k ds[k] e
    have okM := hd0 k ds[k] e
    rw [st1, st2]
    generalize deedSt nm ds s' k = t' at h1 h2
    generalize deedSt nm ds s k = t at h1 h2 q1 q2
    obtain ⟨r', a'⟩ := t'
    obtain ⟨r, a⟩ := t
    simp only at h1 h2 q1 q2
    subst h2
    rw [(dDeed_row _ _ _ _).1, (dDeed_row _ _ _ _).1, (dDeed_row _ _ _ _).2, (dDeed_row _ _ _ _).2]
    refine ⟨?_, rfl⟩
    by_cases hw : ds[k].1 = ("add" : Str)
    · rw [if_pos hw, if_pos hw, insAt_in (by unfold inG; exact decide_eq_true hn), h1]
      intro m hm
      have hin : m ∈ ms ∨ (m.1 = nm ∧ 0 ≤ m.2 ∧ m.2 < (adds (ds.take k) : Int)) := by
        rcases okd with ⟨_, h, _⟩ | ⟨m', h', e' | ⟨z, _, e'⟩⟩
        · exact h m hm
        · rw [e'] at hw; exact absurd hw (by decide +kernel : ¬ ("cut" : Str) = ("add" : Str))
        · rw [e'] at hw; exact absurd hw (by decide +kernel : ¬ ("set" : Str) = ("add" : Str))
      have hin2 : m ∈ M ∨ (m.1 = nm ∧ 0 ≤ m.2 ∧ m.2 < (adds (ds.take k) : Int)) := by
        rcases okM with ⟨_, h, _⟩ | ⟨m', h', e' | ⟨z, _, e'⟩⟩
        · exact h m hm
        · rw [e'] at hw; exact absurd hw (by decide +kernel : ¬ ("cut" : Str) = ("add" : Str))
        · rw [e'] at hw; exact absurd hw (by decide +kernel : ¬ ("set" : Str) = ("add" : Str))
      refine ⟨(q2.mem m).mpr hin2, ?_⟩
      unfold inG
      rcases hin with q | ⟨q, _⟩
      · exact decide_eq_true (hms m q)
      · exact decide_eq_true (q ▸ hn)
    · rw [if_neg hw, if_neg hw]; exact h1
theorem nst_fold {α σ : Type} (f : σ → α → σ) (s0 : σ) (as : List α) : ∀ k, k ≤ as.length → nst (fun _ a s => f s a) s0 as k = (as.take k).foldl f s0 :=
  nst_inv (fun (k : Nat) (s : σ) => s = (as.take k).foldl f s0) rfl fun k a s e h => by
    rw [List.take_add_one, e, h]
    simp
def doL (L : List Ch) : Rw := L.foldl (fun s ch => dCh ch s) ([], [], [])
theorem doAll_eq (L : List Ch) : doAll L = doL L := by
  have := nst_fold (fun (s : Rw) (ch : Ch) => dCh ch s) ([], [], []) L L.length (Nat.le_refl _)
  rw [List.take_length] at this
  exact this
/-- the row of a part is the row of the whole without the lines of the others -/
theorem row_closed {L : List Ch} {g : List Str} {b : Nat} (hseq : okSeq L) (hb : ∀ ch ∈ L, ch.2.2.length ≤ b) (hv : ∀ ch ∈ L, ∃ ms, (∀ m ∈ ms, ∃ f ∈ L, f.1 ∈ ch.2.1 ∧ m ∈ mks f) ∧ okDds ch.1 ms ch.2.2) (hs : Shut L g) :
    (doAll (closed L g)).1 = (doAll L).1.filter (inG g) := by
  have key : ∀ k, k ≤ L.length → (doL (closed (L.take k) g)).1 = (doSt L k).1.filter (inG g) := by
    intro k
    induction k with
    | zero => intro _; rfl
    | succ k ih =>
      intro hk
      have h1 := ih (by omega)
      have hlt : k < L.length := hk
      have e : L[k]? = some L[k] := by simp [hlt]
      have st : doSt L (k + 1) = dCh L[k] (doSt L k) := nst_succ e
      have hm : L[k] ∈ L := List.getElem_mem hlt
      rw [st, List.take_add_one, e]
      have ec : closed (L.take k ++ (some L[k]).toList) g = closed (L.take k) g ++ closed [L[k]] g := by unfold closed; rw [← List.filter_append]; rfl
      rw [ec]
      have ef : ∀ x : List Ch, doL (closed (L.take k) g ++ x) = x.foldl (fun s ch => dCh ch s) (doL (closed (L.take k) g)) := fun x => by unfold doL; rw [List.foldl_append]
      rw [ef]
      by_cases q : L[k].1 ∈ g
      · have e1 : closed [L[k]] g = [L[k]] := by unfold closed; rw [List.filter_cons, if_pos (decide_eq_true q)]; rfl
        rw [e1]
        show (dCh L[k] (doL (closed (L.take k) g))).1 = _
        obtain ⟨ms, m1, m2⟩ := hv L[k] hm
        have hrw := doSt_ok hseq hb k (by omega)
        have hmem : ∀ m ∈ ms, m.1 ∈ g := fun m hmm => by
          obtain ⟨f, f1, f2, f3⟩ := m1 m hmm
          have := mem_mks.mp f3
          rw [this.1]
          exact hs L[k] hm q f.1 f2
        exact (deedSt_in (ms := ms) (M := allMks (L.take k)) q hmem hrw (hseq k L[k] e) m2 h1 L[k].2.2.length (Nat.le_refl _)).1
      · have e1 : closed [L[k]] g = [] := by unfold closed; rw [List.filter_cons, if_neg (by simp [q])]; rfl
        rw [e1]
        show (doL (closed (L.take k) g)).1 = _
        rw [h1]
        exact (deedSt_out q L[k].2.2 (doSt L k) L[k].2.2.length (Nat.le_refl _)).symm
  have := key L.length (Nat.le_refl _)
  rw [List.take_length] at this
  rw [doAll_eq]
  exact this
end MM

/-! The told lines of parts. -/
namespace MM
open PySem PySem.Spec L2 DD
/-- the marks of a row differ -/
theorem deedSt_nd {nm : Str} {M : List Mk} {ds : List Dd} {s : Rw} {n : Nat} (hM : RwOk s (fun m => m ∈ M) n) (hd : okDds nm M ds) (hn : ∀ m ∈ M, m.1 ≠ nm) (nd : s.1.Nodup) : ∀ k, k ≤ ds.length → (deedSt nm ds s k).1.1.Nodup := by
  intro k
  induction k with
  | zero => intro _; exact nd
  | succ k ih =>
    intro hk
    have h1 := ih (by omega)
    have hlt : k < ds.length := hk
    have e : ds[k]? = some ds[k] := by simp [hlt]
    have st : deedSt nm ds s (k + 1) = dDeed nm ds[k] (deedSt nm ds s k) := nst_succ e
    obtain ⟨q1, q2⟩ := deedSt_ok hM hd k (by omega)
    rw [st]
    generalize deedSt nm ds s k = t at h1 q1 q2
    obtain ⟨r, a⟩ := t
    simp only at h1 q1 q2
    rw [(dDeed_row _ _ _ _).1]
    split
    · refine insAt_nd h1 fun h => ?_
      rcases (q2.mem _).mp h with w | ⟨_, _, w⟩
      · exact hn _ w rfl
      · simp only at w; omega
    · exact h1
theorem doSt_nd {L : List Ch} {b : Nat} (hseq : okSeq L) (hb : ∀ ch ∈ L, ch.2.2.length ≤ b) (nd : (L.map (·.1)).Nodup) : ∀ k, k ≤ L.length → (doSt L k).1.Nodup := by
  intro k
  induction k with
  | zero => intro _; exact List.nodup_nil
  | succ k ih =>
    intro hk
    have h1 := ih (by omega)
    have hlt : k < L.length := hk
    have e : L[k]? = some L[k] := by simp [hlt]
    have st : doSt L (k + 1) = dCh L[k] (doSt L k) := nst_succ e
    rw [st]
    refine deedSt_nd (doSt_ok hseq hb k (by omega)) (hseq k L[k] e) (fun m hm w => ?_) h1 L[k].2.2.length (Nat.le_refl _)
    obtain ⟨f, f1, f2⟩ := List.mem_flatMap.mp hm
    obtain ⟨i, hi⟩ := List.getElem?_of_mem f1
    have hik : i < k := by
      have := (List.getElem?_eq_some_iff.mp hi).1
      simp at this
      omega
    rw [List.getElem?_take_of_lt hik] at hi
    have hil := (List.getElem?_eq_some_iff.mp hi).1
    have e1 : (L.map (·.1))[i]? = some L[k].1 := by rw [List.getElem?_map, hi, ← w, (mem_mks.mp f2).1]; rfl
    have e2 : (L.map (·.1))[k]? = some L[k].1 := by rw [List.getElem?_map, e]; rfl
    have := (List.getElem?_inj (by simp; exact hil) nd).mp (e1.trans e2.symm)
    omega
/-- what the changes of a law are -/
structure GoodCh (chs : List Ch) : Prop where
  ord : inOrd chs
  nd : (chs.map (·.1)).Nodup
  v : vChs chs
  ll : chs.length ≤ 1000
  l1 : ∀ ch ∈ chs, ch.2.1.length ≤ 1000
  l2 : ∀ ch ∈ chs, ch.2.2.length ≤ 1000
theorem GoodCh.part {chs : List Ch} {g : List Str} (h : GoodCh chs) (hs : Shut chs g) : GoodCh (closed chs g) :=
  ⟨closed_ord h.ord hs, closed_nd h.nd g, closed_v h.v hs, Nat.le_trans (closed_sub chs g).length_le h.ll, fun ch hch => h.l1 ch (closed_mem.mp hch).1, fun ch hch => h.l2 ch (closed_mem.mp hch).1⟩
theorem GoodCh.seq {chs : List Ch} (h : GoodCh chs) : okSeq (plain (hOf chs) chs) :=
  okSeq_of h.v (fun ch hch z hz => hOf_lean h.ord h.nd hch hz) (plain_perm _ _) (plain_up _ _)
theorem GoodCh.b {chs : List Ch} (h : GoodCh chs) : ∀ ch ∈ plain (hOf chs) chs, ch.2.2.length ≤ 1000 := fun ch hch => h.l2 ch ((plain_perm _ _).mem_iff.mp hch)
theorem GoodCh.rowNd {chs : List Ch} (h : GoodCh chs) : (model chs).1.Nodup :=
  doSt_nd h.seq h.b (((plain_perm (hOf chs) chs).map _).nodup_iff.mpr h.nd) _ (Nat.le_refl _)
theorem GoodCh.rowLen {chs : List Ch} (h : GoodCh chs) : (model chs).1.length ≤ 1000000 := by
  have h1 := (doSt_ok h.seq h.b _ (Nat.le_refl _)).l1
  have h2 : (plain (hOf chs) chs).length = chs.length := (plain_perm _ _).length_eq
  have h3 := h.ll
  have : (plain (hOf chs) chs).length * 1000 ≤ 1000000 := by rw [h2]; omega
  exact Nat.le_trans h1 this
theorem model_row {chs : List Ch} {g : List Str} (h : GoodCh chs) (hs : Shut chs g) : (model (closed chs g)).1 = (model chs).1.filter (inG g) := by
  unfold model
  rw [plain_closed h.ord h.nd hs]
  have pm := plain_perm (hOf chs) chs
  refine row_closed h.seq h.b (fun ch hch => ?_) (fun ch hch => hs ch (pm.mem_iff.mp hch))
  obtain ⟨ms, m1, m2⟩ := h.v ch (pm.mem_iff.mp hch)
  refine ⟨ms, fun m hm => ?_, m2⟩
  obtain ⟨f, f1, f2⟩ := m1 m hm
  exact ⟨f, pm.mem_iff.mpr f1, f2⟩
def told (chs : List Ch) : List Tl := toldOf (model chs)
theorem told_keys (r : Rw) : keys (toldOf r) = r.1.filter fun m => !(aget r.2.2 m).isSome := by
  unfold keys toldOf
  rw [List.map_map]
  exact (List.map_congr_left fun m _ => rfl).trans (List.map_id _)
theorem told_sub {chs : List Ch} {g : List Str} (h : GoodCh chs) (hs : Shut chs g) : (keys (told (closed chs g))).Sublist (model chs).1 := by
  unfold told
  rw [told_keys, model_row h hs]
  exact List.filter_sublist.trans List.filter_sublist
theorem told_nd {chs : List Ch} {g : List Str} (h : GoodCh chs) (hs : Shut chs g) : (keys (told (closed chs g))).Nodup := (told_sub h hs).nodup h.rowNd
theorem told_len {chs : List Ch} {g : List Str} (h : GoodCh chs) (hs : Shut chs g) : (told (closed chs g)).length ≤ 1000000 := by
  have := (told_sub h hs).length_le
  unfold keys at this
  rw [List.length_map] at this
  exact Nat.le_trans this h.rowLen
/-- the part by some names -/
def part (chs : List Ch) (ns : List Str) : List Ch := closed chs (ground chs ns 1000)
theorem GoodCh.leansIn {chs : List Ch} (h : GoodCh chs) : ∀ ch ∈ chs, ∀ z ∈ ch.2.1, z ∈ chs.map (·.1) := fun ch hch z hz => by
  obtain ⟨i, hi⟩ := List.getElem?_of_mem hch
  have := h.ord i ch hi z hz
  rw [List.map_take] at this
  exact List.mem_of_mem_take this
theorem ground_shut {chs : List Ch} {ns : List Str} (h : GoodCh chs) (hn : ∀ z ∈ ns, z ∈ chs.map (·.1)) : Shut chs (ground chs ns 1000) := fun ch hch hg z hz => by
  have := (ground_ok h.nd h.leansIn h.l1 hn).cl ch hch hg z hz
  simpa using this
theorem part_due {chs : List Ch} {n1 n2 : List Str} (h : GoodCh chs) (h1 : ∀ z ∈ n1, z ∈ chs.map (·.1)) (h2 : ∀ z ∈ n2, z ∈ chs.map (·.1)) :
    okRun (snds (told (part chs n1))) (due (told (part chs n1)) (told (part chs n2))) ∧ doneS (snds (told (part chs n1))) (due (told (part chs n1)) (told (part chs n2))) = snds (told (part chs n2)) :=
  due_ok (told_nd h (ground_shut h h1)) (common h.rowNd (told_sub h (ground_shut h h1)) (told_sub h (ground_shut h h2)))
theorem due_len (one other : List Tl) : (due one other).length ≤ one.length + other.length := putSt_len one other other.length (Nat.le_refl _)
end MM

/-! A weave's dict of changes: heights by passes, the plain order. -/
namespace MM
open PySem L2 DD TL
/-- a dict of changes by their names -/
def kd (L : List Ch) : List (Str × Ch) := L.map fun ch => (ch.1, ch)
def ch0 : Ch := ("", [], [])
def chOf (L : List Ch) (z : Str) : Ch := (aget (kd L) z).getD ch0
theorem kd_keys (L : List Ch) : (kd L).map (·.1) = L.map (·.1) := by
  unfold kd
  rw [List.map_map]
  rfl
theorem kd_len (L : List Ch) : (kd L).length = L.length := by unfold kd; rw [List.length_map]
theorem chOf_mem : ∀ {L : List Ch} {z : Str}, z ∈ L.map (·.1) → aget (kd L) z = some (chOf L z) ∧ chOf L z ∈ L ∧ (chOf L z).1 = z
  | [], _, h => by simp at h
  | c :: L, z, h => by
    by_cases e : c.1 = z
    · have h1 : aget (kd (c :: L)) z = some c := by
        show aget ((c.1, c) :: kd L) z = some c
        rw [aget_cons, if_pos e]
      have h2 : chOf (c :: L) z = c := by unfold chOf; rw [h1]; rfl
      rw [h2]
      exact ⟨h1, List.mem_cons_self .., e⟩
    · have h1 : aget (kd (c :: L)) z = aget (kd L) z := by
        show aget ((c.1, c) :: kd L) z = _
        rw [aget_cons, if_neg e]
      have h3 : z ∈ L.map (·.1) := by
        rw [List.map_cons] at h
        rcases List.mem_cons.mp h with q | q
        · exact absurd q.symm e
        · exact q
      obtain ⟨q1, q2, q3⟩ := chOf_mem h3
      have h2 : chOf (c :: L) z = chOf L z := by unfold chOf; rw [h1]
      rw [h2]
      exact ⟨h1.trans q1, List.mem_cons_of_mem _ q2, q3⟩
theorem kd_none : ∀ {L : List Ch} {z : Str}, z ∉ L.map (·.1) → aget (kd L) z = none
  | [], _, _ => rfl
  | c :: L, z, h => by
    rw [List.map_cons, List.mem_cons, not_or] at h
    show aget ((c.1, c) :: kd L) z = none
    rw [aget_cons, if_neg fun e => h.1 e.symm]
    exact kd_none h.2
theorem kd_isSome (L : List Ch) (z : Str) : (aget (kd L) z).isSome = decide (z ∈ L.map (·.1)) := by
  by_cases h : z ∈ L.map (·.1)
  · rw [(chOf_mem h).1, decide_eq_true h]; rfl
  · rw [kd_none h, decide_eq_false h]; rfl
theorem same_name {L : List Ch} (nd : (L.map (·.1)).Nodup) {a b : Ch} (ha : a ∈ L) (hb : b ∈ L) (e : a.1 = b.1) : a = b := by
  induction L with
  | nil => cases ha
  | cons c L ih =>
    rw [List.map_cons, List.nodup_cons] at nd
    rcases List.mem_cons.mp ha with e1 | h1
    · rcases List.mem_cons.mp hb with e2 | h2
      · rw [e1, e2]
      · exact absurd (List.mem_map.mpr ⟨b, h2, by rw [← e, e1]⟩) nd.1
    · rcases List.mem_cons.mp hb with e2 | h2
      · exact absurd (List.mem_map.mpr ⟨a, h1, by rw [e, e2]⟩) nd.1
      · exact ih nd.2 h1 h2
theorem chOf_self {L : List Ch} (nd : (L.map (·.1)).Nodup) {ch : Ch} (h : ch ∈ L) : chOf L ch.1 = ch := by
  obtain ⟨_, h2, h3⟩ := chOf_mem (L := L) (z := ch.1) (List.mem_map.mpr ⟨ch, h, rfl⟩)
  exact same_name nd h2 h h3
/-! ### heights by passes -/
def pStep (L : List Ch) (z : Str) (s : List (Str × Int) × List Str) : List (Str × Int) × List Str :=
  if ((chOf L z).2.1.all fun l => (aget s.1 l).isSome) = true then (aput s.1 z (htOf s.1 (chOf L z).2.1), s.2) else (s.1, s.2 ++ [z])
def pSt (L : List Ch) (f : List (Str × Int)) (left : List Str) : Nat → List (Str × Int) × List Str := nst (fun _ z s => pStep L z s) (f, []) left
def hgLoop (L : List Ch) : Nat → List (Str × Int) → List Str → List (Str × Int)
  | 0, f, _ => f
  | n + 1, f, left => if left = [] then f else if (pSt L f left left.length).2.length = left.length then (pSt L f left left.length).1 else hgLoop L n (pSt L f left left.length).1 (pSt L f left left.length).2
def hg (L : List Ch) : List (Str × Int) := hgLoop L (L.length + 1) [] (L.map (·.1))
theorem pSt_sub (L : List Ch) (f : List (Str × Int)) (left : List Str) : ∀ k, k ≤ left.length → (pSt L f left k).2.length ≤ k ∧ (pSt L f left k).1.length ≤ f.length + k ∧ ∀ z ∈ (pSt L f left k).2, z ∈ left :=
  nst_inv (fun (k : Nat) (s : List (Str × Int) × List Str) => s.2.length ≤ k ∧ s.1.length ≤ f.length + k ∧ ∀ z ∈ s.2, z ∈ left) ⟨Nat.zero_le _, Nat.le_refl _, fun z hz => by cases hz⟩ fun k z s e ⟨h1, h2, h3⟩ => by
    unfold pStep
    split
    · exact ⟨Nat.le_succ_of_le h1, Nat.le_trans (aput_len _ _ _) (by omega), h3⟩
    · refine ⟨by rw [List.length_append]; simp; omega, (by dsimp only; omega), fun y hy => ?_⟩
      rcases List.mem_append.mp hy with q | q
      · exact h3 y q
      · rw [List.mem_singleton.mp q]
        exact List.mem_of_getElem? e
/-- what has been found is the height -/
def HtOk (chs : List Ch) (f : List (Str × Int)) : Prop := ∀ z v, aget f z = some v → z ∈ chs.map (·.1) ∧ v = hOf chs z
section
variable {chs L : List Ch}
theorem pass_ok (ho : inOrd chs) (nd : (chs.map (·.1)).Nodup) (pm : L.Perm chs) {f : List (Str × Int)} {left : List Str} (hf : HtOk chs f) (hl : ∀ z ∈ left, z ∈ chs.map (·.1)) (z0 : Str) (h0 : ∀ l ∈ (chOf L z0).2.1, (aget f l).isSome = true) :
    ∀ k, k ≤ left.length → HtOk chs (pSt L f left k).1 ∧ (∀ z, (aget f z).isSome = true → (aget (pSt L f left k).1 z).isSome = true) ∧ (∀ z ∈ left.take k, (aget (pSt L f left k).1 z).isSome = true ∨ z ∈ (pSt L f left k).2) ∧ (z0 ∈ left.take k → (pSt L f left k).2.length < k) ∧ (pSt L f left k).2.length ≤ k :=
  nst_inv (fun (k : Nat) (s : List (Str × Int) × List Str) => HtOk chs s.1 ∧ (∀ z, (aget f z).isSome = true → (aget s.1 z).isSome = true) ∧ (∀ z ∈ left.take k, (aget s.1 z).isSome = true ∨ z ∈ s.2) ∧ (z0 ∈ left.take k → s.2.length < k) ∧ s.2.length ≤ k)
    ⟨hf, fun _ h => h, fun z hz => by simp at hz, fun h => by simp at h, Nat.le_refl _⟩ fun k z s e ⟨h1, h2, h3, h4, h5⟩ => by
      have hz : z ∈ chs.map (·.1) := hl z (List.mem_of_getElem? e)
      have hzL : z ∈ L.map (·.1) := (pm.map _).mem_iff.mpr hz
      obtain ⟨c1, c2, c3⟩ := chOf_mem hzL
      have tk : left.take (k + 1) = left.take k ++ [z] := by rw [List.take_add_one, e]; rfl
      unfold pStep
      split
      · rename_i hall
        rw [List.all_eq_true] at hall
        have put : ∀ y, (aget s.1 y).isSome = true → (aget (aput s.1 z (htOf s.1 (chOf L z).2.1)) y).isSome = true := fun y hy => by
          rw [aget_put]
          split
          · rfl
          · exact hy
        refine ⟨fun y v hv => ?_, fun y hy => put y (h2 y hy), fun y hy => ?_, fun hy => ?_, Nat.le_succ_of_le h5⟩
        · dsimp only at hv
          rw [aget_put] at hv
          by_cases q : z = y
          · rw [if_pos q] at hv
            cases hv
            subst q
            refine ⟨hz, ?_⟩
            have hq := hts_eq ho nd _ (pm.mem_iff.mp c2)
            rw [c3] at hq
            rw [hq]
            unfold htOf
            congr 1
            refine List.map_congr_left fun l hlm => ?_
            obtain ⟨w, hw⟩ := Option.isSome_iff_exists.mp (hall l hlm)
            rw [hw, (h1 l w hw).2]
            rfl
          · rw [if_neg q] at hv
            exact h1 y v hv
        · rw [tk] at hy
          rcases List.mem_append.mp hy with q | q
          · exact (h3 y q).imp (put y) id
          · rw [List.mem_singleton.mp q]
            left
            dsimp only
            rw [aget_put_self]
            rfl
        · exact Nat.lt_succ_of_le h5
      · rename_i hall
        refine ⟨h1, h2, fun y hy => ?_, fun hy => ?_, by rw [List.length_append]; simp; omega⟩
        · rw [tk] at hy
          rcases List.mem_append.mp hy with q | q
          · exact (h3 y q).imp id fun w => List.mem_append_left _ w
          · exact .inr (List.mem_append_right _ q)
        · rw [tk] at hy
          rcases List.mem_append.mp hy with q | q
          · have := h4 q
            rw [List.length_append]; simp; omega
          · exfalso
            rw [List.mem_singleton] at q
            subst q
            exact hall (List.all_eq_true.mpr fun l hlm => h2 l (h0 l hlm))
theorem least (ho : inOrd chs) {left : List Str} (hl : ∀ z ∈ left, z ∈ chs.map (·.1)) (hne : left ≠ []) : ∃ ch ∈ chs, ch.1 ∈ left ∧ ∀ l ∈ ch.2.1, l ∉ left := by
  have ex : ∃ i : Nat, ∃ ch : Ch, chs[i]? = some ch ∧ ch.1 ∈ left := by
    obtain ⟨z, hz⟩ := List.exists_mem_of_ne_nil left hne
    obtain ⟨ch, hch, e⟩ := List.mem_map.mp (hl z hz)
    obtain ⟨i, hi⟩ := List.getElem?_of_mem hch
    exact ⟨i, ch, hi, by rw [e]; exact hz⟩
  have : ∀ n : Nat, (∃ i : Nat, i ≤ n ∧ ∃ ch : Ch, chs[i]? = some ch ∧ ch.1 ∈ left) → ∃ ch ∈ chs, ch.1 ∈ left ∧ ∀ l ∈ ch.2.1, l ∉ left := by
    intro n
    induction n with
    | zero =>
      rintro ⟨i, hi, ch, e, h⟩
      obtain rfl : i = 0 := by omega
      exact ⟨ch, List.mem_of_getElem? e, h, fun l hlm _ => by have := ho 0 ch e l hlm; simp at this⟩
    | succ n ih =>
      rintro ⟨i, hi, ch, e, h⟩
      by_cases q : ∃ j : Nat, j ≤ n ∧ ∃ ch : Ch, chs[j]? = some ch ∧ ch.1 ∈ left
      · exact ih q
      · refine ⟨ch, List.mem_of_getElem? e, h, fun l hlm hll => q ?_⟩
        obtain ⟨f, hf, e2⟩ := List.mem_map.mp (ho i ch e l hlm)
        obtain ⟨j, hj⟩ := List.getElem?_of_mem hf
        have hji : j < i := by
          have := (List.getElem?_eq_some_iff.mp hj).1
          rw [List.length_take] at this
          omega
        rw [List.getElem?_take_of_lt hji] at hj
        exact ⟨j, by omega, f, hj, by rw [e2]; exact hll⟩
  obtain ⟨i, h⟩ := ex
  exact this i ⟨i, Nat.le_refl _, h⟩
theorem hgLoop_ok (ho : inOrd chs) (nd : (chs.map (·.1)).Nodup) (pm : L.Perm chs) : ∀ (n : Nat) (f : List (Str × Int)) (left : List Str), left.length < n → HtOk chs f → (∀ z ∈ left, z ∈ chs.map (·.1)) → (∀ z ∈ chs.map (·.1), (aget f z).isSome = true ∨ z ∈ left) →
    HtOk chs (hgLoop L n f left) ∧ ∀ z ∈ chs.map (·.1), (aget (hgLoop L n f left) z).isSome = true
  | 0, _, _, h, _, _, _ => by omega
  | n + 1, f, left, hn, hf, hl, hc => by
    unfold hgLoop
    by_cases hne : left = []
    · rw [if_pos hne]
      refine ⟨hf, fun z hz => ?_⟩
      rcases hc z hz with q | q
      · exact q
      · rw [hne] at q; cases q
    · rw [if_neg hne]
      obtain ⟨ch, hch, m1, m2⟩ := least ho hl hne
      have ndL : (L.map (·.1)).Nodup := (pm.map _).nodup_iff.mpr nd
      have e0 : chOf L ch.1 = ch := chOf_self ndL (pm.mem_iff.mpr hch)
      have inn : ∀ l ∈ ch.2.1, l ∈ chs.map (·.1) := fun l hlm => by
        obtain ⟨i, hi⟩ := List.getElem?_of_mem hch
        have := ho i ch hi l hlm
        rw [List.map_take] at this
        exact List.mem_of_mem_take this
      obtain ⟨a1, a2, a3, a4, a5⟩ := pass_ok ho nd pm hf hl ch.1 (by rw [e0]; exact fun l hlm => (hc l (inn l hlm)).resolve_right (m2 l hlm)) left.length (Nat.le_refl _)
      obtain ⟨b1, b2, b3⟩ := pSt_sub L f left left.length (Nat.le_refl _)
      rw [List.take_length] at a3 a4
      have lt := a4 m1
      rw [if_neg (by omega)]
      exact hgLoop_ok ho nd pm n _ _ (by omega) a1 (fun z hz => hl z (b3 z hz)) fun z hz => by
        rcases hc z hz with q | q
        · exact .inl (a2 z q)
        · exact a3 z q
theorem hg_ok (ho : inOrd chs) (nd : (chs.map (·.1)).Nodup) (pm : L.Perm chs) : ∀ z ∈ chs.map (·.1), aget (hg L) z = some (hOf chs z) := fun z hz => by
  obtain ⟨h1, h2⟩ := hgLoop_ok (L := L) ho nd pm (L.length + 1) [] (L.map (·.1)) (by simp) (fun z v e => by cases e) (fun z hz => (pm.map _).mem_iff.mp hz) (fun z hz => .inr ((pm.map _).mem_iff.mpr hz))
  obtain ⟨v, hv⟩ := Option.isSome_iff_exists.mp (h2 z hz)
  rw [show aget (hg L) z = some v from hv, (h1 z v hv).2]
/-! ### the plain order by names -/
def nOrd (h : Str → Int) (ns : List Str) : List Str := (ssort ns).reverse.mergeSort (PySem.W.dataLe false fun z => .int (h z))
theorem ssort_perm (xs : List Str) : (ssort xs).Perm xs := List.mergeSort_perm xs sle
theorem nOrd_plain (h : Str → Int) (chs : List Ch) : nOrd h (chs.map (·.1)) = (plain h chs).map (·.1) := by
  have e1 : (byName chs).map (·.1) = (ssort (chs.map (·.1))).reverse := by
    have e := PySem.W.dataGe_str (β := Ch) (fun ch => ch.1)
    have e2 : (PySem.W.dataLe true fun (ch : Ch) => PyData.str ch.1) = fun a b => sle b.1 a.1 := e.trans (by funext a b; unfold sle; exact (PySem.W.not_lt_str _ _).symm)
    have h1 : (byName chs).Pairwise fun a b => sle b.1 a.1 = true := by
      unfold byName
      rw [e2]
      exact List.pairwise_mergeSort (le := fun (a b : Ch) => sle b.1 a.1) (fun a b c h1 h2 => sle_trans _ _ _ h2 h1) (fun a b => sle_total _ _) chs
    have h2 : ((byName chs).map (·.1)).reverse = ssort (chs.map (·.1)) := ssort_eq ((List.reverse_perm _).trans ((List.mergeSort_perm chs _).map _)) (by
      rw [List.pairwise_reverse, List.pairwise_map]
      exact h1)
    rw [← h2, List.reverse_reverse]
  unfold nOrd plain
  rw [← e1]
  exact (List.map_mergeSort (f := fun (ch : Ch) => ch.1) (fun _ _ _ _ => rfl)).symm
theorem nOrd_perm {h : Str → Int} {xs ys : List Str} (p : xs.Perm ys) : nOrd h xs = nOrd h ys := by
  unfold nOrd
  have : ssort xs = ssort ys := ssort_eq ((ssort_perm xs).trans p) (List.pairwise_mergeSort (le := sle) (fun a b c => sle_trans a b c) (fun a b => sle_total a b) xs)
  rw [this]
theorem nOrd_mem {h : Str → Int} {xs : List Str} {z : Str} : z ∈ nOrd h xs ↔ z ∈ xs := by
  unfold nOrd
  rw [(List.mergeSort_perm _ _).mem_iff, List.mem_reverse, (ssort_perm xs).mem_iff]
theorem nOrd_len {h : Str → Int} {xs : List Str} : (nOrd h xs).length = xs.length := by
  unfold nOrd
  rw [(List.mergeSort_perm _ _).length_eq, List.length_reverse, (ssort_perm xs).length_eq]
def hgAt (L : List Ch) (z : Str) : Int := (aget (hg L) z).getD 0
theorem hgAt_ok (ho : inOrd chs) (nd : (chs.map (·.1)).Nodup) (pm : L.Perm chs) {z : Str} (hz : z ∈ chs.map (·.1)) : hgAt L z = hOf chs z := by
  unfold hgAt
  rw [hg_ok ho nd pm z hz]
  rfl
theorem sort_congr {h g : Str → Int} {xs : List Str} (e : ∀ z ∈ xs, h z = g z) : nOrd h xs = nOrd g xs := by
  have k : ∀ (ys : List Str), (∀ z ∈ ys, h z = g z) → ys.mergeSort (PySem.W.dataLe false fun z => .int (h z)) = ys.mergeSort (PySem.W.dataLe false fun z => .int (g z)) := fun ys hy => by
    have := List.map_mergeSort (r := PySem.W.dataLe false fun (z : Str) => .int (h z)) (s := PySem.W.dataLe false fun z => .int (g z)) (f := id) (l := ys) (fun a ha b hb => by
      show PySem.W.dataLe false (fun (z : Str) => PyData.int (h z)) a b = PySem.W.dataLe false (fun z => PyData.int (g z)) a b
      rw [PySem.W.dataLe_int, PySem.W.dataLe_int]
      dsimp only
      rw [hy a ha, hy b hb])
    rw [List.map_id, List.map_id] at this
    exact this
  unfold nOrd
  exact k _ fun z hz => e z ((ssort_perm xs).mem_iff.mp (List.mem_reverse.mp hz))
/-- the order of a dict's names -/
def ordOf (L : List Ch) : List Str := nOrd (hgAt L) (L.map (·.1))
/-- its changes in this order -/
def seqOf (L : List Ch) : List Ch := (ordOf L).map (chOf L)
theorem ordOf_ok (ho : inOrd chs) (nd : (chs.map (·.1)).Nodup) (pm : L.Perm chs) : ordOf L = (plain (hOf chs) chs).map (·.1) := by
  unfold ordOf
  rw [sort_congr (g := hOf chs) fun z hz => hgAt_ok ho nd pm ((pm.map _).mem_iff.mp hz), nOrd_perm (pm.map _), nOrd_plain]
theorem seqOf_ok (ho : inOrd chs) (nd : (chs.map (·.1)).Nodup) (pm : L.Perm chs) : seqOf L = plain (hOf chs) chs := by
  have ndL : (L.map (·.1)).Nodup := (pm.map _).nodup_iff.mpr nd
  unfold seqOf
  rw [ordOf_ok ho nd pm, List.map_map]
  refine (List.map_congr_left fun ch hch => ?_).trans (List.map_id _)
  exact chOf_self ndL (pm.mem_iff.mpr ((plain_perm _ _).mem_iff.mp hch))
end
end MM

/-! What is refused: a change by itself, a change that comes. -/
namespace MM
open PySem L2 DD TL
/-- of its kinds -/
structure KCh (ch : Ch) : Prop where
  nm : SOk ch.1
  ln : ∀ z ∈ ch.2.1, SOk z
  dd : ∀ d ∈ ch.2.2, d.1 = ("add" : Str) ∨ d.1 = ("set" : Str) → ∃ z, d.2.2 = some z ∧ SOk z
  l1 : ch.2.1.length ≤ 1000
  l2 : ch.2.2.length ≤ 1000
/-- a mark that is not leaned on -/
def ntB (ch : Ch) (d : Dd) : Bool := match d.2.1 with
  | none => false
  | some m => !decide (m.1 = ch.1) && !decide (m.1 ∈ ch.2.1)
def chk (ch : Ch) : Option Str :=
  if (!nmB ch.1 || !((ch.2.1.map nmB).all fun z => z)) = true then some "BadChange"
  else if (!decide (rising ch.2.1) || decide (ch.1 ∈ ch.2.1)) = true then some "BadChange"
  else if (decide ((20 : Int) < (ch.2.2.length : Nat)) || !((ch.2.2.map dkB).all fun z => z)) = true then some "BadChange"
  else if ch.2.2.any (ntB ch) = true then some "NotLeaned" else none
theorem all_map' {α : Type} (p : α → Bool) (xs : List α) : (xs.map p).all (fun z => z) = true ↔ ∀ x ∈ xs, p x = true := by
  rw [List.all_map, List.all_eq_true]
  rfl
theorem wfCh.chk {ch : Ch} (h : wfCh ch) : chk ch = none := by
  have h1 : (ch.2.1.map nmB).all (fun z => z) = true := (all_map' _ _).mpr fun x hx => (nmB_iff x).mpr (h.lns x hx)
  have h2 : (ch.2.2.map dkB).all (fun z => z) = true := (all_map' _ _).mpr fun x hx => (h.dds x hx).ok
  have h3 : ch.2.2.any (ntB ch) = false := by
    rw [List.any_eq_false]
    intro d hd
    unfold ntB
    cases hm : d.2.1 with
    | none => simp
    | some m => rcases h.mks d hd m hm with e | e <;> simp [e]
  have h4 := h.len
  unfold MM.chk
  rw [(nmB_iff _).mpr h.nm, h1, decide_eq_true h.ris, decide_eq_false h.own, h2, h3, decide_eq_false (by omega : ¬ (20 : Int) < (ch.2.2.length : Nat))]
  rfl
/-- the i-th deed's mark tells no line -/
def nlB (L : List Ch) (ch : Ch) (i : Nat) (d : Dd) : Bool := match d.2.1 with
  | none => false
  | some m => !(decide (0 ≤ m.2) && decide (m.2 < (if m.1 = ch.1 then (adds (ch.2.2.take i) : Nat) else (adds (chOf L m.1).2.2 : Nat) : Int)))
def nlAny (L : List Ch) (ch : Ch) : Nat → Bool
  | 0 => false
  | i + 1 => nlAny L ch i || (match ch.2.2[i]? with | some d => nlB L ch i d | none => false)
theorem nlAny_false {L : List Ch} {ch : Ch} : ∀ {n : Nat}, (∀ (i : Nat) (d : Dd), i < n → ch.2.2[i]? = some d → nlB L ch i d = false) → nlAny L ch n = false
  | 0, _ => rfl
  | n + 1, h => by
    unfold nlAny
    rw [nlAny_false fun i d hi => h i d (by omega)]
    cases e : ch.2.2[n]? with
    | none => rfl
    | some d => exact h n d (by omega) e
theorem nlAny_up {L : List Ch} {ch : Ch} {i : Nat} {d : Dd} (e : ch.2.2[i]? = some d) (h : nlB L ch i d = true) : ∀ {n : Nat}, i < n → nlAny L ch n = true
  | 0, hn => by omega
  | n + 1, hn => by
    unfold nlAny
    by_cases q : i = n
    · subst q
      rw [e]
      simp [h]
    · rw [nlAny_up e h (by omega)]
      rfl
/-- what a weave refuses -/
def addO (L : List Ch) (ch : Ch) : Option Str := match chk ch with
  | some c => some c
  | none => if decide (ch.1 ∈ L.map (·.1)) = true then some "Twice" else if (ch.2.1.all fun l => decide (l ∈ L.map (·.1))) = false then some "Missing" else if nlAny L ch ch.2.2.length = true then some "NoLine" else none
theorem chk_marks {ch : Ch} (h : chk ch = none) : ∀ d ∈ ch.2.2, ∀ m, d.2.1 = some m → m.1 = ch.1 ∨ m.1 ∈ ch.2.1 := fun d hd m hm => by
  unfold chk at h
  split at h
  · cases h
  · split at h
    · cases h
    · split at h
      · cases h
      · split at h
        · cases h
        · rename_i q
          have := List.any_eq_false.mp (Bool.not_eq_true _ ▸ q) d hd
          unfold ntB at this
          rw [hm] at this
          by_cases e : m.1 = ch.1
          · exact .inl e
          · by_cases e2 : m.1 ∈ ch.2.1
            · exact .inr e2
            · simp [e, e2] at this
end MM

/-! Changes as the laws make them, in any order that keeps leanings; drawn orders. -/
namespace MM
open PySem L2 DD TL
/-- one of a law's changes -/
structure Lc (chs : List Ch) (ch : Ch) : Prop where
  nm : isNm ch.1
  ris : rising ch.2.1
  dds : ∃ ms, (∀ m ∈ ms, ∃ f ∈ chs, f.1 ∈ ch.2.1 ∧ m ∈ mks f) ∧ okDds ch.1 ms ch.2.2
  len : ch.2.2.length ≤ 20
structure Lw (chs : List Ch) : Prop where
  ord : inOrd chs
  nd : (chs.map (·.1)).Nodup
  each : ∀ ch ∈ chs, Lc chs ch
theorem rising_nd {xs : List Str} (h : rising xs) : xs.Nodup := h.imp fun {a b} hab e => by
  subst e
  unfold slt at hab
  exact List.lt_irrefl _ hab
theorem sub_len : ∀ {xs ys : List Str}, xs.Nodup → (∀ z ∈ xs, z ∈ ys) → xs.length ≤ ys.length
  | [], _, _, _ => Nat.zero_le _
  | x :: xs, ys, nd, h => by
    rw [List.nodup_cons] at nd
    have hx := h x (List.mem_cons_self ..)
    have ih := sub_len (xs := xs) (ys := ys.erase x) nd.2 fun z hz => (List.mem_erase_of_ne (fun e : z = x => nd.1 (by rw [← e]; exact hz))).mpr (h z (List.mem_cons_of_mem _ hz))
    rw [List.length_erase_of_mem hx] at ih
    have : 0 < ys.length := List.length_pos_of_mem hx
    simp only [List.length_cons]
    omega
theorem okChs.lw {chs : List Ch} (h : okChs chs) (nd : (chs.map (·.1)).Nodup) : Lw chs :=
  ⟨h.ord, nd, fun ch hch => by
    obtain ⟨i, hi⟩ := List.getElem?_of_mem hch
    have q := h i ch hi
    obtain ⟨ms, m1, m2⟩ := q.dds
    refine ⟨q.nm, q.ris, ⟨ms, fun m hm => ?_, m2⟩, q.len⟩
    obtain ⟨f, f1, f2⟩ := m1 m hm
    exact ⟨f, List.mem_of_mem_take f1, f2⟩⟩
section
variable {chs L : List Ch}
theorem Lw.leansIn (h : Lw chs) {ch : Ch} (hch : ch ∈ chs) {z : Str} (hz : z ∈ ch.2.1) : z ∈ chs.map (·.1) := by
  obtain ⟨i, hi⟩ := List.getElem?_of_mem hch
  have := h.ord i ch hi z hz
  rw [List.map_take] at this
  exact List.mem_of_mem_take this
theorem Lw.v (h : Lw chs) : vChs chs := fun ch hch => (h.each ch hch).dds
theorem Lw.l1 (h : Lw chs) {ch : Ch} (hch : ch ∈ chs) : ch.2.1.length ≤ chs.length := by
  have := sub_len (rising_nd (h.each ch hch).ris) fun z hz => h.leansIn hch hz
  rwa [List.length_map] at this
theorem Lw.own (h : Lw chs) {ch : Ch} (hch : ch ∈ chs) : ch.1 ∉ ch.2.1 := fun hm => by
  obtain ⟨i, hi⟩ := List.getElem?_of_mem hch
  obtain ⟨f, hf, e⟩ := List.mem_map.mp (h.ord i ch hi _ hm)
  obtain ⟨j, hj⟩ := List.getElem?_of_mem hf
  have hil : i < chs.length := (List.getElem?_eq_some_iff.mp hi).1
  have hji : j < i := by
    have := (List.getElem?_eq_some_iff.mp hj).1
    rw [List.length_take] at this
    omega
  rw [List.getElem?_take_of_lt hji] at hj
  have e1 : (chs.map (·.1))[j]? = some ch.1 := by rw [List.getElem?_map, hj]; simp [e]
  have e2 : (chs.map (·.1))[i]? = some ch.1 := by rw [List.getElem?_map, hi]; rfl
  have := (List.getElem?_inj (by simp; omega) h.nd).mp (e1.trans e2.symm)
  omega
theorem Lw.wf (h : Lw chs) {ch : Ch} (hch : ch ∈ chs) : wfCh ch := by
  have q := h.each ch hch
  obtain ⟨ms, m1, m2⟩ := q.dds
  refine ⟨q.nm, fun z hz => ?_, q.ris, h.own hch, fun d hd => ?_, q.len, fun d hd m hm => ?_⟩
  · obtain ⟨f, hf, e⟩ := List.mem_map.mp (h.leansIn hch hz)
    rw [← e]
    exact (h.each f hf).nm
  · obtain ⟨i, hi⟩ := List.getElem?_of_mem hd
    exact (m2 i d hi).sh
  · obtain ⟨i, hi⟩ := List.getElem?_of_mem hd
    rcases (m2 i d hi).mk hm with q | q
    · obtain ⟨f, f1, f2, f3⟩ := m1 m q
      right
      rw [(mem_mks.mp f3).1]
      exact f2
    · exact .inl q.1
theorem Lw.k (h : Lw chs) (hl : chs.length ≤ 1000) {ch : Ch} (hch : ch ∈ chs) : KCh ch := by
  have w := h.wf hch
  refine ⟨w.nm.sok, fun z hz => (w.lns z hz).sok, fun d hd hw => ?_, Nat.le_trans (h.l1 hch) hl, by have := w.len; omega⟩
  obtain ⟨z, h1, h2⟩ := (w.dds d hd).line (by rcases hw with e | e <;> rw [e]; exact ne_ac; exact ne_sc)
  exact ⟨z, h1, h2.sok⟩
/-- in another order that keeps leanings -/
theorem Lw.to (h : Lw chs) (pm : L.Perm chs) (ho : inOrd L) : Lw L :=
  ⟨ho, (pm.map _).nodup_iff.mpr h.nd, fun ch hch => by
    have q := h.each ch (pm.mem_iff.mp hch)
    obtain ⟨ms, m1, m2⟩ := q.dds
    exact ⟨q.nm, q.ris, ⟨ms, fun m hm => by obtain ⟨f, f1, f2⟩ := m1 m hm; exact ⟨f, pm.mem_iff.mpr f1, f2⟩, m2⟩, q.len⟩⟩
theorem Lw.take (h : Lw chs) (k : Nat) : Lw (chs.take k) :=
  ⟨fun i ch e z hz => by
    have hik : i < k := by
      have := (List.getElem?_eq_some_iff.mp e).1
      rw [List.length_take] at this
      omega
    rw [List.getElem?_take_of_lt hik] at e
    rw [List.take_take, Nat.min_eq_left (by omega)]
    exact h.ord i ch e z hz, by rw [List.map_take]; exact h.nd.sublist (List.take_sublist _ _), fun ch hch => by
    have hc := List.mem_of_mem_take hch
    have q := h.each ch hc
    obtain ⟨ms, m1, m2⟩ := q.dds
    refine ⟨q.nm, q.ris, ⟨ms, fun m hm => ?_, m2⟩, q.len⟩
    obtain ⟨f, f1, f2, f3⟩ := m1 m hm
    refine ⟨f, ?_, f2, f3⟩
    obtain ⟨i, hi⟩ := List.getElem?_of_mem hch
    have hik : i < k := by
      have := (List.getElem?_eq_some_iff.mp hi).1
      rw [List.length_take] at this
      omega
    rw [List.getElem?_take_of_lt hik] at hi
    obtain ⟨g, g1, g2⟩ := List.mem_map.mp (h.ord i ch hi _ f2)
    have : g = f := same_name h.nd (List.mem_of_mem_take g1) f1 g2
    rw [← this]
    exact (List.take_sublist_take_left (by omega)).subset g1⟩
theorem Lw.snoc_new {ch : Ch} (h : Lw (L ++ [ch])) : ch.1 ∉ L.map (·.1) := fun hm => by
  have := h.nd
  rw [List.map_append] at this
  exact (List.nodup_append.mp this).2.2 _ hm _ (by simp) rfl
theorem Lw.snoc_leans {ch : Ch} (h : Lw (L ++ [ch])) : ∀ z ∈ ch.2.1, z ∈ L.map (·.1) := fun z hz => by
  have := h.ord L.length ch (by simp) z hz
  rwa [List.take_left] at this
theorem Lw.init {ch : Ch} (h : Lw (L ++ [ch])) : Lw L := by
  have := h.take L.length
  rwa [List.take_left] at this
/-- the last of them comes -/
theorem Lw.addO {ch : Ch} (h : Lw (L ++ [ch])) : addO L ch = none := by
  have hch : ch ∈ L ++ [ch] := by simp
  have hw := h.wf hch
  have hn := h.snoc_new
  have hl := h.snoc_leans
  obtain ⟨ms, m1, m2⟩ := (h.each ch hch).dds
  unfold MM.addO
  rw [hw.chk]
  dsimp only
  have e2 : (ch.2.1.all fun l => decide (l ∈ L.map (·.1))) = true := List.all_eq_true.mpr fun l hlm => decide_eq_true (hl l hlm)
  have e3 : nlAny L ch ch.2.2.length = false := nlAny_false fun i d hi e => by
    unfold nlB
    cases hm : d.2.1 with
    | none => rfl
    | some m =>
      dsimp only
      rw [Bool.not_eq_false']
      rcases (m2 i d e).mk hm with q | q
      · obtain ⟨f, f1, f2, f3⟩ := m1 m q
        obtain ⟨g1, g2, g3⟩ := mem_mks.mp f3
        have hne : ¬ m.1 = ch.1 := fun z => hw.own (by rw [← z, g1]; exact f2)
        have hf : f ∈ L := by
          rcases List.mem_append.mp f1 with r | r
          · exact r
          · rw [List.mem_singleton.mp r] at f2
            exact absurd f2 hw.own
        rw [if_neg hne, g1, chOf_self h.init.nd hf, decide_eq_true g2, decide_eq_true g3]
        rfl
      · rw [if_pos q.1, decide_eq_true q.2.1, decide_eq_true q.2.2]
        rfl
  rw [decide_eq_false hn, e2, e3]
  rfl
/-! ### a drawn order -/
def tnReady (left fnd : List Ch) : List Ch := left.filter fun c => c.2.1.all fun l => decide (l ∈ fnd.map (·.1))
def tnPick (c : Int) (left fnd : List Ch) : Ch := (tnReady left fnd).getD (mixed c (left.length : Nat) % ((tnReady left fnd).length : Nat)).toNat ch0
def tnLoop (c : Int) : Nat → List Ch → List Ch → List Ch
  | 0, _, fnd => fnd
  | n + 1, left, fnd => if left = [] then fnd else tnLoop c n (left.erase (tnPick c left fnd)) (fnd ++ [tnPick c left fnd])
def turned (chs : List Ch) (c : Int) : List Ch := tnLoop c (chs.length + 1) chs []
theorem tn_ready (h : Lw chs) {left fnd : List Ch} (pm : (fnd ++ left).Perm chs) (hne : left ≠ []) : tnReady left fnd ≠ [] := fun e => by
  obtain ⟨ch, hch, m1, m2⟩ := least (left := left.map (·.1)) h.ord (fun z hz => ((pm.map (·.1)).mem_iff.mp (by rw [List.map_append]; exact List.mem_append_right _ hz))) (by simpa using hne)
  obtain ⟨c, hc, ec⟩ := List.mem_map.mp m1
  have : c = ch := same_name h.nd (pm.mem_iff.mp (List.mem_append_right _ hc)) hch ec
  subst this
  have : c ∈ tnReady left fnd := by
    unfold tnReady
    rw [List.mem_filter]
    refine ⟨hc, List.all_eq_true.mpr fun l hl => decide_eq_true ?_⟩
    have h1 := h.leansIn hch hl
    have h2 : l ∈ (fnd ++ left).map (·.1) := (pm.map _).mem_iff.mpr h1
    rw [List.map_append] at h2
    exact (List.mem_append.mp h2).resolve_right (m2 l hl)
  rw [e] at this
  cases this
theorem tn_ix (h : Lw chs) (c : Int) {left fnd : List Ch} (pm : (fnd ++ left).Perm chs) (hne : left ≠ []) : (mixed c (left.length : Nat) % ((tnReady left fnd).length : Nat)).toNat < (tnReady left fnd).length ∧ 0 ≤ mixed c (left.length : Nat) % ((tnReady left fnd).length : Nat) := by
  have := List.length_pos_iff.mpr (tn_ready h pm hne)
  have h1 := Int.emod_nonneg (mixed c (left.length : Nat)) (b := ((tnReady left fnd).length : Nat)) (by omega)
  have h2 := Int.emod_lt_of_pos (mixed c (left.length : Nat)) (b := ((tnReady left fnd).length : Nat)) (by omega)
  omega
theorem tn_pick (h : Lw chs) (c : Int) {left fnd : List Ch} (pm : (fnd ++ left).Perm chs) (hne : left ≠ []) : tnPick c left fnd ∈ left ∧ ∀ l ∈ (tnPick c left fnd).2.1, l ∈ fnd.map (·.1) := by
  have hlt := (tn_ix h c pm hne).1
  have hm : tnPick c left fnd ∈ tnReady left fnd := by
    unfold tnPick
    rw [List.getD_eq_getElem?_getD, List.getElem?_eq_getElem hlt]
    exact List.getElem_mem hlt
  obtain ⟨h1, h2⟩ := List.mem_filter.mp (show tnPick c left fnd ∈ left.filter _ from hm)
  exact ⟨h1, fun l hl => of_decide_eq_true (List.all_eq_true.mp h2 l hl)⟩
theorem inOrd_snoc {L : List Ch} {ch : Ch} (h : inOrd L) (hc : ∀ l ∈ ch.2.1, l ∈ L.map (·.1)) : inOrd (L ++ [ch]) := fun i a e z hz => by
  by_cases hi : i < L.length
  · rw [List.getElem?_append_left hi] at e
    rw [List.take_append_of_le_length (by omega)]
    exact h i a e z hz
  · have hi2 : i < (L ++ [ch]).length := (List.getElem?_eq_some_iff.mp e).1
    have e3 : i = L.length := by simp at hi2; omega
    subst e3
    rw [List.getElem?_append_right (Nat.le_refl _)] at e
    simp at e
    subst e
    rw [List.take_left]
    exact hc z hz
theorem tn_step (h : Lw chs) (c : Int) {left fnd : List Ch} (pm : (fnd ++ left).Perm chs) (hne : left ≠ []) : ((fnd ++ [tnPick c left fnd]) ++ left.erase (tnPick c left fnd)).Perm chs := by
  refine List.Perm.trans ?_ pm
  rw [List.append_assoc]
  exact (List.Perm.refl fnd).append (List.perm_cons_erase (tn_pick h c pm hne).1).symm
theorem tnLoop_ok (h : Lw chs) (c : Int) : ∀ (n : Nat) (left fnd : List Ch), left.length < n → (fnd ++ left).Perm chs → inOrd fnd → (tnLoop c n left fnd).Perm chs ∧ inOrd (tnLoop c n left fnd)
  | 0, _, _, hn, _, _ => by omega
  | n + 1, left, fnd, hn, pm, ho => by
    unfold tnLoop
    by_cases hne : left = []
    · rw [if_pos hne]
      subst hne
      rw [List.append_nil] at pm
      exact ⟨pm, ho⟩
    · rw [if_neg hne]
      obtain ⟨p1, p2⟩ := tn_pick h c pm hne
      refine tnLoop_ok h c n _ _ ?_ (tn_step h c pm hne) (inOrd_snoc ho p2)
      rw [List.length_erase_of_mem p1]
      have := List.length_pos_of_mem p1
      omega
theorem turned_perm (h : Lw chs) (c : Int) : (turned chs c).Perm chs := (tnLoop_ok h c _ _ _ (by omega) (by simp) (fun i ch e => by simp at e)).1
theorem turned_ord (h : Lw chs) (c : Int) : inOrd (turned chs c) := (tnLoop_ok h c _ _ _ (by omega) (by simp) (fun i ch e => by simp at e)).2
theorem turned_lw (h : Lw chs) (c : Int) : Lw (turned chs c) := h.to (turned_perm h c) (turned_ord h c)
end
end MM

/-! What leans on what, at whatever remove; the lines in question. -/
namespace MM
open PySem L2 DD TL
/-- b is a lean of a -/
def LnTo (chs : List Ch) (a b : Str) : Prop := ∃ ch ∈ chs, ch.1 = a ∧ b ∈ ch.2.1
inductive Rch (chs : List Ch) : Str → Str → Prop
  | refl (a : Str) : Rch chs a a
  | step {a b c : Str} : Rch chs a b → LnTo chs b c → Rch chs a c
theorem Rch.perm {chs L : List Ch} (pm : L.Perm chs) {a b : Str} (h : Rch L a b) : Rch chs a b := by
  induction h with
  | refl => exact .refl _
  | step _ l ih =>
    obtain ⟨ch, hch, e1, e2⟩ := l
    exact .step ih ⟨ch, pm.mem_iff.mp hch, e1, e2⟩
theorem Rch.trans {chs : List Ch} {a b c : Str} (h : Rch chs a b) (h2 : Rch chs b c) : Rch chs a c := by
  induction h2 with
  | refl => exact h
  | step _ l ih => exact .step ih l
def FromNs (chs : List Ch) (ns : List Str) (s : GS) : Prop := ∀ z, z ∈ s.1 ∨ z ∈ s.2 → ∃ n ∈ ns, Rch chs n z
theorem gStep_from {chs : List Ch} {ns : List Str} {s : GS} (nd : (chs.map (·.1)).Nodup) (h : GOn chs ns s) (hf : FromNs chs ns s) : FromNs chs ns (gStep (lnsD chs) s) := by
  obtain ⟨f, w⟩ := s
  unfold gStep
  cases eg : w.getLast? with
  | none => simp only [eg]; exact hf
  | some z =>
    simp only [eg]
    have ew := split_last eg
    have hzw : z ∈ w := by rw [ew]; simp
    have hz : z ∈ chs.map (·.1) := h.w z hzw
    have hdw : ∀ x ∈ w.dropLast, x ∈ w := fun x hx => List.dropLast_subset _ hx
    by_cases q : z ∈ f
    · rw [if_pos q]
      exact fun x hx => hf x (hx.imp id (hdw x))
    · rw [if_neg q]
      obtain ⟨cz, hcz, ez, hget⟩ := lns_get nd hz
      rw [hget]
      intro x hx
      rcases hx with hx | hx
      · rcases List.mem_append.mp hx with r | r
        · exact hf x (.inl r)
        · rw [List.mem_singleton.mp r]; exact hf z (.inr hzw)
      · rcases List.mem_append.mp hx with r | r
        · exact hf x (.inr (hdw x r))
        · obtain ⟨n, hn, hr⟩ := hf z (.inr hzw)
          exact ⟨n, hn, hr.step ⟨cz, hcz, ez, r⟩⟩
theorem gRun_from {chs : List Ch} {ns : List Str} {b : Nat} (nd : (chs.map (·.1)).Nodup) (hl : ∀ ch ∈ chs, ∀ z ∈ ch.2.1, z ∈ chs.map (·.1)) (hb : ∀ ch ∈ chs, ch.2.1.length ≤ b) :
    ∀ (n : Nat) (s : GS), GOn chs ns s → FromNs chs ns s → gMu chs.length b s ≤ n → ∀ z ∈ gRun (lnsD chs) n s, ∃ n ∈ ns, Rch chs n z
  | 0, s, h, hf, hm => fun z hz => hf z (.inl hz)
  | n + 1, s, h, hf, hm => by
    unfold gRun
    by_cases q : s.2 = []
    · rw [if_pos q]
      exact fun z hz => hf z (.inl hz)
    · rw [if_neg q]
      obtain ⟨h1, h2⟩ := gStep_ok nd hl hb h q
      exact gRun_from nd hl hb n _ h1 (gStep_from nd h hf) (by omega)
theorem ground_iff {chs : List Ch} {ns : List Str} {b : Nat} (nd : (chs.map (·.1)).Nodup) (hl : ∀ ch ∈ chs, ∀ z ∈ ch.2.1, z ∈ chs.map (·.1)) (hb : ∀ ch ∈ chs, ch.2.1.length ≤ b) (hn : ∀ z ∈ ns, z ∈ chs.map (·.1)) {z : Str} :
    z ∈ ground chs ns b ↔ ∃ n ∈ ns, Rch chs n z := by
  have g0 : GOn chs ns ([], ns) := ⟨by simp, by simp, hn, fun z h => Or.inr h, by simp⟩
  constructor
  · exact gRun_from nd hl hb _ _ g0 (fun z hz => by rcases hz with h | h; simp at h; exact ⟨z, h, .refl z⟩) (Nat.le_refl _) z
  · rintro ⟨n, hn', hr⟩
    have g := ground_ok nd hl hb hn
    have cl : ∀ ch ∈ chs, ch.1 ∈ ground chs ns b → ∀ x ∈ ch.2.1, x ∈ ground chs ns b := fun ch hch hc x hx => (g.cl ch hch hc x hx).elim id fun e => by simp at e
    induction hr with
    | refl => exact (g.up _ hn').elim id fun e => by simp at e
    | step _ l ih =>
      obtain ⟨ch, hch, e1, e2⟩ := l
      exact cl ch hch (by rw [e1]; exact ih) _ e2
/-- the parts of being a law's changes that the ground asks -/
structure GrOk (chs : List Ch) : Prop where
  nd : (chs.map (·.1)).Nodup
  hl : ∀ ch ∈ chs, ∀ z ∈ ch.2.1, z ∈ chs.map (·.1)
  hb : ∀ ch ∈ chs, ch.2.1.length ≤ 1000
  l0 : chs.length ≤ 1000
theorem GrOk.perm {chs L : List Ch} (h : GrOk chs) (pm : L.Perm chs) : GrOk L :=
  ⟨(pm.map _).nodup_iff.mpr h.nd, fun ch hch z hz => (pm.map _).mem_iff.mpr (h.hl ch (pm.mem_iff.mp hch) z hz), fun ch hch => h.hb ch (pm.mem_iff.mp hch), by rw [pm.length_eq]; exact h.l0⟩
theorem GrOk.ground_perm {chs L : List Ch} (h : GrOk chs) (pm : L.Perm chs) {ns : List Str} (hn : ∀ z ∈ ns, z ∈ chs.map (·.1)) {z : Str} : z ∈ ground L ns 1000 ↔ z ∈ ground chs ns 1000 := by
  have h' := h.perm pm
  rw [ground_iff h'.nd h'.hl h'.hb (fun x hx => (pm.map _).mem_iff.mpr (hn x hx)), ground_iff h.nd h.hl h.hb hn]
  exact ⟨fun ⟨n, a, b⟩ => ⟨n, a, b.perm pm⟩, fun ⟨n, a, b⟩ => ⟨n, a, b.perm pm.symm⟩⟩
/-- a leans on z, or is z -/
def onB (chs : List Ch) (a z : Str) : Bool := decide (z ∈ ground chs [a] 1000)
theorem GrOk.onB_iff {chs : List Ch} (h : GrOk chs) {a z : Str} (ha : a ∈ chs.map (·.1)) : onB chs a z = true ↔ Rch chs a z := by
  unfold onB
  rw [decide_eq_true_iff, ground_iff h.nd h.hl h.hb (fun x hx => by rw [List.mem_singleton.mp hx]; exact ha)]
  exact ⟨fun ⟨n, hn, hr⟩ => by rw [List.mem_singleton.mp hn] at hr; exact hr, fun hr => ⟨a, by simp, hr⟩⟩
theorem GrOk.onB_perm {chs L : List Ch} (h : GrOk chs) (pm : L.Perm chs) {a z : Str} (ha : a ∈ chs.map (·.1)) : onB L a z = onB chs a z := by
  rw [Bool.eq_iff_iff, (h.perm pm).onB_iff ((pm.map _).mem_iff.mpr ha), h.onB_iff ha]
  exact ⟨fun b => b.perm pm, fun b => b.perm pm.symm⟩
theorem ground_nodup {chs : List Ch} (h : GrOk chs) {ns : List Str} (hn : ∀ z ∈ ns, z ∈ chs.map (·.1)) : (ground chs ns 1000).Nodup ∧ ∀ z ∈ ground chs ns 1000, z ∈ chs.map (·.1) := by
  have g := ground_ok h.nd h.hl h.hb hn
  exact ⟨g.nd, g.f⟩
theorem ground_self {chs : List Ch} (h : GrOk chs) {a : Str} (ha : a ∈ chs.map (·.1)) : a ∈ ground chs [a] 1000 :=
  (ground_iff h.nd h.hl h.hb (fun x hx => by rw [List.mem_singleton.mp hx]; exact ha)).mpr ⟨a, by simp, .refl a⟩
/-! ### who leans, on whom -/
/-- all on which a leans -/
def grOf (chs : List Ch) (a : Str) : List Str := (ssort (ground chs [a] 1000)).filter fun z => decide (z ≠ a)
/-- all that lean on a -/
def lnOf (chs : List Ch) (a : Str) : List Str := (ssort (chs.map (·.1))).filter fun z => onB chs z a && decide (z ≠ a)
theorem ssort_perm_eq {xs ys : List Str} (h : xs.Perm ys) : ssort xs = ssort ys :=
  ssort_eq ((List.mergeSort_perm xs sle).trans h) (List.pairwise_mergeSort (le := sle) (fun a b c => sle_trans a b c) (fun a b => sle_total a b) xs)
theorem ssort_pair (xs : List Str) : (ssort xs).Pairwise fun a b => sle a b = true := List.pairwise_mergeSort (le := sle) (fun a b c => sle_trans a b c) (fun a b => sle_total a b) xs
theorem filter_ssort (p : Str → Bool) (xs : List Str) : (ssort xs).filter p = ssort (xs.filter p) :=
  ssort_eq ((List.mergeSort_perm xs sle).filter p) ((ssort_pair xs).sublist List.filter_sublist)
theorem perm_of_iff {xs ys : List Str} (h1 : xs.Nodup) (h2 : ys.Nodup) (h : ∀ z, z ∈ xs ↔ z ∈ ys) : xs.Perm ys := (List.perm_ext_iff_of_nodup h1 h2).mpr h
theorem GrOk.ground_perm' {chs L : List Ch} (h : GrOk chs) (pm : L.Perm chs) {ns : List Str} (hn : ∀ z ∈ ns, z ∈ chs.map (·.1)) : (ground L ns 1000).Perm (ground chs ns 1000) :=
  perm_of_iff (ground_nodup (h.perm pm) fun x hx => (pm.map _).mem_iff.mpr (hn x hx)).1 (ground_nodup h hn).1 fun z => h.ground_perm pm hn
theorem GrOk.grOf_perm {chs L : List Ch} (h : GrOk chs) (pm : L.Perm chs) {a : Str} (ha : a ∈ chs.map (·.1)) : grOf L a = grOf chs a := by
  unfold grOf
  rw [ssort_perm_eq (h.ground_perm' pm (ns := [a]) fun x hx => by rw [List.mem_singleton.mp hx]; exact ha)]
theorem GrOk.lnOf_perm {chs L : List Ch} (h : GrOk chs) (pm : L.Perm chs) (a : Str) : lnOf L a = lnOf chs a := by
  unfold lnOf
  rw [ssort_perm_eq (pm.map _)]
  refine List.filter_congr fun z hz => ?_
  have hz' : z ∈ chs.map (·.1) := (List.mergeSort_perm _ sle).mem_iff.mp hz
  rw [h.onB_perm pm hz']
/-! ### lines in question -/
def setB (ch : Ch) (m : Mk) : Bool := ch.2.2.any fun d => decide (d.1 = ("set" : Str)) && decide (d.2.1 = some m)
def setN (chs : List Ch) (m : Mk) : List Str := (chs.filter fun ch => setB ch m).map (·.1)
def uns0 (chs : List Ch) (m : Mk) : List Str := (setN chs m).filter fun z => !((setN chs m).any fun o => decide (o ≠ z) && onB chs o z)
/-- the names of those that set a line and are not settled -/
def uns (chs : List Ch) (m : Mk) : List Str := ssort (uns0 chs m)
def opN (L : List Ch) (m : Mk) : List Str := (ssort (L.map (·.1))).filter fun z => setB (chOf L z) m
def opS (L : List Ch) (m : Mk) : List Str := (opN L m).filter fun z => !((opN L m).any fun o => decide (o ≠ z) && onB L o z)
theorem any_perm {α : Type} {xs ys : List α} (h : xs.Perm ys) (p : α → Bool) : xs.any p = ys.any p := by
  rw [Bool.eq_iff_iff, List.any_eq_true, List.any_eq_true]
  exact ⟨fun ⟨a, b, c⟩ => ⟨a, h.mem_iff.mp b, c⟩, fun ⟨a, b, c⟩ => ⟨a, h.mem_iff.mpr b, c⟩⟩
theorem any_ext {α : Type} {p q : α → Bool} : ∀ {xs : List α}, (∀ o ∈ xs, p o = q o) → xs.any p = xs.any q
  | [], _ => rfl
  | x :: xs, h => by rw [List.any_cons, List.any_cons, h x (List.mem_cons_self ..), any_ext fun o ho => h o (List.mem_cons_of_mem _ ho)]
theorem opN_perm {chs L : List Ch} (nd : (chs.map (·.1)).Nodup) (pm : L.Perm chs) (m : Mk) : (opN L m).Perm (setN chs m) := by
  have ndL : (L.map (·.1)).Nodup := (pm.map _).nodup_iff.mpr nd
  unfold opN setN
  refine ((List.mergeSort_perm (L.map (·.1)) sle).filter _).trans ?_
  rw [List.filter_map]
  refine List.Perm.map _ ?_
  have : L.filter ((fun z => setB (chOf L z) m) ∘ fun x => x.1) = L.filter fun ch => setB ch m := List.filter_congr fun ch hch => by
    show setB (chOf L ch.1) m = setB ch m
    rw [chOf_self ndL hch]
  rw [this]
  exact pm.filter _
theorem setN_in {chs : List Ch} {m : Mk} {z : Str} (h : z ∈ setN chs m) : z ∈ chs.map (·.1) := by
  obtain ⟨ch, hch, rfl⟩ := List.mem_map.mp h
  exact List.mem_map.mpr ⟨ch, (List.mem_filter.mp hch).1, rfl⟩
theorem opS_eq {chs L : List Ch} (h : GrOk chs) (pm : L.Perm chs) (m : Mk) : opS L m = uns chs m := by
  unfold uns
  have p1 := opN_perm h.nd pm m
  refine ssort_eq ?_ ?_
  · unfold opS uns0
    refine List.Perm.trans ?_ (p1.filter _)
    refine List.Perm.of_eq (List.filter_congr fun z hz => ?_)
    congr 1
    rw [any_perm p1]
    exact any_ext fun o ho => by rw [h.onB_perm pm (setN_in ho)]
  · unfold opS opN
    exact ((ssort_pair (L.map (·.1))).sublist List.filter_sublist).sublist List.filter_sublist
theorem uns_len {chs : List Ch} (m : Mk) : (uns chs m).length ≤ chs.length := by
  unfold uns uns0 setN
  have e := fun xs : List Str => (List.mergeSort_perm xs sle).length_eq
  show (List.mergeSort _ sle).length ≤ _
  rw [e]
  refine Nat.le_trans (List.length_filter_le _ _) ?_
  rw [List.length_map]
  exact List.length_filter_le _ _
abbrev Qn := Mk × List Str
def eQ (q : Qn) : D := .tup [eMk q.1, .lst (q.2.map D.str)]
def qStep (chs : List Ch) (p : Mk × Str) (s : List Qn) : List Qn := if 1 < (uns chs p.1).length then s ++ [(p.1, uns chs p.1)] else s
def qSt (chs : List Ch) : Nat → List Qn := nst (fun _ p s => qStep chs p s) [] (toldOf (model chs))
/-- the lines in question -/
def qs (chs : List Ch) : List Qn := qSt chs (toldOf (model chs)).length
theorem qSt_len (chs : List Ch) : ∀ k, k ≤ (toldOf (model chs)).length → (qSt chs k).length ≤ k :=
  nst_inv (fun k (s : List Qn) => s.length ≤ k) (Nat.le_refl _) fun k p s _ hs => by
    unfold qStep
    split
    · rw [List.length_append]; simp; omega
    · omega
end MM

/-! Two things at once. -/
namespace DD
open PySem PySem.Spec L2
section
variable {T : Tb} {X : Cx} {Γ : Ev} {a b : Expr} {d1 d2 : D} {pos : Pos} {x y : Str} {rest : List Stmt} {P : Pst}
/-- x, y = a, b -/
theorem s_par2 (i j : Nat) {px py pt pt2 : Pos} {kt k2 : Nat} (nd : X.N.Nodup) (ha : ED T X true Γ a d1) (hb : ED T X true Γ b d2) (hr : SD T X ((Γ.set i (some (.sh d1))).set j (some (.sh d2))) rest P)
    (l1 : i < Γ.length := by exact Nat.le_of_ble_eq_true rfl) (l2 : j < Γ.length := by exact Nat.le_of_ble_eq_true rfl) (hc : X.calm = true := by rfl)
    (hi : X.N[i]? = some x := by rfl) (hj : X.N[j]? = some y := by rfl) (hij : i ≠ j := by decide)
    (hx : X.env.scope.names.lookup x = some .local := by rfl) (hy : X.env.scope.names.lookup y = some .local := by rfl)
    (hw : swappedStores [.Tuple [.Name x px, .Name y py] kt pt] (.Tuple [a, b] k2 pt2) X.env = pure (some [x, y]) := by rfl)
    (hs : swapsWithSole [.Tuple [.Name x px, .Name y py] kt pt] (.Tuple [a, b] k2 pt2) pos.line X.env = pure false := by rfl)
    (hs1 : starEach [a, b] X.env = (false, eval a X.env) :: starEach [b] X.env := by rfl) (hs2 : starEach [b] X.env = (false, eval b X.env) :: starEach [] X.env := by rfl) :
    SD T X Γ (.Assign [.Tuple [.Name x px, .Name y py] kt pt] (.Tuple [a, b] k2 pt2) pos :: rest) P :=
  s_seq (ps_par hc nd hi hj hij hx hy (a_cons ha (a_cons hb a_nil hs2) hs1) hw hs) hr
    fun E σ H ⟨Z, g, f⟩ => ⟨Z, g, fun vs H1 g1 x1 d => by
      cases d with
      | cons a1 a2 =>
        cases a2 with
        | cons a2 a3 =>
          cases a3
          have s1 := g1.set l1 a1
          have sub1 := owns_drop Γ i (some (.sh d1)) (fun p d z => by cases z)
          have s2 := s1.set (by rw [List.length_set]; exact l2) (a2.to (rg_less (Z := Z) (H := H1) fun p hp => sub1.subset hp))
          exact ⟨_, _, rfl, Z, s2, f⟩⟩
variable {elt iter : Expr} {scope : Scope} {tp cpos px : Pos} {α β : Type} {as : List α} {f : α → D} {t : Expr}
/-- name = [elt for x in xs] on one line -/
theorem s_mpL (i j : Nat) (f' : β → D) {h : α → β} (nd : X.N.Nodup) (hn : as.length ≤ 16777216) (hi : ED T X true Γ iter (.lst (as.map f))) (ok : BlkOk X.N X.env.scope scope [(x, j)])
    (hg : ∀ (s : Shared) (H : Hp) (C : Addr) (cl : List (Str × Addr)) (fp : List Addr), PG (blkOf X scope s H C cl fp) (.Name x tp) (gName j))
    (he : ∀ (s : Shared) (H : Hp) (C : Addr) (cl : List (Str × Addr)) (fp : List Addr) (a : α), a ∈ as → ED T (blkOf X scope s H C cl fp) true ((Γ.set j none).set j (some (.sh (f a)))) elt (f' (h a)))
    (hr : ∀ p, SD T X (Γ.set i (some (.ow p (.lst ((as.map h).map f'))))) rest P)
    (hj : j < Γ.length := by exact Nat.le_of_ble_eq_true rfl) (ho : owns (Γ.set j none) = owns Γ := by rfl) (hup : ∀ d, owns ((Γ.set j none).set j (some (.sh d))) = owns (Γ.set j none) := by intro _; rfl)
    (hl : i < Γ.length := by exact Nat.le_of_ble_eq_true rfl) (hy : X.N[i]? = some y := by rfl) (hyl : X.env.scope.names.lookup y = some .local := by rfl)
    (hsw : swapsWith (.ListComp elt [⟨.Name x tp, iter, [], 0⟩] scope cpos) (some (.Name y px)) pos.line X.env = pure true := by exact sw_true rfl rfl rfl (by decide +kernel)) (hc : X.calm = true := by rfl) (hs : ∀ x, foldedSetIterable iter X.env x = pure x := by intro _; rfl) :
    SD T X Γ (.Assign [.Name y px] (.ListComp elt [⟨.Name x tp, iter, [], 0⟩] scope cpos) pos :: rest) P := by
  have hlen : (as.map f).length = as.length := by simp
  have ev : compD (fun _ => true) (fun i => (as[i]?.map fun a => f' (h a)).getD .non) (as.map f).length = (as.map h).map f' := by
    rw [hlen, compD_list as (fun _ => true) (fun a => f' (h a)) _ _ (fun _ _ _ => rfl) (fun i a e => by simp [e]) as.length (Nat.le_refl _), List.take_length, List.filter_eq_self.mpr (by simp), List.map_map]
    rfl
  refine s_setLc i (g := gName j) (keep := fun _ => true) (val := fun i => (as[i]?.map fun a => f' (h a)).getD .non) nd (src_list hi) ok hg (fun s H C cl fp i _ => PTs.mk fun pins s' σ H' Q I ⟨Z, g, q⟩ => (pts_nil (X := blkOf X scope s H C cl fp)).run pins s' σ H' Q I (q H' g (Ext.refl H'))) (fun s H C cl fp i hi' _ => ?_) (fun p => by rw [ev]; exact hr p) (by rw [hlen]; exact hn) (by simpa using hj) (by simp) trivial ho (fun i => hup _) hl hy hyl hsw hc hs
  have hlt : i < as.length := by rw [← hlen]; exact hi'
  have e : as[i]? = some as[i] := by simp [hlt]
  show ED T (blkOf X scope s H C cl fp) true ((Γ.set j none).set j (some (.sh ((as.map f).getD i .non)))) elt ((as[i]?.map fun a => f' (h a)).getD .non)
  rw [getD_map e, e]
  exact he s H C cl fp as[i] (List.getElem_mem hlt)
end
end DD

/-! Objects: what they know is read; methods. -/
namespace DD
open PySem PySem.Spec L2
/-- the class, as the head leaves it -/
structure Wv (K : PySem.W.Frag) : Prop where
  cls : Cls K (He.ga K "Weave")
  nk : NoAttr K (He.ga K "Weave") "known"
  mkr : L2.Mk K (He.ga K "Weave") (He.ma K (He.ga K "Weave") "__init__")
/-- a method -/
structure DfM (K : PySem.W.Frag) (x q : Str) (st : Stmt) : Prop where
  ex : ∃ f fd, Meth K (He.ga K "Weave") x f ∧ FunD K x q (defArgs st) (defBody st) (defScope st) [] [] f fd
structure CalM (P : Program) (w : World) (K : PySem.W.Frag) (mg : Str → Option Value) (base : Heap) (x : Str) (ps : List Str) (k : Nat) (sp : Sp) : Prop where
  ex : ∃ f fd, Meth K (He.ga K "Weave") x f ∧ Binds K fd ps [] ∧ FnOk P w K mg base CX0 k f fd ps sp
theorem CalM.mono {P : Program} {w : World} {K : PySem.W.Frag} {mg : Str → Option Value} {base : Heap} {x : Str} {ps : List Str} {j k : Nat} {sp : Sp} (C : CalM P w K mg base x ps j sp) (h : j ≤ k) : CalM P w K mg base x ps k sp := by
  obtain ⟨f, fd, a, b, F⟩ := C.ex
  exact ⟨f, fd, a, b, F.mono h⟩
section
variable {T : Tb} {X : Cx} {Γ : Ev} {m : Bool} {e o a : Expr} {d d0 : D} {ds es : List D} {es' : List Expr} {pos apos : Pos} {x : Str} {ps : List Str} {k : Nat}
/-- o.known -/
theorem e_known (W : Wv X.K) (he : ED T X m Γ e (.obj d)) (hb : attributeBase e "known" X.env (eval e X.env) = eval e X.env := by rfl) : ED T X m Γ (.Attribute e "known" pos) d :=
  PE.imp' (pe_fld he hb) fun σ H Q ⟨Z, g, q⟩ => ⟨Z, g, fun v H1 g1 x1 d1 => by
    cases d1 with
    | obj e1 e2 => exact ⟨_, _, _, _, _, rfl, g1.sub _ _ e1, W.cls, W.nk, rfl, q _ H1 g1 x1 e2⟩⟩
theorem e_meth {R : List D → D → Prop} (W : Wv X.K) (C : CalM X.prog X.w X.K X.mg X.base x ps k (spE T X.K R)) (hr : Room k X.A) (h : R (.obj d0 :: ds) d) (ho : ED T X m Γ o (.obj d0)) (ha : AD T X m Γ (a :: es') ds) (hx : (x == ("known" : Str)) = false := by decide) {pl : Sem Bool}
    (hst : starEach (a :: es') X.env = (false, eval a X.env) :: starEach es' X.env := by rfl) (hpl : (backTo pos (starEach es' X.env)).any (·.1) = false := by rfl)
    (ht : eval (.Call (.Attribute o x apos) (a :: es') [] pos) X.env = (do
      let ov ← eval o X.env
      standAt apos.atName
      let (f, first) ← holding [ov] (getMethod ov x pl)
      callWith pos f first (backTo pos (starEach (a :: es') X.env)) (backToKw pos (keywordEach [] X.env))) := by rfl) : ED T X m Γ (.Call (.Attribute o x apos) (a :: es') [] pos) d := by
  obtain ⟨f, fd, hm, hb, F⟩ := C.ex
  refine PE.imp' (pe_meth (pl := pl) ho W.cls hm F hr hb .nil pass0 ha hst hpl ht) fun σ H Q ⟨Z, g, q⟩ => ⟨Z, g, fun v H1 g1 x1 d1 => ?_⟩
  cases d1 with
  | obj e1 e2 =>
    refine ⟨_, _, _, rfl, g1.sub _ _ e1, by show (match x == ("known" : Str) with | true => _ | false => _) = none; rw [hx]; rfl, Z, g1, fun vs H2 g2 x2 d2 => ?_⟩
    dsimp only
    rw [List.append_nil]
    exact ⟨rg m Z H2 Γ, .obj d0 :: ds, d, g2.sub, rg_noTbl g2, .cons (.obj (rg_ext x2 _ _ e1) (e2.to (rg_ext x2))) d2, h, g2.tab, fun v H3 x3 t3 d3 => q v H3 (g2.to x3 t3) ((x1.trans x2).trans x3) (d3.to (rg_after g2 x3))⟩
theorem e_meth0 {R : List D → D → Prop} (W : Wv X.K) (C : CalM X.prog X.w X.K X.mg X.base x ps k (spE T X.K R)) (hr : Room k X.A) (h : R [.obj d0] d) (ho : ED T X m Γ o (.obj d0)) (hx : (x == ("known" : Str)) = false := by decide) {pl : Sem Bool}
    (ht : eval (.Call (.Attribute o x apos) [] [] pos) X.env = (do
      let ov ← eval o X.env
      standAt apos.atName
      let (f, first) ← holding [ov] (getMethod ov x pl)
      callWith pos f first (backTo pos (starEach [] X.env)) (backToKw pos (keywordEach [] X.env))) := by rfl) : ED T X m Γ (.Call (.Attribute o x apos) [] [] pos) d := by
  obtain ⟨f, fd, hm, hb, F⟩ := C.ex
  refine PE.imp' (pe_meth0 (pl := pl) ho W.cls hm F hr hb .nil pass0 ht) fun σ H Q ⟨Z, g, q⟩ => ⟨Z, g, fun v H1 g1 x1 d1 => ?_⟩
  cases d1 with
  | obj e1 e2 =>
    refine ⟨_, _, _, rfl, g1.sub _ _ e1, by show (match x == ("known" : Str) with | true => _ | false => _) = none; rw [hx]; rfl, ?_⟩
    exact ⟨rg m Z H1 Γ, [.obj d0], d, g1.sub, rg_noTbl g1, .cons (.obj e1 e2) .nil, h, g1.tab, fun v H3 x3 t3 d3 => q v H3 (g1.to x3 t3) (x1.trans x3) (d3.to (rg_after g1 x3))⟩
/-- o.m(): a new list of what cannot change; the object may be owned -/
theorem l_meth0 {R : List D → List D → Prop} (W : Wv X.K) (C : CalM X.prog X.w X.K X.mg X.base x ps k (spL T X.K R)) (hr : Room k X.A) (h : R [.obj d0] es) (hi : immAll es = true) (ho : ED T X false Γ o (.obj d0)) (hx : (x == ("known" : Str)) = false := by decide) {pl : Sem Bool}
    (ht : eval (.Call (.Attribute o x apos) [] [] pos) X.env = (do
      let ov ← eval o X.env
      standAt apos.atName
      let (f, first) ← holding [ov] (getMethod ov x pl)
      callWith pos f first (backTo pos (starEach [] X.env)) (backToKw pos (keywordEach [] X.env))) := by rfl) : LD T X Γ (.Call (.Attribute o x apos) [] [] pos) es := by
  obtain ⟨f, fd, hm, hb, F⟩ := C.ex
  refine PE.imp' (pe_meth0 (pl := pl) ho W.cls hm F hr hb .nil pass0 ht) fun σ H Q ⟨Z, g, q⟩ => ⟨Z, g, fun v H1 g1 x1 d1 => ?_⟩
  cases d1 with
  | obj e1 e2 =>
    refine ⟨_, _, _, rfl, g1.sub _ _ e1, by show (match x == ("known" : Str) with | true => _ | false => _) = none; rw [hx]; rfl, ?_⟩
    exact ⟨rg false Z H1 Γ, [.obj d0], es, g1.sub, rg_noTbl g1, .cons (.obj e1 e2) .nil, h, g1.tab, fun r ws H2 x2 t2 hr2 d2 => q r ws H2 (g1.to x2 t2) (x1.trans x2) hr2 (DaAll.imm (rg_tups (g1.to x2 t2)) es _ hi (d2.to (rg_after g1 x2)))⟩
end
end DD

/-! Methods by their bodies. -/
namespace DD
open PySem PySem.Spec L2
section
variable {T : Tb} {P : Program} {w : World} {K : PySem.W.Frag} {mg : Str → Option Value} {base : Heap} {x q : Str} {st : Stmt} {N ps : List Str} {k : Nat}
theorem calM_E {R : List D → D → Prop} (F : DfM K x q st) (S : FnScope N ps (defScope st)) (hb : ∀ (kV doc pm : Value) (an : Option Addr) (cdv ct : Value) (us : List Value), us.length = ps.length → bindArgs (PySem.W.fnOf x q (defArgs st) (defBody st) (defScope st) .none kV doc pm an cdv ct) ⟨us, []⟩ = pure (ps.zip us))
    (hlen : ∀ ds d, R ds d → ds.length = ps.length) (hpn : ps.length ≤ N.length)
    (hbody : ∀ (f : Addr) (cdv : Value) (A : Around) (outer : List Env) (s : Shared) (H : Hp) (E : XK), Room k (cxN P w K mg base N q (defScope st) f cdv A outer s H E).A → ∀ ds d, R ds d → SD T (cxN P w K mg base N q (defScope st) f cdv A outer s H E) (env0 N.length ds) (defBody st) { nx := fun _ => d = .non, rt := fun d' => d' = d, rl := fun es => d = .lst es }) :
    CalM P w K mg base x ps (k + 1) (spE T K R) := by
  obtain ⟨f, fd, hm, F⟩ := F.ex
  refine ⟨f, fd, hm, F.bindsN hb, F.ok S (fun vs H Q E ⟨G, ds, d, h1, h2, h3, h4, _⟩ => by rw [h3.length]; exact hlen _ _ h4) fun cdv A outer s H vs Q E hr h => ?_⟩
  obtain ⟨G, ds, d, h1, h2, h3, h4, h5, qq⟩ := h
  have hl := hlen _ _ h4
  have hl3 := h3.length
  refine ⟨_, (hbody f cdv A outer s H E hr ds d h4).nox, ⟨G, H, fun _ => none, []⟩, start_ok h1 h2 h3 h5 (by omega), ?_⟩
  refine ⟨fun Γ' σ' H' e g' => ?_, fun d' v H' e x t da => ?_, fun es p ws H' e x t hp da => ?_, fun _ _ _ _ _ e => False.elim e, fun _ _ _ _ e => False.elim e, fun _ _ _ e => False.elim e, fun _ _ _ _ _ e => False.elim e, fun _ e => nomatch e⟩
  · refine qq _ _ g'.ext g'.tab ?_
    rw [e]
    exact .non
  · subst e
    exact qq v H' x t da
  · refine qq _ _ (x.trans (Ext.upd hp)) (t.ext (same_upd hp)) ?_
    rw [e]
    have hg : gr G H (upd H' p (.lst ws)) p = some (.lst ws) := by
      unfold gr
      rw [x.free hp]
      exact nt_of upd_same (fun ps z => by cases z)
    exact .lst hg (da.to (gr_ext (Ext.upd hp)))
theorem calM_L {R : List D → List D → Prop} (F : DfM K x q st) (S : FnScope N ps (defScope st)) (hb : ∀ (kV doc pm : Value) (an : Option Addr) (cdv ct : Value) (us : List Value), us.length = ps.length → bindArgs (PySem.W.fnOf x q (defArgs st) (defBody st) (defScope st) .none kV doc pm an cdv ct) ⟨us, []⟩ = pure (ps.zip us))
    (hlen : ∀ ds d, R ds d → ds.length = ps.length) (hpn : ps.length ≤ N.length)
    (hbody : ∀ (f : Addr) (cdv : Value) (A : Around) (outer : List Env) (s : Shared) (H : Hp) (E : XK), Room k (cxN P w K mg base N q (defScope st) f cdv A outer s H E).A → ∀ ds es, R ds es → SD T (cxN P w K mg base N q (defScope st) f cdv A outer s H E) (env0 N.length ds) (defBody st) { rl := fun es' => es' = es }) :
    CalM P w K mg base x ps (k + 1) (spL T K R) := by
  obtain ⟨f, fd, hm, F⟩ := F.ex
  refine ⟨f, fd, hm, F.bindsN hb, F.ok S (fun vs H Q E ⟨G, ds, d, h1, h2, h3, h4, _⟩ => by rw [h3.length]; exact hlen _ _ h4) fun cdv A outer s H vs Q E hr h => ?_⟩
  obtain ⟨G, ds, es, h1, h2, h3, h4, h5, qq⟩ := h
  have hl := hlen _ _ h4
  have hl3 := h3.length
  refine ⟨_, (hbody f cdv A outer s H E hr ds es h4).nox, ⟨G, H, fun _ => none, []⟩, start_ok h1 h2 h3 h5 (by omega), ?_⟩
  exact ⟨fun Γ' σ' H' e g' => False.elim e, fun d' v H' e x t da => False.elim e, fun es' p ws H' e x t hp da => by subst e; exact qq p ws H' x t hp da, fun _ _ _ _ _ e => False.elim e, fun _ _ _ _ e => False.elim e, fun _ _ _ e => False.elim e, fun _ _ _ _ _ e => False.elim e, fun _ e => nomatch e⟩
end
end DD

/-! Objects made and changed. -/
namespace DD
open PySem PySem.Spec L2
/-- what __init__ does -/
def spInit (K : PySem.W.Frag) : Sp := fun vs H Q _ => ∃ (x dx : Addr), vs = [.ref x] ∧ H x = some (.ins (He.ga K "Weave") dx []) ∧ ∀ p, H p = none → Q .non (upd (upd H p (.dK [])) x (.ins (He.ga K "Weave") dx [("known", .ref p)]))
section
variable {T : Tb} {P : Program} {w : World} {K : PySem.W.Frag} {mg : Str → Option Value} {base : Heap} {st : Stmt} {N : List Str}
theorem cal_init {ap ep sp' kp : Pos} {rest : List Stmt} (W : Wv K) (F : DfM K "__init__" "Weave.__init__" st) (S : FnScope ["self"] ["self"] (defScope st)) (hb : ∀ (kV doc pm : Value) (an : Option Addr) (cdv ct : Value) (us : List Value), us.length = 1 → bindArgs (PySem.W.fnOf "__init__" "Weave.__init__" (defArgs st) (defBody st) (defScope st) .none kV doc pm an cdv ct) ⟨us, []⟩ = pure ((["self"] : List Str).zip us))
    (hbody : defBody st = [.Assign [.Attribute (.Name "self" sp') "known" ap] (.Dict [] [] kp) ep])
    (hs : ∀ (f : Addr) (cdv : Value) (A : Around) (outer : List Env) (s : Shared) (H : Hp) (E : XK), swapsWith (.Dict [] [] kp) (some (.Attribute (.Name "self" sp') "known" ap)) ep.line (cxOf CX0 P w K mg base ["self"] "Weave.__init__" (defScope st) f cdv A outer s H E).env = pure false)
    (hv : (defScope st).names.lookup ("self" : Str) = some NameKind.local) :
    CalM P w K mg base "__init__" ["self"] 1 (spInit K) := by
  obtain ⟨f, fd, hm, F⟩ := F.ex
  refine ⟨f, fd, hm, F.bindsN hb, F.ok S (fun vs H Q E ⟨x, dx, e, _⟩ => by rw [e]; rfl) fun cdv A outer s H vs Q E hr h => ?_⟩
  obtain ⟨x, dx, rfl, h1, q⟩ := h
  rw [hbody]
  refine ⟨_, pss_cons (ps_fld (pe_var (i := 0) rfl (.inl hv) (by decide) (by decide)) pe_dnewK (hs f cdv A outer s H E)) pss_nil, ?_⟩
  intro p hp
  refine ⟨.ref x, rfl, x, _, dx, [], rfl, ?_, W.cls, W.nk, by decide, ?_⟩
  · rw [upd_ne (fun z => by rw [z, hp] at h1; cases h1)]
    exact h1
  · exact q p hp
end
section
variable {T : Tb} {X : Cx} {Γ : Ev} {pos px np cpos : Pos} {x : Str} {rest : List Stmt} {P : Pst} {k : Nat}
/-- name = Weave() -/
theorem s_newObj (i : Nat) (W : Wv X.K) (C : CalM X.prog X.w X.K X.mg X.base "__init__" ["self"] k (spInit X.K)) (hr : Room (k + 1) X.A) (hm : X.mg "Weave" = some (.ref (He.ga X.K "Weave"))) (nd : X.N.Nodup) (hrest : ∀ p, SD T X (Γ.set i (some (.ow p (.obj (.dic [] []))))) rest P) (hl : i < Γ.length := by exact Nat.le_of_ble_eq_true rfl) (hi : X.N[i]? = some x := by rfl) (hx : Loc X.env.scope x := by first | exact .inl rfl | exact .inr rfl)
    (hg : Gl X "Weave" := by rfl) (hs : swapsWith (.Call (.Name "Weave" np) [] [] cpos) (some (.Name x px)) pos.line X.env = pure false := by rfl) (hf : X.fn x = true ∨ X.env.scope.names.lookup x = some .local := by first | exact .inl rfl | exact .inr rfl) : SD T X Γ (.Assign [.Name x px] (.Call (.Name "Weave" np) [] [] cpos) pos :: rest) P := by
  obtain ⟨f, fd, hmeth, hb, F⟩ := C.ex
  have ef : f = He.ma X.K (He.ga X.K "Weave") "__init__" := by
    have := hmeth.at_.symm.trans W.mkr.init
    simpa using this
  subst ef
  refine s_seq (u := fun E σ H => ∃ p, tSt T X.K (Γ.set i (some (.ow p (.obj (.dic [] []))))) P E σ H) (ps_set nd hi hx (pe_make0 W.mkr F hr hg hm hb .nil pass0) hs hf) ⟨fun pins s σ H E I ⟨p, h⟩ => (hrest p).run pins s σ H E I h⟩
    fun E σ H ⟨Z, g, f⟩ x' dx hx' hd hne => ⟨x', dx, rfl, upd_same, fun p hp => ⟨rfl, p, Z, ?_, f⟩⟩
  have hpx : p ≠ x' := fun z => by rw [z, upd_same] at hp; cases hp
  have hp1 : upd H dx (.own x') p = none := by rw [upd_ne hpx] at hp; exact hp
  have hx1 : upd H dx (.own x') x' = none := by rw [upd_ne (fun z => hne z.symm)]; exact hx'
  have eH : upd (upd (upd (upd H dx (.own x')) x' (.ins (He.ga X.K "Weave") dx [])) p (.dK [])) x' (.ins (He.ga X.K "Weave") dx [("known", .ref p)]) = upd (upd (upd H dx (.own x')) x' (.ins (He.ga X.K "Weave") dx [("known", .ref p)])) p (.dK []) := by
    funext b
    by_cases h1 : b = x'
    · subst h1
      rw [upd_same, upd_ne (fun z => hpx z.symm), upd_same]
    · by_cases h2 : b = p
      · subst h2
        rw [upd_ne h1, upd_same, upd_same]
      · rw [upd_ne h1, upd_ne h2, upd_ne h1, upd_ne h2, upd_ne h1]
  rw [eH]
  have g1 := g.new (o := .own x') hd
  have g2 := g1.new (o := .ins (He.ga X.K "Weave") dx [("known", .ref p)]) hx1
  exact g2.newOwV (d := .obj (.dic [] [])) hl (by rw [upd_ne hpx]; exact hp1) ⟨[], upd_same, rfl, .nil⟩ fun G s => ⟨x', dx, rfl, s _ _ (rg_new g1 hx1 (fun _ z => by cases z))⟩
end
end DD

/-! A method that changes its object. -/
namespace DD
open PySem PySem.Spec L2
section
variable {T : Tb} {K : PySem.W.Frag} {Z : Zn} {H H' : Hp} {σ : St} {Γ : Ev}
/-- an owned thing is changed, much else made -/
theorem GOk.chg (g : GOk T K Z H σ Γ) {i : Nat} {p : Addr} {d d' : D} (hi : Γ[i]? = some (some (.ow p d))) (x : Ext (mns H p) H') (t : LamX.Tabs T H')
    (h : OwOk K (mns (gr (rg true Z H Γ) (mns H p) H') p) H' p d') (hv : ∀ G v, VOk K G v p d → VOk K G v p d' := by intro _ _ h; exact h) : GOk T K Z H' σ (Γ.set i (some (.ow p d'))) := by
  have hm : p ∈ owns Γ := mem_owns.mpr ⟨i, d, hi⟩
  have hm' : p ∈ Z.ex ++ owns Γ := List.mem_append_right _ hm
  have eo := owns_same Γ i p d d' hi
  have hl : i < Γ.length := (List.getElem?_eq_some_iff.mp hi).1
  obtain ⟨nd1, nd2, nd3⟩ := List.nodup_append.mp g.nd
  have keep : ∀ {b : Addr} {o : HO}, b ≠ p → H b = some o → (∀ ps, o ≠ .tbl ps) → H' b = some o := fun {b o} hb e n => x.1 b o (by rw [mns_ne hb]; exact e) n
  have er : ∀ H2, rg true Z H2 (Γ.set i (some (.ow p d'))) = rg true Z H2 Γ := fun H2 => by
    funext a
    unfold rg
    rw [eo]
  have sm : Same (rg true Z H Γ) (rg true Z H' Γ) := fun a o e => by
    unfold rg at e ⊢
    split at e
    · cases e
    · rename_i hn
      rw [if_neg hn]
      have hap : a ≠ p := fun z => hn ⟨rfl, by rw [z]; exact hm'⟩
      unfold gr at e ⊢
      cases q : nt Z.H0 a with
      | none =>
        rw [q] at e
        obtain ⟨h1, h2⟩ := nt_some e
        exact nt_of (keep hap h1 h2) h2
      | some u => rw [q] at e; cases u <;> exact e
  have ex' : Ext Z.H0 H' := ⟨fun b o e n => keep (fun z => by have := g.old p hm'; rw [← z, nt_of e n] at this; cases this) (g.ext.1 b o e n) n, trivial⟩
  have sm2 : Same (mns (gr (rg true Z H Γ) (mns H p) H') p) (rg true Z H' Γ) := fun b o e => by
    by_cases hb : b = p
    · rw [hb, mns_self] at e; cases e
    · rw [mns_ne hb] at e
      unfold gr at e
      rw [nt_mns hb] at e
      cases q : nt H b with
      | none =>
        rw [q] at e
        have nm : b ∉ Z.ex ++ owns Γ := fun z => by
          rcases g.own z with ⟨_, w⟩ | ⟨_, w⟩ | ⟨_, w⟩ <;> (rw [nt_of w (fun ps z => by cases z)] at q; cases q)
        unfold rg
        rw [if_neg (fun z => nm z.2)]
        unfold gr
        rw [g.ext.free' q]
        exact e
      | some u =>
        rw [q] at e
        by_cases tt : ∃ xs, u = .tup xs
        · obtain ⟨xs, rfl⟩ := tt
          have e : some (HO.tup xs) = some o := e
          cases e
          exact sm _ _ (rg_tup g (nt_some q).1)
        · have e' : rg true Z H Γ b = some o := by
            cases u <;> first | exact e | exact absurd ⟨_, rfl⟩ tt
          exact sm _ _ e'
  refine ⟨g.g0, g.gt, ex', t, by rw [eo]; exact g.nd, fun q hq => g.old q (by rw [eo] at hq; exact hq), fun q hq => ?_, by rw [List.length_set]; exact g.len, fun j s e => ?_, by rw [er]; exact g.base.trans sm⟩
  · obtain ⟨xs, e⟩ := g.exl q hq
    exact ⟨xs, keep (fun z => nd3 q hq p hm z) e (fun ps z => by cases z)⟩
  · rw [er]
    by_cases hj : i = j
    · subst hj
      rw [List.getElem?_set_self hl] at e
      cases e
      obtain ⟨v, q1, q2, q3⟩ := g.slots i _ hi
      exact ⟨v, q1, hv _ _ (q2.mono sm), h.to sm2 fun o w _ => w⟩
    · rw [List.getElem?_set_ne hj] at e
      obtain ⟨u, q1, q2⟩ := g.slots j s e
      refine ⟨u, q1, ?_⟩
      cases s with
      | sh d => exact Da.to q2 sm
      | ow r d2 =>
        obtain ⟨a1, a2⟩ := q2
        have hrp : r ≠ p := fun z => hj (owns_ix nd2 hi (by rw [z] at e; exact e))
        exact ⟨a1.mono sm, a2.to sm fun o w n => keep hrp w n⟩
end
/-- a method that changes what its object knows: d, ds to d' -/
def spM (T : Tb) (K : PySem.W.Frag) (R : D → List D → D → Prop) : Sp := fun vs H Q _ => ∃ (G : Hp) (ws : List V) (ds : List D) (a dx p : Addr) (d d' : D), vs = .ref a :: ws ∧ Same G (mns H p) ∧ NoTbl G ∧ DaAll K G ws ds ∧
  G a = some (.ins (He.ga K "Weave") dx [("known", .ref p)]) ∧ OwOk K G H p (.obj d) ∧ R d ds d' ∧ LamX.Tabs T H ∧ ∀ H', Ext (mns H p) H' → LamX.Tabs T H' → OwOk K (mns (gr G (mns H p) H') p) H' p (.obj d') → Q .non H'
def envM (n : Nat) (p : Addr) (d : D) (ds : List D) : Ev := some (.ow p (.obj d)) :: (ds.map (fun d => some (.sh d)) ++ List.replicate (n - 1 - ds.length) none)
theorem startM_ok {T : Tb} {K : PySem.W.Frag} {G H : Hp} {N : List Str} {ws : List V} {ds : List D} {a dx p : Addr} {d : D} (hs : Same G (mns H p)) (hn : NoTbl G) (hd : DaAll K G ws ds) (ha : G a = some (.ins (He.ga K "Weave") dx [("known", .ref p)])) (ho : OwOk K G H p (.obj d)) (ht : LamX.Tabs T H) (hl : ws.length + 1 ≤ N.length) :
    GOk T K ⟨G, mns H p, fun _ => none, []⟩ H (L2.start N (.ref a :: ws)) (envM N.length p d ds) := by
  have eo : owns (envM N.length p d ds) = [p] := by
    have := owns_env0 (N.length - 1) ds
    show p :: owns (env0 (N.length - 1) ds) = [p]
    rw [this]
  have hlen := hd.length
  have hGp : G p = none := by
    cases q : G p with
    | none => rfl
    | some o => have := hs p o q; rw [mns_self] at this; cases this
  have sm : Same G (rg true ⟨G, mns H p, fun _ => none, []⟩ H (envM N.length p d ds)) := fun b o e => by
    have hb : b ≠ p := fun z => by rw [z, hGp] at e; cases e
    unfold rg
    rw [if_neg (by rintro ⟨_, z⟩; rw [eo] at z; exact hb (by simpa using z))]
    show gr G (mns H p) H b = some o
    unfold gr
    rw [nt_of (hs b o e) (fun ps z => by subst z; exact hn b ps e)]
    cases o <;> first | rfl | exact e
  refine ⟨hs, hn, ⟨fun b o e _ => ?_, trivial⟩, ht, by rw [eo]; simp, fun q hq => ?_, fun q hq => ?_, ?_, fun i s e => ?_, fun b o e => ?_⟩
  · have e : mns H p b = some o := e
    by_cases hb : b = p
    · rw [hb, mns_self] at e; cases e
    · rw [mns_ne hb] at e; exact e
  · rw [eo] at hq
    have : q = p := by simpa using hq
    rw [this]
    exact nt_mns_self H p
  · exact absurd (show q ∈ ([] : List Addr) from hq) (by simp)
  · unfold L2.start envM
    simp [hlen]
    omega
  · cases i with
    | zero =>
      have e : some (Sl.ow p (.obj d)) = some s := by simpa [envM] using e
      cases e
      exact ⟨.ref a, rfl, ⟨a, dx, rfl, sm _ _ ha⟩, ho.to sm fun o w _ => w⟩
    | succ i =>
      have e : (ds.map (fun d => some (Sl.sh d)) ++ List.replicate (N.length - 1 - ds.length) none)[i]? = some (some s) := by simpa [envM] using e
      have hi : i < ds.length := by
        by_cases hi : i < ds.length
        · exact hi
        · rw [List.getElem?_append_right (by simpa using hi), List.getElem?_replicate] at e
          split at e <;> cases e
      rw [List.getElem?_append_left (by simpa using hi), List.getElem?_map, List.getElem?_eq_getElem hi] at e
      cases e
      obtain ⟨v, hv, q⟩ := hd.get (List.getElem?_eq_getElem hi)
      refine ⟨v, ?_, Da.to q sm⟩
      unfold L2.start
      rw [List.getElem?_append_left (by simp; omega), List.getElem?_map, List.getElem?_cons_succ, hv]
      rfl
  · cases e
section
variable {T : Tb} {P : Program} {w : World} {K : PySem.W.Frag} {mg : Str → Option Value} {base : Heap} {x q : Str} {st : Stmt} {N ps : List Str} {k : Nat}
theorem cal_M {R : D → List D → D → Prop} (F : DfM K x q st) (S : FnScope N ps (defScope st)) (hb : ∀ (kV doc pm : Value) (an : Option Addr) (cdv ct : Value) (us : List Value), us.length = ps.length → bindArgs (PySem.W.fnOf x q (defArgs st) (defBody st) (defScope st) .none kV doc pm an cdv ct) ⟨us, []⟩ = pure (ps.zip us))
    (hlen : ∀ d ds d', R d ds d' → ds.length + 1 = ps.length) (hpn : ps.length ≤ N.length)
    (hbody : ∀ (f : Addr) (cdv : Value) (A : Around) (outer : List Env) (s : Shared) (H : Hp) (E : XK), Room k (cxN P w K mg base N q (defScope st) f cdv A outer s H E).A → ∀ p d ds d', R d ds d' → SD T (cxN P w K mg base N q (defScope st) f cdv A outer s H E) (envM N.length p d ds) (defBody st) { nx := fun Γ => Γ[0]? = some (some (.ow p (.obj d'))) }) :
    CalM P w K mg base x ps (k + 1) (spM T K R) := by
  obtain ⟨f, fd, hm, F⟩ := F.ex
  refine ⟨f, fd, hm, F.bindsN hb, F.ok S (fun vs H Q E ⟨G, ws, ds, a, dx, p, d, d', e, _, _, h3, _, _, h4, _⟩ => by rw [e, List.length_cons, h3.length]; exact hlen _ _ _ h4) fun cdv A outer s H vs Q E hr h => ?_⟩
  obtain ⟨G, ws, ds, a, dx, p, d, d', rfl, h1, h2, h3, h5, h6, h4, h7, qq⟩ := h
  have hl := hlen _ _ _ h4
  have hl3 := h3.length
  refine ⟨_, (hbody f cdv A outer s H E hr p d ds d' h4).nox, ⟨G, mns H p, fun _ => none, []⟩, startM_ok h1 h2 h3 h5 h6 h7 (by omega), ?_⟩
  refine ⟨fun Γ' σ' H' e g' => ?_, fun d' v H' e x t da => False.elim e, fun es p ws H' e x t hp da => False.elim e, fun _ _ _ _ _ e => False.elim e, fun _ _ _ _ e => False.elim e, fun _ _ _ e => False.elim e, fun _ _ _ _ _ e => False.elim e, fun _ e => nomatch e⟩
  obtain ⟨v, q1, q2, q3⟩ := g'.slots 0 _ e
  have hm : p ∈ owns Γ' := mem_owns.mpr ⟨0, _, e⟩
  refine qq H' g'.ext g'.tab (q3.to (fun b o w => ?_) fun o w _ => w)
  have hb : b ≠ p := fun z => by
    unfold rg at w
    rw [if_pos ⟨rfl, by rw [z]; exact List.mem_append_right _ hm⟩] at w
    cases w
  rw [mns_ne hb]
  exact rg_gr _ _ w
end
section
variable {T : Tb} {X : Cx} {Γ : Ev} {a : Expr} {d d' : D} {ds : List D} {es' : List Expr} {pos apos cpos yp : Pos} {x y : Str} {ps : List Str} {k : Nat} {p : Addr} {rest : List Stmt} {P : Pst}
/-- name.m(..) that changes the object that this name alone tells -/
theorem s_methM (i : Nat) {R : D → List D → D → Prop} (W : Wv X.K) (C : CalM X.prog X.w X.K X.mg X.base x ps k (spM T X.K R)) (hr : Room k X.A) (hi : Γ[i]? = some (some (.ow p (.obj d)))) (h : R d ds d') (ha : AD T X true Γ (a :: es') ds) (hrest : SD T X (Γ.set i (some (.ow p (.obj d')))) rest P)
    (hx : (x == ("known" : Str)) = false := by decide) (hN : X.N[i]? = some y := by rfl) (hv : Vis X.env.scope y := by first | exact Or.inl rfl | exact Or.inr (Or.inl rfl) | exact Or.inr (Or.inr rfl)) (hd : (y == ("__debug__" : Str)) = false := by decide)
    (hcd : (y == ("__classdict__" : Str)) = false := by decide) {pl : Sem Bool}
    (hst : starEach (a :: es') X.env = (false, eval a X.env) :: starEach es' X.env := by rfl) (hpl : (backTo cpos (starEach es' X.env)).any (·.1) = false := by rfl)
    (ht : eval (.Call (.Attribute (.Name y yp) x apos) (a :: es') [] cpos) X.env = (do
      let ov ← eval (.Name y yp) X.env
      standAt apos.atName
      let (f, first) ← holding [ov] (getMethod ov x pl)
      callWith cpos f first (backTo cpos (starEach (a :: es') X.env)) (backToKw cpos (keywordEach [] X.env))) := by rfl)
    (hs : swapsWith (.Call (.Attribute (.Name y yp) x apos) (a :: es') [] cpos) none pos.line X.env = pure false := by rfl) :
    SD T X Γ (.Expr (.Call (.Attribute (.Name y yp) x apos) (a :: es') [] cpos) pos :: rest) P := by
  obtain ⟨f, fd, hm, hb, F⟩ := C.ex
  refine s_seq (ps_expr (pe_meth (pl := pl) (pe_var hN hv hd hcd) W.cls hm F hr hb .nil pass0 ha hst hpl ht) hs) hrest fun E σ H ⟨Z, g, f⟩ => ?_
  obtain ⟨v, e1, ⟨a', dx, rfl, hins⟩, ow⟩ := g.slots i _ hi
  refine ⟨_, e1, a', dx, _, rfl, g.sub _ _ hins, by show (match x == ("known" : Str) with | true => _ | false => _) = none; rw [hx]; rfl, Z, g, fun vs H2 g2 x2 d2 => ?_⟩
  dsimp only
  rw [List.append_nil]
  obtain ⟨v2, e2, ⟨a2, dx2, ea, hins2⟩, ow2⟩ := g2.slots i _ hi
  have ev : V.ref a' = v2 := by
    have := e1.symm.trans e2
    simpa using this
  subst ev
  cases ea
  have same : Same (rg true Z H2 Γ) (mns H2 p) := fun b o w => by
    have hb : b ≠ p := fun z => by
      unfold rg at w
      rw [if_pos ⟨rfl, by rw [z]; exact List.mem_append_right _ (mem_owns.mpr ⟨i, _, hi⟩)⟩] at w
      cases w
    rw [mns_ne hb]
    exact g2.sub _ _ w
  exact ⟨rg true Z H2 Γ, vs, ds, a', dx2, p, d, d', rfl, same, rg_noTbl g2, d2, hins2, ow2, h, g2.tab, fun H' x t q => ⟨Z, g2.chg hi x t q, f⟩⟩
end
end DD

/-! What an object knows is changed; lists emptied. -/
namespace DD
open PySem PySem.Spec L2
section
variable {T : Tb} {X : Cx} {Γ : Ev} {b e : Expr} {pos pos' xp ap : Pos} {x : Str} {p : Addr} {rest : List Stmt} {P : Pst} {β : Type} {g : β → D}
/-- name.known[k] = e -/
theorem s_kput (i : Nat) {m : List (Str × β)} {k : Str} {w : β} (W : Wv X.K) (hu : X.A.units + 64 < cLine) (hi : Γ[i]? = some (some (.ow p (.obj (sdic g m))))) (hn : m.length < 16777216) (he : ED T X true Γ e (g w)) (hk : ED T X true Γ b (D.str k)) (hr : SD T X (Γ.set i (some (.ow p (.obj (sdic g (aput m k w)))))) rest P)
    (hN : X.N[i]? = some x := by rfl) (hv : Vis X.env.scope x := by first | exact Or.inl rfl | exact Or.inr (Or.inl rfl) | exact Or.inr (Or.inr rfl)) (hd : (x == ("__debug__" : Str)) = false := by decide) (hcd : (x == ("__classdict__" : Str)) = false := by decide)
    (hb : attributeBase (.Name x xp) "known" X.env (eval (.Name x xp) X.env) = eval (.Name x xp) X.env := by rfl)
    (hs : swapsWith e (some (.Subscript (.Attribute (.Name x xp) "known" ap) b pos')) pos.line X.env = pure false := by rfl) : SD T X Γ (.Assign [.Subscript (.Attribute (.Name x xp) "known" ap) b pos'] e pos :: rest) P :=
  s_seq (ps_dput (by omega) (pe_fld (pe_var hN hv hd hcd) hb) hk he hs) hr fun E σ H ⟨Z, gz, f⟩ => ⟨Z, gz, fun v H1 g1 x1 d1 => by
    obtain ⟨u, e1, ⟨a, dx, rfl, ha⟩, kvs, h1, h2, h3⟩ := g1.slots i _ hi
    refine ⟨_, e1, a, _, dx, _, .ref p, rfl, g1.sub _ _ ha, W.cls, W.nk, rfl, Z, g1, fun y H2 g2 x2 dy => ?_⟩
    obtain ⟨u', e1', _, kvs2, h1', h2', h3'⟩ := g2.slots i _ hi
    have hv2 := d1.to (rg_ext x2)
    obtain ⟨r1, r2⟩ := putK_map kS kS_inj g k w hv2 m kvs2 h2' h3'
    have hlen : kvs2.length < sizeLine := by
      have := congrArg List.length h2'
      rw [List.length_map, List.length_map] at this
      rw [this, sizeLine_eq]
      exact hn
    refine ⟨p, _, rfl, (by rw [DaAll.key dy]; exact DPut.k h1' hlen), Z, g2.updOw hi ⟨_, upd_same, r1, r2⟩, f⟩⟩
end
section
variable {T : Tb} {X : Cx} {Γ : Ev} {c : Expr} {kb : Bool} {th el rest : List Stmt} {pos apos cpos xp : Pos} {x : Str} {p : Addr} {ds : List D} {P : Pst}
/-- name.clear() -/
theorem s_clear (i : Nat) (hi : Γ[i]? = some (some (.ow p (.lst ds)))) (hr : SD T X (Γ.set i (some (.ow p (.lst [])))) rest P)
    (hN : X.N[i]? = some x := by rfl) (hv : Vis X.env.scope x := by first | exact Or.inl rfl | exact Or.inr (Or.inl rfl) | exact Or.inr (Or.inr rfl)) (hd : (x == ("__debug__" : Str)) = false := by decide)
    (hcd : (x == ("__classdict__" : Str)) = false := by decide) (hbase : attributeBase (.Name x xp) "clear" X.env (eval (.Name x xp) X.env) = eval (.Name x xp) X.env := by rfl)
    (hline : (apos.endLine == cpos.line) = true := by rfl) (hs : swapsWith (.Call (.Attribute (.Name x xp) "clear" apos) [] [] cpos) none pos.line X.env = pure false := by rfl) :
    SD T X Γ (.Expr (.Call (.Attribute (.Name x xp) "clear" apos) [] [] cpos) pos :: rest) P :=
  s_seq (ps_expr (pe_bm0 PySem.F.plainAttrs_list PySem.F.slot_list_clear PySem.F.type_list_clear mt_clear (pe_var hN hv hd hcd) hbase hline) hs) hr fun E σ H ⟨Z, g, f⟩ => by
    obtain ⟨v, e1, rfl, vs, h1, h2⟩ := g.slots i _ hi
    exact ⟨_, e1, .inl ⟨rfl, _, SqL.of h1⟩, p, vs, rfl, rfl, h1, Z, g.updOw hi ⟨[], upd_same, .nil⟩, f⟩
/-- if, joined by one of a family -/
theorem s_ifJ {α : Type} (Γj : α → Ev) (hc : BD T X Γ c kb) (h1 : kb = true → SD T X Γ th { P with nx := fun Γ' => ∃ a, Wk Γ' (Γj a) }) (h2 : kb = false → SD T X Γ el { P with nx := fun Γ' => ∃ a, Wk Γ' (Γj a) }) (hr : ∀ a, SD T X (Γj a) rest P) : SD T X Γ (.If c th el pos :: rest) P := by
  have hrest : PSs X rest (fun E σ H => ∃ a, tSt T X.K (Γj a) P E σ H) := ⟨fun pins s σ H E I ⟨a, h⟩ => (hr a).run pins s σ H E I h⟩
  cases kb with
  | true => exact s_seq (ps_if hc (h1 rfl) pss_never) hrest fun E σ H ⟨Z, g, f⟩ => ⟨Z, g, fun H1 g1 x1 => iteT ⟨Z, g1, ⟨fun Γ' σ' H' ⟨a, w⟩ g' => ⟨a, Z, g'.wk w, f⟩, f.rt, f.rl, f.ro, f.xc, f.rn, f.rm, f.h0⟩⟩⟩
  | false => exact s_seq (ps_if hc pss_never (h2 rfl)) hrest fun E σ H ⟨Z, g, f⟩ => ⟨Z, g, fun H1 g1 x1 => iteF ⟨Z, g1, ⟨fun Γ' σ' H' ⟨a, w⟩ g' => ⟨a, Z, g'.wk w, f⟩, f.rt, f.rl, f.ro, f.xc, f.rn, f.rm, f.h0⟩⟩⟩
end
end DD

/-! Exceptions: raised, passed on, caught. -/
namespace DD
open PySem PySem.Spec L2
/-- an exception class of the program, as the head leaves it -/
structure Ec (K : PySem.W.Frag) (mg : Str → Option Value) (c : Str) : Prop where
  g : mg c = some (.ref (He.ga K c))
  x : PySem.W.excIn K (He.ga K c) He.veBase "ValueError.__new__" = true
  k : PySem.W.keepIn K (.ref (He.ga K c)) = true
  b : PySem.W.subIn K (.ref (He.ga K c)) (.type "BaseException") = some true
  t : PySem.W.typeIn K (.ref (He.ga K c)) = some (.type "type")
/-- how a call ends -/
inductive Out where
  | val (d : D)
  | exc (c : Str)
def spR (T : Tb) (K : PySem.W.Frag) (R : List D → Out → Prop) : Sp := fun vs H Q E => ∃ G ds o, Same G H ∧ NoTbl G ∧ DaAll K G vs ds ∧ R ds o ∧ LamX.Tabs T H ∧
  (∀ d v H', o = .val d → Ext H H' → LamX.Tabs T H' → Da K (gr G H H') v d → Q v H') ∧ ∀ c H', o = .exc c → Ext H H' → LamX.Tabs T H' → E (.ref (He.ga K c)) none H'
structure CalX (P : Program) (w : World) (K : PySem.W.Frag) (mg : Str → Option Value) (base : Heap) (x : Str) (ps : List Str) (k : Nat) (sp : Sp) : Prop where
  ex : ∃ f fd, mg x = some (.ref f) ∧ KeepF K f fd ∧ Binds K fd ps [] ∧ FnOk P w K mg base (L2N.CX P w) k f fd ps sp
theorem CalX.mono {P : Program} {w : World} {K : PySem.W.Frag} {mg : Str → Option Value} {base : Heap} {x : Str} {ps : List Str} {j k : Nat} {sp : Sp} (C : CalX P w K mg base x ps j sp) (h : j ≤ k) : CalX P w K mg base x ps k sp := by
  obtain ⟨f, fd, a, b, c, F⟩ := C.ex
  exact ⟨f, fd, a, b, c, F.mono h⟩
structure CalMX (P : Program) (w : World) (K : PySem.W.Frag) (mg : Str → Option Value) (base : Heap) (x : Str) (ps : List Str) (k : Nat) (sp : Sp) : Prop where
  ex : ∃ f fd, Meth K (He.ga K "Weave") x f ∧ Binds K fd ps [] ∧ FnOk P w K mg base (L2N.CX P w) k f fd ps sp
theorem CalMX.mono {P : Program} {w : World} {K : PySem.W.Frag} {mg : Str → Option Value} {base : Heap} {x : Str} {ps : List Str} {j k : Nat} {sp : Sp} (C : CalMX P w K mg base x ps j sp) (h : j ≤ k) : CalMX P w K mg base x ps k sp := by
  obtain ⟨f, fd, a, b, F⟩ := C.ex
  exact ⟨f, fd, a, b, F.mono h⟩
theorem takes_no {X : Cx} : L2N.Takes X (fun _ _ _ _ => False) := fun u s' ⟨_, _, _, _, _, _, _, _, _, _, _, _, _, _, _, _, w⟩ => False.elim w
theorem pass_no {X : Cx} (σ : St) : PassesAt (L2N.CX X.prog X.w) X σ (fun _ _ _ => False) := L2N.passAt (W := fun _ _ _ _ => False) takes_no σ
def tX (T : Tb) (K : PySem.W.Frag) (Γ : Ev) (c : Str) (W : WX) : TE := fun σ H _ => ∃ Z, GOk T K Z H σ Γ ∧ ∀ H', GOk T K Z H' σ Γ → W (.ref (He.ga K c)) none σ H'
def tXT (T : Tb) (K : PySem.W.Frag) (Γ : Ev) (c : Str) (W : WX) : TT := fun σ H _ => ∃ Z, GOk T K Z H σ Γ ∧ ∀ H', GOk T K Z H' σ Γ → W (.ref (He.ga K c)) none σ H'
def tXA (T : Tb) (K : PySem.W.Frag) (Γ : Ev) (c : Str) (W : WX) : TA := fun σ H _ => ∃ Z, GOk T K Z H σ Γ ∧ ∀ H', GOk T K Z H' σ Γ → W (.ref (He.ga K c)) none σ H'
/-- an expression that ends in an exception -/
abbrev XD (T : Tb) (X : Cx) (W : WX) (Γ : Ev) (e : Expr) (c : Str) : Prop := PE X e (tX T X.K Γ c W)
abbrev XB (T : Tb) (X : Cx) (W : WX) (Γ : Ev) (e : Expr) (c : Str) : Prop := PT X e (tXT T X.K Γ c W)
abbrev XA (T : Tb) (X : Cx) (W : WX) (Γ : Ev) (es : List Expr) (c : Str) : Prop := PA X es (tXA T X.K Γ c W)
section
variable {T : Tb} {X : Cx} {Γ : Ev} {m : Bool} {a e o : Expr} {d d0 : D} {ds : List D} {es' : List Expr} {pos apos p : Pos} {x c : Str} {ps : List Str} {k : Nat} {W : WX} {R : List D → Out → Prop}
theorem e_callX (C : CalX X.prog X.w X.K X.mg X.base x ps k (spR T X.K R)) (hr : Room k X.A) (h : R ds (.val d)) (ha : AD T X m Γ (a :: es') ds) (hg : Gl X x := by rfl) (hdb : (x == ("__debug__" : Str)) = false := by decide)
    (he : starEach (a :: es') X.env = (false, eval a X.env) :: starEach es' X.env := by rfl) (hpl : (backTo pos (starEach es' X.env)).any (·.1) = false := by rfl) : ED T X m Γ (.Call (.Name x p) (a :: es') [] pos) d := by
  obtain ⟨f, fd, hm, hk, hb, F⟩ := C.ex
  exact PE.imp' (pe_callS (E := fun _ _ _ _ => False) F hr hg hm hk.1 hb (fun σ => pass_no σ) ha hdb he hpl) fun σ H Q ⟨Z, g, q⟩ => ⟨Z, g, fun vs H1 g1 x1 d1 =>
    ⟨rg m Z H1 Γ, ds, .val d, g1.sub, rg_noTbl g1, d1, h, g1.tab, fun d' v H2 e x2 t2 d2 => by cases e; exact q v H2 (g1.to x2 t2) (x1.trans x2) (d2.to (rg_after g1 x2)), fun c H' e => by cases e⟩⟩
theorem x_call (C : CalX X.prog X.w X.K X.mg X.base x ps k (spR T X.K R)) (hr : Room k X.A) (h : R ds (.exc c)) (tk : L2N.Takes X W) (ha : AD T X m Γ (a :: es') ds) (hg : Gl X x := by rfl) (hdb : (x == ("__debug__" : Str)) = false := by decide)
    (he : starEach (a :: es') X.env = (false, eval a X.env) :: starEach es' X.env := by rfl) (hpl : (backTo pos (starEach es' X.env)).any (·.1) = false := by rfl) : XD T X W Γ (.Call (.Name x p) (a :: es') [] pos) c := by
  obtain ⟨f, fd, hm, hk, hb, F⟩ := C.ex
  exact PE.imp' (pe_callS (E := WE W) F hr hg hm hk.1 hb (fun σ => L2N.passAt tk σ) ha hdb he hpl) fun σ H Q ⟨Z, g, q⟩ => ⟨Z, g, fun vs H1 g1 x1 d1 =>
    ⟨rg m Z H1 Γ, ds, .exc c, g1.sub, rg_noTbl g1, d1, h, g1.tab, fun d v H2 e => (by cases e), fun c' H2 e x2 t2 => by cases e; exact q H2 (g1.to x2 t2)⟩⟩
/-! ### methods that may raise -/
def tMethS (C : Addr) (mth : Str) (sp : Sp) (E : St → XK) (ta : TE) (t : TA) : TE := fun σ H Q => ta σ H fun v H1 => ∃ a dx fs, v = .ref a ∧ H1 a = some (.ins C dx fs) ∧ fs.lookup mth = none ∧ t σ H1 fun vs H2 => sp (v :: vs) H2 Q (E σ)
section
variable {C f : Addr} {CX : CXT} {fd : FuncData} {sp : Sp} {E : St → XK} {ta : TE} {t : TA} {mth : Str}
theorem pe_methS {pl : Sem Bool} (ho : PE X o ta) (hc : Cls X.K C) (hm : Meth X.K C mth f) (F : FnOk X.prog X.w X.K X.mg X.base CX k f fd ps sp) (hr : Room k X.A) (hb : Binds X.K fd ps []) (hx : ∀ σ, PassesAt CX X σ (E σ)) (ha : PA X (a :: es') t)
    (hst : starEach (a :: es') X.env = (false, eval a X.env) :: starEach es' X.env := by rfl) (hpl : (backTo pos (starEach es' X.env)).any (·.1) = false := by rfl)
    (ht : eval (.Call (.Attribute o mth apos) (a :: es') [] pos) X.env = (do
      let ov ← eval o X.env
      standAt apos.atName
      let (g, one) ← holding [ov] (getMethod ov mth pl)
      callWith pos g one (backTo pos (starEach (a :: es') X.env)) (backToKw pos (keywordEach [] X.env))) := by rfl) :
    PE X (.Call (.Attribute o mth apos) (a :: es') [] pos) (tMethS C mth sp E ta t) :=
  ⟨fun pins s σ H Q I h => PySem.W.methodCall_KW (pl := pl) (thn (ho.run pins s σ H _ I h) fun u s1 ⟨v, H1, I1, rv, b, dx, fs, ev, eb, l, q⟩ => by
    subst ev
    cases (show u = Value.ref b from rv)
    exact getmeth_ok I1 eb hc hm l (PySem.W.callWith_K (first := [.ref b]) (h₀ := X.base) I.ok.mod.kin hm.kp (thn (ha.run pos pins s1 σ H1 _ I1 q) fun us s2 ⟨vs, H2, I2, rs, q2⟩ =>
      ⟨I2.kIn, run_fnS (us := .ref b :: us) (vs := .ref b :: vs) F hr hb (hx σ) I2 (.cons rfl rs) q2⟩) hst hpl)) ht⟩
theorem pe_methS0 {pl : Sem Bool} (ho : PE X o ta) (hc : Cls X.K C) (hm : Meth X.K C mth f) (F : FnOk X.prog X.w X.K X.mg X.base CX k f fd ps sp) (hr : Room k X.A) (hb : Binds X.K fd ps []) (hx : ∀ σ, PassesAt CX X σ (E σ))
    (ht : eval (.Call (.Attribute o mth apos) [] [] pos) X.env = (do
      let ov ← eval o X.env
      standAt apos.atName
      let (g, one) ← holding [ov] (getMethod ov mth pl)
      callWith pos g one (backTo pos (starEach [] X.env)) (backToKw pos (keywordEach [] X.env))) := by rfl) :
    PE X (.Call (.Attribute o mth apos) [] [] pos) (tMethS C mth sp E ta tNil) :=
  ⟨fun pins s σ H Q I h => PySem.W.methodCall_KW (pl := pl) (thn (ho.run pins s σ H _ I h) fun u s1 ⟨v, H1, I1, rv, b, dx, fs, ev, eb, l, q⟩ => by
    subst ev
    cases (show u = Value.ref b from rv)
    exact getmeth_ok I1 eb hc hm l (PySem.W.callWith_K0 (first := [.ref b]) I1.kIn hm.kp (run_fnS (us := [.ref b]) (vs := [.ref b]) F hr hb (hx σ) I1 (.cons rfl .nil) q))) ht⟩
end
theorem look_no {x : Str} {p : Addr} (hx : (x == ("known" : Str)) = false) : List.lookup x [(("known" : Str), V.ref p)] = none := by
  show (match x == ("known" : Str) with | true => _ | false => _) = none
  rw [hx]
  rfl
theorem e_methX (Wc : Wv X.K) (C : CalMX X.prog X.w X.K X.mg X.base x ps k (spR T X.K R)) (hr : Room k X.A) (h : R (.obj d0 :: ds) (.val d)) (ho : ED T X m Γ o (.obj d0)) (ha : AD T X m Γ (a :: es') ds) (hx : (x == ("known" : Str)) = false := by decide) {pl : Sem Bool}
    (hst : starEach (a :: es') X.env = (false, eval a X.env) :: starEach es' X.env := by rfl) (hpl : (backTo pos (starEach es' X.env)).any (·.1) = false := by rfl)
    (ht : eval (.Call (.Attribute o x apos) (a :: es') [] pos) X.env = (do
      let ov ← eval o X.env
      standAt apos.atName
      let (g, one) ← holding [ov] (getMethod ov x pl)
      callWith pos g one (backTo pos (starEach (a :: es') X.env)) (backToKw pos (keywordEach [] X.env))) := by rfl) : ED T X m Γ (.Call (.Attribute o x apos) (a :: es') [] pos) d := by
  obtain ⟨f, fd, hm, hb, F⟩ := C.ex
  refine PE.imp' (pe_methS (pl := pl) (E := fun _ _ _ _ => False) ho Wc.cls hm F hr hb (fun σ => pass_no σ) ha hst hpl ht) fun σ H Q ⟨Z, g, q⟩ => ⟨Z, g, fun v H1 g1 x1 d1 => ?_⟩
  cases d1 with
  | obj e1 e2 =>
    refine ⟨_, _, _, rfl, g1.sub _ _ e1, look_no hx, Z, g1, fun vs H2 g2 x2 d2 => ?_⟩
    exact ⟨rg m Z H2 Γ, .obj d0 :: ds, .val d, g2.sub, rg_noTbl g2, .cons (.obj (rg_ext x2 _ _ e1) (e2.to (rg_ext x2))) d2, h, g2.tab, fun d' v H3 e x3 t3 d3 => by cases e; exact q v H3 (g2.to x3 t3) ((x1.trans x2).trans x3) (d3.to (rg_after g2 x3)), fun c H' e => by cases e⟩
theorem x_meth (Wc : Wv X.K) (C : CalMX X.prog X.w X.K X.mg X.base x ps k (spR T X.K R)) (hr : Room k X.A) (h : R (.obj d0 :: ds) (.exc c)) (tk : L2N.Takes X W) (ho : ED T X m Γ o (.obj d0)) (ha : AD T X m Γ (a :: es') ds) (hx : (x == ("known" : Str)) = false := by decide) {pl : Sem Bool}
    (hst : starEach (a :: es') X.env = (false, eval a X.env) :: starEach es' X.env := by rfl) (hpl : (backTo pos (starEach es' X.env)).any (·.1) = false := by rfl)
    (ht : eval (.Call (.Attribute o x apos) (a :: es') [] pos) X.env = (do
      let ov ← eval o X.env
      standAt apos.atName
      let (g, one) ← holding [ov] (getMethod ov x pl)
      callWith pos g one (backTo pos (starEach (a :: es') X.env)) (backToKw pos (keywordEach [] X.env))) := by rfl) : XD T X W Γ (.Call (.Attribute o x apos) (a :: es') [] pos) c := by
  obtain ⟨f, fd, hm, hb, F⟩ := C.ex
  refine PE.imp' (pe_methS (pl := pl) (E := WE W) ho Wc.cls hm F hr hb (fun σ => L2N.passAt tk σ) ha hst hpl ht) fun σ H Q ⟨Z, g, q⟩ => ⟨Z, g, fun v H1 g1 x1 d1 => ?_⟩
  cases d1 with
  | obj e1 e2 =>
    refine ⟨_, _, _, rfl, g1.sub _ _ e1, look_no hx, Z, g1, fun vs H2 g2 x2 d2 => ?_⟩
    exact ⟨rg m Z H2 Γ, .obj d0 :: ds, .exc c, g2.sub, rg_noTbl g2, .cons (.obj (rg_ext x2 _ _ e1) (e2.to (rg_ext x2))) d2, h, g2.tab, fun d v H3 e => (by cases e), fun c' H3 e x3 t3 => by cases e; exact q H3 (g2.to x3 t3)⟩
end
/-! ### where an expression raises -/
section
variable {T : Tb} {X : Cx} {Γ : Ev} {m : Bool} {a b e : Expr} {d : D} {ds : List D} {es es' : List Expr} {pos px p p2 ap : Pos} {x y c : Str} {W : WX} {rest th el : List Stmt} {P : Pst} {i j : Nat}
theorem PA.imp2 {X : Cx} {e : List Expr} {t t' : TA} (h : PA X e t) (w : ∀ σ H Q, t' σ H Q → t σ H Q) : PA X e t' := PA.imp' h w
theorem x_argHd (h : XD T X W Γ a c) (hr : PA X es (tXA T X.K Γ c W)) (hs : starEach (a :: es) X.env = (false, eval a X.env) :: starEach es X.env := by rfl) : XA T X W Γ (a :: es) c :=
  PA.imp' (pa_cons h hr hs) fun σ H Q q => q
theorem x_argTl (h : ED T X m Γ a d) (hr : XA T X W Γ es c) (hs : starEach (a :: es) X.env = (false, eval a X.env) :: starEach es X.env := by rfl) : XA T X W Γ (a :: es) c :=
  PA.imp' (pa_cons h hr hs) fun σ H Q ⟨Z, g, q⟩ => ⟨Z, g, fun v H1 g1 x1 d1 => ⟨Z, g1, fun H2 g2 => q H2 g2⟩⟩
theorem x_argLast (h : XD T X W Γ a c) (hs : starEach [a] X.env = (false, eval a X.env) :: starEach [] X.env := by rfl) : XA T X W Γ [a] c :=
  PA.imp' (pa_cons h pa_nil hs) fun σ H Q q => q
theorem x_tup {x1 : Nat} (h : XA T X W Γ es c) : XD T X W Γ (.Tuple es x1 pos) c := PE.imp' (pe_tup h) fun σ H Q q => q
theorem xb_isN {q1 : Nat} (h : XD T X W Γ a c) (h1 : behindInMarks .Is (.Constant .none q1 p) = false := by first | exact nobehind _ (by decide) (by decide) | rfl) : XB T X W Γ (.Compare a [.Is] [.Constant .none q1 p] pos) c :=
  PT.imp' (pt_cmp (pc_isN h) h1) fun σ H Q q => q
theorem s_exprX (he : XD T X P.wx Γ e c) (h : P.xc c Γ) (hs : swapsWith e none pos.line X.env = pure false := by rfl) : SD T X Γ (.Expr e pos :: rest) P :=
  s_seq (ps_expr he hs) pss_never fun E σ H ⟨Z, g, f⟩ => ⟨Z, g, fun H1 g1 => f.xc c Γ σ H1 h g1⟩
theorem s_retX (he : XD T X P.wx Γ e c) (h : P.xc c Γ) : SD T X Γ (.Return (some e) pos :: rest) P :=
  s_seq (ps_ret he) pss_never fun E σ H ⟨Z, g, f⟩ => ⟨Z, g, fun H1 g1 => f.xc c Γ σ H1 h g1⟩
theorem s_ifX (he : XB T X P.wx Γ e c) (h : P.xc c Γ) : SD T X Γ (.If e th el pos :: rest) P :=
  s_seq (ps_if he pss_never pss_never) pss_never fun E σ H ⟨Z, g, f⟩ => ⟨Z, g, fun H1 g1 => f.xc c Γ σ H1 h g1⟩
theorem s_setX (i : Nat) (nd : X.N.Nodup) (he : XD T X P.wx Γ e c) (h : P.xc c Γ) (hi : X.N[i]? = some x := by rfl) (hx : Loc X.env.scope x := by first | exact .inl rfl | exact .inr rfl)
    (hs : swapsWith e (some (.Name x px)) pos.line X.env = pure false := by rfl) (hf : X.fn x = true ∨ X.env.scope.names.lookup x = some .local := by first | exact .inl rfl | exact .inr rfl) : SD T X Γ (.Assign [.Name x px] e pos :: rest) P :=
  s_seq (ps_set nd hi hx he hs hf) pss_never fun E σ H ⟨Z, g, f⟩ => ⟨Z, g, fun H1 g1 => f.xc c Γ σ H1 h g1⟩
/-- raise C('..') -/
theorem s_raise {mm : Str} {pos2 : Pos} (C : Ec X.K X.mg c) (tk : L2N.Takes X P.wx) (h : P.xc c Γ) (hg : Gl X c := by rfl) (hdb : (c == ("__debug__" : Str)) = false := by decide) (hc : X.calm = true := by rfl) : SD T X Γ (.Raise (some (.Call (.Name c p) [.Constant (.str mm) j p2] [] pos2)) none pos :: rest) P :=
  s_seq (L2N.ps_raise hc tk (L2N.pmk_own PySem.F.excBase_ValueError C.x C.g C.k (raises_own C.b C.t) hg hdb)) pss_never fun E σ H ⟨Z, g, f⟩ => f.xc c Γ σ H h g
/-! ### caught -/
variable {Γh Γj : Ev} {body suite : List Stmt} {b₀ : Stmt} {np pos' : Pos} {c0 n : Str}
/-- try: body except C: suite; the body may raise c0, a C -/
theorem s_tryX (hbody : ∀ (W : WX) (pn : List (Addr × Obj)) (xe : Value → Shared → Prop), L2N.Takes (X.tr pn xe) W → PassesOwn (model X.prog X.w) X.A X.env xe → SD T (X.tr pn xe) Γ body { P with nx := fun Γ' => Wk Γ' Γj, xc := fun c' Γ' => c' = c0 ∧ Wk Γ' Γh, wx := W })
    (hsuite : ∀ (a : Addr) (oe : Obj) (pn : List (Addr × Obj)), L2N.Zn (.ref (He.ga X.K c0)) none oe → (∃ vs, oe.data = .fields vs) → SD T (X.suite a ((a, oe) :: pn)) Γh (b₀ :: suite) { P with nx := fun Γ' => Wk Γ' Γj, xc := fun _ _ => False })
    (hrest : SD T X Γj rest P) (C : Ec X.K X.mg x) (hm : PySem.W.exmOne X.K (.ref (He.ga X.K c0)) (.ref (He.ga X.K x)) = some true) (hg : Gl X x := by rfl) (hdb : (x == ("__debug__" : Str)) = false := by decide)
    (hst : X.stack = X.env :: X.outer := by rfl) (hf : X.env.frame = some X.env.locals := by rfl) :
    SD T X Γ (.Try body [.ExceptHandler (some (.Name x np)) none (b₀ :: suite) pos'] [] [] pos :: rest) P := by
  refine s_seq (L2N.ps_try_many (Wout := fun _ _ _ _ => False) (tb := fun W => tSt T X.K Γ { P with nx := fun Γ' => Wk Γ' Γj, xc := fun c' Γ' => c' = c0 ∧ Wk Γ' Γh, wx := W })
    (l := [(.ref (He.ga X.K x), fun a cls dd E σ H => cls = .ref (He.ga X.K c0) ∧ dd = none ∧ tSt T X.K Γh { P with nx := fun Γ' => Wk Γ' Γj, xc := fun _ _ => False } E σ H)]) hst hf takes_no hbody
    (.cons ⟨hg, hdb, .inl C.g⟩ (fun a oe cls dd pn hz hd => ⟨fun pins s σ H E I ⟨e1, e2, h⟩ => by subst e1; subst e2; exact (hsuite a oe pn hz hd).run pins s σ H E I h⟩) .nil)) hrest fun E σ H ⟨Z, g, f⟩ => ?_
  refine ⟨Z, g, ⟨fun Γ' σ' H' w g' => ⟨Z, g'.wk w, f⟩, f.rt, f.rl, f.ro, fun c' Γ' σ' H' ⟨e, w⟩ g' => ?_, f.rn, f.rm, f.h0⟩⟩
  subst e
  exact ⟨true, hm, fun _ a _ => ⟨rfl, rfl, Z, g'.wk w, ⟨fun Γ' σ' H' w g' => ⟨Z, g'.wk w, f⟩, f.rt, f.rl, f.ro, fun _ _ _ _ e => False.elim e, f.rn, f.rm, f.h0⟩⟩, fun z => nomatch z⟩
/-- try: body except C as n: suite -/
theorem s_tryAs (i : Nat) (hbody : ∀ (W : WX) (pn : List (Addr × Obj)) (xe : Value → Shared → Prop), L2N.Takes (X.tr pn xe) W → PassesOwn (model X.prog X.w) X.A X.env xe → SD T (X.tr pn xe) Γ body { P with nx := fun Γ' => Wk Γ' Γj, xc := fun c' Γ' => c' = c0 ∧ Wk Γ' Γh, wx := W })
    (hsuite : ∀ (a : Addr) (oe : Obj) (pn : List (Addr × Obj)), L2N.Zn (.ref (He.ga X.K c0)) none oe → (∃ vs, oe.data = .fields vs) → SD T (X.suite a ((a, oe) :: pn)) (Γh.set i (some (.sh (.adr a)))) (b₀ :: suite) { P with nx := fun Γ' => Wk (Γ'.set i none) Γj, xc := fun _ _ => False })
    (hrest : SD T X Γj rest P) (C : Ec X.K X.mg x) (hm : PySem.W.exmOne X.K (.ref (He.ga X.K c0)) (.ref (He.ga X.K x)) = some true) (nd : X.N.Nodup) (hg : Gl X x := by rfl) (hdb : (x == ("__debug__" : Str)) = false := by decide)
    (hl : i < Γh.length := by exact Nat.le_of_ble_eq_true rfl) (hi : X.N[i]? = some n := by rfl) (hln : X.env.kindOf n = some .local := by rfl) (hst : X.stack = X.env :: X.outer := by rfl) (hf : X.env.frame = some X.env.locals := by rfl) :
    SD T X Γ (.Try body [.ExceptHandler (some (.Name x np)) (some n) (b₀ :: suite) pos'] [] [] pos :: rest) P := by
  refine s_seq (L2N.ps_try_as (i := i) (Wout := fun _ _ _ _ => False) (tb := fun W => tSt T X.K Γ { P with nx := fun Γ' => Wk Γ' Γj, xc := fun c' Γ' => c' = c0 ∧ Wk Γ' Γh, wx := W })
    (ts := fun a cls dd E σ H => cls = .ref (He.ga X.K c0) ∧ dd = none ∧ tSt T X.K (Γh.set i (some (.sh (.adr a)))) { P with nx := fun Γ' => Wk (Γ'.set i none) Γj, xc := fun _ _ => False } E σ H) hst hf nd hi hln ⟨hg, hdb, .inl C.g⟩ takes_no hbody
    (fun a oe cls dd pn hz hd => ⟨fun pins s σ H E I ⟨e1, e2, h⟩ => by subst e1; subst e2; exact (hsuite a oe pn hz hd).run pins s σ H E I h⟩)) hrest fun E σ H ⟨Z, g, f⟩ => ?_
  refine ⟨Z, g, ⟨fun Γ' σ' H' w g' => ⟨Z, g'.wk w, f⟩, f.rt, f.rl, f.ro, fun c' Γ' σ' H' ⟨e, w⟩ g' => ?_, f.rn, f.rm, f.h0⟩⟩
  subst e
  exact ⟨true, hm, fun _ a _ => ⟨rfl, rfl, Z, (g'.wk w).set hl (.adr a), ⟨fun Γ' σ' H' w g' => ⟨Z, (g'.setNone i none).wk w, f⟩, f.rt, f.rl, f.ro, fun _ _ _ _ e => False.elim e, f.rn, f.rm, f.h0⟩⟩, fun z => nomatch z⟩
end
/-! ### defs that may raise, by their bodies -/
abbrev cxX (P : Program) (w : World) (K : PySem.W.Frag) (mg : Str → Option Value) (base : Heap) (N : List Str) (q : Str) (scope : Scope) (f : Addr) (cdv : Value) (A : Around) (outer : List Env) (s : Shared) (H : Hp) (E : XK) : Cx :=
  cxOf (L2N.CX P w) P w K mg base N q scope f cdv A outer s H E
/-- what a body that may raise is to end in -/
def PX (o : Out) (E : XK) : Pst := { nx := fun _ => o = .val .non, rt := fun d => o = .val d, rl := fun es => o = .val (.lst es), xc := fun c _ => o = .exc c, wx := fun cls d _ H => E cls d H }
section
variable {T : Tb} {P : Program} {w : World} {K : PySem.W.Frag} {mg : Str → Option Value} {base : Heap} {x q : Str} {st : Stmt} {N ps : List Str} {k : Nat}
theorem fnX {R : List D → Out → Prop} {f : Addr} {fd : FuncData} (F : FunD K x q (defArgs st) (defBody st) (defScope st) [] [] f fd) (S : FnScope N ps (defScope st))
    (hlen : ∀ ds o, R ds o → ds.length = ps.length) (hpn : ps.length ≤ N.length)
    (hbody : ∀ (f : Addr) (cdv : Value) (A : Around) (outer : List Env) (s : Shared) (H : Hp) (E : XK), Room k (cxX P w K mg base N q (defScope st) f cdv A outer s H E).A → L2N.Takes (cxX P w K mg base N q (defScope st) f cdv A outer s H E) (fun cls d _ H => E cls d H) →
      ∀ ds o, R ds o → SD T (cxX P w K mg base N q (defScope st) f cdv A outer s H E) (env0 N.length ds) (defBody st) (PX o E)) :
    FnOk P w K mg base (L2N.CX P w) (k + 1) f fd ps (spR T K R) := by
  refine F.ok S (fun vs H Q E ⟨G, ds, o, h1, h2, h3, h4, _⟩ => by rw [h3.length]; exact hlen _ _ h4) fun cdv A outer s H vs Q E hr h => ?_
  obtain ⟨G, ds, o, h1, h2, h3, h4, h5, qv, qx⟩ := h
  have hl := hlen _ _ h4
  have hl3 := h3.length
  refine ⟨_, hbody f cdv A outer s H E hr (L2N.takes_of rfl rfl rfl rfl) ds o h4, ⟨G, H, fun _ => none, []⟩, start_ok h1 h2 h3 h5 (by omega), ?_⟩
  refine ⟨fun Γ' σ' H' e g' => ?_, fun d' v H' e x t da => ?_, fun es p ws H' e x t hp da => ?_, fun _ _ _ _ _ e => False.elim e, fun c Γ' σ' H' e g' => ?_, fun _ _ _ e => False.elim e, fun _ _ _ _ _ e => False.elim e, fun _ e => nomatch e⟩
  · exact qv _ _ _ e g'.ext g'.tab .non
  · exact qv _ _ _ e x t da
  · refine qv _ _ _ e (x.trans (Ext.upd hp)) (t.ext (same_upd hp)) ?_
    have hg : gr G H (upd H' p (.lst ws)) p = some (.lst ws) := by
      unfold gr
      rw [x.free hp]
      exact nt_of upd_same (fun ps z => by cases z)
    exact .lst hg (da.to (gr_ext (Ext.upd hp)))
  · exact qx _ _ e g'.ext g'.tab
theorem cal_X {R : List D → Out → Prop} (F : Df K mg x st) (S : FnScope N ps (defScope st)) (hb : ∀ (kV doc pm : Value) (an : Option Addr) (cdv ct : Value) (us : List Value), us.length = ps.length → bindArgs (PySem.W.fnOf x x (defArgs st) (defBody st) (defScope st) .none kV doc pm an cdv ct) ⟨us, []⟩ = pure (ps.zip us))
    (hlen : ∀ ds o, R ds o → ds.length = ps.length) (hpn : ps.length ≤ N.length)
    (hbody : ∀ (f : Addr) (cdv : Value) (A : Around) (outer : List Env) (s : Shared) (H : Hp) (E : XK), Room k (cxX P w K mg base N x (defScope st) f cdv A outer s H E).A → L2N.Takes (cxX P w K mg base N x (defScope st) f cdv A outer s H E) (fun cls d _ H => E cls d H) →
      ∀ ds o, R ds o → SD T (cxX P w K mg base N x (defScope st) f cdv A outer s H E) (env0 N.length ds) (defBody st) (PX o E)) :
    CalX P w K mg base x ps (k + 1) (spR T K R) := by
  obtain ⟨f, fd, hm, F⟩ := F.ex
  exact ⟨f, fd, hm, (DD.FunD.keepF F), F.bindsN hb, fnX F S hlen hpn hbody⟩
theorem calM_X {R : List D → Out → Prop} (F : DfM K x q st) (S : FnScope N ps (defScope st)) (hb : ∀ (kV doc pm : Value) (an : Option Addr) (cdv ct : Value) (us : List Value), us.length = ps.length → bindArgs (PySem.W.fnOf x q (defArgs st) (defBody st) (defScope st) .none kV doc pm an cdv ct) ⟨us, []⟩ = pure (ps.zip us))
    (hlen : ∀ ds o, R ds o → ds.length = ps.length) (hpn : ps.length ≤ N.length)
    (hbody : ∀ (f : Addr) (cdv : Value) (A : Around) (outer : List Env) (s : Shared) (H : Hp) (E : XK), Room k (cxX P w K mg base N q (defScope st) f cdv A outer s H E).A → L2N.Takes (cxX P w K mg base N q (defScope st) f cdv A outer s H E) (fun cls d _ H => E cls d H) →
      ∀ ds o, R ds o → SD T (cxX P w K mg base N q (defScope st) f cdv A outer s H E) (env0 N.length ds) (defBody st) (PX o E)) :
    CalMX P w K mg base x ps (k + 1) (spR T K R) := by
  obtain ⟨f, fd, hm, F⟩ := F.ex
  exact ⟨f, fd, hm, F.bindsN hb, fnX F S hlen hpn hbody⟩
end
end DD

/-! The names of a dict, sorted, both ways; copies of lists and dicts; names moved. -/
namespace DD
open PySem PySem.Spec L2
/-! ### texts by their signs -/
def sgn : Value → List Nat
  | .str x _ => x.cps.toList
  | _ => []
def ltG (v u : Value) : Bool := decide (sgn v < sgn u)
theorem swo_txt : SrtO.Swo ltG :=
  ⟨fun x y h => decide_eq_false fun z => absurd (List.lt_trans (of_decide_eq_true h) z) (List.lt_irrefl _),
   fun x y z h1 h2 => decide_eq_false fun w => absurd (List.lt_of_le_of_lt (List.not_lt.mp (of_decide_eq_false h2)) w) (of_decide_eq_false h1)⟩
section
open PyProof.Rows
theorem txt_cmp {prog : Program} {w : World} {A : Around} {s : Shared} {vs : List Value} {ss : List Str} (hS : StrsAre vs ss) : SrtO.Cmp prog w A s oneType' (fun p => p.1 ∈ vs) (SrtO.lt2 ltG) := fun p q hp hq => by
  obtain ⟨a, t, e⟩ := hS.all _ hp
  obtain ⟨b, u, e'⟩ := hS.all _ hq
  show wpAny (model prog w) A (keyLt' oneType' p.1 q.1) (fun r z => z = s ∧ r = ltG p.1 q.1) (fun _ _ => False) s
  rw [e, e', keyLt'_oneType]
  exact oneLt_str ⟨rfl, rfl⟩
theorem txt_sortable {prog : Program} {w : World} {A : Around} {s : Shared} {a : Addr} {vs : List Value} {ss : List Str} (hS : StrsAre vs ss) (h2 : 2 ≤ vs.length) : SrtO.SortableO prog w A s a vs ltG := fun h _ => by
  refine ⟨oneType', fun Q E q => ?_, txt_cmp hS⟩
  cases vs with
  | nil => cases h2
  | cons v1 r => cases r with
    | nil => exact absurd h2 (by simp)
    | cons v2 r => rw [keyKind_strs hS]; exact wpAny_pure q
theorem strsAre_rev {vs : List Value} {ss : List Str} (hS : StrsAre vs ss) : StrsAre vs.reverse ss.reverse := by
  have e := strsAre_map vs.reverse fun v hv => hS.all v (List.mem_reverse.mp hv)
  rw [List.map_reverse, hS.strs] at e
  exact e
theorem txt_out {vs out : List Value} {ss : List Str} (hS : StrsAre vs ss) (hs : SrtO.Srtd ltG out) (hb : SrtO.Stb ltG out vs.reverse) :
    ∃ ys : List Str, StrsAre (out.toArray.reverse).toList ys ∧ ys.Perm ss ∧ ys.Pairwise fun a b => sle b a = true := by
  have hm : ∀ v ∈ out, ∃ x t, v = .str x t := fun v hv => hS.all v (List.mem_reverse.mp (hb.perm.mem_iff.mp hv))
  have e := strsAre_map out hm
  have p1 : (out.map strOf).Perm ss.reverse := by
    have := hb.perm.map strOf
    rw [List.map_reverse, hS.strs] at this
    exact this
  refine ⟨(out.map strOf).reverse, by rw [Array.toList_reverse]; exact strsAre_rev e, (List.reverse_perm _).trans (p1.trans (List.reverse_perm _)), ?_⟩
  rw [List.pairwise_reverse, List.pairwise_map]
  refine List.Pairwise.imp_of_mem (fun {a b} ha hb' h => ?_) hs
  obtain ⟨x, t, rfl⟩ := hm a ha
  obtain ⟨y, u, rfl⟩ := hm b hb'
  unfold sle
  rw [Bool.not_eq_true']
  exact h
end
section
variable {X : Cx}
theorem call_sortedDR (hcalm : X.calm = true) : CallRK X (.builtin "sorted") [Str.ofString "reverse"] (fun xs zs H Q => ∃ (a : Addr) (kvs : List (Key × V)) (ks : List Str), xs = [.ref a] ∧ zs = [.bl true] ∧ Rd H a (.dK kvs) ∧ kvs.map (·.1) = ks.map Sum.inr ∧ ks.length < 64 ∧
    ∀ (ys : List Str) (p : Addr), ys.Perm ks → (ys.Pairwise fun a b => sle b a = true) → H p = none → Q (.ref p) (upd H p (.lst (ys.map V.str)))) := by
  rintro pins s σ H xs zs us ws Q I r rz ⟨a, kvs, ks, rfl, rfl, hd, hks, h64, q⟩
  obtain ⟨u, rfl, rx⟩ := vals1 r
  obtain ⟨u2, rfl, rz2⟩ := vals1 rz
  cases rx
  cases rz2
  obtain ⟨z, lo, vs, rel, dd⟩ := dk_rd I.hok hd
  obtain ⟨ep, hat⟩ := dd.dictAt
  have hkeys : vs.map (·.1) = ks.map Sum.inr := rel.keys.symm.trans hks
  have hl : vs.length = ks.length := by simpa using congrArg List.length hkeys
  refine PyProof.Rows.call_function_entry_kw PyProof.Rows.kind_sorted PyProof.Rows.plain_sorted PyProof.Rows.entry_sorted (PyProof.Rows.args_sorted_rev _ _) ?_
  unfold Builtin.«sorted»
  refine wpAny_bind (m := checkCount "sorted" 1 1 _) (wpAny_pure (wpAny_bind (PySem.W.kdu_collect (A := X.A.in1) (PySem.W.kdl_dict (knd := mixKind X.prog X.w) (kvs := vs) (ep := ep) lo) (I.ok.hd hcalm) hat (by rw [hl, sizeLine_eq]; omega) fun h' tk acc hk hacc => ?_)))
  have hal : acc.toList.length = ks.length := by rw [Array.length_toList, hacc.1, hl]
  have hS : PyProof.Rows.StrsAre acc.toList ks := strs_at hal fun j v e => by
    obtain ⟨k, x, e1, e2⟩ := hacc.2 j v (by rw [← Array.getElem?_toList]; exact e)
    have e3 : (vs.map (·.1))[j]? = some k := by simp [List.getElem?_map, e1]
    rw [hkeys, List.getElem?_map] at e3
    cases e4 : ks[j]? with
    | none => rw [e4] at e3; cases e3
    | some y =>
      rw [e4] at e3
      cases e3
      obtain ⟨t, ev⟩ := Value.isStrOf_shape (x := y) (v := v) e2
      exact ⟨y, t, rfl, ev⟩
  have I1 : Inv X pins σ H { s with heap := h', toks := tk } := I.kept hk
  have hz : acc.toList.length ≤ sizeLine := by rw [hal, sizeLine_eq]; omega
  refine wpAny_bind (wpAny_newList ?_ hz)
  have hoL : (h'.push (PyProof.Rows.seqObj "list" acc.toList.toArray 0)).get? h'.objs.size = some (PyProof.Rows.seqObj "list" acc.toList.toArray 0) := Heap.get?_push_size _ rfl
  show wpAny _ _ _ _ _ { s with heap := h'.push (PyProof.Rows.seqObj "list" acc.toList.toArray 0), toks := tk }
  refine wpAny_bind (wpAny_holding (PyProof.Rows.wpAny_call_entry_kw PyProof.Rows.slot_list_sort ⟨_, hoL, rfl⟩ PyProof.Rows.entry_list_sort
    (SrtR.list_sort_ordR (b := true) (s := { s with heap := h'.push (PyProof.Rows.seqObj "list" acc.toList.toArray 0), toks := tk }) swo_txt hoL hz (fun h2 => txt_sortable hS h2) fun out hs hb => ⟨_, rfl, ?_⟩) (PyProof.Rows.args_list_sort_rev _ _)))
  obtain ⟨ys, g1, g2, g3⟩ := txt_out hS hs hb
  obtain ⟨e', he'⟩ := PyProof.Rows.sortedHeap_at (vs := acc.toList) (out := out.toArray.reverse) hoL
  have hlen : (ys.map V.str).length ≤ sizeLine := by rw [List.length_map, g2.length_eq, sizeLine_eq]; omega
  refine wpAny_pure ⟨_, rfl, .ref h'.objs.size, upd H h'.objs.size (.lst (ys.map V.str)), I1.laid (t' := tk) (fun b u e => ?_) (Nat.le_refl _)
    (show ObjOk X.prog X.w _ _ _ (.lst (ys.map V.str)) from ⟨hlen, (out.toArray.reverse).toList, e', vals_of_strs g1, by rw [Array.toArray_toList]; exact he'⟩), rfl, q ys _ g2 g3 (I1.hok.fresh (Nat.le_refl _))⟩
  have hlt : b < h'.objs.size := Heap.lt_size e
  rw [PyProof.Rows.sortedHeap_old (Nat.ne_of_lt hlt) (by rw [PyProof.Rows.size_push']; exact Nat.lt_succ_of_lt hlt)]
  exact Heap.get?_push_of_some _ e
end
/-! ### the rules -/
theorem keys_map {β : Type} {m : List (Str × β)} {kvs : List (Key × V)} (h : kvs.map (fun q => q.1) = m.map fun q => kS q.1) : kvs.map (·.1) = (m.map (·.1)).map Sum.inr := by
  rw [h, List.map_map]
  rfl
section
variable {T : Tb} {X : Cx} {Γ : Ev} {a : Expr} {pos p ppos kpos : Pos} {k1 : Nat} {β : Type} {g : β → D} {m : List (Str × β)}
/-- sorted(a dict) -/
theorem l_sortedD (hm : X.mg "sorted" = none) (hl : m.length < 64) (hk : ∀ q ∈ m, SOk q.1) (h : ED T X false Γ a (sdic g m)) (hc : X.calm = true := by rfl) (hg : Gl X "sorted" := by rfl) (hs : starEach [a] X.env = (false, eval a X.env) :: starEach [] X.env := by rfl) : LD T X Γ (.Call (.Name "sorted" p) [a] [] pos) ((ssort (m.map (·.1))).map D.str) :=
  PE.imp' (pe_callB (call_sortedD hc) hg hm (by decide +kernel) (pa_cons h pa_nil hs) (by decide) (by decide) hs (by rfl)) fun σ H Q ⟨Z, gz, q⟩ => ⟨Z, gz, fun v H1 g1 x1 d1 => by
    cases d1 with
    | dic h1 h2 h3 =>
      refine ⟨_, _, m.map (·.1), rfl, .inl (g1.sub _ _ h1), keys_map h2, by rw [List.length_map]; exact hl, fun ys r hperm hsrt hp => ?_⟩
      have ey := ssort_eq hperm (sorted_pair hsrt)
      subst ey
      refine q r _ H1 g1 x1 hp (DaAll.of_strs _ fun z hz => ?_)
      obtain ⟨w, hw, rfl⟩ := List.mem_map.mp (hperm.mem_iff.mp hz)
      exact hk w hw⟩
/-- sorted(a dict, reverse=True) -/
theorem l_sortedDR (hm : X.mg "sorted" = none) (hl : m.length < 64) (hk : ∀ q ∈ m, SOk q.1) (h : ED T X false Γ a (sdic g m)) (hc : X.calm = true := by rfl) (hg : Gl X "sorted" := by rfl) (hs : starEach [a] X.env = (false, eval a X.env) :: starEach [] X.env := by rfl)
    (he : backTo pos (starEach [a] X.env) = (false, eval a X.env) :: backTo pos (starEach [] X.env) := by rfl) (hpl : (backTo pos (starEach [a] X.env)).any (·.1) = false := by rfl)
    (hall : (backToKw pos (keywordEach [⟨some "reverse", .Constant (.bool true) k1 ppos, kpos⟩] X.env)).all (·.1.isSome) = true := by rfl) (hnone : (backToKw pos (keywordEach [⟨some "reverse", .Constant (.bool true) k1 ppos, kpos⟩] X.env)).any (·.1.isNone) = false := by rfl)
    (hks : (backToKw pos (keywordEach [⟨some "reverse", .Constant (.bool true) k1 ppos, kpos⟩] X.env)).filterMap (·.1) = [Str.ofString "reverse"] := by rfl) :
    LD T X Γ (.Call (.Name "sorted" p) [a] [⟨some "reverse", .Constant (.bool true) k1 ppos, kpos⟩] pos) ((ssort (m.map (·.1))).reverse.map D.str) :=
  PE.imp' (pe_callBK (call_sortedDR hc) hg hm (by decide +kernel) (pa_cons h pa_nil hs) (pk_cons pe_bl pk_nil) (by decide) (by decide) he hpl hall hnone hks) fun σ H Q ⟨Z, gz, q⟩ => ⟨Z, gz, fun v H1 g1 x1 d1 => by
    cases d1 with
    | dic h1 h2 h3 =>
      refine ⟨_, _, m.map (·.1), rfl, rfl, .inl (g1.sub _ _ h1), keys_map h2, by rw [List.length_map]; exact hl, fun ys r hperm hsrt hp => ?_⟩
      have ey : ys.reverse = ssort (m.map (·.1)) := ssort_eq ((List.reverse_perm _).trans hperm) (List.pairwise_reverse.mpr hsrt)
      have ez : ys = (ssort (m.map (·.1))).reverse := by rw [← ey, List.reverse_reverse]
      subst ez
      refine q r _ H1 g1 x1 hp (DaAll.of_strs _ fun z hz => ?_)
      obtain ⟨w, hw, rfl⟩ := List.mem_map.mp (hperm.mem_iff.mp hz)
      exact hk w hw⟩
/-- list(a dict) -/
theorem l_keysD (hm : X.mg "list" = none) (hk : ∀ q ∈ m, SOk q.1) (h : ED T X false Γ a (sdic g m)) (hc : X.calm = true := by rfl) (hg : Gl X "list" := by rfl) (hs : starEach [a] X.env = (false, eval a X.env) :: starEach [] X.env := by rfl) : LD T X Γ (.Call (.Name "list" p) [a] [] pos) ((m.map (·.1)).map D.str) :=
  PE.imp' (pe_callTy (call_listD hc) hg hm (by decide +kernel) (pa_cons h pa_nil hs) (by decide) (by decide) hs (by rfl)) fun σ H Q ⟨Z, gz, q⟩ => ⟨Z, gz, fun v H1 g1 x1 d1 => by
    cases d1 with
    | dic h1 h2 h3 =>
      refine ⟨_, _, rfl, .inl (g1.sub _ _ h1), fun r hp => ?_⟩
      rename_i kvs
      have e : (kvs.map fun kv => kV kv.1) = (m.map (·.1)).map V.str := by
        have := congrArg (List.map kV) (keys_map h2)
        rw [List.map_map, List.map_map] at this
        exact this
      rw [e]
      refine q r _ H1 g1 x1 hp (DaAll.of_strs _ fun z hz => ?_)
      obtain ⟨w, hw, rfl⟩ := List.mem_map.mp hz
      exact hk w hw⟩
variable {i j : Nat} {x y : Str} {d : D} {q px xp : Pos} {o : Addr} {rest : List Stmt} {P : Pst}
theorem GOk.move {K : PySem.W.Frag} {Z : Zn} {H : Hp} {σ : St} {v : V} (gk : GOk T K Z H σ Γ) (hj : Γ[j]? = some (some (.ow o d))) (hv : σ[j]? = some (some v)) (hi : i < Γ.length) (hij : i ≠ j) : GOk T K Z H (σ.set i (some v)) ((Γ.set j none).set i (some (.ow o d))) := by
  obtain ⟨nd1, nd2, nd3⟩ := List.nodup_append.mp gk.nd
  have hl : j < Γ.length := (List.getElem?_eq_some_iff.mp hj).1
  have sub := owns_drop Γ j none (fun p d z => by cases z)
  have hm : o ∈ owns Γ := mem_owns.mpr ⟨j, d, hj⟩
  have no : o ∉ owns (Γ.set j none) := fun z => by
    obtain ⟨k, d', e⟩ := mem_owns.mp z
    by_cases h : j = k
    · subst h
      rw [List.getElem?_set_self hl] at e
      cases e
    · rw [List.getElem?_set_ne h] at e
      exact h (owns_ix nd2 hj e)
  obtain ⟨c1, c2⟩ := owns_put (Γ.set j none) i o d (nd2.sublist sub) no
  have c3 : ∀ r, r ∈ owns ((Γ.set j none).set i (some (.ow o d))) → r ∈ owns Γ := fun r hr => by
    rcases c2 r hr with e | e
    · rw [e]; exact hm
    · exact sub.subset e
  have sm : Same (rg true Z H Γ) (rg true Z H ((Γ.set j none).set i (some (.ow o d)))) := rg_less c3
  have hi' : i < (Γ.set j none).length := by rw [List.length_set]; exact hi
  refine ⟨gk.g0, gk.gt, gk.ext, gk.tab, List.nodup_append.mpr ⟨nd1, c1, fun a ha b hb => nd3 a ha b (c3 b hb)⟩, fun r hr => ?_, gk.exl, by rw [List.length_set, List.length_set, List.length_set]; exact gk.len, fun k s e => ?_, gk.base.trans sm⟩
  · rcases List.mem_append.mp hr with h | h
    · exact gk.old r (List.mem_append_left _ h)
    · exact gk.old r (List.mem_append_right _ (c3 r h))
  · by_cases hk : i = k
    · subst hk
      rw [List.getElem?_set_self hi'] at e
      cases e
      obtain ⟨u, q1, q2⟩ := gk.slots j _ hj
      rw [hv] at q1
      cases q1
      exact ⟨v, List.getElem?_set_self (by rw [gk.len]; exact hi), q2.mono sm (Ext.refl H)⟩
    · rw [List.getElem?_set_ne hk] at e
      by_cases hk2 : j = k
      · subst hk2
        rw [List.getElem?_set_self hl] at e
        cases e
      · rw [List.getElem?_set_ne hk2] at e
        obtain ⟨u, q1, q2⟩ := gk.slots k s e
        exact ⟨u, by rw [List.getElem?_set_ne hk]; exact q1, q2.mono sm (Ext.refl H)⟩
/-- name = another name's owned thing, which that name tells no more -/
theorem s_move (i j : Nat) (nd : X.N.Nodup) (hj : Γ[j]? = some (some (.ow o d))) (hr : SD T X ((Γ.set j none).set i (some (.ow o d))) rest P) (hij : i ≠ j := by decide) (hl : i < Γ.length := by exact Nat.le_of_ble_eq_true rfl) (hi : X.N[i]? = some x := by rfl) (hx : Loc X.env.scope x := by first | exact .inl rfl | exact .inr rfl)
    (hN : X.N[j]? = some y := by rfl) (hvy : Vis X.env.scope y := by first | exact Or.inl rfl | exact Or.inr (Or.inl rfl) | exact Or.inr (Or.inr rfl)) (hd : (y == ("__debug__" : Str)) = false := by decide) (hcd : (y == ("__classdict__" : Str)) = false := by decide)
    (hs : swapsWith (.Name y xp) (some (.Name x px)) pos.line X.env = pure false := by rfl) (hf : X.fn x = true ∨ X.env.scope.names.lookup x = some .local := by first | exact .inl rfl | exact .inr rfl) : SD T X Γ (.Assign [.Name x px] (.Name y xp) pos :: rest) P :=
  s_seq (ps_set nd hi hx (pe_var hN hvy hd hcd) hs hf) hr fun E σ H ⟨Z, gz, f⟩ => by
    obtain ⟨v, e1, e2⟩ := gz.slots j _ hj
    exact ⟨v, e1, Z, gz.move hj e1 hl hij, f⟩
end
end DD

/-! What is new; objects handed back; objects changed by what may raise. -/
namespace DD
open PySem PySem.Spec L2
/-! ### results that are new -/
abbrev nw (H H' : Hp) : Hp := gr (fun _ => none) H H'
theorem nw_gr {G H H' : Hp} : Same (nw H H') (gr G H H') := fun a o e => by
  unfold nw gr at e
  unfold gr
  cases q : nt H a with
  | none => rw [q] at e; exact e
  | some u => rw [q] at e; cases u <;> first | exact e | cases e
def spN (T : Tb) (K : PySem.W.Frag) (R : List D → D → Prop) : Sp := fun vs H Q _ => ∃ G ds d, Same G H ∧ NoTbl G ∧ DaAll K G vs ds ∧ R ds d ∧ LamX.Tabs T H ∧ ∀ v H', Ext H H' → LamX.Tabs T H' → Da K (nw H H') v d → Q v H'
section
variable {T : Tb} {P : Program} {w : World} {K : PySem.W.Frag} {mg : Str → Option Value} {base : Heap} {x q : Str} {st : Stmt} {N ps : List Str} {k : Nat}
theorem spN_E {R : List D → D → Prop} : ∀ vs H Q E, spE T K R vs H Q E → spN T K R vs H Q E := fun vs H Q E ⟨G, ds, d, h1, h2, h3, h4, h5, qq⟩ => ⟨G, ds, d, h1, h2, h3, h4, h5, fun v H' x t da => qq v H' x t (da.to nw_gr)⟩
theorem Cal.ofN {R : List D → D → Prop} (C : Cal P w K mg base x ps k (spN T K R)) : Cal P w K mg base x ps k (spE T K R) := by
  obtain ⟨f, fd, a, b, c, F⟩ := C.ex
  exact ⟨f, fd, a, b, c, F.imp spN_E⟩
theorem CalM.ofN {R : List D → D → Prop} (C : CalM P w K mg base x ps k (spN T K R)) : CalM P w K mg base x ps k (spE T K R) := by
  obtain ⟨f, fd, a, b, F⟩ := C.ex
  exact ⟨f, fd, a, b, F.imp spN_E⟩
theorem fnN {R : List D → D → Prop} {f : Addr} {fd : FuncData} (F : FunD K x q (defArgs st) (defBody st) (defScope st) [] [] f fd) (S : FnScope N ps (defScope st)) (hlen : ∀ ds d, R ds d → ds.length = ps.length) (hpn : ps.length ≤ N.length)
    (hbody : ∀ (f : Addr) (cdv : Value) (A : Around) (outer : List Env) (s : Shared) (H : Hp) (E : XK), Room k (cxN P w K mg base N q (defScope st) f cdv A outer s H E).A → ∀ ds d, R ds d → SD T (cxN P w K mg base N q (defScope st) f cdv A outer s H E) (env0 N.length ds) (defBody st) { rn := fun d' => d' = d }) :
    FnOk P w K mg base CX0 (k + 1) f fd ps (spN T K R) := by
  refine F.ok S (fun vs H Q E ⟨G, ds, d, h1, h2, h3, h4, _⟩ => by rw [h3.length]; exact hlen _ _ h4) fun cdv A outer s H vs Q E hr h => ?_
  obtain ⟨G, ds, d, h1, h2, h3, h4, h5, qq⟩ := h
  have hl := hlen _ _ h4
  have hl3 := h3.length
  refine ⟨_, (hbody f cdv A outer s H E hr ds d h4).nox, ⟨G, H, fun _ => none, []⟩, start_ok h1 h2 h3 h5 (by omega), ?_⟩
  exact ⟨fun Γ' σ' H' e g' => False.elim e, fun d' v H' e x t da => False.elim e, fun es p ws H' e x t hp da => False.elim e, fun _ _ _ _ _ e => False.elim e, fun _ _ _ _ e => False.elim e, fun d' v H' e x t da => by subst e; exact qq v H' x t da, fun _ _ _ _ _ e => False.elim e, fun _ e => nomatch e⟩
theorem cal_N {R : List D → D → Prop} (F : Df K mg x st) (S : FnScope N ps (defScope st)) (hb : ∀ (kV doc pm : Value) (an : Option Addr) (cdv ct : Value) (us : List Value), us.length = ps.length → bindArgs (PySem.W.fnOf x x (defArgs st) (defBody st) (defScope st) .none kV doc pm an cdv ct) ⟨us, []⟩ = pure (ps.zip us))
    (hlen : ∀ ds d, R ds d → ds.length = ps.length) (hpn : ps.length ≤ N.length)
    (hbody : ∀ (f : Addr) (cdv : Value) (A : Around) (outer : List Env) (s : Shared) (H : Hp) (E : XK), Room k (cxN P w K mg base N x (defScope st) f cdv A outer s H E).A → ∀ ds d, R ds d → SD T (cxN P w K mg base N x (defScope st) f cdv A outer s H E) (env0 N.length ds) (defBody st) { rn := fun d' => d' = d }) :
    Cal P w K mg base x ps (k + 1) (spN T K R) := by
  obtain ⟨f, fd, hm, F⟩ := F.ex
  exact ⟨f, fd, hm, (DD.FunD.keepF F), F.bindsN hb, fnN F S hlen hpn hbody⟩
theorem calM_N {R : List D → D → Prop} (F : DfM K x q st) (S : FnScope N ps (defScope st)) (hb : ∀ (kV doc pm : Value) (an : Option Addr) (cdv ct : Value) (us : List Value), us.length = ps.length → bindArgs (PySem.W.fnOf x q (defArgs st) (defBody st) (defScope st) .none kV doc pm an cdv ct) ⟨us, []⟩ = pure (ps.zip us))
    (hlen : ∀ ds d, R ds d → ds.length = ps.length) (hpn : ps.length ≤ N.length)
    (hbody : ∀ (f : Addr) (cdv : Value) (A : Around) (outer : List Env) (s : Shared) (H : Hp) (E : XK), Room k (cxN P w K mg base N q (defScope st) f cdv A outer s H E).A → ∀ ds d, R ds d → SD T (cxN P w K mg base N q (defScope st) f cdv A outer s H E) (env0 N.length ds) (defBody st) { rn := fun d' => d' = d }) :
    CalM P w K mg base x ps (k + 1) (spN T K R) := by
  obtain ⟨f, fd, hm, F⟩ := F.ex
  exact ⟨f, fd, hm, F.bindsN hb, fnN F S hlen hpn hbody⟩
end
/-- e gives a thing that is new since the def's start -/
def tF (T : Tb) (K : PySem.W.Frag) (Γ : Ev) (d : D) : TE := fun σ H Q => ∃ Z, GOk T K Z H σ Γ ∧ ∀ v H', GOk T K Z H' σ Γ → Ext H H' → Da K (nw Z.H0 H') v d → Q v H'
def tFA (T : Tb) (K : PySem.W.Frag) (Γ : Ev) (ds : List D) : TA := fun σ H Q => ∃ Z, GOk T K Z H σ Γ ∧ ∀ vs H', GOk T K Z H' σ Γ → Ext H H' → DaAll K (nw Z.H0 H') vs ds → Q vs H'
abbrev FD (T : Tb) (X : Cx) (Γ : Ev) (e : Expr) (d : D) : Prop := PE X e (tF T X.K Γ d)
abbrev FA (T : Tb) (X : Cx) (Γ : Ev) (es : List Expr) (ds : List D) : Prop := PA X es (tFA T X.K Γ ds)
section
variable {T : Tb} {X : Cx} {Γ : Ev} {m : Bool} {e a : Expr} {d : D} {ds es : List D} {es' : List Expr} {pos p : Pos} {x : Str} {ps : List Str} {k : Nat} {P : Pst} {rest : List Stmt}
theorem nw_ext {H0 H H' : Hp} (x : Ext H H') : Same (nw H0 H) (nw H0 H') := gr_ext x
theorem nw_tup {K : PySem.W.Frag} {Z : Zn} {H : Hp} {σ : St} (g : GOk T K Z H σ Γ) : TupSame K (rg m Z H Γ) (nw Z.H0 H) := fun a xs h => by
  have h1 := g.sub _ _ h
  show gr (fun _ => none) Z.H0 H a = some (.tup xs)
  unfold gr
  cases q : nt Z.H0 a with
  | none => exact nt_of h1 (fun ps z => by cases z)
  | some u =>
    obtain ⟨q1, q2⟩ := nt_some q
    have z := g.ext.1 a u q1 q2
    rw [h1] at z
    cases z
    rfl
theorem f_imm (h : ED T X false Γ e d) (hi : imm d = true := by rfl) : FD T X Γ e d := PE.imp' h fun σ H Q ⟨Z, g, q⟩ => ⟨Z, g, fun v H1 g1 x1 d1 => q v H1 g1 x1 (Da.imm (nw_tup g1) d v hi d1)⟩
theorem f_lst (h : LD T X Γ e es) (hi : immAll es = true) : FD T X Γ e (.lst es) := PE.imp' h fun σ H Q ⟨Z, g, q⟩ => ⟨Z, g, fun p vs H1 g1 x1 hp d1 =>
  q _ _ (g1.new hp) (x1.trans (Ext.upd hp)) (.lst (by
    show gr (fun _ => none) Z.H0 _ p = _
    unfold gr
    rw [g1.ext.free hp]
    exact nt_of upd_same (fun ps z => by cases z)) ((DaAll.imm (nw_tup g1) es vs hi d1).to (nw_ext (Ext.upd hp))))⟩
theorem f_own (i : Nat) {o : Addr} (hi : Γ[i]? = some (some (.ow o d))) (hm : (match d with | .lst es => immAll es | .dic _ es => immAll es | .dit _ es => immAll es | _ => false) = true) (hN : X.N[i]? = some x := by rfl) (hv : Vis X.env.scope x := by first | exact Or.inl rfl | exact Or.inr (Or.inl rfl) | exact Or.inr (Or.inr rfl)) (hd : (x == ("__debug__" : Str)) = false := by decide)
    (hcd : (x == ("__classdict__" : Str)) = false := by decide) : FD T X Γ (.Name x p) d :=
  PE.imp' (pe_var hN hv hd hcd) fun σ H Q ⟨Z, g, q⟩ => by
    obtain ⟨v, e1, hv2, ow⟩ := g.slots i _ hi
    refine ⟨v, e1, q v H g (Ext.refl H) ?_⟩
    have at_o : ∀ {u : HO}, H o = some u → (∀ ps, u ≠ .tbl ps) → nw Z.H0 H o = some u := fun {u} e n => by
      show gr (fun _ => none) Z.H0 H o = some u
      unfold gr
      rw [g.old o (List.mem_append_right _ (mem_owns.mpr ⟨i, _, hi⟩))]
      exact nt_of e n
    cases d with
    | lst es => cases hv2; obtain ⟨vs, h1, h2⟩ := ow; exact .lst (at_o h1 (fun _ z => by cases z)) (DaAll.imm (nw_tup g) _ _ hm h2)
    | dic ks es => cases hv2; obtain ⟨vs, h1, h3, h2⟩ := ow; exact .dic (at_o h1 (fun _ z => by cases z)) h3 (DaAll.imm (nw_tup g) _ _ hm h2)
    | dit ks es => cases hv2; obtain ⟨vs, h1, h3, h2⟩ := ow; exact .dit (at_o h1 (fun _ z => by cases z)) h3 (DaAll.imm (nw_tup g) _ _ hm h2)
    | _ => cases hm
theorem f_nil : FA T X Γ [] [] := PA.imp' pa_nil fun σ H Q ⟨Z, g, q⟩ => q [] H g (Ext.refl H) .nil
theorem f_cons {r : List Expr} (h : FD T X Γ e d) (hr : FA T X Γ r ds) (hs : starEach (e :: r) X.env = (false, eval e X.env) :: starEach r X.env := by rfl) : FA T X Γ (e :: r) (d :: ds) :=
  PA.imp' (pa_cons h hr hs) fun σ H Q ⟨Z, g, q⟩ => ⟨Z, g, fun v H1 g1 x1 d1 => ⟨Z, g1, fun vs H2 g2 x2 d2 => q _ H2 g2 (x1.trans x2) (.cons (d1.to (nw_ext x2)) d2)⟩⟩
theorem f_tup {xs : List Expr} {x1 : Nat} (hl : ds.length ≤ 16777216 := by first | decide | (simp; done)) (h : FA T X Γ xs ds) : FD T X Γ (.Tuple xs x1 pos) (.tup ds) :=
  PE.imp' (pe_tup h) fun σ H Q ⟨Z, g, q⟩ => ⟨Z, g, fun vs H1 g1 x1 d1 => ⟨by rw [d1.length, sizeLine_eq]; exact hl, fun r hp => q _ _ (g1.new hp) (x1.trans (Ext.upd hp)) (.tup (by
    show gr (fun _ => none) Z.H0 _ r = _
    unfold gr
    rw [g1.ext.free hp]
    exact nt_of upd_same (fun ps z => by cases z)) (d1.to (nw_ext (Ext.upd hp))))⟩⟩
theorem f_call {R : List D → D → Prop} (C : Cal X.prog X.w X.K X.mg X.base x ps k (spN T X.K R)) (hr : Room k X.A) (h : R ds d) (ha : AD T X m Γ (a :: es') ds) (hg : Gl X x := by rfl) (hdb : (x == ("__debug__" : Str)) = false := by decide)
    (he : starEach (a :: es') X.env = (false, eval a X.env) :: starEach es' X.env := by rfl) (hpl : (backTo pos (starEach es' X.env)).any (·.1) = false := by rfl) : FD T X Γ (.Call (.Name x p) (a :: es') [] pos) d := by
  obtain ⟨f, fd, hm, hk, hb, F⟩ := C.ex
  refine PE.imp' (pe_call F hr hg hm hk.1 hb .nil pass0 ha hdb he hpl) fun σ H Q ⟨Z, g, q⟩ => ⟨Z, g, fun vs H1 g1 x1 d1 => ?_⟩
  dsimp only
  rw [List.append_nil]
  exact ⟨rg m Z H1 Γ, ds, d, g1.sub, rg_noTbl g1, d1, h, g1.tab, fun v H2 x2 t2 d2 => q v H2 (g1.to x2 t2) (x1.trans x2) (d2.to (gr_old g1.ext x2))⟩
theorem s_retN' (he : FD T X Γ e d) (h : P.rn d) : SD T X Γ (.Return (some e) pos :: rest) P :=
  s_seq (ps_ret he) pss_never fun E σ H ⟨Z, g, f⟩ => ⟨Z, g, fun v H1 g1 x1 d1 => f.rn d v H1 h g1.ext g1.tab d1⟩
/-- f(..)[j], a list in a new tuple -/
theorem l_callIx {R : List D → D → Prop} {dl : List D} {j : Int} {k1 : Nat} {cp ip : Pos} (C : Cal X.prog X.w X.K X.mg X.base x ps k (spN T X.K R)) (hr : Room k X.A) (h : R ds (.tup dl)) (hj : atI dl j = some (.lst es)) (hi : immAll es = true) (ha : AD T X false Γ (a :: es') ds) (hg : Gl X x := by rfl) (hdb : (x == ("__debug__" : Str)) = false := by decide)
    (he : starEach (a :: es') X.env = (false, eval a X.env) :: starEach es' X.env := by rfl) (hpl : (backTo pos (starEach es' X.env)).any (·.1) = false := by rfl) (hs : PlainIx (.Constant (.int j) k1 cp) := by exact fun _ _ => rfl) : LD T X Γ (.Subscript (.Call (.Name x p) (a :: es') [] pos) (.Constant (.int j) k1 cp) ip) es := by
  obtain ⟨f, fd, hm, hk, hb, F⟩ := C.ex
  refine PE.imp' (pe_ix ix_tup (pe_call F hr hg hm hk.1 hb .nil pass0 ha hdb he hpl) pe_int hs) fun σ H Q ⟨Z, g, q⟩ => ⟨Z, g, fun vs H1 g1 x1 d1 => ?_⟩
  dsimp only
  rw [List.append_nil]
  refine ⟨rg false Z H1 Γ, ds, _, g1.sub, rg_noTbl g1, d1, h, g1.tab, fun v H2 x2 t2 d2 => ?_⟩
  cases d2 with
  | tup t1 t2' =>
    rename_i at1 xs1
    unfold atI at hj
    cases hjj : ixN dl.length j with
    | none => rw [hjj] at hj; cases hj
    | some jj =>
      rw [hjj] at hj
      obtain ⟨u, hu, du⟩ := t2'.get hj
      have hlen := t2'.length
      have htp : H2 at1 = some (.tup xs1) := (rg_gr (m := false) (Γ := Γ) _ _ ((rg_after g1 x2) _ _ (nw_gr _ _ t1))) |> fun z => gr_sub g1.g0 g1.gt (g1.ext.trans x2) _ _ z
      have hat : atI xs1 j = some u := by
        unfold atI
        rw [hlen, hjj]
        exact hu
      refine ⟨at1, xs1, j, u, rfl, rfl, SqT.of htp, hat, ?_⟩
      cases du with
      | lst l1 l2 =>
        rename_i r ws
        have hn : nt H1 r = none ∧ H2 r = some (.lst ws) := by
          have l1' : gr (fun _ => none) H1 H2 r = some (.lst ws) := l1
          unfold gr at l1'
          cases qq : nt H1 r with
          | none => rw [qq] at l1'; exact ⟨rfl, (nt_some l1').1⟩
          | some o => rw [qq] at l1'; cases o <;> cases l1'
        have x3 : Ext H1 (minus H2 r) := ext_minus x2 hn.1
        have g3 := g1.to x3 (tabs_minus t2 hn.2)
        have tsame : TupSame X.K (nw H1 H2) (rg true Z (minus H2 r) Γ) := fun b ys e => by
          have e2 : H2 b = some (.tup ys) := (rg_gr (m := false) (Γ := Γ) _ _ ((rg_after g1 x2) _ _ (nw_gr _ _ e))) |> fun z => gr_sub g1.g0 g1.gt (g1.ext.trans x2) _ _ z
          exact rg_tup g3 (by rw [minus_ne (fun z => by rw [z, hn.2] at e2; cases e2)]; exact e2)
        have := q r ws (minus H2 r) g3 (x1.trans x3) minus_same (DaAll.imm tsame es ws hi l2)
        rw [upd_minus hn.2] at this
        exact this
end
end DD

/-! Objects handed back; objects changed by calls that may raise. -/
namespace DD
open PySem PySem.Spec L2
section
variable {T : Tb} {K : PySem.W.Frag} {Z : Zn} {H H' : Hp} {σ : St} {Γ : Ev}
theorem mns_own {Z : Zn} {H : Hp} {Γ : Ev} {p : Addr} (hp : p ∈ owns Γ) : Same (rg true Z H Γ) (mns (gr Z.G0 Z.H0 H) p) := fun b o w => by
  have hb : b ≠ p := fun z => by
    unfold rg at w
    rw [if_pos ⟨rfl, by rw [z]; exact List.mem_append_right _ hp⟩] at w
    cases w
  rw [mns_ne hb]
  exact rg_gr _ _ w
/-- what a callee tells of what it left, as the caller sees it -/
theorem GOk.seen (g : GOk T K Z H σ Γ) {p : Addr} (hm : p ∈ owns Γ) (x : Ext (mns H p) H') : Same (mns (gr (rg true Z H Γ) (mns H p) H') p) (rg true Z H' Γ) := fun b o e => by
  have hm' : p ∈ Z.ex ++ owns Γ := List.mem_append_right _ hm
  have keep : ∀ {b : Addr} {o : HO}, b ≠ p → H b = some o → (∀ ps, o ≠ .tbl ps) → H' b = some o := fun {b o} hb e n => x.1 b o (by rw [mns_ne hb]; exact e) n
  have sm : Same (rg true Z H Γ) (rg true Z H' Γ) := fun a o e => by
    unfold rg at e ⊢
    split at e
    · cases e
    · rename_i hn
      rw [if_neg hn]
      have hap : a ≠ p := fun z => hn ⟨rfl, by rw [z]; exact hm'⟩
      unfold gr at e ⊢
      cases q : nt Z.H0 a with
      | none =>
        rw [q] at e
        obtain ⟨h1, h2⟩ := nt_some e
        exact nt_of (keep hap h1 h2) h2
      | some u => rw [q] at e; cases u <;> exact e
  by_cases hb : b = p
  · rw [hb, mns_self] at e; cases e
  · rw [mns_ne hb] at e
    unfold gr at e
    rw [nt_mns hb] at e
    cases q : nt H b with
    | none =>
      rw [q] at e
      have nm : b ∉ Z.ex ++ owns Γ := fun z => by
        rcases g.own z with ⟨_, w⟩ | ⟨_, w⟩ | ⟨_, w⟩ <;> (rw [nt_of w (fun ps z => by cases z)] at q; cases q)
      unfold rg
      rw [if_neg (fun z => nm z.2)]
      unfold gr
      rw [g.ext.free' q]
      exact e
    | some u =>
      rw [q] at e
      by_cases tt : ∃ xs, u = .tup xs
      · obtain ⟨xs, rfl⟩ := tt
        have e : some (HO.tup xs) = some o := e
        cases e
        exact sm _ _ (rg_tup g (nt_some q).1)
      · have e' : rg true Z H Γ b = some o := by
          cases u <;> first | exact e | exact absurd ⟨_, rfl⟩ tt
        exact sm _ _ e'
end
/-! ### a new object comes back -/
def spO (T : Tb) (K : PySem.W.Frag) (R : List D → D → Prop) : Sp := fun vs H Q _ => ∃ G ds d, Same G H ∧ NoTbl G ∧ DaAll K G vs ds ∧ R ds d ∧ LamX.Tabs T H ∧
  ∀ a dx p H', Ext H H' → LamX.Tabs T H' → nt H p = none → gr G H H' a = some (.ins (He.ga K "Weave") dx [("known", .ref p)]) → OwOk K (mns (gr G H H') p) H' p (.obj d) → Q (.ref a) H'
section
variable {T : Tb} {P : Program} {w : World} {K : PySem.W.Frag} {mg : Str → Option Value} {base : Heap} {x q : Str} {st : Stmt} {N ps : List Str} {k : Nat}
theorem cal_O {R : List D → D → Prop} (F : Df K mg x st) (S : FnScope N ps (defScope st)) (hb : ∀ (kV doc pm : Value) (an : Option Addr) (cdv ct : Value) (us : List Value), us.length = ps.length → bindArgs (PySem.W.fnOf x x (defArgs st) (defBody st) (defScope st) .none kV doc pm an cdv ct) ⟨us, []⟩ = pure (ps.zip us))
    (hlen : ∀ ds d, R ds d → ds.length = ps.length) (hpn : ps.length ≤ N.length)
    (hbody : ∀ (f : Addr) (cdv : Value) (A : Around) (outer : List Env) (s : Shared) (H : Hp) (E : XK), Room k (cxN P w K mg base N x (defScope st) f cdv A outer s H E).A → ∀ ds d, R ds d → SD T (cxN P w K mg base N x (defScope st) f cdv A outer s H E) (env0 N.length ds) (defBody st) { ro := fun d' => d' = d }) :
    Cal P w K mg base x ps (k + 1) (spO T K R) := by
  obtain ⟨f, fd, hm, F⟩ := F.ex
  refine ⟨f, fd, hm, (DD.FunD.keepF F), F.bindsN hb, F.ok S (fun vs H Q E ⟨G, ds, d, h1, h2, h3, h4, _⟩ => by rw [h3.length]; exact hlen _ _ h4) fun cdv A outer s H vs Q E hr h => ?_⟩
  obtain ⟨G, ds, d, h1, h2, h3, h4, h5, qq⟩ := h
  have hl := hlen _ _ h4
  have hl3 := h3.length
  refine ⟨_, (hbody f cdv A outer s H E hr ds d h4).nox, ⟨G, H, fun _ => none, []⟩, start_ok h1 h2 h3 h5 (by omega), ?_⟩
  exact ⟨fun Γ' σ' H' e g' => False.elim e, fun d' v H' e x t da => False.elim e, fun es p ws H' e x t hp da => False.elim e, fun d' a dx p H' e x t hp ha ho => by subst e; exact qq a dx p H' x t hp ha ho, fun _ _ _ _ e => False.elim e, fun _ _ _ e => False.elim e, fun _ _ _ _ _ e => False.elim e, fun _ e => nomatch e⟩
end
section
variable {T : Tb} {X : Cx} {Γ : Ev} {m : Bool} {e a b : Expr} {d d' r : D} {ds es : List D} {es' : List Expr} {pos p cpos apos px yp xp : Pos} {x y c : Str} {ps : List Str} {k : Nat} {P : Pst} {rest th el : List Stmt} {o : Addr}
/-- return name, an object that this name alone tells -/
theorem s_retObj (i : Nat) (hi : Γ[i]? = some (some (.ow o (.obj d)))) (h : P.ro d) (hN : X.N[i]? = some x := by rfl) (hv : Vis X.env.scope x := by first | exact Or.inl rfl | exact Or.inr (Or.inl rfl) | exact Or.inr (Or.inr rfl)) (hd : (x == ("__debug__" : Str)) = false := by decide)
    (hcd : (x == ("__classdict__" : Str)) = false := by decide) : SD T X Γ (.Return (some (.Name x xp)) pos :: rest) P :=
  s_seq (ps_ret (pe_var hN hv hd hcd)) pss_never fun E σ H ⟨Z, g, f⟩ => by
    obtain ⟨v, e1, ⟨a', dx, rfl, hins⟩, ow⟩ := g.slots i _ hi
    have hm : o ∈ owns Γ := mem_owns.mpr ⟨i, _, hi⟩
    exact ⟨_, e1, f.ro d a' dx o H h g.ext g.tab (g.old o (List.mem_append_right _ hm)) (rg_gr _ _ hins) (ow.to (mns_own hm) fun u w _ => w)⟩
theorem tabs_minusD {T : Tb} {H : Hp} {p : Addr} {kvs : List (Key × V)} (t : LamX.Tabs T H) (h : H p = some (.dK kvs)) : LamX.Tabs T (minus H p) := fun q hq => by
  obtain ⟨ps, h1, h2, h3⟩ := t q hq
  refine ⟨ps, by rw [minus_ne (fun z => by rw [z, h] at h1; cases h1)]; exact h1, h2, fun pos cv hc => ?_⟩
  obtain ⟨c, e1, e2⟩ := h3 pos cv hc
  exact ⟨c, e1, by rw [minus_ne (fun z => by rw [z, h] at e2; unfold LamX.CodeO at e2; cases e2)]; exact e2⟩
theorem OwOk.dict {K : PySem.W.Frag} {G H : Hp} {p : Addr} {d : D} (h : OwOk K G H p (.obj d)) : ∃ kvs, H p = some (.dK kvs) := by
  cases d with
  | dic ks ds => obtain ⟨kvs, e, _⟩ := h; exact ⟨kvs, e⟩
  | _ => exact False.elim h
/-- a new object is taken over by a name -/
theorem GOk.takeObj {Z : Zn} {H1 H2 : Hp} {σ : St} {i : Nat} {a' dx : Addr} (g1 : GOk T X.K Z H1 σ Γ) (hl : i < Γ.length) (x2 : Ext H1 H2) (t2 : LamX.Tabs T H2) (hp : nt H1 o = none) (ha : gr (rg m Z H1 Γ) H1 H2 a' = some (.ins (He.ga X.K "Weave") dx [("known", .ref o)])) (ho : OwOk X.K (mns (gr (rg m Z H1 Γ) H1 H2) o) H2 o (.obj d)) (hm : m = true) :
    GOk T X.K Z H2 (σ.set i (some (.ref a'))) (Γ.set i (some (.ow o (.obj d)))) := by
  subst hm
  obtain ⟨kvs, hk⟩ := ho.dict
  have x3 : Ext H1 (minus H2 o) := ext_minus x2 hp
  have g3 := g1.to x3 (tabs_minusD t2 hk)
  have agree : Same (mns (gr (rg true Z H1 Γ) H1 H2) o) (rg true Z (minus H2 o) Γ) := fun b u w => by
    by_cases hb : b = o
    · rw [hb, mns_self] at w; cases w
    · rw [mns_ne hb] at w
      refine rg_after g1 x3 b u ?_
      unfold gr at w ⊢
      rw [nt_minus hb]
      exact w
  have hao : a' ≠ o := fun z => by
    rw [z] at ha
    unfold gr at ha
    rw [hp] at ha
    rw [(nt_some ha).1] at hk
    cases hk
  have res := g3.newOwV (i := i) (p := o) (o := .dK kvs) (d := .obj d) hl minus_same (ho.to agree fun u w _ => by rw [upd_minus hk]; exact w) (v := .ref a') fun G s => ⟨a', dx, rfl, s _ _ (agree _ _ (by rw [mns_ne hao]; exact ha))⟩
  rw [upd_minus hk] at res
  exact res
/-- name = f(..), a new object -/
theorem s_setObj (i : Nat) {R : List D → D → Prop} (nd : X.N.Nodup) (C : Cal X.prog X.w X.K X.mg X.base x ps k (spO T X.K R)) (hr : Room k X.A) (h : R ds d) (ha : AD T X true Γ (a :: es') ds) (hrest : ∀ o, SD T X (Γ.set i (some (.ow o (.obj d)))) rest P)
    (hg : Gl X x := by rfl) (hdb : (x == ("__debug__" : Str)) = false := by decide) (he : starEach (a :: es') X.env = (false, eval a X.env) :: starEach es' X.env := by rfl) (hpl : (backTo cpos (starEach es' X.env)).any (·.1) = false := by rfl)
    (hl : i < Γ.length := by exact Nat.le_of_ble_eq_true rfl) (hi : X.N[i]? = some y := by rfl) (hx : Loc X.env.scope y := by first | exact .inl rfl | exact .inr rfl)
    (hs : swapsWith (.Call (.Name x p) (a :: es') [] cpos) (some (.Name y px)) pos.line X.env = pure false := by rfl) (hfn : X.fn y = true ∨ X.env.scope.names.lookup y = some .local := by first | exact .inl rfl | exact .inr rfl) :
    SD T X Γ (.Assign [.Name y px] (.Call (.Name x p) (a :: es') [] cpos) pos :: rest) P := by
  obtain ⟨f, fd, hm, hk, hb, F⟩ := C.ex
  refine s_seq (u := fun E σ H => ∃ o, tSt T X.K (Γ.set i (some (.ow o (.obj d)))) P E σ H) (ps_set nd hi hx (pe_call F hr hg hm hk.1 hb .nil pass0 ha hdb he hpl) hs hfn) ⟨fun pins s σ H E I ⟨o, h⟩ => (hrest o).run pins s σ H E I h⟩ fun E σ H ⟨Z, g, ff⟩ => ⟨Z, g, fun vs H1 g1 x1 d1 => ?_⟩
  dsimp only
  rw [List.append_nil]
  exact ⟨rg true Z H1 Γ, ds, d, g1.sub, rg_noTbl g1, d1, h, g1.tab, fun a' dx o H2 x2 t2 hp hins ho => ⟨o, Z, g1.takeObj hl x2 t2 hp hins ho rfl, ff⟩⟩
end
/-! ### calls that change an object, or raise -/
inductive OutM where
  | val (r d' : D)
  | exc (c : Str)
def spMX (T : Tb) (K : PySem.W.Frag) (R : D → List D → OutM → Prop) : Sp := fun vs H Q E => ∃ (G : Hp) (ws : List V) (ds : List D) (a dx p : Addr) (d : D) (o : OutM), vs = .ref a :: ws ∧ Same G (mns H p) ∧ NoTbl G ∧ DaAll K G ws ds ∧
  G a = some (.ins (He.ga K "Weave") dx [("known", .ref p)]) ∧ OwOk K G H p (.obj d) ∧ R d ds o ∧ LamX.Tabs T H ∧
  (∀ r d' v H', o = .val r d' → Ext (mns H p) H' → LamX.Tabs T H' → OwOk K (mns (gr G (mns H p) H') p) H' p (.obj d') → Da K (mns (gr G (mns H p) H') p) v r → Q v H') ∧
  ∀ c H', o = .exc c → Ext (mns H p) H' → LamX.Tabs T H' → OwOk K (mns (gr G (mns H p) H') p) H' p (.obj d) → E (.ref (He.ga K c)) none H'
/-- what such a body is to end in -/
def PM (p : Addr) (d : D) (o : OutM) (E : XK) : Pst :=
  { nx := fun Γ => ∃ d', o = .val .non d' ∧ Γ[0]? = some (some (.ow p (.obj d'))), rm := fun r Γ => ∃ d', o = .val r d' ∧ Γ[0]? = some (some (.ow p (.obj d'))), xc := fun c Γ => o = .exc c ∧ Γ[0]? = some (some (.ow p (.obj d))), wx := fun cls dd _ H => E cls dd H }
section
variable {T : Tb} {P : Program} {w : World} {K : PySem.W.Frag} {mg : Str → Option Value} {base : Heap} {x q : Str} {st : Stmt} {N ps : List Str} {k : Nat}
theorem fnMX {R : D → List D → OutM → Prop} {f : Addr} {fd : FuncData} (F : FunD K x q (defArgs st) (defBody st) (defScope st) [] [] f fd) (S : FnScope N ps (defScope st)) (hlen : ∀ d ds o, R d ds o → ds.length + 1 = ps.length) (hpn : ps.length ≤ N.length)
    (hbody : ∀ (f : Addr) (cdv : Value) (A : Around) (outer : List Env) (s : Shared) (H : Hp) (E : XK), Room k (cxX P w K mg base N q (defScope st) f cdv A outer s H E).A → L2N.Takes (cxX P w K mg base N q (defScope st) f cdv A outer s H E) (fun cls d _ H => E cls d H) →
      ∀ p d ds o, R d ds o → SD T (cxX P w K mg base N q (defScope st) f cdv A outer s H E) (envM N.length p d ds) (defBody st) (PM p d o E)) :
    FnOk P w K mg base (L2N.CX P w) (k + 1) f fd ps (spMX T K R) := by
  refine F.ok S (fun vs H Q E ⟨G, ws, ds, a, dx, p, d, o, e, _, _, h3, _, _, h4, _⟩ => by rw [e, List.length_cons, h3.length]; exact hlen _ _ _ h4) fun cdv A outer s H vs Q E hr h => ?_
  obtain ⟨G, ws, ds, a, dx, p, d, o, rfl, h1, h2, h3, h5, h6, h4, h7, qv, qx⟩ := h
  have hl := hlen _ _ _ h4
  have hl3 := h3.length
  refine ⟨_, hbody f cdv A outer s H E hr (L2N.takes_of rfl rfl rfl rfl) p d ds o h4, ⟨G, mns H p, fun _ => none, []⟩, startM_ok h1 h2 h3 h5 h6 h7 (by omega), ?_⟩
  refine ⟨fun Γ' σ' H' ⟨d', e, e0⟩ g' => ?_, fun d' v H' e x t da => False.elim e, fun es p ws H' e x t hp da => False.elim e, fun _ _ _ _ _ e => False.elim e, fun c Γ' σ' H' ⟨e, e0⟩ g' => ?_, fun _ _ _ e => False.elim e, fun r Γ' v σ' H' ⟨d', e, e0⟩ g' da => ?_, fun _ e => nomatch e⟩
  · obtain ⟨v, q1, q2, q3⟩ := g'.slots 0 _ e0
    exact qv _ _ _ H' e g'.ext g'.tab (q3.to (mns_own (mem_owns.mpr ⟨0, _, e0⟩)) fun u w _ => w) .non
  · obtain ⟨v, q1, q2, q3⟩ := g'.slots 0 _ e0
    exact qx _ H' e g'.ext g'.tab (q3.to (mns_own (mem_owns.mpr ⟨0, _, e0⟩)) fun u w _ => w)
  · obtain ⟨v', q1, q2, q3⟩ := g'.slots 0 _ e0
    exact qv _ _ _ H' e g'.ext g'.tab (q3.to (mns_own (mem_owns.mpr ⟨0, _, e0⟩)) fun u w _ => w) (da.to (mns_own (mem_owns.mpr ⟨0, _, e0⟩)))
theorem calM_MX {R : D → List D → OutM → Prop} (F : DfM K x q st) (S : FnScope N ps (defScope st)) (hb : ∀ (kV doc pm : Value) (an : Option Addr) (cdv ct : Value) (us : List Value), us.length = ps.length → bindArgs (PySem.W.fnOf x q (defArgs st) (defBody st) (defScope st) .none kV doc pm an cdv ct) ⟨us, []⟩ = pure (ps.zip us))
    (hlen : ∀ d ds o, R d ds o → ds.length + 1 = ps.length) (hpn : ps.length ≤ N.length)
    (hbody : ∀ (f : Addr) (cdv : Value) (A : Around) (outer : List Env) (s : Shared) (H : Hp) (E : XK), Room k (cxX P w K mg base N q (defScope st) f cdv A outer s H E).A → L2N.Takes (cxX P w K mg base N q (defScope st) f cdv A outer s H E) (fun cls d _ H => E cls d H) →
      ∀ p d ds o, R d ds o → SD T (cxX P w K mg base N q (defScope st) f cdv A outer s H E) (envM N.length p d ds) (defBody st) (PM p d o E)) :
    CalMX P w K mg base x ps (k + 1) (spMX T K R) := by
  obtain ⟨f, fd, hm, F⟩ := F.ex
  exact ⟨f, fd, hm, F.bindsN hb, fnMX F S hlen hpn hbody⟩
theorem cal_MX {R : D → List D → OutM → Prop} (F : Df K mg x st) (S : FnScope N ps (defScope st)) (hb : ∀ (kV doc pm : Value) (an : Option Addr) (cdv ct : Value) (us : List Value), us.length = ps.length → bindArgs (PySem.W.fnOf x x (defArgs st) (defBody st) (defScope st) .none kV doc pm an cdv ct) ⟨us, []⟩ = pure (ps.zip us))
    (hlen : ∀ d ds o, R d ds o → ds.length + 1 = ps.length) (hpn : ps.length ≤ N.length)
    (hbody : ∀ (f : Addr) (cdv : Value) (A : Around) (outer : List Env) (s : Shared) (H : Hp) (E : XK), Room k (cxX P w K mg base N x (defScope st) f cdv A outer s H E).A → L2N.Takes (cxX P w K mg base N x (defScope st) f cdv A outer s H E) (fun cls d _ H => E cls d H) →
      ∀ p d ds o, R d ds o → SD T (cxX P w K mg base N x (defScope st) f cdv A outer s H E) (envM N.length p d ds) (defBody st) (PM p d o E)) :
    CalX P w K mg base x ps (k + 1) (spMX T K R) := by
  obtain ⟨f, fd, hm, F⟩ := F.ex
  exact ⟨f, fd, hm, (DD.FunD.keepF F), F.bindsN hb, fnMX F S hlen hpn hbody⟩
end
/-- e gives a value and leaves another environment -/
def tM (T : Tb) (K : PySem.W.Frag) (Γ Γ' : Ev) (d : D) : TE := fun σ H Q => ∃ Z, GOk T K Z H σ Γ ∧ ∀ v H', GOk T K Z H' σ Γ' → Da K (rg true Z H' Γ') v d → Q v H'
def tMB (T : Tb) (K : PySem.W.Frag) (Γ Γ' : Ev) (b : Bool) : TT := fun σ H Q => ∃ Z, GOk T K Z H σ Γ ∧ ∀ H', GOk T K Z H' σ Γ' → Q b H'
abbrev EM (T : Tb) (X : Cx) (Γ Γ' : Ev) (e : Expr) (d : D) : Prop := PE X e (tM T X.K Γ Γ' d)
abbrev BM (T : Tb) (X : Cx) (Γ Γ' : Ev) (e : Expr) (b : Bool) : Prop := PT X e (tMB T X.K Γ Γ' b)
section
variable {T : Tb} {X : Cx} {Γ Γ' : Ev} {m : Bool} {e a b : Expr} {d d' r : D} {ds es : List D} {es' : List Expr} {pos p cpos apos px yp xp : Pos} {x y c : Str} {ps : List Str} {k : Nat} {P : Pst} {rest th el : List Stmt} {o : Addr} {R : D → List D → OutM → Prop} {W : WX}
theorem same_mns {K : PySem.W.Frag} {Z : Zn} {H : Hp} {σ : St} (g : GOk T K Z H σ Γ) (hm : o ∈ owns Γ) : Same (rg true Z H Γ) (mns H o) := fun b u w => by
  have hb : b ≠ o := fun z => by
    unfold rg at w
    rw [if_pos ⟨rfl, by rw [z]; exact List.mem_append_right _ hm⟩] at w
    cases w
  rw [mns_ne hb]
  exact g.sub _ _ w
theorem em_meth (i : Nat) (Wc : Wv X.K) (C : CalMX X.prog X.w X.K X.mg X.base x ps k (spMX T X.K R)) (hr : Room k X.A) (hi : Γ[i]? = some (some (.ow o (.obj d)))) (h : R d ds (.val r d')) (ha : AD T X true Γ (a :: es') ds)
    (hx : (x == ("known" : Str)) = false := by decide) (hN : X.N[i]? = some y := by rfl) (hv : Vis X.env.scope y := by first | exact Or.inl rfl | exact Or.inr (Or.inl rfl) | exact Or.inr (Or.inr rfl)) (hd : (y == ("__debug__" : Str)) = false := by decide)
    (hcd : (y == ("__classdict__" : Str)) = false := by decide) {pl : Sem Bool}
    (hst : starEach (a :: es') X.env = (false, eval a X.env) :: starEach es' X.env := by rfl) (hpl : (backTo cpos (starEach es' X.env)).any (·.1) = false := by rfl)
    (ht : eval (.Call (.Attribute (.Name y yp) x apos) (a :: es') [] cpos) X.env = (do
      let ov ← eval (.Name y yp) X.env
      standAt apos.atName
      let (g, one) ← holding [ov] (getMethod ov x pl)
      callWith cpos g one (backTo cpos (starEach (a :: es') X.env)) (backToKw cpos (keywordEach [] X.env))) := by rfl) :
    EM T X Γ (Γ.set i (some (.ow o (.obj d')))) (.Call (.Attribute (.Name y yp) x apos) (a :: es') [] cpos) r := by
  obtain ⟨f, fd, hm, hb, F⟩ := C.ex
  refine PE.imp' (pe_methS (pl := pl) (E := fun _ _ _ _ => False) (pe_var hN hv hd hcd) Wc.cls hm F hr hb (fun σ => pass_no σ) ha hst hpl ht) fun σ H Q ⟨Z, g, q⟩ => ?_
  obtain ⟨v, e1, ⟨a', dx, rfl, hins⟩, ow⟩ := g.slots i _ hi
  refine ⟨_, e1, a', dx, _, rfl, g.sub _ _ hins, look_no hx, Z, g, fun vs H2 g2 x2 d2 => ?_⟩
  obtain ⟨v2, e2, ⟨a2, dx2, ea, hins2⟩, ow2⟩ := g2.slots i _ hi
  have ev : V.ref a' = v2 := by
    have := e1.symm.trans e2
    simpa using this
  subst ev
  cases ea
  have hm2 : o ∈ owns Γ := mem_owns.mpr ⟨i, _, hi⟩
  have eo := owns_same Γ i o (.obj d) (.obj d') hi
  refine ⟨rg true Z H2 Γ, vs, ds, a', dx2, o, d, .val r d', rfl, same_mns g2 hm2, rg_noTbl g2, d2, hins2, ow2, h, g2.tab, fun r' d'' v H3 e x3 t3 o3 d3 => ?_, fun c H' e => by cases e⟩
  cases e
  refine q v H3 (g2.chg hi x3 t3 o3) ?_
  have er : rg true Z H3 (Γ.set i (some (.ow o (.obj d')))) = rg true Z H3 Γ := by
    funext b
    unfold rg
    rw [eo]
  rw [er]
  exact d3.to (g2.seen hm2 x3)
/-- .. that raises: the object stays -/
theorem xm_meth (i : Nat) (Wc : Wv X.K) (C : CalMX X.prog X.w X.K X.mg X.base x ps k (spMX T X.K R)) (hr : Room k X.A) (hi : Γ[i]? = some (some (.ow o (.obj d)))) (h : R d ds (.exc c)) (tk : L2N.Takes X W) (ha : AD T X true Γ (a :: es') ds)
    (hx : (x == ("known" : Str)) = false := by decide) (hN : X.N[i]? = some y := by rfl) (hv : Vis X.env.scope y := by first | exact Or.inl rfl | exact Or.inr (Or.inl rfl) | exact Or.inr (Or.inr rfl)) (hd : (y == ("__debug__" : Str)) = false := by decide)
    (hcd : (y == ("__classdict__" : Str)) = false := by decide) {pl : Sem Bool}
    (hst : starEach (a :: es') X.env = (false, eval a X.env) :: starEach es' X.env := by rfl) (hpl : (backTo cpos (starEach es' X.env)).any (·.1) = false := by rfl)
    (ht : eval (.Call (.Attribute (.Name y yp) x apos) (a :: es') [] cpos) X.env = (do
      let ov ← eval (.Name y yp) X.env
      standAt apos.atName
      let (g, one) ← holding [ov] (getMethod ov x pl)
      callWith cpos g one (backTo cpos (starEach (a :: es') X.env)) (backToKw cpos (keywordEach [] X.env))) := by rfl) :
    XD T X W Γ (.Call (.Attribute (.Name y yp) x apos) (a :: es') [] cpos) c := by
  obtain ⟨f, fd, hm, hb, F⟩ := C.ex
  refine PE.imp' (pe_methS (pl := pl) (E := WE W) (pe_var hN hv hd hcd) Wc.cls hm F hr hb (fun σ => L2N.passAt tk σ) ha hst hpl ht) fun σ H Q ⟨Z, g, q⟩ => ?_
  obtain ⟨v, e1, ⟨a', dx, rfl, hins⟩, ow⟩ := g.slots i _ hi
  refine ⟨_, e1, a', dx, _, rfl, g.sub _ _ hins, look_no hx, Z, g, fun vs H2 g2 x2 d2 => ?_⟩
  obtain ⟨v2, e2, ⟨a2, dx2, ea, hins2⟩, ow2⟩ := g2.slots i _ hi
  have ev : V.ref a' = v2 := by
    have := e1.symm.trans e2
    simpa using this
  subst ev
  cases ea
  have hm2 : o ∈ owns Γ := mem_owns.mpr ⟨i, _, hi⟩
  have hse : Γ.set i (some (.ow o (.obj d))) = Γ := by
    obtain ⟨hl, he⟩ := List.getElem?_eq_some_iff.mp hi
    rw [← he]
    exact List.set_getElem_self hl
  refine ⟨rg true Z H2 Γ, vs, ds, a', dx2, o, d, .exc c, rfl, same_mns g2 hm2, rg_noTbl g2, d2, hins2, ow2, h, g2.tab, fun r' d'' v H3 e => (by cases e), fun c' H3 e x3 t3 o3 => ?_⟩
  cases e
  have := g2.chg hi x3 t3 o3
  rw [hse] at this
  exact q H3 this
theorem s_exprM (he : EM T X Γ Γ' e d) (hr : SD T X Γ' rest P) (hs : swapsWith e none pos.line X.env = pure false := by rfl) : SD T X Γ (.Expr e pos :: rest) P :=
  s_seq (ps_expr he hs) hr fun E σ H ⟨Z, g, f⟩ => ⟨Z, g, fun v H1 g1 d1 => ⟨Z, g1, f⟩⟩
theorem s_setM (i : Nat) (nd : X.N.Nodup) (he : EM T X Γ Γ' e d) (hr : SD T X (Γ'.set i (some (.sh d))) rest P) (hl : i < Γ'.length := by exact Nat.le_of_ble_eq_true rfl) (hi : X.N[i]? = some x := by rfl) (hx : Loc X.env.scope x := by first | exact .inl rfl | exact .inr rfl)
    (hs : swapsWith e (some (.Name x px)) pos.line X.env = pure false := by rfl) (hf : X.fn x = true ∨ X.env.scope.names.lookup x = some .local := by first | exact .inl rfl | exact .inr rfl) : SD T X Γ (.Assign [.Name x px] e pos :: rest) P :=
  s_seq (ps_set nd hi hx he hs hf) hr fun E σ H ⟨Z, g, f⟩ => ⟨Z, g, fun v H1 g1 d1 => ⟨Z, g1.set hl d1, f⟩⟩
theorem s_retM (he : ED T X true Γ e d) (h : P.rm d Γ) : SD T X Γ (.Return (some e) pos :: rest) P :=
  s_seq (ps_ret he) pss_never fun E σ H ⟨Z, g, f⟩ => ⟨Z, g, fun v H1 g1 x1 d1 => f.rm d Γ v σ H1 h g1 d1⟩
theorem s_retMM (he : EM T X Γ Γ' e d) (h : P.rm d Γ') : SD T X Γ (.Return (some e) pos :: rest) P :=
  s_seq (ps_ret he) pss_never fun E σ H ⟨Z, g, f⟩ => ⟨Z, g, fun v H1 g1 d1 => f.rm d Γ' v σ H1 h g1 d1⟩
theorem bm_isN {q1 : Nat} (h : EM T X Γ Γ' a d) (h1 : behindInMarks .Is (.Constant .none q1 p) = false := by first | exact nobehind _ (by decide) (by decide) | rfl) : BM T X Γ Γ' (.Compare a [.Is] [.Constant .none q1 p] pos) (isNon d) :=
  PT.imp' (pt_cmp (pc_isN h) h1) fun σ H Q ⟨Z, g, q⟩ => ⟨Z, g, fun v H1 g1 d1 => ⟨_, rfl, by rw [isNon_of d1]; exact q H1 g1⟩⟩
theorem bm_notN {q1 : Nat} (h : EM T X Γ Γ' a d) (h1 : behindInMarks .IsNot (.Constant .none q1 p) = false := by first | exact nobehind _ (by decide) (by decide) | rfl) : BM T X Γ Γ' (.Compare a [.IsNot] [.Constant .none q1 p] pos) (!isNon d) :=
  PT.imp' (pt_cmp (pc_notN h) h1) fun σ H Q ⟨Z, g, q⟩ => ⟨Z, g, fun v H1 g1 d1 => ⟨_, rfl, by rw [isNon_of d1]; exact q H1 g1⟩⟩
theorem s_iftM {kb : Bool} (hc : BM T X Γ Γ' e kb) (h1 : kb = true → SD T X Γ' th { P with nx := fun _ => False }) (hr : kb = false → SD T X Γ' rest P) : SD T X Γ (.If e th [] pos :: rest) P := by
  cases kb with
  | true => exact s_seq (ps_if hc (h1 rfl) pss_never) pss_never fun E σ H ⟨Z, g, f⟩ => ⟨Z, g, fun H1 g1 => iteT ⟨Z, g1, ⟨fun Γ' σ' H' w g' => False.elim w, f.rt, f.rl, f.ro, f.xc, f.rn, f.rm, f.h0⟩⟩⟩
  | false => exact s_seq (ps_if hc pss_never pss_nil) (hr rfl) fun E σ H ⟨Z, g, f⟩ => ⟨Z, g, fun H1 g1 => iteF ⟨Z, g1, f⟩⟩
end
end DD

/-! Enumerations left early; loops over owned lists left early. -/
namespace DD
open PySem PySem.Spec L2
section
variable {T : Tb} {X : Cx} {Γ : Ev} {pos tp px : Pos} {α : Type} {as : List α} {f : α → D} {rest body : List Stmt} {P : Pst} {x : Str}
theorem s_forEI (I : Nat → Prop) (j1 j2 : Nat) {a : Expr} {ep epos : Pos} {elts : List Expr} {kk : Nat} (Γs : Nat → Ev) (L : Nat) (hm : X.mg "enumerate" = none) (hi : ED T X true Γ a (.lst (as.map f))) (hg : PG X (.Tuple elts kk tp) (g2 X.K j1 j2)) (h0 : Wk Γ (Γs 0)) (i0 : I 0) (hL : ∀ k, (Γs k).length = L) (hj1 : j1 < L) (hj2 : j2 < L)
    (hb : ∀ (k : Nat) (a : α), as[k]? = some a → I k → SD T X (((Γs k).set j1 (some (.sh (.int (k : Nat))))).set j2 (some (.sh (f a)))) body { P with nx := fun Γ' => Wk Γ' (Γs (k + 1)) ∧ I (k + 1) }) (hr : I as.length → SD T X (Γs as.length) rest P)
    (hp : PassesOwn (model X.prog X.w) X.A X.env X.xe := by first | exact PassesOwn.never | exact L2.passes_of rfl | assumption) (hc : X.calm = true := by rfl) (hgl : Gl X "enumerate" := by rfl) (hst : starEach [a] X.env = [(false, eval a X.env)] := by rfl)
    (hs : ∀ x, foldedSetIterable (.Call (.Name "enumerate" ep) [a] [] epos) X.env x = pure x := by intro _; rfl) :
    SD T X Γ (.For (.Tuple elts kk tp) (.Call (.Name "enumerate" ep) [a] [] epos) body [] pos :: rest) P := by
  have hl : (as.map f).length = as.length := by simp
  refine s_forI I Γs L (src_enum hm hi hgl hst) hg h0 i0 (fun _ _ => trivial) hL (by intro j hj; simp only [List.mem_cons, List.not_mem_nil, or_false] at hj; rcases hj with rfl | rfl <;> assumption) (fun k hk ik => ?_) (by rw [hl]; exact hr) hp hc hs
  have hlt : k < as.length := by rw [← hl]; exact hk
  have e : as[k]? = some as[k] := by simp [hlt]
  show SD T X (((Γs k).set j1 (some (.sh (.int (k : Nat))))).set j2 (some (.sh ((as.map f).getD k .non)))) body _
  rw [getD_map e]
  exact hb k _ e ik
end
section
variable {T : Tb} {X : Cx} {Γ : Ev} {a b c : Expr} {pos : Pos}
/-- a <= b < c of ints -/
theorem b_chL {n1 n2 n3 : Int} (ha : ED T X true Γ a (.int n1)) (hb : ED T X true Γ b (.int n2)) (hc : ED T X true Γ c (.int n3)) (hm : lastMarks [.LtE, .Lt] [b, c] = false := by with_unfolding_all rfl) : BD T X Γ (.Compare a [.LtE, .Lt] [b, c] pos) (decide (n1 ≤ n2) && decide (n2 < n3)) :=
  PT.imp' (pt_chain op_le op_lt ha hb hc hm) fun σ H Q ⟨Z, g, q⟩ => ⟨Z, g, fun v H1 g1 x1 d1 => ⟨Z, g1, fun u H2 g2 x2 d2 => by
    cases d1
    cases d2
    refine ⟨_, _, rfl, rfl, _, rfl, ?_⟩
    cases hk : decide (n1 ≤ n2) with
    | true => exact iteT ⟨Z, g2, fun w H3 g3 x3 d3 => by
        cases d3
        exact ⟨_, _, rfl, rfl, _, rfl, by rw [hk] at q; exact q H3 g3 ((x1.trans x2).trans x3)⟩⟩
    | false => exact iteF ⟨_, rfl, by rw [hk] at q; exact q H2 g2 (x1.trans x2)⟩⟩⟩
end
end DD

/-! repr of data: where no repr is under way (the guards are known: none); defs that are called there. -/
namespace DD
open PySem PySem.Spec L2
/-! ### data as repr tells it -/
mutual
def toP : D → PyData
  | .bl b => .bool b
  | .int i => .int i
  | .str x => .str x
  | .lst ds => .list (toPs ds)
  | .tup ds => .tuple (toPs ds)
  | _ => .none
def toPs : List D → List PyData
  | [] => []
  | d :: ds => toP d :: toPs ds
end
mutual
/-- texts, small numbers, lists and tuples of such: at most n deep -/
def shw : Nat → D → Bool
  | _, .non => true
  | _, .bl _ => true
  | _, .int i => decide (i.natAbs.log2 < 1920)
  | _, .str _ => true
  | n + 1, .lst ds => shwA n ds
  | n + 1, .tup ds => shwA n ds
  | _, _ => false
def shwA : Nat → List D → Bool
  | _, [] => true
  | n, d :: ds => shw n d && shwA n ds
end
mutual
theorem shw_show : ∀ (n : Nat) (d : D), shw n d = true → (toP d).showable = true ∧ (toP d).hasDict = false ∧ (toP d).depth ≤ n
  | n, .non, _ => by simp [toP, PyData.showable, PyData.hasDict, PyData.depth]
  | n, .bl b, _ => by simp [toP, PyData.showable, PyData.hasDict, PyData.depth]
  | n, .int i, h => by
    have h' : i.natAbs.log2 < 1920 := by cases n <;> simpa [shw] using h
    simp [toP, PyData.showable, PyData.hasDict, PyData.depth, h']
  | n, .str x, _ => by simp [toP, PyData.showable, PyData.hasDict, PyData.depth]
  | 0, .lst ds, h => by simp [shw] at h
  | 0, .tup ds, h => by simp [shw] at h
  | n + 1, .lst ds, h => by
    obtain ⟨a, b, c⟩ := shwA_show n ds (by simpa [shw] using h)
    refine ⟨by simpa [toP, PyData.showable] using a, by simpa [toP, PyData.hasDict] using b, ?_⟩
    simp only [toP, PyData.depth]
    omega
  | n + 1, .tup ds, h => by
    obtain ⟨a, b, c⟩ := shwA_show n ds (by simpa [shw] using h)
    refine ⟨by simpa [toP, PyData.showable] using a, by simpa [toP, PyData.hasDict] using b, ?_⟩
    simp only [toP, PyData.depth]
    omega
  | n, .ktp xs, h => by cases n <;> simp [shw] at h
  | n, .scr xs, h => by cases n <;> simp [shw] at h
  | n, .dic ks vs, h => by cases n <;> simp [shw] at h
  | n, .dit ks vs, h => by cases n <;> simp [shw] at h
  | n, .obj d, h => by cases n <;> simp [shw] at h
  | n, .adr a, h => by cases n <;> simp [shw] at h
  | n, .exn a, h => by cases n <;> simp [shw] at h
  | n, .fr a d, h => by cases n <;> simp [shw] at h
theorem shwA_show : ∀ (n : Nat) (ds : List D), shwA n ds = true → PyData.showableAll (toPs ds) = true ∧ PyData.hasDictAll (toPs ds) = false ∧ PyData.depthAll (toPs ds) ≤ n
  | n, [], _ => by simp [toPs, PyData.showableAll, PyData.hasDictAll, PyData.depthAll]
  | n, d :: ds, h => by
    have h' : shw n d = true ∧ shwA n ds = true := by simpa [shwA] using h
    obtain ⟨a, b, c⟩ := shw_show n d h'.1
    obtain ⟨a', b', c'⟩ := shwA_show n ds h'.2
    refine ⟨by simp [toPs, PyData.showableAll, a, a'], by simp [toPs, PyData.hasDictAll, b, b'], ?_⟩
    simp only [toPs, PyData.depthAll]
    omega
end
section
variable {P : Program} {w : World} {K : PySem.W.Frag} {G H : Hp} {h : Heap}
mutual
theorem reads_of (s : Same G H) (ok : HOk P w H h) : ∀ (d : D) (n : Nat) (v : V) (u : Value), shw n d = true → Da K G v d → RelV v u → ∃ as, Reads h u (toP d) as
  | .non, _, _, _, _, q, r => by
    cases q
    have r : _ = Value.none := r
    subst r
    exact ⟨_, .none⟩
  | .bl b, _, _, _, _, q, r => by
    cases q
    have r : _ = Value.bool b := r
    subst r
    exact ⟨_, .bool b⟩
  | .int i, _, _, _, _, q, r => by
    cases q
    obtain ⟨t, rfl⟩ : ∃ t, _ = Value.int i t := r
    exact ⟨_, .int i t⟩
  | .str x, _, _, _, _, q, r => by
    cases q
    obtain ⟨t, rfl⟩ : ∃ t, _ = Value.str x t := r
    exact ⟨_, .str x t⟩
  | .lst ds, 0, _, _, e, _, _ => by simp [shw] at e
  | .tup ds, 0, _, _, e, _, _ => by simp [shw] at e
  | .lst ds, n + 1, _, _, e, q, r => by
    cases q with
    | lst e1 e2 =>
      have r : _ = Value.ref _ := r
      subst r
      obtain ⟨_, its, m, rv, e3⟩ := ok _ _ (s _ _ e1)
      obtain ⟨as, ra⟩ := readsA_of s ok ds n _ its (by simpa [shw] using e) e2 rv
      exact ⟨_, .list e3 rfl rfl (by simpa using ra)⟩
  | .tup ds, n + 1, _, _, e, q, r => by
    cases q with
    | tup e1 e2 =>
      have r : _ = Value.ref _ := r
      subst r
      obtain ⟨_, its, rv, o, e3, e4, m, e5⟩ := ok _ _ (s _ _ e1)
      obtain ⟨as, ra⟩ := readsA_of s ok ds n _ its (by simpa [shw] using e) e2 rv
      exact ⟨_, .tuple e3 e4 e5 (by simpa using ra)⟩
  | .ktp xs, n, _, _, h, _, _ => by cases n <;> simp [shw] at h
  | .scr xs, n, _, _, h, _, _ => by cases n <;> simp [shw] at h
  | .dic ks vs, n, _, _, h, _, _ => by cases n <;> simp [shw] at h
  | .dit ks vs, n, _, _, h, _, _ => by cases n <;> simp [shw] at h
  | .obj d, n, _, _, h, _, _ => by cases n <;> simp [shw] at h
  | .adr a, n, _, _, h, _, _ => by cases n <;> simp [shw] at h
  | .exn a, n, _, _, h, _, _ => by cases n <;> simp [shw] at h
  | .fr a d, n, _, _, h, _, _ => by cases n <;> simp [shw] at h
theorem readsA_of (s : Same G H) (ok : HOk P w H h) : ∀ (ds : List D) (n : Nat) (vs : List V) (us : List Value), shwA n ds = true → DaAll K G vs ds → Vals vs us → ∃ as, ReadsAll h us (toPs ds) as
  | [], _, _, _, _, q, r => by
    cases q
    cases r
    exact ⟨_, .nil⟩
  | d :: ds, n, _, _, e, q, r => by
    have e' : shw n d = true ∧ shwA n ds = true := by simpa [shwA] using e
    cases q with
    | cons q1 q2 =>
      cases r with
      | cons r1 r2 =>
        obtain ⟨a1, h1⟩ := reads_of s ok d n _ _ e'.1 q1 r1
        obtain ⟨a2, h2⟩ := readsA_of s ok ds n _ _ e'.2 q2 r2
        exact ⟨_, .cons h1 h2⟩
end
end
/-- what repr(d) tells -/
abbrev shown (d : D) : Str := (toP d).shown
section
variable {X : Cx}
theorem call_repr_lst (hg : X.A.guards = some []) (hu : X.A.units + 64 < cLine) : CallR X (.builtin "repr") (fun xs H Q => ∃ G v ds, xs = [v] ∧ Same G H ∧ Da X.K G v (.lst ds) ∧ shw 30 (.lst ds) = true ∧ (shown (.lst ds)).length ≤ sizeLine ∧ Q (.str (shown (.lst ds))) H) := by
  intro pins s σ H xs us Q I r h
  obtain ⟨G, v, ds, rfl, sm, da, sh, sz, q⟩ := h
  obtain ⟨u, rfl, rv⟩ := vals1 r
  obtain ⟨as, rd⟩ := reads_of sm I.hok _ _ _ _ sh da rv
  obtain ⟨s1, s2, s3⟩ := shw_show _ _ sh
  cases da with
  | lst e1 e2 =>
    have rv : u = Value.ref _ := rv
    subst rv
    exact repr_of_reads' rd s1 (PyData.noDict_hsm s2) hg (by omega) (fun b o e => e) (fun h' u tk hk => ⟨.str _, H, I.kept hk, ⟨u, rfl⟩, q⟩) sz
end
section
variable {T : Tb} {X : Cx} {Γ : Ev} {m : Bool} {a : Expr} {ds : List D} {pos p : Pos}
theorem e_repr (hm : X.mg "repr" = none) (hg : X.A.guards = some []) (hu : X.A.units + 64 < cLine) (h : ED T X false Γ a (.lst ds)) (hs : shw 30 (.lst ds) = true) (hk : SOk (shown (.lst ds))) (hgl : Gl X "repr" := by rfl) (hst : starEach [a] X.env = (false, eval a X.env) :: starEach [] X.env := by rfl) :
    ED T X m Γ (.Call (.Name "repr" p) [a] [] pos) (.str (shown (.lst ds))) :=
  e_callB (call_repr_lst hg hu) (fun Z H σ vs Q g d1 q => by
    cases d1 with
    | cons h1 h2 =>
      cases h2
      exact ⟨_, _, _, rfl, g.sub, h1, hs, by have := hk.2; rw [sizeLine_eq]; omega, q _ H g (Ext.refl H) (.str _ hk)⟩) hgl hm (by rfl) (a_one h hst) (he := hst)
end
/-! ### defs that are called where no repr is under way -/
structure FnG (P : Program) (w : World) (K : PySem.W.Frag) (mg : Str → Option Value) (base : Heap) (k : Nat) (f : Addr) (fd : FuncData) (ps : List Str) (sp : Sp) : Prop where
  len : ∀ vs H Q E, sp vs H Q E → vs.length = ps.length
  run : ∀ (A : Around) (outer : List Env) (s : Shared) (H : Hp) (args : Args) (us : List Value) (vs : List V) (Q : VK) (E : XK), Room k A → A.guards = some [] → Env0 P w K mg base A outer s H → BindsTo s fd args (ps.zip us) → Vals vs us → sp vs H Q E →
    codeAny (model P w) A (.call (.ref f) args) (CR CX0 outer P w H s Q E) s
section
variable {P : Program} {w : World} {K : PySem.W.Frag} {mg : Str → Option Value} {base : Heap} {x q : Str} {prm : Arguments} {bod : List Stmt} {sc : Scope} {dvs : List V} {kws : List (Str × V)} {f : Addr} {fd : FuncData} {N ps : List Str} {k : Nat} {sp : Sp}
theorem FnG.mono {j : Nat} (F : FnG P w K mg base j f fd ps sp) (h : j ≤ k) : FnG P w K mg base k f fd ps sp :=
  ⟨F.len, fun A outer s H args us vs Q E hr => F.run A outer s H args us vs Q E (hr.mono h)⟩
theorem fnG_of (F : FunD K x q prm bod sc dvs kws f fd) (S : FnScope N ps sc) (hlen : ∀ vs H Q E, sp vs H Q E → vs.length = ps.length)
    (go : ∀ (cdv : Value) (A : Around) (outer : List Env) (s : Shared) (H : Hp) (vs : List V) (Q : VK) (E : XK), Room k (cxOf CX0 P w K mg base N q sc f cdv A outer s H E).A → (cxOf CX0 P w K mg base N q sc f cdv A outer s H E).A.guards = some [] → sp vs H Q E →
      ∃ t, PSs (cxOf CX0 P w K mg base N q sc f cdv A outer s H E) bod t ∧ t { nx := fun _ H' => Q .non H', rt := Q } (start N vs) H) : FnG P w K mg base (k + 1) f fd ps sp := by
  obtain ⟨oc, od, dV, kV, doc, pm, an, cdv, ct, osl, rfl, lk, hcode, _, _⟩ := F.ex
  refine ⟨hlen, fun A outer s H args us vs Q E room gd env bnd rel prom => ?_⟩
  have kin : K.In s.heap := env.mod.kin.keeps fun b o e => (env.bs b o e).1
  have nol : s.heap.NoLimit := env.mod.nolimit.keeps fun b o e => (env.bs b o e).1
  have kinds : ∀ y ∈ ps.zip us, sc.names.lookup y.1 = some .local ∨ (sc.names.lookup y.1 = some .cell ∧ ((cellsFrom (s.heap.objs.size + 1) sc.names []).lookup y.1).isSome = true) := fun y hy =>
    (S.par y.1 (List.of_mem_zip (show (y.1, y.2) ∈ ps.zip us from hy)).1).imp id fun z => ⟨z, PySem.W.cellsFrom_some _ _ _ (.inl z)⟩
  refine codeAny_call_function room.depth (kin _ _ lk) rfl S.co S.gen rfl (PySem.W.codeRec_of kin hcode) (bnd _ _ _ _ (wpAny_newFunctionEnv_cells S.kind kinds fun ev hev s1 inC => ?_))
  subst hev
  obtain ⟨t, walk, ht⟩ := go cdv A outer s H vs Q E (room.deeper _) gd prom
  have inv := inv_start (CX := CX0) (E := E) S room.hd env (hlen _ _ _ _ prom) rel inC
  refine ⟨nol.keeps inC.toInCall.keep, codeAny_func (wpAny_mono (walk.run [] s1 (start N vs) H _ inv ht) (fun fl s2 hs => ?_) fun e s2 hs => hs)⟩
  have ending : ∀ {σ2 : St} {H2 : Hp} {v : V} {u : Value}, Inv (cxOf CX0 P w K mg base N q sc f cdv A outer s H E) [] σ2 H2 s2 → RelV v u → Q v H2 → CE outer P w H s Q u s2 :=
    fun {σ2 H2 v u} J r2 qq => ⟨v, H2, J.os, J.bare, J.base, J.hok, r2, qq⟩
  cases fl with
  | ret u => obtain ⟨v, σ2, H2, J, r2, qq⟩ := hs; exact ending J r2 qq
  | next => obtain ⟨σ2, H2, J, qq⟩ := hs; exact ending (v := V.non) (u := Value.none) J rfl qq
  | brk => obtain ⟨_, _, _, z⟩ := hs; exact z.elim
  | cont => obtain ⟨_, _, _, z⟩ := hs; exact z.elim
end
structure CalG (P : Program) (w : World) (K : PySem.W.Frag) (mg : Str → Option Value) (base : Heap) (x : Str) (ps : List Str) (k : Nat) (sp : Sp) : Prop where
  ex : ∃ f fd, mg x = some (.ref f) ∧ KeepF K f fd ∧ Binds K fd ps [] ∧ FnG P w K mg base k f fd ps sp
section
variable {X : Cx} {k : Nat} {f : Addr} {fd : FuncData} {ps : List Str} {sp : Sp} {x : Str} {p pos : Pos} {e : Expr} {es : List Expr} {t : TA}
theorem pe_callG (F : FnG X.prog X.w X.K X.mg X.base k f fd ps sp) (hr : Room k X.A) (gd : X.A.guards = some []) (hg : Gl X x) (hm : X.mg x = some (.ref f)) (hk : PySem.W.keepIn X.K (.ref f) = true) (hb : Binds X.K fd ps [])
    (ha : PA X (e :: es) t) (hdb : (x == ("__debug__" : Str)) = false := by decide) (he : starEach (e :: es) X.env = (false, eval e X.env) :: starEach es X.env := by rfl) (hpl : (backTo pos (starEach es X.env)).any (·.1) = false := by rfl) :
    PE X (.Call (.Name x p) (e :: es) [] pos) (tCall sp [] (fun _ _ _ => False) t) := by
  refine ⟨fun pins s σ H Q I h => wpAny_Call_Name_kw (ld_glob I hg hm (PySem.W.callWith_K (h₀ := X.base) I.ok.mod.kin hk (thn (ha.run pos pins s σ H _ I h) fun us s1 ⟨vs, H1, I1, r, q1⟩ => ⟨I1.kIn, ?_⟩) he hpl) hdb)⟩
  have q1 : sp vs H1 Q fun _ _ _ => False := by rw [← List.append_nil vs]; exact q1
  have hlen : (us ++ []).length = ps.length := by rw [List.append_nil, ← r.length]; exact F.len _ _ _ _ q1
  have bnd := hb s1 us I1.kIn hlen
  rw [List.append_nil] at bnd
  refine wpAny_call (codeAny_mono (F.run X.A X.stack s1 H1 ⟨us, []⟩ us vs Q _ hr gd I1.env0 bnd r q1) fun res s2 hres => ?_)
  cases res with
  | error ex => exact (pass0 pins σ H1 s1 ex s2 I1 hres)
  | ok fl => cases fl with
    | ret u => exact I1.after hres
    | next => exact hres.elim
    | brk => exact hres.elim
    | cont => exact hres.elim
end
end DD

/-! What repr tells of lists: its signs, its length. -/
namespace MM
open PySem L2 DD TL
mutual
/-- printable texts, small numbers, lists and tuples of such, at most n deep -/
def fin : Nat → D → Prop
  | _, .non => True
  | _, .bl _ => True
  | _, .int i => 0 ≤ i ∧ i.natAbs < 10 ^ 12
  | _, .str x => prn x
  | n + 1, .lst ds => finA n ds
  | n + 1, .tup ds => finA n ds
  | _, _ => False
def finA : Nat → List D → Prop
  | _, [] => True
  | n, d :: ds => fin n d ∧ finA n ds
end
mutual
def cst : D → Nat
  | .non => 4
  | .bl _ => 5
  | .int _ => 13
  | .str x => 2 * x.length + 2
  | .lst ds => csts ds + 2 * ds.length + 3
  | .tup ds => csts ds + 2 * ds.length + 3
  | _ => 0
def csts : List D → Nat
  | [] => 0
  | d :: ds => cst d + csts ds
end
theorem log_lt {i : Int} (h : i.natAbs < 10 ^ 12) : i.natAbs.log2 < 1920 := by
  by_cases q : i.natAbs = 0
  · rw [q]; decide
  · have : i.natAbs.log2 < 40 := (Nat.log2_lt q).mpr (Nat.lt_of_lt_of_le h (by decide))
    omega
mutual
theorem fin_shw : ∀ (n : Nat) (d : D), fin n d → shw n d = true
  | n, .non, _ => by cases n <;> rfl
  | n, .bl _, _ => by cases n <;> rfl
  | n, .int i, h => by
    have h' : 0 ≤ i ∧ i.natAbs < 10 ^ 12 := by cases n <;> simpa only [fin] using h
    cases n <;> simp only [shw] <;> exact decide_eq_true (log_lt h'.2)
  | n, .str _, _ => by cases n <;> rfl
  | 0, .lst ds, h => by simp only [fin] at h
  | 0, .tup ds, h => by simp only [fin] at h
  | n + 1, .lst ds, h => by simp only [shw]; exact finA_shw n ds (by simpa only [fin] using h)
  | n + 1, .tup ds, h => by simp only [shw]; exact finA_shw n ds (by simpa only [fin] using h)
  | n, .ktp xs, h => by cases n <;> simp only [fin] at h
  | n, .scr xs, h => by cases n <;> simp only [fin] at h
  | n, .dic ks vs, h => by cases n <;> simp only [fin] at h
  | n, .dit ks vs, h => by cases n <;> simp only [fin] at h
  | n, .obj d, h => by cases n <;> simp only [fin] at h
  | n, .adr a, h => by cases n <;> simp only [fin] at h
  | n, .exn a, h => by cases n <;> simp only [fin] at h
  | n, .fr a d, h => by cases n <;> simp only [fin] at h
theorem finA_shw : ∀ (n : Nat) (ds : List D), finA n ds → shwA n ds = true
  | n, [], _ => by simp only [shwA]
  | n, d :: ds, h => by
    have h' : fin n d ∧ finA n ds := by simpa only [finA] using h
    simp only [shwA, Bool.and_eq_true]
    exact ⟨fin_shw n d h'.1, finA_shw n ds h'.2⟩
end
/-! ### a text's repr -/
theorem char_ok : ∀ q ∈ [34, 39], ∀ c : Nat, 32 ≤ c → c ≤ 126 → (Builtin.Str.reprChar q c).length ≤ 2 ∧ ∀ k ∈ Builtin.Str.reprChar q c, 32 ≤ k ∧ k ≤ 126 := by
  have h : ∀ q ∈ [34, 39], ∀ c ∈ (List.range 127).drop 32, (Builtin.Str.reprChar q c).length ≤ 2 ∧ ∀ k ∈ Builtin.Str.reprChar q c, 32 ≤ k ∧ k ≤ 126 := by decide +kernel
  intro q hq c h1 h2
  refine h q hq c ?_
  rw [List.mem_drop_iff_getElem]
  exact ⟨c - 32, by simp; omega, by simp; omega⟩
theorem fold_ok (q : Nat) (hq : q ∈ [34, 39]) : ∀ (l : List Nat) (acc : Array Nat), (∀ c ∈ l, 32 ≤ c ∧ c ≤ 126) → (∀ k ∈ acc.toList, 32 ≤ k ∧ k ≤ 126) →
    (l.foldl (fun out c => out ++ (Builtin.Str.reprChar q c).toArray) acc).size ≤ acc.size + 2 * l.length ∧ ∀ k ∈ (l.foldl (fun out c => out ++ (Builtin.Str.reprChar q c).toArray) acc).toList, 32 ≤ k ∧ k ≤ 126
  | [], acc, _, h => ⟨by simp, h⟩
  | c :: r, acc, hl, h => by
    obtain ⟨c1, c2⟩ := char_ok q hq c (hl c (List.mem_cons_self ..)).1 (hl c (List.mem_cons_self ..)).2
    obtain ⟨i1, i2⟩ := fold_ok q hq r (acc ++ (Builtin.Str.reprChar q c).toArray) (fun d hd => hl d (List.mem_cons_of_mem _ hd)) fun k hk => by
      rw [Array.toList_append] at hk
      rcases List.mem_append.mp hk with a | a
      · exact h k a
      · exact c2 k (by simpa using a)
    refine ⟨?_, i2⟩
    simp only [List.foldl_cons, List.length_cons]
    simp only [Array.size_append, List.size_toArray] at i1
    omega
theorem quote_in (x : Str) : reprQuote x ∈ [34, 39] := by
  unfold reprQuote
  split <;> simp
theorem text_ok {x : Str} (h : prn x) : (reprText x).length ≤ 2 * x.length + 2 ∧ prn (reprText x) := by
  have hq := quote_in x
  have q2 : 32 ≤ reprQuote x ∧ reprQuote x ≤ 126 := by
    simp only [List.mem_cons, List.not_mem_nil, or_false] at hq
    rcases hq with e | e <;> rw [e] <;> decide
  obtain ⟨f1, f2⟩ := fold_ok (reprQuote x) hq x.cps.toList #[reprQuote x] h (fun k hk => by
    simp at hk
    rw [hk]; exact q2)
  have e : x.cps.toList.length = x.length := by simp [Str.length]
  rw [e] at f1
  unfold reprText
  rw [← Array.foldl_toList]
  constructor
  · show (Array.push _ _).size ≤ _
    rw [Array.size_push]
    have e1 : (#[reprQuote x] : Array Nat).size = 1 := rfl
    omega
  · intro k hk
    change k ∈ (Array.push _ _).toList at hk
    rw [Array.toList_push] at hk
    rcases List.mem_append.mp hk with a | a
    · exact f2 k a
    · rw [List.mem_singleton.mp a]; exact q2
theorem prn_str (s : String) (h : ∀ k ∈ tl (s : Str), 32 ≤ k ∧ k ≤ 126) : prn (s : Str) := h
theorem join_prn {ts : List Str} (h : ∀ t ∈ ts, prn t) : prn (Str.join ", " ts) := by
  have : ∀ ts : List Str, (∀ t ∈ ts, prn t) → prn (Str.join ", " ts) := by
    intro ts
    induction ts with
    | nil => intro _ k hk; cases hk
    | cons x r ih =>
      intro h
      cases r with
      | nil => exact h x (by simp)
      | cons y r =>
        have h1 := ih fun t ht => h t (List.mem_cons_of_mem _ ht)
        show prn (x ++ ((", " : String) : Str) ++ Str.join ", " (y :: r))
        exact ((h x (by simp)).app (show prn ((", " : String) : Str) by unfold prn; decide +kernel)).app h1
  exact this ts h
theorem list_prn {ts : List Str} (h : ∀ t ∈ ts, prn t) : prn (listText ts) := by
  rw [listText_eq_join]
  exact ((show prn ("[" : Str) by unfold prn; decide +kernel).app (join_prn h)).app (show prn ((("]" : String)) : Str) by unfold prn; decide +kernel)
theorem tuple_prn {ts : List Str} (h : ∀ t ∈ ts, prn t) : prn (tupleText ts) := by
  unfold tupleText
  refine ((show prn ("(" : Str) by unfold prn; decide +kernel).app (join_prn h)).app ?_
  split <;> (unfold prn; decide +kernel)
theorem int_prn {i : Int} (h : 0 ≤ i) : prn (PyData.shown (.int i)) := by
  show prn (dec i)
  exact dec_prn h
mutual
theorem shown_ok : ∀ (n : Nat) (d : D), fin n d → prn (shown d) ∧ (shown d).length ≤ cst d
  | n, .non, _ => ⟨by show prn (("None" : String) : Str); unfold prn; decide +kernel, by show (("None" : String) : Str).length ≤ 4; decide +kernel⟩
  | n, .bl b, _ => by
    refine ⟨?_, ?_⟩
    · show prn (PyData.shown (.bool b))
      cases b <;> (unfold prn; decide +kernel)
    · show (PyData.shown (.bool b)).length ≤ 5
      cases b <;> decide +kernel
  | n, .int i, h => by
    have h' : 0 ≤ i ∧ i.natAbs < 10 ^ 12 := by cases n <;> simpa only [fin] using h
    exact ⟨int_prn h'.1, PyData.shown_int_le h'.2⟩
  | n, .str x, h => by
    have h' : prn x := by cases n <;> simpa only [fin] using h
    obtain ⟨a, b⟩ := text_ok h'
    exact ⟨b, by simp only [cst]; exact a⟩
  | 0, .lst ds, h => by simp only [fin] at h
  | 0, .tup ds, h => by simp only [fin] at h
  | n + 1, .lst ds, h => by
    obtain ⟨a, b, c⟩ := shownA_ok n ds (by simpa only [fin] using h)
    refine ⟨list_prn a, ?_⟩
    have := listText_len_le (PyData.shownAll (toPs ds))
    show (listText (PyData.shownAll (toPs ds))).length ≤ csts ds + 2 * ds.length + 3
    omega
  | n + 1, .tup ds, h => by
    obtain ⟨a, b, c⟩ := shownA_ok n ds (by simpa only [fin] using h)
    refine ⟨tuple_prn a, ?_⟩
    have := tupleText_len_le (PyData.shownAll (toPs ds))
    show (tupleText (PyData.shownAll (toPs ds))).length ≤ csts ds + 2 * ds.length + 3
    omega
  | n, .ktp xs, h => by cases n <;> simp only [fin] at h
  | n, .scr xs, h => by cases n <;> simp only [fin] at h
  | n, .dic ks vs, h => by cases n <;> simp only [fin] at h
  | n, .dit ks vs, h => by cases n <;> simp only [fin] at h
  | n, .obj d, h => by cases n <;> simp only [fin] at h
  | n, .adr a, h => by cases n <;> simp only [fin] at h
  | n, .exn a, h => by cases n <;> simp only [fin] at h
  | n, .fr a d, h => by cases n <;> simp only [fin] at h
theorem shownA_ok : ∀ (n : Nat) (ds : List D), finA n ds → (∀ t ∈ PyData.shownAll (toPs ds), prn t) ∧ ((PyData.shownAll (toPs ds)).map (·.length)).sum ≤ csts ds ∧ (PyData.shownAll (toPs ds)).length = ds.length
  | n, [], _ => ⟨by simp [toPs, PyData.shownAll], by simp [toPs, PyData.shownAll], by simp [toPs, PyData.shownAll]⟩
  | n, d :: ds, h => by
    have h' : fin n d ∧ finA n ds := by simpa only [finA] using h
    obtain ⟨a, b⟩ := shown_ok n d h'.1
    obtain ⟨a', b', c'⟩ := shownA_ok n ds h'.2
    refine ⟨fun t ht => ?_, ?_, ?_⟩
    · simp only [toPs, PyData.shownAll, List.mem_cons] at ht
      rcases ht with rfl | ht
      · exact a
      · exact a' t ht
    · simp only [toPs, PyData.shownAll, List.map_cons, List.sum_cons, csts]
      have b2 : (PyData.shown (toP d)).length ≤ cst d := b
      omega
    · simp only [toPs, PyData.shownAll, List.length_cons, c']
end
theorem shown_sok {n : Nat} {d : D} (h : fin n d) (hc : cst d ≤ 8388608) : SOk (shown d) := by
  obtain ⟨a, b⟩ := shown_ok n d h
  exact sok_of (fun k hk => by have := a k hk; omega) (by omega)
theorem finA_map {α : Type} {f : α → D} {n : Nat} {xs : List α} (h : ∀ x ∈ xs, fin n (f x)) : finA n (xs.map f) := by
  induction xs with
  | nil => simp only [List.map_nil, finA]
  | cons x xs ih =>
    simp only [List.map_cons, finA]
    exact ⟨h x (by simp), ih fun y hy => h y (List.mem_cons_of_mem _ hy)⟩
theorem csts_map {α : Type} {f : α → D} {b : Nat} {xs : List α} (h : ∀ x ∈ xs, cst (f x) ≤ b) : csts (xs.map f) ≤ xs.length * b := by
  induction xs with
  | nil => simp [csts]
  | cons x xs ih =>
    have h1 := h x (by simp)
    have h2 := ih fun y hy => h y (List.mem_cons_of_mem _ hy)
    simp only [List.map_cons, csts, List.length_cons, Nat.add_mul, Nat.one_mul]
    omega
end MM

/-! A change that leans on all and adds lines, one behind the other. -/
namespace MM
open PySem L2 DD TL
/-! ### the last change's deeds are done last -/
theorem nst_left {α σ : Type} {step : Nat → α → σ → σ} {s0 : σ} {as bs : List α} : ∀ k, k ≤ as.length → nst step s0 (as ++ bs) k = nst step s0 as k
  | 0, _ => rfl
  | k + 1, h => by
    have hk : k < as.length := h
    have e : as[k]? = some as[k] := by simp [hk]
    have e2 : (as ++ bs)[k]? = some as[k] := by rw [List.getElem?_append_left hk]; exact e
    rw [nst_succ e, nst_succ e2, nst_left k (by omega)]
theorem doAll_snoc (A : List Ch) (c : Ch) : doAll (A ++ [c]) = dCh c (doAll A) := by
  unfold doAll
  have e : (A ++ [c]).length = A.length + 1 := by simp
  rw [e]
  have e2 : (A ++ [c])[A.length]? = some c := by simp
  unfold doSt
  rw [nst_succ e2, nst_left A.length (Nat.le_refl _)]
section
variable {chs : List Ch} {nc : Ch}
/-- one that leans on all comes last -/
theorem plain_last (ho : inOrd (chs ++ [nc])) (nd : ((chs ++ [nc]).map (·.1)).Nodup) (hall : ∀ ch ∈ chs, ch.1 ∈ nc.2.1) : plain (hOf (chs ++ [nc])) (chs ++ [nc]) = plain (hOf chs) chs ++ [nc] := by
  have hnew : nc.1 ∉ chs.map (·.1) := fun hm => by
    rw [List.map_append] at nd
    exact (List.nodup_append.mp nd).2.2 _ hm _ (by simp) rfl
  have pm := plain_perm (hOf (chs ++ [nc])) (chs ++ [nc])
  have up := plain_up (hOf (chs ++ [nc])) (chs ++ [nc])
  have hm : nc ∈ plain (hOf (chs ++ [nc])) (chs ++ [nc]) := pm.mem_iff.mpr (by simp)
  obtain ⟨A, B, e⟩ := List.append_of_mem hm
  have ndP : (plain (hOf (chs ++ [nc])) (chs ++ [nc])).map (·.1) |>.Nodup := (pm.map _).nodup_iff.mpr nd
  rw [e] at up ndP pm
  have hB : B = [] := by
    cases B with
    | nil => rfl
    | cons b B =>
      exfalso
      have h1 : hOf (chs ++ [nc]) nc.1 ≤ hOf (chs ++ [nc]) b.1 := by
        have := (List.pairwise_append.mp up).2.1
        exact (List.pairwise_cons.mp this).1 b (List.mem_cons_self ..)
      have hb : b ∈ chs ++ [nc] := pm.mem_iff.mp (by simp)
      rcases List.mem_append.mp hb with q | q
      · have := hOf_lean ho nd (ch := nc) (by simp) (hall b q)
        omega
      · rw [List.mem_singleton] at q
        subst q
        rw [List.map_append, List.map_cons, List.map_cons] at ndP
        have := (List.nodup_append.mp ndP).2.1
        rw [List.nodup_cons] at this
        exact this.1 (List.mem_cons_self ..)
  subst hB
  have hs : Shut (chs ++ [nc]) (chs.map (·.1)) := fun ch hch hg z hz => by
    rcases List.mem_append.mp hch with q | q
    · obtain ⟨i, hi⟩ := List.getElem?_of_mem q
      have hil : i < chs.length := (List.getElem?_eq_some_iff.mp hi).1
      have := ho i ch (by rw [List.getElem?_append_left hil]; exact hi) z hz
      rw [List.take_append_of_le_length (by omega), List.map_take] at this
      exact List.mem_of_mem_take this
    · rw [List.mem_singleton] at q
      subst q
      exact absurd hg hnew
  have hc : closed (chs ++ [nc]) (chs.map (·.1)) = chs := by
    unfold closed
    rw [List.filter_append, List.filter_eq_self.mpr fun a ha => decide_eq_true (List.mem_map.mpr ⟨a, ha, rfl⟩), List.filter_cons, if_neg (by simpa using hnew)]
    simp
  have key := plain_closed ho nd hs
  rw [hc, e] at key
  have hA : ∀ a ∈ A, a ∈ chs := fun a ha => by
    have : a ∈ chs ++ [nc] := pm.mem_iff.mp (by simp [ha])
    rcases List.mem_append.mp this with q | q
    · exact q
    · rw [List.mem_singleton] at q
      subst q
      rw [List.map_append] at ndP
      exact absurd rfl ((List.nodup_append.mp ndP).2.2 a.1 (List.mem_map.mpr ⟨a, ha, rfl⟩) a.1 (by simp))
  have : closed (A ++ [nc]) (chs.map (·.1)) = A := by
    unfold closed
    rw [List.filter_append, List.filter_eq_self.mpr fun a ha => decide_eq_true (List.mem_map.mpr ⟨a, hA a ha, rfl⟩), List.filter_cons, if_neg (by simpa using hnew)]
    simp
  rw [this] at key
  rw [e, key]
end
/-! ### lines put one behind the other -/
def markAt (R : List Mk) (at' : Nat) : Option Mk := if 0 < at' then R[at' - 1]? else none
def putDs (nm : Str) (R : List Mk) (at' : Nat) (l0 : Str) (ls : Nat → Str) (n : Nat) : List Dd := (("add" : Str), markAt R at', some l0) :: (List.range n).map fun (j : Nat) => (("add" : Str), some (nm, (j : Int)), some (ls j))
def newMks (nm : Str) (n : Nat) : List Mk := (List.range n).map fun (j : Nat) => (nm, (j : Int))
theorem newMks_succ (nm : Str) (n : Nat) : newMks nm (n + 1) = newMks nm n ++ [(nm, (n : Int))] := by
  unfold newMks
  rw [List.range_succ, List.map_append]
  rfl
theorem newMks_mem {nm : Str} {n : Nat} {m : Mk} (h : m ∈ newMks nm n) : m.1 = nm ∧ 0 ≤ m.2 ∧ m.2 < n := by
  unfold newMks at h
  obtain ⟨j, hj, rfl⟩ := List.mem_map.mp h
  rw [List.mem_range] at hj
  exact ⟨rfl, by simp, by simpa using hj⟩
theorem insAt_first {R : List Mk} (nd : R.Nodup) {at' : Nat} (h : at' ≤ R.length) (x : Mk) : insAt R (markAt R at') x = R.take at' ++ [x] ++ R.drop at' := by
  unfold markAt
  split
  · rename_i h0
    have hlt : at' - 1 < R.length := by omega
    have e : R[at' - 1]? = some R[at' - 1] := by simp [hlt]
    rw [e]
    unfold insAt
    have ei : R.idxOf R[at' - 1] = at' - 1 := List.Nodup.idxOf_getElem nd (at' - 1) hlt
    show R.take (R.idxOf R[at' - 1] + 1) ++ [x] ++ R.drop (R.idxOf R[at' - 1] + 1) = _
    rw [ei]
    have : at' - 1 + 1 = at' := by omega
    rw [this]
  · rename_i h0
    have : at' = 0 := by omega
    subst this
    rfl
theorem put_row {nm : Str} {R : List Mk} (nd : R.Nodup) (hnm : ∀ m ∈ R, m.1 ≠ nm) {at' : Nat} (h : at' ≤ R.length) (l0 : Str) (ls : Nat → Str) (s : Rw) (hs : s.1 = R) (n : Nat) :
    ∀ k, k ≤ n → (deedSt nm (putDs nm R at' l0 ls n) s (k + 1)).1.1 = R.take at' ++ newMks nm (k + 1) ++ R.drop at' ∧ (deedSt nm (putDs nm R at' l0 ls n) s (k + 1)).2 = ((k + 1 : Nat) : Int) := by
  intro k
  induction k with
  | zero =>
    intro _
    have e : (putDs nm R at' l0 ls n)[0]? = some (("add" : Str), markAt R at', some l0) := rfl
    unfold deedSt
    rw [nst_succ e]
    show (dDeed nm (("add" : Str), markAt R at', some l0) (s, 0)).1.1 = _ ∧ (dDeed nm (("add" : Str), markAt R at', some l0) (s, 0)).2 = _
    unfold dDeed
    rw [if_pos rfl]
    refine ⟨?_, rfl⟩
    show insAt s.1 (markAt R at') (nm, 0) = _
    rw [hs, insAt_first nd h]
    rfl
  | succ k ih =>
    intro hk
    obtain ⟨i1, i2⟩ := ih (by omega)
    have e : (putDs nm R at' l0 ls n)[k + 1]? = some (("add" : Str), some (nm, (k : Int)), some (ls k)) := by
      unfold putDs
      rw [List.getElem?_cons_succ, List.getElem?_map, List.getElem?_range (by omega)]
      rfl
    have st : deedSt nm (putDs nm R at' l0 ls n) s (k + 1 + 1) = dDeed nm (("add" : Str), some (nm, (k : Int)), some (ls k)) (deedSt nm (putDs nm R at' l0 ls n) s (k + 1)) := nst_succ e
    rw [st]
    generalize deedSt nm (putDs nm R at' l0 ls n) s (k + 1) = q at i1 i2
    obtain ⟨⟨row, words, gone⟩, own⟩ := q
    dsimp only at i1 i2
    subst i1 i2
    unfold dDeed
    rw [if_pos rfl]
    refine ⟨?_, by show (_ : Int) + 1 = _; omega⟩
    show insAt (R.take at' ++ newMks nm (k + 1) ++ R.drop at') (some (nm, (k : Int))) (nm, ((k + 1 : Nat) : Int)) = _
    have e1 : R.take at' ++ newMks nm (k + 1) ++ R.drop at' = (R.take at' ++ newMks nm k) ++ (nm, (k : Int)) :: R.drop at' := by
      rw [newMks_succ]
      simp [List.append_assoc]
    have hno : (nm, (k : Int)) ∉ R.take at' ++ newMks nm k := fun hm => by
      rcases List.mem_append.mp hm with q | q
      · exact hnm _ (List.mem_of_mem_take q) rfl
      · have := (newMks_mem q).2.2
        simp at this
    rw [e1, insAt_some hno, newMks_succ nm (k + 1), newMks_succ nm k]
    simp [List.append_assoc]
theorem adds_put (nm : Str) (R : List Mk) (at' : Nat) (l0 : Str) (ls : Nat → Str) (n : Nat) : ∀ k, k ≤ n + 1 → adds ((putDs nm R at' l0 ls n).take k) = k := fun k hk => by
  have hlen : ((putDs nm R at' l0 ls n).take k).length = k := by
    rw [List.length_take]
    unfold putDs
    simp
    omega
  unfold adds
  rw [List.filter_eq_self.mpr, hlen]
  intro d hd
  have hd2 := List.mem_of_mem_take hd
  unfold putDs at hd2
  rcases List.mem_cons.mp hd2 with q | q
  · rw [q]; rfl
  · obtain ⟨j, _, rfl⟩ := List.mem_map.mp q; rfl
section
variable {chs : List Ch}
/-- the change put behind a line -/
def putCh (chs : List Ch) (nm : Str) (at' : Nat) (l0 : Str) (ls : Nat → Str) (n : Nat) : Ch := (nm, ssort (chs.map (·.1)), putDs nm (model chs).1 at' l0 ls n)
theorem Lw.good (h : Lw chs) (hl : chs.length ≤ 1000) : GoodCh chs := ⟨h.ord, h.nd, h.v, hl, fun ch hch => Nat.le_trans (h.l1 hch) hl, fun ch hch => by have := (h.each ch hch).len; omega⟩
theorem row_mks (h : GoodCh chs) {m : Mk} (hm : m ∈ (model chs).1) : ∃ f ∈ chs, m ∈ mks f := by
  have hd := doSt_ok h.seq h.b _ (Nat.le_refl _)
  rw [List.take_length] at hd
  have := (hd.mem m).mp hm
  unfold allMks at this
  obtain ⟨f, hf, hmf⟩ := List.mem_flatMap.mp this
  exact ⟨f, (plain_perm _ _).mem_iff.mp hf, hmf⟩
theorem put_lw (h : Lw chs) (hl : chs.length ≤ 1000) {nm : Str} (h1 : isNm nm) (h2 : nm ∉ chs.map (·.1)) {at' : Nat} {l0 : Str} {ls : Nat → Str} {n : Nat} (hl0 : isLn l0) (hls : ∀ j, isLn (ls j)) (hn : n ≤ 19) : Lw (chs ++ [putCh chs nm at' l0 ls n]) := by
  have g := h.good hl
  refine ⟨inOrd_snoc h.ord fun l hlm => (ssort_perm _).mem_iff.mp hlm, ?_, fun ch hch => ?_⟩
  · rw [List.map_append]
    refine List.nodup_append.mpr ⟨h.nd, by simp, fun a ha b hb e => ?_⟩
    have : b = nm := by simpa [putCh] using hb
    rw [e, this] at ha
    exact h2 ha
  · rcases List.mem_append.mp hch with q | q
    · have c := h.each ch q
      obtain ⟨ms, m1, m2⟩ := c.dds
      exact ⟨c.nm, c.ris, ⟨ms, fun m hm => by obtain ⟨f, f1, f2⟩ := m1 m hm; exact ⟨f, List.mem_append_left _ f1, f2⟩, m2⟩, c.len⟩
    · rw [List.mem_singleton] at q
      subst q
      refine ⟨h1, rising_of h.nd, ⟨(model chs).1, fun m hm => ?_, fun i d e => ?_⟩, by show (putDs _ _ _ _ _ _).length ≤ 20; unfold putDs; simp; omega⟩
      · obtain ⟨f, f1, f2⟩ := row_mks g hm
        exact ⟨f, List.mem_append_left _ f1, (ssort_perm _).mem_iff.mpr (List.mem_map.mpr ⟨f, f1, rfl⟩), f2⟩
      · have hi : i < n + 1 := by
          have := (List.getElem?_eq_some_iff.mp e).1
          simpa [putCh, putDs] using this
        have ea := adds_put nm (model chs).1 at' l0 ls n i (by omega)
        show okDd nm _ (adds ((putDs nm (model chs).1 at' l0 ls n).take i)) d
        rw [ea]
        cases i with
        | zero =>
          have : d = (("add" : Str), markAt (model chs).1 at', some l0) := (Option.some.inj e).symm
          subst this
          refine .inl ⟨rfl, fun m hm => .inl ?_, l0, rfl, hl0⟩
          have hm : markAt (model chs).1 at' = some m := hm
          unfold markAt at hm
          split at hm
          · exact List.mem_of_getElem? hm
          · cases hm
        | succ j =>
          have e' : ((List.range n).map fun (j : Nat) => (("add" : Str), some (nm, (j : Int)), some (ls j)))[j]? = some d := e
          rw [List.getElem?_map, List.getElem?_range (by omega)] at e'
          have : d = (("add" : Str), some (nm, (j : Int)), some (ls j)) := (Option.some.inj e').symm
          subst this
          refine .inl ⟨rfl, fun m hm => .inr ?_, ls j, rfl, hls j⟩
          have : m = (nm, (j : Int)) := (Option.some.inj hm).symm
          subst this
          exact ⟨rfl, by simp, by show (j : Int) < ((j + 1 : Nat) : Int); omega⟩
theorem put_due (h : Lw chs) (hl : chs.length ≤ 1000) {nm : Str} (h1 : isNm nm) (h2 : nm ∉ chs.map (·.1)) {at' : Nat} (ha : at' ≤ (model chs).1.length) {l0 : Str} {ls : Nat → Str} {n : Nat} (hl0 : isLn l0) (hls : ∀ j, isLn (ls j)) (hn : n ≤ 19) :
    (model (chs ++ [putCh chs nm at' l0 ls n])).1 = (model chs).1.take at' ++ newMks nm (n + 1) ++ (model chs).1.drop at' := by
  have g := h.good hl
  have w := put_lw (at' := at') h hl h1 h2 hl0 hls hn
  have e : model (chs ++ [putCh chs nm at' l0 ls n]) = dCh (putCh chs nm at' l0 ls n) (model chs) := by
    show doAll (plain _ _) = _
    rw [plain_last w.ord w.nd fun ch hch => (ssort_perm _).mem_iff.mpr (List.mem_map.mpr ⟨ch, hch, rfl⟩), doAll_snoc]
    rfl
  rw [e]
  show (deedSt nm (putDs nm (model chs).1 at' l0 ls n) (model chs) (putDs nm (model chs).1 at' l0 ls n).length).1.1 = _
  have el : (putDs nm (model chs).1 at' l0 ls n).length = n + 1 := by unfold putDs; simp
  rw [el]
  exact (put_row g.rowNd (fun m hm e => by
    obtain ⟨f, f1, f2⟩ := row_mks g hm
    rw [(mem_mks.mp f2).1] at e
    exact h2 (List.mem_map.mpr ⟨f, f1, e⟩)) ha l0 ls (model chs) rfl n n (Nat.le_refl _)).1
end
end MM

/-! What a law's weave tells may be shown by repr. -/
namespace MM
open PySem L2 DD TL
def WdOk (s : Rw) : Prop := ∀ m w, aget s.2.1 m = some w → isLn w
theorem wd_put {ws : List (Mk × Str)} {k : Mk} {z : Str} (h : ∀ m w, aget ws m = some w → isLn w) (hz : isLn z) : ∀ m w, aget (aput ws k z) m = some w → isLn w := fun m w e => by
  rw [aget_put] at e
  by_cases q : k = m
  · rw [if_pos q] at e; cases e; exact hz
  · rw [if_neg q] at e; exact h m w e
theorem wd_deed {nm : Str} {d : Dd} {s : Rw} {a : Int} (h : WdOk s) (hd : shDd d) : WdOk (dDeed nm d (s, a)).1 := by
  rcases hd with ⟨h1, z, hz, hl⟩ | ⟨m', rfl⟩ | ⟨m', z, hl, rfl⟩
  · unfold dDeed
    rw [if_pos h1]
    refine wd_put h ?_
    rw [hz]; exact hl
  · have e1 : ("cut" : Str) ≠ ("add" : Str) := by decide +kernel
    have e2 : ("cut" : Str) ≠ ("set" : Str) := by decide +kernel
    unfold dDeed
    rw [if_neg e1, if_neg e2]
    exact h
  · have e1 : ("set" : Str) ≠ ("add" : Str) := by decide +kernel
    unfold dDeed
    rw [if_neg e1, if_pos rfl]
    exact wd_put h hl
theorem wd_deedSt {nm : Str} {ds : List Dd} {s : Rw} (h : WdOk s) (hd : ∀ d ∈ ds, shDd d) : ∀ k, k ≤ ds.length → WdOk (deedSt nm ds s k).1 :=
  nst_inv (fun (_ : Nat) (st : Rw × Int) => WdOk st.1) h fun k d st e q => by
    obtain ⟨s', a'⟩ := st
    exact wd_deed q (hd d (List.mem_of_getElem? e))
theorem wd_doSt {L : List Ch} (hd : ∀ ch ∈ L, ∀ d ∈ ch.2.2, shDd d) : ∀ k, k ≤ L.length → WdOk (doSt L k) :=
  nst_inv (fun (_ : Nat) (s : Rw) => WdOk s) (fun m w e => by cases e) fun k ch s e q => wd_deedSt q (hd ch (List.mem_of_getElem? e)) ch.2.2.length (Nat.le_refl _)
section
variable {chs : List Ch}
theorem Lw.wds (h : Lw chs) : WdOk (model chs) := by
  refine wd_doSt (L := plain (hOf chs) chs) (fun ch hch d hd => ?_) _ (Nat.le_refl _)
  exact (h.wf ((plain_perm _ _).mem_iff.mp hch)).dds d hd
theorem Lw.row20 (h : Lw chs) (hl : chs.length ≤ 1000) : RwOk (model chs) (fun m => m ∈ allMks (plain (hOf chs) chs)) (chs.length * 20) := by
  have := doSt_ok (b := 20) (h.good hl).seq (fun ch hch => (h.each ch ((plain_perm _ _).mem_iff.mp hch)).len) (plain (hOf chs) chs).length (Nat.le_refl _)
  rw [List.take_length] at this
  rw [← (plain_perm (hOf chs) chs).length_eq]
  exact this
theorem Lw.markOk (h : Lw chs) (hl : chs.length ≤ 1000) {m : Mk} (hm : m ∈ (model chs).1) : isNm m.1 ∧ m.1 ∈ chs.map (·.1) ∧ 0 ≤ m.2 ∧ m.2 < 20 := by
  obtain ⟨ch, hch, hk⟩ := List.mem_flatMap.mp (((h.row20 hl).mem m).mp hm)
  have hch' := (plain_perm _ _).mem_iff.mp hch
  obtain ⟨a, b, c⟩ := mem_mks.mp hk
  have := adds_le ch.2.2
  have := (h.each ch hch').len
  rw [a]
  exact ⟨(h.each ch hch').nm, List.mem_map_of_mem hch', b, by omega⟩
theorem fin_mk {m : Mk} {n : Nat} (h1 : isNm m.1) (h2 : 0 ≤ m.2) (h3 : m.2 < 1000000000) : fin (n + 1) (eMk m) := by
  show fin (n + 1) (.tup [.str m.1, .int m.2])
  have e : (10 : Nat) ^ 12 = 1000000000000 := by decide
  cases n <;> (simp only [fin, finA]; exact ⟨h1.prn, ⟨h2, by omega⟩, trivial⟩)
theorem cst_mk {m : Mk} (h1 : isNm m.1) : cst (eMk m) ≤ 46 := by
  show cst (.tup [.str m.1, .int m.2]) ≤ 46
  have := h1.2.1
  simp only [cst, csts, List.length_cons, List.length_nil]
  omega
/-- lists that may be shown -/
def okH (x : List D) : Prop := fin 30 (.lst x) ∧ cst (.lst x) ≤ 8388608
theorem okH_map {α : Type} {f : α → D} {xs : List α} {n b : Nat} (hl : xs.length ≤ n) (h : ∀ x ∈ xs, fin 29 (f x) ∧ cst (f x) ≤ b) (hb : n * b + 2 * n + 3 ≤ 8388608) : okH (xs.map f) := by
  refine ⟨by simp only [fin]; exact finA_map fun x hx => (h x hx).1, ?_⟩
  have := csts_map (b := b) fun x hx => (h x hx).2
  have h2 : xs.length * b ≤ n * b := Nat.mul_le_mul_right _ hl
  simp only [cst, List.length_map]
  omega
theorem Lw.toldOk (h : Lw chs) (hl : chs.length ≤ 1000) {q : Mk × Str} (hq : q ∈ toldOf (model chs)) : q.1 ∈ (model chs).1 ∧ isLn q.2 := by
  unfold toldOf at hq
  obtain ⟨m, hm, rfl⟩ := List.mem_map.mp hq
  have hm := (List.mem_filter.mp hm).1
  refine ⟨hm, ?_⟩
  obtain ⟨w, hw⟩ := Option.isSome_iff_exists.mp ((h.row20 hl).wd m hm)
  show isLn ((aget (model chs).2.1 m).getD "")
  rw [hw]
  exact h.wds m w hw
theorem toldLen20 (h : Lw chs) (hl : chs.length ≤ 63) : (toldOf (model chs)).length ≤ 1260 := by
  have := (h.row20 (by omega)).l1
  unfold toldOf
  rw [List.length_map]
  exact Nat.le_trans (List.length_filter_le _ _) (by omega)
theorem isLn.prn {z : Str} (h : isLn z) : MM.prn z := h.2
theorem fin_strs {ls : List Str} {n : Nat} (h : ∀ z ∈ ls, MM.prn z) : finA n (ls.map D.str) := finA_map fun z hz => by cases n <;> (simp only [fin]; exact h z hz)
theorem qs_mem (h : Lw chs) {q : Qn} (hq : q ∈ qs chs) : (∃ p ∈ toldOf (model chs), p.1 = q.1) ∧ q.2 = uns chs q.1 := by
  have key : ∀ q ∈ qSt chs (toldOf (model chs)).length, (∃ p ∈ toldOf (model chs), p.1 = q.1) ∧ q.2 = uns chs q.1 :=
    nst_inv (fun _ (s : List Qn) => ∀ q ∈ s, (∃ p ∈ toldOf (model chs), p.1 = q.1) ∧ q.2 = uns chs q.1) (by simp) (fun k p s e ih q hq => by
      unfold qStep at hq
      split at hq
      · rcases List.mem_append.mp hq with a | a
        · exact ih q a
        · rw [List.mem_singleton.mp a]
          exact ⟨⟨p, List.mem_of_getElem? e, rfl⟩, rfl⟩
      · exact ih q hq) _ (Nat.le_refl _)
  exact key q hq
theorem uns_in {m : Mk} {z : Str} (hz : z ∈ uns chs m) : z ∈ chs.map (·.1) := by
  unfold uns at hz
  have := (List.mergeSort_perm _ sle).mem_iff.mp hz
  exact setN_in (List.mem_filter.mp this).1
/-- what a weave tells -/
def newH (chs : List Ch) : List (List D) := [(model chs).1.map eMk, (toldOf (model chs)).map eTl, (ssort (chs.map (·.1))).map D.str, ((toldOf (model chs)).map (·.2)).map D.str, (qs chs).map eQ]
theorem okH_row (h : Lw chs) (hl : chs.length ≤ 63) : okH ((model chs).1.map eMk) :=
  okH_map (n := 1260) (b := 46) (by have := (h.row20 (by omega)).l1; omega) (fun m hm => by
    obtain ⟨a, b, c, d⟩ := h.markOk (by omega) hm
    exact ⟨fin_mk a c (by omega), cst_mk a⟩) (by decide)
theorem okH_names {ls : List Str} (h : ∀ z ∈ ls, isNm z) (hl : ls.length ≤ 1000) : okH (ls.map D.str) :=
  okH_map (n := 1000) (b := 26) hl (fun z hz => ⟨by simp only [fin]; exact (h z hz).prn, by have := (h z hz).2.1; simp only [cst]; omega⟩) (by decide)
theorem newH_ok (h : Lw chs) (hl : chs.length ≤ 63) : ∀ x ∈ newH chs, okH x := fun x hx => by
  have tk : ∀ z ∈ chs.map (·.1), isNm z := fun z hz => by
    obtain ⟨ch, hch, rfl⟩ := List.mem_map.mp hz
    exact (h.each ch hch).nm
  have tl := toldLen20 h hl
  unfold newH at hx
  simp only [List.mem_cons, List.not_mem_nil, or_false] at hx
  rcases hx with rfl | rfl | rfl | rfl | rfl
  · exact okH_row h hl
  · refine okH_map (n := 1260) (b := 460) tl (fun q hq => ?_) (by decide)
    obtain ⟨a, b⟩ := h.toldOk (by omega) hq
    obtain ⟨a1, a2, a3, a4⟩ := h.markOk (by omega) a
    have l1 := b.1
    have c1 := cst_mk a1
    refine ⟨?_, ?_⟩
    · show fin 29 (.tup [eMk q.1, .str q.2])
      simp only [fin, finA]
      exact ⟨fin_mk a1 a3 (by omega), b.prn, trivial⟩
    · show cst (.tup [eMk q.1, .str q.2]) ≤ 460
      simp only [cst, csts, List.length_cons, List.length_nil]
      omega
  · refine okH_names (fun z hz => tk z ((List.mergeSort_perm _ sle).mem_iff.mp hz)) ?_
    have e0 : ∀ xs : List Str, (ssort xs).length = xs.length := fun xs => (List.mergeSort_perm xs sle).length_eq
    have e := e0 (chs.map (·.1))
    rw [List.length_map] at e
    omega
  · refine okH_map (n := 1260) (b := 402) (by rw [List.length_map]; exact tl) (fun z hz => ?_) (by decide)
    obtain ⟨q, hq, rfl⟩ := List.mem_map.mp hz
    obtain ⟨a, b⟩ := h.toldOk (by omega) hq
    have l1 := b.1
    exact ⟨by simp only [fin]; exact b.prn, by simp only [cst]; omega⟩
  · refine okH_map (n := 1260) (b := 1830) (Nat.le_trans (qSt_len chs _ (Nat.le_refl _)) tl) (fun q hq => ?_) (by decide)
    obtain ⟨⟨p, hp, e⟩, e2⟩ := qs_mem h hq
    obtain ⟨a, b⟩ := h.toldOk (by omega) hp
    obtain ⟨a1, a2, a3, a4⟩ := h.markOk (by omega) a
    rw [e] at a1 a3 a4
    have c1 := cst_mk a1
    have ul : q.2.length ≤ 63 := by rw [e2]; have := uns_len (chs := chs) q.1; omega
    have un : ∀ z ∈ q.2, isNm z := fun z hz => by rw [e2] at hz; exact tk z (uns_in hz)
    have cs := csts_map (f := D.str) (b := 26) (xs := q.2) fun z hz => by have := (un z hz).2.1; simp only [cst]; omega
    refine ⟨?_, ?_⟩
    · show fin 29 (.tup [eMk q.1, .lst (q.2.map D.str)])
      simp only [fin, finA]
      exact ⟨fin_mk a1 a3 (by omega), fin_strs fun z hz => (un z hz).prn, trivial⟩
    · show cst (.tup [eMk q.1, .lst (q.2.map D.str)]) ≤ 1830
      simp only [cst, csts, List.length_cons, List.length_nil, List.length_map]
      omega
/-- a list and its repr -/
def hent (x : List D) : D := .tup [.lst x, .str (shown (.lst x))]
theorem okH.sok {x : List D} (h : okH x) : SOk (shown (.lst x)) := shown_sok h.1 h.2
theorem okH.shw {x : List D} (h : okH x) : DD.shw 30 (.lst x) = true := fin_shw 30 _ h.1
end
end MM

/-! Defs where no repr is under way: their promises, their calls; one that lengthens a list handed in. -/
namespace DD
open PySem PySem.Spec L2
section
variable {T : Tb} {P : Program} {w : World} {K : PySem.W.Frag} {mg : Str → Option Value} {base : Heap} {x : Str} {st : Stmt} {N ps : List Str} {k : Nat}
theorem CalG.mono {j : Nat} {sp : Sp} (C : CalG P w K mg base x ps j sp) (h : j ≤ k) : CalG P w K mg base x ps k sp := by
  obtain ⟨f, fd, a, b, c, F⟩ := C.ex
  exact ⟨f, fd, a, b, c, F.mono h⟩
theorem calG_E {R : List D → D → Prop} (F : Df K mg x st) (S : FnScope N ps (defScope st)) (hb : ∀ (kV doc pm : Value) (an : Option Addr) (cdv ct : Value) (us : List Value), us.length = ps.length → bindArgs (PySem.W.fnOf x x (defArgs st) (defBody st) (defScope st) .none kV doc pm an cdv ct) ⟨us, []⟩ = pure (ps.zip us))
    (hlen : ∀ ds d, R ds d → ds.length = ps.length) (hpn : ps.length ≤ N.length)
    (hbody : ∀ (f : Addr) (cdv : Value) (A : Around) (outer : List Env) (s : Shared) (H : Hp) (E : XK), Room k (cxN P w K mg base N x (defScope st) f cdv A outer s H E).A → (cxN P w K mg base N x (defScope st) f cdv A outer s H E).A.guards = some [] → ∀ ds d, R ds d → SD T (cxN P w K mg base N x (defScope st) f cdv A outer s H E) (env0 N.length ds) (defBody st) { nx := fun _ => d = .non, rt := fun d' => d' = d, rl := fun es => d = .lst es }) :
    CalG P w K mg base x ps (k + 1) (spE T K R) := by
  obtain ⟨f, fd, hm, F⟩ := F.ex
  refine ⟨f, fd, hm, (DD.FunD.keepF F), F.bindsN hb, fnG_of F S (fun vs H Q E ⟨G, ds, d, h1, h2, h3, h4, _⟩ => by rw [h3.length]; exact hlen _ _ h4) fun cdv A outer s H vs Q E hr gd h => ?_⟩
  obtain ⟨G, ds, d, h1, h2, h3, h4, h5, q⟩ := h
  have hl := hlen _ _ h4
  have hl3 := h3.length
  refine ⟨_, (hbody f cdv A outer s H E hr gd ds d h4).nox, ⟨G, H, fun _ => none, []⟩, start_ok h1 h2 h3 h5 (by omega), ?_⟩
  refine ⟨fun Γ' σ' H' e g' => ?_, fun d' v H' e x t da => ?_, fun es p ws H' e x t hp da => ?_, fun _ _ _ _ _ e => False.elim e, fun _ _ _ _ e => False.elim e, fun _ _ _ e => False.elim e, fun _ _ _ _ _ e => False.elim e, fun _ e => nomatch e⟩
  · refine q _ _ g'.ext g'.tab ?_
    rw [e]
    exact .non
  · subst e
    exact q v H' x t da
  · refine q _ _ (x.trans (Ext.upd hp)) (t.ext (same_upd hp)) ?_
    rw [e]
    have hg : gr G H (upd H' p (.lst ws)) p = some (.lst ws) := by
      unfold gr
      rw [x.free hp]
      exact nt_of upd_same (fun ps z => by cases z)
    exact .lst hg (da.to (gr_ext (Ext.upd hp)))
/-- f(object, list): the list is changed -/
def spA (T : Tb) (K : PySem.W.Frag) (R : D → List D → List D → Prop) : Sp := fun vs H Q _ => ∃ (G : Hp) (a p : Addr) (d : D) (es es' : List D), vs = [.ref a, .ref p] ∧ Same G (mns H p) ∧ NoTbl G ∧ Da K G (.ref a) d ∧ OwOk K G H p (.lst es) ∧ R d es es' ∧ LamX.Tabs T H ∧
  ∀ H', Ext (mns H p) H' → LamX.Tabs T H' → OwOk K (mns (gr G (mns H p) H') p) H' p (.lst es') → Q .non H'
def envA (n : Nat) (p : Addr) (d : D) (es : List D) : Ev := some (.sh d) :: some (.ow p (.lst es)) :: List.replicate (n - 2) none
theorem startA_ok {G H : Hp} {N : List Str} {es : List D} {a p : Addr} {d : D} (hs : Same G (mns H p)) (hn : NoTbl G) (hd : Da K G (.ref a) d) (ho : OwOk K G H p (.lst es)) (ht : LamX.Tabs T H) (hl : 2 ≤ N.length) :
    GOk T K ⟨G, mns H p, fun _ => none, []⟩ H (L2.start N [.ref a, .ref p]) (envA N.length p d es) := by
  have o0 : ∀ k : Nat, owns (List.replicate k none) = [] := fun k => by
    induction k with
    | zero => rfl
    | succ k ih => exact ih
  have eo : owns (envA N.length p d es) = [p] := by
    show p :: owns (List.replicate (N.length - 2) none) = [p]
    rw [o0]
  have hGp : G p = none := by
    cases q : G p with
    | none => rfl
    | some o => have := hs p o q; rw [mns_self] at this; cases this
  have sm : Same G (rg true ⟨G, mns H p, fun _ => none, []⟩ H (envA N.length p d es)) := fun b o e => by
    have hb : b ≠ p := fun z => by rw [z, hGp] at e; cases e
    unfold rg
    rw [if_neg (by rintro ⟨_, z⟩; rw [eo] at z; exact hb (by simpa using z))]
    show gr G (mns H p) H b = some o
    unfold gr
    rw [nt_of (hs b o e) (fun ps z => by subst z; exact hn b ps e)]
    cases o <;> first | rfl | exact e
  refine ⟨hs, hn, ⟨fun b o e _ => ?_, trivial⟩, ht, by rw [eo]; simp, fun q hq => ?_, fun q hq => ?_, ?_, fun i s e => ?_, fun b o e => ?_⟩
  · have e : mns H p b = some o := e
    by_cases hb : b = p
    · rw [hb, mns_self] at e; cases e
    · rw [mns_ne hb] at e; exact e
  · rw [eo] at hq
    have : q = p := by simpa using hq
    rw [this]
    exact nt_mns_self H p
  · exact absurd (show q ∈ ([] : List Addr) from hq) (by simp)
  · unfold L2.start envA
    simp
    try omega
  · match i, e with
    | 0, e =>
      have e : some (Sl.sh d) = some s := by simpa [envA] using e
      cases e
      exact ⟨.ref a, rfl, Da.to hd sm⟩
    | 1, e =>
      have e : some (Sl.ow p (.lst es)) = some s := by simpa [envA] using e
      cases e
      exact ⟨.ref p, rfl, rfl, ho.to sm fun o w _ => w⟩
    | i + 2, e =>
      have e : (List.replicate (N.length - 2) (none : Option Sl))[i]? = some (some s) := by simpa [envA] using e
      rw [List.getElem?_replicate] at e
      split at e <;> cases e
  · cases e
theorem calG_A {R : D → List D → List D → Prop} (F : Df K mg x st) (S : FnScope N ps (defScope st)) (hb : ∀ (kV doc pm : Value) (an : Option Addr) (cdv ct : Value) (us : List Value), us.length = ps.length → bindArgs (PySem.W.fnOf x x (defArgs st) (defBody st) (defScope st) .none kV doc pm an cdv ct) ⟨us, []⟩ = pure (ps.zip us))
    (hl2 : ps.length = 2) (hpn : 2 ≤ N.length)
    (hbody : ∀ (f : Addr) (cdv : Value) (A : Around) (outer : List Env) (s : Shared) (H : Hp) (E : XK), Room k (cxN P w K mg base N x (defScope st) f cdv A outer s H E).A → (cxN P w K mg base N x (defScope st) f cdv A outer s H E).A.guards = some [] → ∀ p d es es', R d es es' → SD T (cxN P w K mg base N x (defScope st) f cdv A outer s H E) (envA N.length p d es) (defBody st) { nx := fun Γ => Γ[1]? = some (some (.ow p (.lst es'))) }) :
    CalG P w K mg base x ps (k + 1) (spA T K R) := by
  obtain ⟨f, fd, hm, F⟩ := F.ex
  refine ⟨f, fd, hm, (DD.FunD.keepF F), F.bindsN hb, fnG_of F S (fun vs H Q E ⟨G, a, p, d, es, es', e, _⟩ => by rw [e, hl2]; rfl) fun cdv A outer s H vs Q E hr gd h => ?_⟩
  obtain ⟨G, a, p, d, es, es', rfl, h1, h2, h3, h4, h5, h6, qq⟩ := h
  refine ⟨_, (hbody f cdv A outer s H E hr gd p d es es' h5).nox, ⟨G, mns H p, fun _ => none, []⟩, startA_ok h1 h2 h3 h4 h6 hpn, ?_⟩
  refine ⟨fun Γ' σ' H' e g' => ?_, fun d' v H' e x t da => False.elim e, fun es p ws H' e x t hp da => False.elim e, fun _ _ _ _ _ e => False.elim e, fun _ _ _ _ e => False.elim e, fun _ _ _ e => False.elim e, fun _ _ _ _ _ e => False.elim e, fun _ e => nomatch e⟩
  obtain ⟨v, q1, q2, q3⟩ := g'.slots 1 _ e
  have hm : p ∈ owns Γ' := mem_owns.mpr ⟨1, _, e⟩
  refine qq H' g'.ext g'.tab (q3.to (fun b o w => ?_) fun o w _ => w)
  have hb : b ≠ p := fun z => by
    unfold rg at w
    rw [if_pos ⟨rfl, by rw [z]; exact List.mem_append_right _ hm⟩] at w
    cases w
  rw [mns_ne hb]
  exact rg_gr _ _ w
end
/-! ### data of lists and tuples alone: no dict is looked at -/
mutual
def pln : D → Bool
  | .non => true
  | .bl _ => true
  | .int _ => true
  | .str _ => true
  | .lst ds => plnA ds
  | .tup ds => plnA ds
  | _ => false
def plnA : List D → Bool
  | [] => true
  | d :: ds => pln d && plnA ds
end
section
variable {K : PySem.W.Frag} {G G' : Hp}
mutual
theorem Da.pln (h : ∀ b u, G b = some u → ((∃ xs, u = .lst xs) ∨ ∃ xs, u = .tup xs) → G' b = some u) : ∀ (d : D) (v : V), pln d = true → Da K G v d → Da K G' v d
  | .non, _, _, q => by cases q; exact .non
  | .bl b, _, _, q => by cases q; exact .bl b
  | .int i, _, _, q => by cases q; exact .int i
  | .str x, _, _, q => by
    cases q with
    | str _ z => exact .str x z
  | .lst ds, _, e, q => by
    cases q with
    | lst e1 e2 => exact .lst (h _ _ e1 (.inl ⟨_, rfl⟩)) (DaAll.pln h ds _ (by simpa [DD.pln] using e) e2)
  | .tup ds, _, e, q => by
    cases q with
    | tup e1 e2 => exact .tup (h _ _ e1 (.inr ⟨_, rfl⟩)) (DaAll.pln h ds _ (by simpa [DD.pln] using e) e2)
  | .ktp xs, _, e, _ => by simp [DD.pln] at e
  | .scr xs, _, e, _ => by simp [DD.pln] at e
  | .dic ks vs, _, e, _ => by simp [DD.pln] at e
  | .dit ks vs, _, e, _ => by simp [DD.pln] at e
  | .obj d, _, e, _ => by simp [DD.pln] at e
  | .adr a, _, e, _ => by simp [DD.pln] at e
  | .exn a, _, e, _ => by simp [DD.pln] at e
  | .fr a d, _, e, _ => by simp [DD.pln] at e
theorem DaAll.pln (h : ∀ b u, G b = some u → ((∃ xs, u = .lst xs) ∨ ∃ xs, u = .tup xs) → G' b = some u) : ∀ (ds : List D) (vs : List V), plnA ds = true → DaAll K G vs ds → DaAll K G' vs ds
  | [], _, _, q => by cases q; exact .nil
  | d :: ds, _, e, q => by
    have e' : DD.pln d = true ∧ plnA ds = true := by simpa [plnA] using e
    cases q with
    | cons q1 q2 => exact .cons (Da.pln h d _ e'.1 q1) (DaAll.pln h ds _ e'.2 q2)
end
end
theorem plnA_map {α : Type} {f : α → D} {xs : List α} (h : ∀ a ∈ xs, pln (f a) = true) : plnA (xs.map f) = true := by
  induction xs with
  | nil => rfl
  | cons x xs ih => simp only [List.map_cons, plnA, Bool.and_eq_true]; exact ⟨h x (by simp), ih fun a ha => h a (by simp [ha])⟩
theorem plnA_app : ∀ {xs ys : List D}, plnA xs = true → plnA ys = true → plnA (xs ++ ys) = true
  | [], _, _, h => h
  | x :: xs, ys, h, h' => by
    simp only [plnA, Bool.and_eq_true] at h
    simp only [List.cons_append, plnA, Bool.and_eq_true]
    exact ⟨h.1, plnA_app h.2 h'⟩
section
variable {T : Tb} {X : Cx} {Γ : Ev} {m : Bool} {a b c o : Expr} {d d0 : D} {ds es es2 : List D} {es' : List Expr} {pos p xp yp apos : Pos} {x y z : Str} {ps : List Str} {k : Nat} {rest : List Stmt} {P : Pst}
theorem e_callG {R : List D → D → Prop} (C : CalG X.prog X.w X.K X.mg X.base x ps k (spE T X.K R)) (hr : Room k X.A) (gd : X.A.guards = some []) (h : R ds d) (ha : AD T X m Γ (a :: es') ds) (hg : Gl X x := by rfl) (hdb : (x == ("__debug__" : Str)) = false := by decide)
    (he : starEach (a :: es') X.env = (false, eval a X.env) :: starEach es' X.env := by rfl) (hpl : (backTo pos (starEach es' X.env)).any (·.1) = false := by rfl) : ED T X m Γ (.Call (.Name x p) (a :: es') [] pos) d := by
  obtain ⟨f, fd, hm, hk, hb, F⟩ := C.ex
  refine PE.imp' (pe_callG F hr gd hg hm hk.1 hb ha hdb he hpl) fun σ H Q ⟨Z, g, q⟩ => ⟨Z, g, fun vs H1 g1 x1 d1 => ?_⟩
  dsimp only
  rw [List.append_nil]
  exact ⟨rg m Z H1 Γ, ds, d, g1.sub, rg_noTbl g1, d1, h, g1.tab, fun v H2 x2 t2 d2 => q v H2 (g1.to x2 t2) (x1.trans x2) (d2.to (rg_after g1 x2))⟩
/-- o.m(), a new list, o stable -/
theorem l_methS {R : List D → List D → Prop} (W : Wv X.K) (C : CalM X.prog X.w X.K X.mg X.base x ps k (spL T X.K R)) (hr : Room k X.A) (h : R [.obj d0] es) (ho : ED T X true Γ o (.obj d0)) (hx : (x == ("known" : Str)) = false := by decide) {pl : Sem Bool}
    (ht : eval (.Call (.Attribute o x apos) [] [] pos) X.env = (do
      let ov ← eval o X.env
      standAt apos.atName
      let (f, first) ← holding [ov] (getMethod ov x pl)
      callWith pos f first (backTo pos (starEach [] X.env)) (backToKw pos (keywordEach [] X.env))) := by rfl) : LD T X Γ (.Call (.Attribute o x apos) [] [] pos) es := by
  obtain ⟨f, fd, hm, hb, F⟩ := C.ex
  refine PE.imp' (pe_meth0 (pl := pl) ho W.cls hm F hr hb .nil pass0 ht) fun σ H Q ⟨Z, g, q⟩ => ⟨Z, g, fun v H1 g1 x1 d1 => ?_⟩
  cases d1 with
  | obj e1 e2 =>
    refine ⟨_, _, _, rfl, g1.sub _ _ e1, by show (match x == ("known" : Str) with | true => _ | false => _) = none; rw [hx]; rfl, ?_⟩
    exact ⟨rg true Z H1 Γ, [.obj d0], es, g1.sub, rg_noTbl g1, .cons (.obj e1 e2) .nil, h, g1.tab, fun r ws H2 x2 t2 hr2 d2 => q r ws H2 (g1.to x2 t2) (x1.trans x2) hr2 (d2.to (rg_after g1 x2))⟩
/-- f(object, list) as a statement, both owned -/
theorem s_callGA (i j : Nat) {R : D → List D → List D → Prop} {pi pj : Addr} (C : CalG X.prog X.w X.K X.mg X.base x ps k (spA T X.K R)) (hr : Room k X.A) (gd : X.A.guards = some []) (hi : Γ[i]? = some (some (.ow pi (.obj d)))) (hj : Γ[j]? = some (some (.ow pj (.lst es)))) (h : R (.obj d) es es2) (hp2 : plnA es2 = true)
    (hrest : SD T X (Γ.set j (some (.ow pj (.lst es2)))) rest P) (hN1 : X.N[i]? = some y := by rfl) (hv1 : Vis X.env.scope y := by first | exact Or.inl rfl | exact Or.inr (Or.inl rfl) | exact Or.inr (Or.inr rfl)) (hd1 : (y == ("__debug__" : Str)) = false := by decide)
    (hcd1 : (y == ("__classdict__" : Str)) = false := by decide) (hN2 : X.N[j]? = some z := by rfl) (hv2 : Vis X.env.scope z := by first | exact Or.inl rfl | exact Or.inr (Or.inl rfl) | exact Or.inr (Or.inr rfl)) (hd2 : (z == ("__debug__" : Str)) = false := by decide)
    (hcd2 : (z == ("__classdict__" : Str)) = false := by decide) (hg : Gl X x := by rfl) (hdb : (x == ("__debug__" : Str)) = false := by decide) {cpos : Pos}
    (he : starEach [.Name y yp, .Name z xp] X.env = (false, eval (.Name y yp) X.env) :: starEach [.Name z xp] X.env := by rfl) (he2 : starEach [.Name z xp] X.env = (false, eval (.Name z xp) X.env) :: starEach [] X.env := by rfl) (hpl : (backTo cpos (starEach [.Name z xp] X.env)).any (·.1) = false := by rfl)
    (hs : swapsWith (.Call (.Name x p) [.Name y yp, .Name z xp] [] cpos) none pos.line X.env = pure false := by rfl) :
    SD T X Γ (.Expr (.Call (.Name x p) [.Name y yp, .Name z xp] [] cpos) pos :: rest) P := by
  obtain ⟨f, fd, hm, hk, hb, F⟩ := C.ex
  refine s_seq (ps_expr (pe_callG F hr gd hg hm hk.1 hb (pa_cons (pe_var hN1 hv1 hd1 hcd1) (pa_cons (pe_var hN2 hv2 hd2 hcd2) pa_nil he2) he) hdb he hpl) hs) hrest fun E σ H ⟨Z, g, ff⟩ => ?_
  obtain ⟨v1, e1, ⟨a, dx, rfl, hins⟩, ow1⟩ := g.slots i _ hi
  obtain ⟨v2, e2, rfl, ow2⟩ := g.slots j _ hj
  refine ⟨_, e1, _, e2, ?_⟩
  dsimp only
  have mi : pi ∈ Z.ex ++ owns Γ := List.mem_append_right _ (mem_owns.mpr ⟨i, _, hi⟩)
  have mj : pj ∈ Z.ex ++ owns Γ := List.mem_append_right _ (mem_owns.mpr ⟨j, _, hj⟩)
  have ri : rg true Z H Γ pi = none := by unfold rg; rw [if_pos ⟨rfl, mi⟩]
  have rj : rg true Z H Γ pj = none := by unfold rg; rw [if_pos ⟨rfl, mj⟩]
  cases d with
  | dic ks ds0 =>
    obtain ⟨kvs, o1, o2, o3⟩ := ow1
    obtain ⟨vs, w1, w2⟩ := ow2
    have nij : pi ≠ pj := fun z => by rw [z, w1] at o1; cases o1
    have sm0 : Same (rg true Z H Γ) (fun b => if b = pi then some (.dK kvs) else rg true Z H Γ b) := fun b u e => by
      have hb : b ≠ pi := fun z => by rw [z, ri] at e; cases e
      show (if b = pi then _ else _) = some u
      rw [if_neg hb]; exact e
    refine ⟨fun b => if b = pi then some (.dK kvs) else rg true Z H Γ b, a, pj, .obj (.dic ks ds0), es, es2, rfl, fun b u e => ?_, fun b t e => ?_, .obj (sm0 _ _ hins) (.dic (if_pos rfl) o2 (o3.to sm0)), ⟨vs, w1, w2.to sm0⟩, h, g.tab, fun H' x' t' ow' => ⟨Z, g.chg hj x' t' ?_, ff⟩⟩
    · dsimp only at e
      by_cases hb : b = pi
      · rw [if_pos hb] at e
        cases e
        rw [hb, mns_ne nij]
        exact o1
      · rw [if_neg hb] at e
        have hb2 : b ≠ pj := fun z => by rw [z, rj] at e; cases e
        rw [mns_ne hb2]
        exact g.sub _ _ e
    · dsimp only at e
      by_cases hb : b = pi
      · rw [if_pos hb] at e
        cases e
      · rw [if_neg hb] at e
        exact rg_noTbl g b t e
    · obtain ⟨vs', w1', w2'⟩ := ow'
      refine ⟨vs', w1', DaAll.pln (fun b u e hu => ?_) _ _ hp2 w2'⟩
      by_cases hb : b = pj
      · rw [hb, mns_self] at e; cases e
      · rw [mns_ne hb] at e ⊢
        unfold gr at e ⊢
        cases hh : nt (mns H pj) b with
        | none => rw [hh] at e; exact e
        | some u' =>
          rw [hh] at e
          have key : (if b = pi then some (HO.dK kvs) else rg true Z H Γ b) = some u → rg true Z H Γ b = some u := fun e => by
            by_cases hb2 : b = pi
            · rw [if_pos hb2] at e
              cases e
              rcases hu with ⟨xs, z⟩ | ⟨xs, z⟩ <;> cases z
            · rw [if_neg hb2] at e; exact e
          cases u' <;> first | exact e | exact key e
  | _ => exact ow1.elim
end
end DD

/-! The end of a law whose walk knows that no repr is under way. -/
namespace DD
open PySem PySem.Spec PyProof.Rows L2
/-- the heap that the law finds: the script (if it's not among the known things), the tables -/
def hpOf (tb : List Addr) (a : Addr) (scr : Option HO) : Hp := fun b => if b = a then scr else if b ∈ tb then some (.tbl #[]) else none
section
variable {P : Program} {w : World} {K : PySem.W.Frag} {mg mb : Str → Option Value} {k : Nat} {fa a : Addr} {cs : List (Addr × Addr)} {fd : FuncData} {x : Str} {sp : Sp} {s : Shared} {vs : List Value} {ns : List Int}
abbrev scO (vs : List Value) : Obj := { cls := .type "list", data := .seq vs.toArray }
theorem top_run (scr : Option HO) (hscr : scr = none ∨ scr = some (.frz (scO vs) (.lst (ns.map V.int)))) (hKa : scr ≠ none → K.lookup a = none) (hSq : SqL K (hpOf (cs.map (·.2)) a scr) a (ns.map V.int))
    (kin : K.In s.heap) (gns : s.heap.Ns mainGlobals mg) (bns : s.heap.Ns builtinsNs mb) (boot : ∀ y : Str, y ≠ "__name__" → mb y = bootBuiltins y) (nol : s.heap.NoLimit) (gens : s.gens = #[])
    (tabs : ∀ c ∈ cs, s.heap.get? c.2 = some { cls := .none, data := .fields #[] }) (ntabs : ∀ c ∈ cs, K.lookup c.2 = none) (heads : ∀ c ∈ cs, PySem.W.CodeHd s.heap c.1 c.2)
    (bmod : ∃ (bm : Addr) (ob : Obj), mg "__builtins__" = some (.ref bm) ∧ bm ≠ builtinsNs ∧ s.heap.get? bm = some ob ∧ ob.cls = .type "module" ∧ ob.dict = some builtinsNs ∧ ob.data = .plain)
    (obj : s.heap.get? a = some (scO vs)) (nums : IntsAre vs ns) (short : ns.length ≤ sizeLine) (room : Room k callerA)
    (walk : ∀ base : Heap, K.In base → base.Ns mainGlobals mg → (∀ c ∈ cs, LamX.TabB base mg c.1 c.2) → FnG P w K mg base k fa fd [x] sp) (bind : ∀ (s : Shared) (u : Value), BindsTo s fd ⟨[u], []⟩ [(x, u)])
    (prom : ∀ H : Hp, (∀ c ∈ cs, H c.2 = some (.tbl #[])) → SqL K H a (ns.map V.int) → sp [.ref a] H (fun v _ => v = .bl true) fun _ _ _ => False) :
    codeAny (model P w) callerA (.call (.ref fa) ⟨[.ref a], []⟩) (fun r s' => r = .ok (.ret (.bool true)) ∧ OldK s.heap s'.heap ∧ s'.os = s.os ∧ AllBare s'.gens) s := by
  have tobj : ∀ b, b ∈ cs.map (·.2) → s.heap.get? b = some { cls := .none, data := .fields #[] } := fun b hb => by
    obtain ⟨c, hc, rfl⟩ := List.mem_map.mp hb
    exact tabs c hc
  have tmem : ∀ c ∈ cs, c.2 ∈ cs.map (·.2) := fun c hc => List.mem_map.mpr ⟨c, hc, rfl⟩
  have anot : a ∉ cs.map (·.2) := fun z => by
    have e := tobj a z
    rw [obj] at e
    have e2 : Data.seq vs.toArray _ = Data.fields #[] := congrArg Obj.data (Option.some.inj e)
    cases e2
  generalize hH : hpOf (cs.map (·.2)) a scr = H at hSq
  have atTab : ∀ c ∈ cs, H c.2 = some (.tbl #[]) := fun c hc => by
    subst hH
    unfold hpOf
    rw [if_neg (fun z => anot (by rw [← z]; exact tmem c hc)), if_pos (tmem c hc)]
  have what : ∀ b u, H b = some u → (b = a ∧ u = .frz (scO vs) (.lst (ns.map V.int))) ∨ (b ∈ cs.map (·.2) ∧ u = .tbl #[]) := fun b u e => by
    subst hH
    unfold hpOf at e
    by_cases h1 : b = a
    · rw [if_pos h1] at e
      rcases hscr with z | z
      · rw [z] at e; cases e
      · rw [z] at e; cases e; exact .inl ⟨h1, rfl⟩
    · rw [if_neg h1] at e
      by_cases h2 : b ∈ cs.map (·.2)
      · rw [if_pos h2] at e; cases e; exact .inr ⟨h2, rfl⟩
      · rw [if_neg h2] at e; cases e
  have rv : Vals (ns.map V.int) vs := vals_ints nums
  have hok : HOk P w H s.heap := fun b u e => by
    rcases what b u e with ⟨rfl, rfl⟩ | ⟨h1, rfl⟩
    · exact ⟨obj, by rw [List.length_map]; exact short, vs, _, rv, obj⟩
    · exact tobj b h1
  -- what no such thing is, is not hidden
  have bare : ∀ {b : Addr} {o : Obj}, s.heap.get? b = some o → (∀ us n, o.data ≠ .seq us n) → o.data ≠ .fields #[] → H b = none := fun {b o} e n1 n2 => by
    cases q : H b with
    | none => rfl
    | some u =>
      rcases what b u q with ⟨rfl, _⟩ | ⟨h1, _⟩
      · rw [obj] at e; cases e; exact absurd rfl (n1 _ _)
      · rw [tobj b h1] at e; cases e; exact absurd rfl n2
  have seen : ∀ {b : Addr} {o : Obj}, s.heap.get? b = some o → (∀ us n, o.data ≠ .seq us n) → o.data ≠ .fields #[] → (hidT s.heap H).get? b = some o := fun e n1 n2 => hidT_get e (bare e n1 n2)
  have nss : ∀ {b : Addr} {m : Str → Option Value}, s.heap.Ns b m → (hidT s.heap H).Ns b m := fun {b m} ⟨o, es, ep, e, d, r⟩ =>
    ⟨o, es, ep, seen e (fun us n z => by rw [d] at z; cases z) (fun z => by rw [d] at z; cases z), d, r⟩
  have kinB : K.In (hidT s.heap H) := fun b o e => hidT_get (kin b o e) (by
    cases q : H b with
    | none => rfl
    | some u =>
      rcases what b u q with ⟨rfl, z⟩ | ⟨h1, _⟩
      · have hn : scr ≠ none := fun z2 => by
          subst hH
          unfold hpOf at q
          rw [if_pos rfl, z2] at q
          cases q
        rw [hKa hn] at e; cases e
      · obtain ⟨c, hc, rfl⟩ := List.mem_map.mp h1
        rw [ntabs c hc] at e; cases e)
  have modB : L2.Mod K mg (hidT s.heap H) := by
    obtain ⟨mc, c1, c2⟩ := nol
    exact ⟨kinB, nss gns, ⟨mb, nss bns, boot⟩, mc, nss c1, c2⟩
  have gmain : ∀ {b : Addr} {o : Obj}, s.heap.get? b = some o → (∀ es ep, o.data ≠ .dict es ep) → mainGlobals ≠ b := fun {b o} e nd z => by
    obtain ⟨o2, es, ep, e2, d2, _⟩ := gns
    rw [z, e] at e2
    cases e2
    exact nd _ _ d2
  have tabB : ∀ c ∈ cs, LamX.TabB (hidT s.heap H) mg c.1 c.2 := fun c hc => by
    refine ⟨?_, ?_, gmain (tabs c hc) fun es ep z => by cases z⟩
    · obtain ⟨o, us, file, tf, flags, tg, inF, text, tt, e1, r1, r2, r3, rest⟩ := heads c hc
      refine ⟨o, us, file, tf, flags, tg, inF, text, tt, seen e1 (fun us n z => by rw [r2] at z; cases z) (fun z => ?_), r1, r2, r3, rest⟩
      rw [r2] at z
      cases z
      simp at r3
    · obtain ⟨bm, ob, b1, b2, b3, b4, b5, b6⟩ := bmod
      refine ⟨bm, ob, b1, b2, fun q => gmain b3 (fun es ep z => by rw [b6] at z; cases z) q.symm, fun q => ?_, seen b3 (fun us n z => by rw [b6] at z; cases z) (fun z => by rw [b6] at z; cases z), b4, b5, b6⟩
      rw [q, tabs c hc] at b3
      cases b3
      cases b6
  have env : Env0 P w K mg (hidT s.heap H) callerA [] s H := ⟨rfl, modB, fun b o e => of_hidT e, Nat.le_of_eq (hidT_size _ _), trivial, fun b hb => (nomatch hb), hok, .of_eq gens⟩
  refine codeAny_mono ((walk _ kinB (nss gns) tabB).run callerA [] s H ⟨[.ref a], []⟩ [.ref a] [.ref a] _ _ room rfl env (bind s (.ref a)) (.cons rfl .nil) (prom H atTab hSq)) fun r s' res => ?_
  cases r with
  | error e => exact res.elim
  | ok fl =>
    cases fl with
    | next => exact res.elim
    | brk => exact res.elim
    | cont => exact res.elim
    | ret u =>
      obtain ⟨v, H', eos, ebare, un, hok', ru, ev⟩ := res
      have ev : v = .bl true := ev
      subst ev
      have ru : u = Value.bool true := ru
      subst ru
      have keep : ∀ b o, b ∉ cs.map (·.2) → s.heap.get? b = some o → s'.heap.get? b = some o := fun b o nb e => by
        cases q : H b with
        | none => exact un.keep b o e q (fun z => (nomatch z)) (fun z => (nomatch z))
        | some u =>
          rcases what b u q with ⟨rfl, rfl⟩ | ⟨h1, _⟩
          · obtain ⟨e1, _⟩ := hok' _ _ (un.frzs _ _ _ q)
            rw [obj] at e; cases e
            exact e1
          · exact absurd h1 nb
      have more : ∀ c ∈ cs, ∃ ts : Array Value, s'.heap.get? c.2 = some { cls := .none, data := .fields ts } := fun c hc => by
        obtain ⟨ts, z⟩ := un.tbls c.2 #[] (atTab c hc)
        exact ⟨_, hok' c.2 _ z⟩
      refine ⟨rfl, ⟨fun b o e => ?_, fun b o e => ?_⟩, eos, ebare⟩
      · by_cases hb : b ∈ cs.map (·.2)
        · obtain ⟨c, hc, rfl⟩ := List.mem_map.mp hb
          obtain ⟨ts, hts⟩ := more c hc
          rw [tabs c hc] at e
          cases e
          exact .inr (.inl ⟨((heads c hc).tab (tabs c hc)).isCodeTable, rfl, #[], ts, rfl, by rw [Array.empty_append]; exact hts⟩)
        · exact .inl (keep b o hb e)
      · by_cases hb : b ∈ cs.map (·.2)
        · obtain ⟨c, hc, rfl⟩ := List.mem_map.mp hb
          obtain ⟨ts, hts⟩ := more c hc
          exact ⟨_, hts⟩
        · exact ⟨o, keep b o hb e⟩
/-- the same, be the script among the known things or not -/
theorem law_run (kin : K.In s.heap) (gns : s.heap.Ns mainGlobals mg) (bns : s.heap.Ns builtinsNs mb) (boot : ∀ y : Str, y ≠ "__name__" → mb y = bootBuiltins y) (nol : s.heap.NoLimit) (gens : s.gens = #[])
    (tabs : ∀ c ∈ cs, s.heap.get? c.2 = some { cls := .none, data := .fields #[] }) (ntabs : ∀ c ∈ cs, K.lookup c.2 = none) (heads : ∀ c ∈ cs, PySem.W.CodeHd s.heap c.1 c.2)
    (bmod : ∃ (bm : Addr) (ob : Obj), mg "__builtins__" = some (.ref bm) ∧ bm ≠ builtinsNs ∧ s.heap.get? bm = some ob ∧ ob.cls = .type "module" ∧ ob.dict = some builtinsNs ∧ ob.data = .plain)
    (obj : s.heap.get? a = some (scO vs)) (nums : IntsAre vs ns) (short : ns.length ≤ sizeLine) (room : Room k callerA)
    (walk : ∀ base : Heap, K.In base → base.Ns mainGlobals mg → (∀ c ∈ cs, LamX.TabB base mg c.1 c.2) → FnG P w K mg base k fa fd [x] sp) (bind : ∀ (s : Shared) (u : Value), BindsTo s fd ⟨[u], []⟩ [(x, u)])
    (prom : ∀ H : Hp, (∀ c ∈ cs, H c.2 = some (.tbl #[])) → SqL K H a (ns.map V.int) → sp [.ref a] H (fun v _ => v = .bl true) fun _ _ _ => False) :
    codeAny (model P w) callerA (.call (.ref fa) ⟨[.ref a], []⟩) (fun r s' => r = .ok (.ret (.bool true)) ∧ OldK s.heap s'.heap ∧ s'.os = s.os ∧ AllBare s'.gens) s := by
  have rv : Vals (ns.map V.int) vs := vals_ints nums
  cases hk : K.lookup a with
  | some o =>
    have e := kin a o hk
    rw [obj] at e
    cases e
    exact top_run none (.inl rfl) (fun z => absurd rfl z) (.inr ⟨_, vs.toArray, _, hk, rfl, rfl, rfl, by rw [List.size_toArray, nums.length]; exact short, by simpa using rv⟩) kin gns bns boot nol gens tabs ntabs heads bmod obj nums short room walk bind prom
  | none => exact top_run _ (.inr rfl) (fun _ => hk) (.inl (.inr ⟨_, if_pos rfl⟩)) kin gns bns boot nol gens tabs ntabs heads bmod obj nums short room walk bind prom
end
/-- what is known of the law's promise at the head's heap -/
def LawG (l : PySem.W.OpenLaw) (w : World) (K : PySem.W.Frag) (k n : Nat) (x : Str) (mg : Str → Option Value) (fa : Addr) (h : Heap) : Prop :=
  ∃ (fd : FuncData) (cs : List (Addr × Addr)) (sp : Sp), (∀ c ∈ cs, h.get? c.2 = some { cls := .none, data := .fields #[] }) ∧ (∀ c ∈ cs, K.lookup c.2 = none) ∧ (∀ c ∈ cs, PySem.W.CodeHd h c.1 c.2) ∧ (∀ (s : Shared) (u : Value), BindsTo s fd ⟨[u], []⟩ [(x, u)]) ∧
    (∀ (H : Hp) (a : Addr) (ns : List Int), ns.length ≤ n → (∀ z ∈ ns, Builtin.Int.intBits z ≤ 1048576) → (∀ c ∈ cs, H c.2 = some (.tbl #[])) → SqL K H a (ns.map V.int) → sp [.ref a] H (fun v _ => v = .bl true) fun _ _ _ => False) ∧
    ∀ base : Heap, K.In base → base.Ns mainGlobals mg → (∀ c ∈ cs, LamX.TabB base mg c.1 c.2) → FnG l.prog w K mg base k fa fd [x] sp
theorem walk_ofG {l : PySem.W.OpenLaw} {n k : Nat} {q : Program} {loose : List Str} {XP : (Str → Option Value) → Heap → Prop} {YP : World → Heap → Prop} {d : DefRec} {x : Str}
    (hn : l.most = some n) (hn2 : n ≤ sizeLine) (hdf : d.params.defaults = []) (hr : Room k callerA)
    (F : ∀ (w : World) (mg : Str → Option Value) (fa : Addr) (h : Heap), YP w h → h.Ns mainGlobals mg → mg d.name = some (.ref fa) → ∃ K : PySem.W.Frag, K.In h ∧ LawG l w K k n x mg fa h) :
    PySem.W.WalkO q loose XP YP l.row.toRowW d [] (fun f vs => PySem.call f vs) :=
  Att.attach_callB hn hdf fun w s₀ s mg mb fa o pm cd doc a vs ns G Y ho hd hcd hmg hobj hints hlen hbits hg => by
    obtain ⟨K, kin, fd, cs, sp, h1, h2, h3, h4, h5, h6⟩ := F w mg fa _ Y G.T.g hmg
    exact law_run kin G.T.g G.T.b G.T.builtins G.T.nolimit hg h1 h2 h3 G.T.bmain hobj hints (Nat.le_trans hlen hn2) hr h6 h4 (fun H e1 e2 => h5 H a ns hlen hbits e1 e2)
end DD

/-! list.remove of data; bounds of such. -/
namespace DD
open PySem PySem.Spec L2
theorem eraseIdx_map' {α β : Type} (f : α → β) : ∀ (xs : List α) (j : Nat), (xs.map f).eraseIdx j = (xs.eraseIdx j).map f
  | [], _ => rfl
  | x :: xs, 0 => rfl
  | x :: xs, j + 1 => by
    show f x :: (xs.map f).eraseIdx j = f x :: (xs.eraseIdx j).map f
    rw [eraseIdx_map' f xs j]
theorem erase_ix {α : Type} [DecidableEq α] (v : α) : ∀ xs : List α, xs.eraseIdx (xs.idxOf v) = xs.erase v
  | [] => rfl
  | x :: xs => by
    by_cases e : x = v
    · subst e
      simp
    · rw [List.idxOf_cons, List.erase_cons_tail (by simpa using e)]
      have : (x == v) = false := by simpa using e
      rw [this]
      show x :: xs.eraseIdx (xs.idxOf v) = _
      rw [erase_ix v xs]
section
variable {X : Cx}
/-- l.remove(x): the first equal one goes -/
def rRemD (K : PySem.W.Frag) : V → List V → Hp → VK → Prop := fun x xs H Q => ∃ (a : Addr) (y : V) (ys : List V) (d : PyData) (ds : List PyData) (j : Nat), x = V.ref a ∧ xs = [y] ∧ H a = some (.lst ys) ∧ DpAll K H ys ds ∧ Dp K H y d ∧
  PyData.canLayAll0 ds = true ∧ d.canLay0 = true ∧ PyData.depthAll ds ≤ 63 ∧ SeqAt.dataPlace ds d = some j ∧ Q .non (upd H a (.lst (ys.eraseIdx j)))
theorem mt_removeD (hu : X.A.units + 65 < cLine) : MtM X "list.remove" (rRemD X.K) := by
  rintro pins s σ H x xs v us Q I rx rxs ⟨a, y, ys, d, ds, j, rfl, rfl, hH, hl, hy, sl, sd, hdep, hp, q⟩
  cases rx
  obtain ⟨uy, rfl, ry⟩ := rxs.one
  obtain ⟨bs, r1⟩ := Dp.reads I d y uy hy ry
  obtain ⟨z, its, n, r, hlen, e⟩ := I.lstM hH
  obtain ⟨as, r2⟩ := Dp.readsAll I ds ys its hl r
  refine SeqAt.remove_list_data (j := j) ⟨_, e, rfl, n, rfl⟩ (show ReadsAll s.heap its.toArray.toList ds as from r2) r1 (PyData.plainAll_of_canLay0 ds sl) (PyData.plain_of_canLay0 d sd) ?_ hp (by rw [List.size_toArray]; omega) ?_
  · have := Nat.min_le_left (PyData.depthAll ds) d.depth
    omega
  · refine ⟨.non, _, I.lset (its' := its.eraseIdx j) hH e ?_ (r.eraseIdx j) ?_, rfl, q⟩
    · show its.toArray.eraseIdxIfInBounds j = (its.eraseIdx j).toArray
      rw [List.eraseIdxIfInBounds_toArray]
    · have := len_erase ys j
      omega
end
theorem toPys_ix {α : Type} {f : α → D} {n : Nat} [DecidableEq α] (E : Enc f n) (v : α) : ∀ {as : List α}, v ∈ as → SeqAt.dataPlace (toPys (as.map f)) (toPy (f v)) = some (as.idxOf v)
  | [], h => by cases h
  | a :: as, h => by
    unfold SeqAt.dataPlace
    simp only [List.map_cons, toPys, List.findIdx?_cons, E.eq]
    by_cases e : a = v
    · rw [decide_eq_true e, if_pos rfl]
      subst e
      rw [List.idxOf_cons_self]
    · rw [decide_eq_false e, if_neg (by decide)]
      have hm : v ∈ as := (List.mem_cons.mp h).resolve_left fun z => e z.symm
      have ih := toPys_ix E v hm
      unfold SeqAt.dataPlace at ih
      have e2 : (a == v) = false := by simpa using e
      rw [ih, List.idxOf_cons, e2]
      rfl
section
variable {T : Tb} {X : Cx} {Γ : Ev} {e : Expr} {pos apos cpos xp : Pos} {x : Str} {p : Addr} {rest : List Stmt} {P : Pst} {α : Type} [DecidableEq α] {f : α → D} {n : Nat} {as : List α} {v : α}
/-- name.remove(e) -/
theorem s_remove (i : Nat) (E : Enc f n) (hu : X.A.units + 65 < cLine) (hi : Γ[i]? = some (some (.ow p (.lst (as.map f))))) (hmem : v ∈ as) (he : ED T X true Γ e (f v)) (hr : SD T X (Γ.set i (some (.ow p (.lst ((as.erase v).map f))))) rest P) (hn : n ≤ 63 := by decide)
    (hN : X.N[i]? = some x := by rfl) (hv : Vis X.env.scope x := by first | exact Or.inl rfl | exact Or.inr (Or.inl rfl) | exact Or.inr (Or.inr rfl)) (hd : (x == ("__debug__" : Str)) = false := by decide)
    (hcd : (x == ("__classdict__" : Str)) = false := by decide) (hs1 : starEach [e] X.env = (false, eval e X.env) :: starEach [] X.env := by rfl) (hbase : attributeBase (.Name x xp) "remove" X.env (eval (.Name x xp) X.env) = eval (.Name x xp) X.env := by rfl)
    (hfew : ((backTo cpos (starEach [e] X.env)).all (fun x => !x.1) && (backToKw cpos (keywordEach [] X.env)).all (fun x => x.1.isSome) && decide ([e].length + ([] : List Keyword).length + (if ([] : List Keyword).isEmpty then 0 else 1) < 30)) = true := by rfl)
    (hline : (apos.endLine == cpos.line) = true := by rfl) (hs : swapsWith (.Call (.Attribute (.Name x xp) "remove" apos) [e] [] cpos) none pos.line X.env = pure false := by rfl) :
    SD T X Γ (.Expr (.Call (.Attribute (.Name x xp) "remove" apos) [e] [] cpos) pos :: rest) P :=
  s_seq (ps_expr (pe_bm PySem.F.plainAttrs_list PySem.F.slot_list_remove PySem.F.type_list_remove (mt_removeD hu) (pe_var hN hv hd hcd) (pa_cons he pa_nil hs1) hbase hfew hline hs1) hs) hr fun Ee σ H ⟨Z, g, ff⟩ => by
    obtain ⟨w, e1, rfl, vs, h1, h2⟩ := g.slots i _ hi
    refine ⟨_, e1, .inl ⟨rfl, _, SqL.of h1⟩, Z, g, fun u H1 g1 x1 d1 => ?_⟩
    obtain ⟨w', e1', _, vs1, h1', h2'⟩ := g1.slots i _ hi
    obtain ⟨a1, a2⟩ := Da.dp g1.sub _ _ (E.pl v) d1
    obtain ⟨b1, b2⟩ := DaAll.dp g1.sub _ _ (plainDs_map E.pl as) h2'
    have hdep := depthAll_map E.dp as
    refine ⟨p, u, vs1, toPy (f v), toPys (as.map f), as.idxOf v, rfl, rfl, h1', b1, a1, b2, a2, by omega, toPys_ix E v hmem, Z, ?_, ff⟩
    have hda : DaAll X.K (rg true Z H1 Γ) (vs1.eraseIdx (as.idxOf v)) ((as.erase v).map f) := by
      have := h2'.eraseIdx (as.idxOf v)
      rw [eraseIdx_map', erase_ix] at this
      exact this
    exact g1.updOw hi ⟨_, upd_same, hda⟩
end
section
variable {T : Tb} {X : Cx} {Γ : Ev} {elt t : Expr} {scope : Scope} {pos cpos tp px ip : Pos} {x y z : Str} {α β : Type} {as : List α} {f : α → D} {rest : List Stmt} {P : Pst} {q : Addr}
/-- [elt for x in an owned list if t] -/
theorem flO (i2 j : Nat) (f' : β → D) {h : α → β} {p : α → Bool} (nd : X.N.Nodup) (hn : as.length ≤ 16777216) (hi2 : Γ[i2]? = some (some (.ow q (.lst (as.map f))))) (ok : BlkOk X.N X.env.scope scope [(x, j)])
    (hg : ∀ (s : Shared) (H : Hp) (C : Addr) (cl : List (Str × Addr)) (fp : List Addr), PG (blkOf X scope s H C cl fp) (.Name x tp) (gName j))
    (ht : ∀ (s : Shared) (H : Hp) (C : Addr) (cl : List (Str × Addr)) (fp : List Addr) (a : α), a ∈ as → BD T (blkOf X scope s H C cl fp) ((Γ.set j none).set j (some (.sh (f a)))) t (p a))
    (he : ∀ (s : Shared) (H : Hp) (C : Addr) (cl : List (Str × Addr)) (fp : List Addr) (a : α), a ∈ as → p a = true → ED T (blkOf X scope s H C cl fp) true ((Γ.set j none).set j (some (.sh (f a)))) elt (f' (h a)))
    (hk : (Γ.set j none)[i2]? = some (some (.ow q (.lst (as.map f)))) := by rfl) (hj : j < Γ.length := by exact Nat.le_of_ble_eq_true rfl) (ho : owns (Γ.set j none) = owns Γ := by rfl) (hup : ∀ d, owns ((Γ.set j none).set j (some (.sh d))) = owns (Γ.set j none) := by intro _; rfl)
    (hN : X.N[i2]? = some z := by rfl) (hv : Vis X.env.scope z := by first | exact Or.inl rfl | exact Or.inr (Or.inl rfl) | exact Or.inr (Or.inr rfl)) (hd : (z == ("__debug__" : Str)) = false := by decide) (hcd : (z == ("__classdict__" : Str)) = false := by decide)
    (hc : X.calm = true := by rfl) (hs : ∀ x, foldedSetIterable (.Name z ip) X.env x = pure x := by intro _; rfl) :
    LD T X Γ (.ListComp elt [⟨.Name x tp, .Name z ip, [t], 0⟩] scope pos) (((as.filter p).map h).map f') := by
  have hl : (as.map f).length = as.length := by simp
  refine LD.as (l_comp (g := gName j) (keep := fun i => (as[i]?.map p).getD false) (val := fun i => (as[i]?.map fun a => f' (h a)).getD .non) hc nd (src_own hi2 hN hv hd hcd) ok hg (fun s H C cl fp i hi' => pts_one ?_) (fun s H C cl fp i hi' hk => ?_) (by rw [hl]; exact hn) (by simpa using hj) (by simp) hk ho (fun i => hup _) hs) ?_
  · have hlt : i < as.length := by rw [← hl]; exact hi'
    have e : as[i]? = some as[i] := by simp [hlt]
    show BD T (blkOf X scope s H C cl fp) ((Γ.set j none).set j (some (.sh ((as.map f).getD i .non)))) t ((as[i]?.map p).getD false)
    rw [getD_map e, e]
    exact ht s H C cl fp as[i] (List.getElem_mem hlt)
  · have hlt : i < as.length := by rw [← hl]; exact hi'
    have e : as[i]? = some as[i] := by simp [hlt]
    show ED T (blkOf X scope s H C cl fp) true ((Γ.set j none).set j (some (.sh ((as.map f).getD i .non)))) elt ((as[i]?.map fun a => f' (h a)).getD .non)
    rw [e] at hk
    rw [getD_map e, e]
    exact he s H C cl fp as[i] (List.getElem_mem hlt) hk
  · rw [hl, compD_list as p (fun a => f' (h a)) _ _ (fun i a e => by simp [e]) (fun i a e => by simp [e]) as.length (Nat.le_refl _), List.take_length, List.map_map]
    rfl
/-- name = [elt for x in an owned list if t], on one line -/
theorem s_flO (i i2 j : Nat) (f' : β → D) {h : α → β} {p : α → Bool} (nd : X.N.Nodup) (hn : as.length ≤ 16777216) (hi2 : Γ[i2]? = some (some (.ow q (.lst (as.map f))))) (ok : BlkOk X.N X.env.scope scope [(x, j)])
    (hg : ∀ (s : Shared) (H : Hp) (C : Addr) (cl : List (Str × Addr)) (fp : List Addr), PG (blkOf X scope s H C cl fp) (.Name x tp) (gName j))
    (ht : ∀ (s : Shared) (H : Hp) (C : Addr) (cl : List (Str × Addr)) (fp : List Addr) (a : α), a ∈ as → BD T (blkOf X scope s H C cl fp) ((Γ.set j none).set j (some (.sh (f a)))) t (p a))
    (he : ∀ (s : Shared) (H : Hp) (C : Addr) (cl : List (Str × Addr)) (fp : List Addr) (a : α), a ∈ as → p a = true → ED T (blkOf X scope s H C cl fp) true ((Γ.set j none).set j (some (.sh (f a)))) elt (f' (h a)))
    (hr : ∀ r, SD T X (Γ.set i (some (.ow r (.lst (((as.filter p).map h).map f'))))) rest P)
    (hk : (Γ.set j none)[i2]? = some (some (.ow q (.lst (as.map f)))) := by rfl) (hj : j < Γ.length := by exact Nat.le_of_ble_eq_true rfl) (ho : owns (Γ.set j none) = owns Γ := by rfl) (hup : ∀ d, owns ((Γ.set j none).set j (some (.sh d))) = owns (Γ.set j none) := by intro _; rfl)
    (hN : X.N[i2]? = some z := by rfl) (hv : Vis X.env.scope z := by first | exact Or.inl rfl | exact Or.inr (Or.inl rfl) | exact Or.inr (Or.inr rfl)) (hd : (z == ("__debug__" : Str)) = false := by decide) (hcd : (z == ("__classdict__" : Str)) = false := by decide)
    (hl : i < Γ.length := by exact Nat.le_of_ble_eq_true rfl) (hy : X.N[i]? = some y := by rfl) (hyl : X.env.scope.names.lookup y = some .local := by rfl)
    (hsw : swapsWith (.ListComp elt [⟨.Name x tp, .Name z ip, [t], 0⟩] scope cpos) (some (.Name y px)) pos.line X.env = pure true := by exact sw_true rfl rfl rfl (by decide +kernel)) (hc : X.calm = true := by rfl) (hs : ∀ x, foldedSetIterable (.Name z ip) X.env x = pure x := by intro _; rfl) :
    SD T X Γ (.Assign [.Name y px] (.ListComp elt [⟨.Name x tp, .Name z ip, [t], 0⟩] scope cpos) pos :: rest) P := by
  have hlen : (as.map f).length = as.length := by simp
  have ev : compD (fun i => (as[i]?.map p).getD false) (fun i => (as[i]?.map fun a => f' (h a)).getD .non) (as.map f).length = ((as.filter p).map h).map f' := by
    rw [hlen, compD_list as p (fun a => f' (h a)) _ _ (fun i a e => by simp [e]) (fun i a e => by simp [e]) as.length (Nat.le_refl _), List.take_length, List.map_map]
    rfl
  refine s_setLc i (g := gName j) (keep := fun i => (as[i]?.map p).getD false) (val := fun i => (as[i]?.map fun a => f' (h a)).getD .non) nd (src_own hi2 hN hv hd hcd) ok hg (fun s H C cl fp i hi' => pts_one ?_) (fun s H C cl fp i hi' hk => ?_) (fun p => by rw [ev]; exact hr p) (by rw [hlen]; exact hn) (by simpa using hj) (by simp) hk ho (fun i => hup _) hl hy hyl hsw hc hs
  · have hlt : i < as.length := by rw [← hlen]; exact hi'
    have e : as[i]? = some as[i] := by simp [hlt]
    show BD T (blkOf X scope s H C cl fp) ((Γ.set j none).set j (some (.sh ((as.map f).getD i .non)))) t ((as[i]?.map p).getD false)
    rw [getD_map e, e]
    exact ht s H C cl fp as[i] (List.getElem_mem hlt)
  · have hlt : i < as.length := by rw [← hlen]; exact hi'
    have e : as[i]? = some as[i] := by simp [hlt]
    show ED T (blkOf X scope s H C cl fp) true ((Γ.set j none).set j (some (.sh ((as.map f).getD i .non)))) elt ((as[i]?.map fun a => f' (h a)).getD .non)
    rw [e] at hk
    rw [getD_map e, e]
    exact he s H C cl fp as[i] (List.getElem_mem hlt) hk
end
end DD

/-! A text several times; a < b < c. -/
namespace DD
open PySem PySem.Spec L2
def repS (z : Str) (n : Nat) : Str := ⟨(List.replicate n z.cps).foldl (· ++ ·) #[]⟩
section
variable {X : Cx}
theorem op_repS : OpR X (binaryOp .Mult) (fun x y H Q => ∃ (z : Str) (n : Int), x = .str z ∧ y = .int n ∧ 2 ≤ n ∧ n ≤ 1000 ∧ 1 ≤ z.length ∧ z.length ≤ 1000 ∧ Q (.str (repS z n.toNat)) H) := by
  intro pins s σ H x y v u Q I rx ry h
  obtain ⟨z, n, rfl, rfl, h1, h2, h3, h4, q⟩ := h
  obtain ⟨t, rfl⟩ := rx
  obtain ⟨t2, rfl⟩ := ry
  have e1 : (n == 1 || z.length == 0) = false := by
    rw [Bool.or_eq_false_iff]
    exact ⟨by simp; omega, by simp; omega⟩
  have hm : z.length * n.toNat ≤ 1000 * 1000 := Nat.mul_le_mul h4 (by omega)
  refine PySem.P.mul_str (by rw [decide_eq_false (by omega), decide_eq_false (by omega)]; rfl) (fun _ _ hx => ?_) (fun _ _ => ?_) ?_
  · have a1 : (1000 : Int) ≤ (2 ^ 63 - 1) / n := by
      refine (Int.le_ediv_iff_mul_le (by omega)).mpr ?_
      omega
    omega
  · have : ¬ z.length * n.toNat > sizeLine := by rw [sizeLine_eq]; omega
    simpa [Builtin.Str.tooLong] using this
  · rw [if_neg (by omega), if_neg (by rw [e1]; decide)]
    refine ⟨?_, ?_⟩
    · exact fits_reps (by
        have : ¬ z.length * n.toNat > sizeLine := by rw [sizeLine_eq]; omega
        simpa [Builtin.Str.tooLong] using this)
    · exact ⟨.str (repS z n.toNat), H, I.kept (t' := s.toks + 1) fun _ _ z => z, ⟨_, rfl⟩, q⟩
end
section
variable {T : Tb} {X : Cx} {Γ : Ev} {m : Bool} {a b c : Expr} {pos : Pos}
/-- z * n -/
theorem e_repS {z : Str} {n : Int} (h1 : 2 ≤ n) (h2 : n ≤ 1000) (h3 : 1 ≤ z.length) (h4 : z.length ≤ 1000) (hk : SOk (repS z n.toNat)) (ha : ED T X true Γ a (.str z)) (hb : ED T X true Γ b (.int n)) : ED T X m Γ (.BinOp a .Mult b pos) (.str (repS z n.toNat)) :=
  PE.imp' (pe_op op_repS ha hb) fun σ H Q ⟨Z, g, q⟩ => ⟨Z, g, fun v H1 g1 x1 d1 => ⟨Z, g1, fun u H2 g2 x2 d2 => by
    cases d1
    cases d2
    exact ⟨z, n, rfl, rfl, h1, h2, h3, h4, q _ H2 g2 (x1.trans x2) (.str _ hk)⟩⟩⟩
/-- a < b < c of ints -/
theorem b_chLL {n1 n2 n3 : Int} (ha : ED T X true Γ a (.int n1)) (hb : ED T X true Γ b (.int n2)) (hc : ED T X true Γ c (.int n3)) (hm : lastMarks [.Lt, .Lt] [b, c] = false := by with_unfolding_all rfl) : BD T X Γ (.Compare a [.Lt, .Lt] [b, c] pos) (decide (n1 < n2) && decide (n2 < n3)) :=
  PT.imp' (pt_chain op_lt op_lt ha hb hc hm) fun σ H Q ⟨Z, g, q⟩ => ⟨Z, g, fun v H1 g1 x1 d1 => ⟨Z, g1, fun u H2 g2 x2 d2 => by
    cases d1
    cases d2
    refine ⟨_, _, rfl, rfl, _, rfl, ?_⟩
    cases hk : decide (n1 < n2) with
    | true => exact iteT ⟨Z, g2, fun w H3 g3 x3 d3 => by
        cases d3
        exact ⟨_, _, rfl, rfl, _, rfl, by rw [hk] at q; exact q H3 g3 ((x1.trans x2).trans x3)⟩⟩
    | false => exact iteF ⟨_, rfl, by rw [hk] at q; exact q H2 g2 (x1.trans x2)⟩⟩⟩
end
end DD

/-! Several except clauses, each with a name or without one; an exception that is handed on. -/
namespace DD
open PySem PySem.Spec PyProof.Rows L2
/-- an except clause: its class, the slot of its name, what its suite is told -/
structure Cl where
  c : Value
  sl : Option Nat
  ts : Addr → Value → Option Addr → TS
def forget : Option Nat → L2.St → L2.St
  | none, σ => σ
  | some i, σ => σ.set i none
def named (a : Addr) : Option Nat → L2.St → L2.St
  | none, σ => σ
  | some i, σ => σ.set i (some (.ref a))
def endF (o : Option Nat) (D : Ends) : Ends := { nx := fun σ H => D.nx (forget o σ) H, rt := D.rt, bk := fun σ H => D.bk (forget o σ) H, ct := fun σ H => D.ct (forget o σ) H }
/-- what the clauses ask of an exception -/
def wCl (K : PySem.W.Frag) (Wo : WX) (D : Ends) : List Cl → WX
  | [] => Wo
  | q :: r => fun cls dd σ H => ∃ b, PySem.W.exmOne K cls q.c = some b ∧ (b = true → ∀ a, H a = none → q.ts a cls dd (endF q.sl D) (named a q.sl σ) H) ∧ (b = false → wCl K Wo D r cls dd σ H)
def slOk (X : Cx) : Option Str → Option Nat → Prop
  | none, none => True
  | some n, some i => X.N[i]? = some n ∧ X.env.kindOf n = some .local
  | _, _ => False
inductive Hands (X : Cx) : List ExceptHandler → List Cl → Prop
  | nil : Hands X [] []
  | cons {x : Str} {on : Option Str} {q : Cl} {b₀ : Stmt} {suite : List Stmt} {np p2 : Pos} {hds : List ExceptHandler} {l : List Cl} (hc : Names X x q.c) (hsl : slOk X on q.sl)
      (hsu : ∀ (a : Addr) (oe : Obj) (cls : Value) (dd : Option Addr) (pn : List (Addr × Obj)), X.base.get? a = none → L2N.Zn cls dd oe → (∃ vs, oe.data = .fields vs) → PSs (X.suite a ((a, oe) :: pn)) (b₀ :: suite) (q.ts a cls dd)) (r : Hands X hds l) :
      Hands X (.ExceptHandler (some (.Name x np)) on (b₀ :: suite) p2 :: hds) (q :: l)
section
variable {X : Cx} {body : List Stmt} {h0 : ExceptHandler} {hds : List ExceptHandler} {l : List Cl} {pos : Pos} {tb : WX → TS} {Wo : WX}
theorem not_frame {B h : Heap} {a : Addr} {o : Obj} {vs : Array Value} {es : List Env} (ff : h.FunFrames B es) (e : h.get? a = some o) (dd : o.data = .fields vs) : a ∉ frs es := fun m => by
  obtain ⟨_, o2, e2, no⟩ := ff.mem m
  rw [e] at e2
  cases e2
  exact no _ dd
theorem ps_clauses (st : X.stack = X.env :: X.outer) (fr : X.env.frame = some X.env.locals) (nd : X.N.Nodup) (tk : L2N.Takes X Wo)
    (hb : ∀ (W : WX) (pn : List (Addr × Obj)) (xe : Value → Shared → Prop), L2N.Takes (X.tr pn xe) W → PassesOwn (model X.prog X.w) X.A X.env xe → PSs (X.tr pn xe) body (tb W))
    (hh : Hands X (h0 :: hds) l) : PS X (.Try body (h0 :: hds) [] [] pos) (fun D σ H => tb (wCl X.K Wo D l) D σ H) := by
  constructor
  intro pins s σ H D I h
  have ok := I.ok
  have frm : X.A.frames = some (X.env :: X.outer) := by rw [ok.frames, st]
  refine wpAny_Try_except ?_
  have run := (hb (wCl X.K Wo D l) (X.pn ++ pins)
    (fun e s1 => wpAny (model X.prog X.w) X.A (noteFrame e X.env) (fun _ s2 => wpAny (model X.prog X.w) X.A (setFlight e none) (fun _ s3 => wpAny (model X.prog X.w) X.A (handleBy e X.env (h0 :: hds)) (SP X pins D) X.xe s3) X.xe s2) X.xe s1)
    (fun u s' xx => ?caught) PassesOwn.looking).run [] s σ H D (I.toTry _) h
  refine wpAny_mono run (fun f s1 e => ?_) (fun _ _ z => z)
  · cases f with
    | ret u => obtain ⟨v, σ1, H1, J, r, q⟩ := e; exact ⟨v, σ1, H1, J.ofTry ok, r, q⟩
    | brk => obtain ⟨σ1, H1, J, q⟩ := e; exact ⟨σ1, H1, J.ofTry ok, q⟩
    | cont => obtain ⟨σ1, H1, J, q⟩ := e; exact ⟨σ1, H1, J.ofTry ok, q⟩
    | next => obtain ⟨σ1, H1, J, q⟩ := e; exact wpAny_execs_nil ⟨σ1, H1, J.ofTry ok, q⟩
  case caught =>
    obtain ⟨a, B, sI, pn2, σ1, H1, cls, dd, rfl, J0, nb, up, sky, na, os, ag, w⟩ := xx
    have J : Inv X pins σ1 H1 sI := J0.ofTry ok
    rw [st] at sky
    show wpAny _ X.A (noteFrame (.ref a) X.env) _ _ _
    refine L2N.Sky.land L2N.Zn.steady frm fr sky fun h3 fly up3 => ?_
    have J3 : Inv X pins σ1 H1 { s' with heap := h3 } := J.landed nb fly.1 (up.trans up3) os ag
    obtain ⟨oe3, vs3, e3, z3, d3⟩ := fly.there
    have nfr := not_frame fly.2.2.1 e3 d3
    have nL : a ≠ X.env.locals := fun z => nfr (List.mem_filterMap.mpr ⟨_, List.mem_cons_self, by rw [fr, z]⟩)
    have nF : a ∉ X.fs := fun m => by
      obtain ⟨v, m1, m2⟩ := List.mem_filterMap.mp m
      exact nfr (List.mem_filterMap.mpr ⟨v, List.mem_cons_of_mem _ m1, m2⟩)
    have nB : X.base.get? a = none := by
      cases q : X.base.get? a with
      | none => rfl
      | some o =>
        have h1 := J.bk a o q
        have h2 := nb a o h1 (by rw [st]; exact nfr)
        rw [fly.2.1] at h2
        cases h2
    have S3 := J3.suite e3 d3 na nL nF
    have go : ∀ {hs : List ExceptHandler} {ls : List Cl}, Hands X hs ls → wCl X.K Wo D ls cls dd σ1 H1 → wpAny (model X.prog X.w) X.A (handleBy (.ref a) X.env hs) (SP X pins D) X.xe { s' with heap := h3 } := by
      intro hs ls hk
      induction hk with
      | nil =>
        intro w
        refine wpAny_handleBy_nil ?_
        obtain ⟨_, _, _, oe, vs, Tb, _, _, he, _, hd, h1, _⟩ := id fly
        unfold PySem.passOn
        refine wpAny_bind (wpAny_field he hd h1 ?_)
        rw [if_neg (show ¬ ((Value.ref Tb == Value.none) = true) by simp)]
        have out : wpAny (model X.prog X.w) X.A (setFlight (.ref a) X.env.frame) (fun _ s4 => wpAny (model X.prog X.w) X.A (throw (.ref a) : Sem Flow) (SP X pins D) X.xe s4) X.xe { s' with heap := h3 } := by
          rw [fr]
          exact HandSPX.setFlight_upZ fly fun h4 held up4 => wpAny_throw (tk _ _ ⟨a, B, sI, pins, σ1, H1, cls, dd, rfl, J, nb, (up.trans up3).trans up4, .inr (.inr (by rw [st]; exact held)), na, os, ag, w⟩)
        first
          | exact wpAny_bind (wpAny_pure (wpAny_bind out))
          | exact wpAny_bind out
      | @cons x on q b₀ suite np p2 hds2 l2 hc hsl hsu r ih =>
        intro w
        obtain ⟨b, hb1, yes, no⟩ := w
        refine wpAny_handleBy_cons (codeAny_handlers_test ?_) (by intro z; cases z)
        have lt : PySem.W.Looks (model X.prog X.w) h3 (typeOf (.ref a)) cls := fun _ _ _ _ k z => wpAny_typeOf_ref (k _ _ e3) (by rw [z3.1]; exact z)
        have look := PySem.W.exm_one (M := model X.prog X.w) (J3.kIn) lt hb1
        have name : ∀ {Q E : Value → Shared → Prop}, Q q.c { s' with heap := h3 } → wpAny (model X.prog X.w) (X.A.mark (some (.ref a))) (eval (.Name x np) X.env) Q E { s' with heap := h3 } := fun {Q E} z => by
          obtain ⟨g1, g2, g3 | ⟨g3, g4, g5⟩⟩ := hc
          · exact ld_glob (X := X.suite a ((a, oe3) :: (X.pn ++ pins))) S3 g1 g3 z g2
          · exact ld_blt (X := X.suite a ((a, oe3) :: (X.pn ++ pins))) S3 g1 g3 g4 z g5 g2
        refine name (look.here ?_)
        cases b with
        | false =>
          show wpAny _ X.A (handleBy (.ref a) X.env hds2) _ _ _
          exact ih (no rfl)
        | true =>
          have back : ∀ {σ6 : L2.St} {H6 : Hp} {s6 : Shared} {oe4 : Obj} {n : Str} {i : Nat} {Q : Shared → Prop}, X.N[i]? = some n → X.env.kindOf n = some .local → Inv (X.suite a ((a, oe4) :: (X.pn ++ pins))) [] σ6 H6 s6 → (∀ s7, Inv X pins (σ6.set i none) H6 s7 → Q s7) →
              wpAny (model X.prog X.w) X.A (do bindName X.env n .none; unbindBehindTheSuite X.env n p2) (fun _ s7 => Q s7) X.xe s6 := fun {σ6 H6 s6 oe4 n i Q} hi hl S6 hq => gone_ok (S6.unsuite ok) nd hi hl hq
          have want := yes rfl a na
          obtain ⟨qc, qs, qt⟩ := q
          cases on with
          | none =>
            cases qs with
            | some i => exact hsl.elim
            | none =>
              refine codeAny_handlers_suite ?_
              refine HandSPX.lands_againZ fly fun h4 fly4 up4 => ?_
              have J4 : Inv X pins σ1 H1 { s' with heap := h4 } := J.landed nb fly4.1 ((up.trans up3).trans up4) os ag
              obtain ⟨oe4, vs4, e4, z4, d4⟩ := fly4.there
              refine wpAny_mono ((hsu a oe4 cls dd (X.pn ++ pins) nB z4 ⟨_, d4⟩).run [] _ _ H1 _ (J4.suite e4 d4 na nL nF) want) (fun f s6 e => ?_) (fun _ _ z => z.elim)
              cases f with
              | ret u => obtain ⟨v6, σ6, H6, S6, r6, q6⟩ := e; exact ⟨_, _, _, S6.unsuite ok, r6, q6⟩
              | brk => obtain ⟨σ6, H6, S6, q6⟩ := e; exact ⟨_, _, S6.unsuite ok, q6⟩
              | cont => obtain ⟨σ6, H6, S6, q6⟩ := e; exact ⟨_, _, S6.unsuite ok, q6⟩
              | next => obtain ⟨σ6, H6, S6, q6⟩ := e; exact ⟨_, _, S6.unsuite ok, q6⟩
          | some n =>
            cases qs with
            | none => exact hsl.elim
            | some i =>
              obtain ⟨hi, hl⟩ := hsl
              refine codeAny_handlers_suite_as ?_
              refine HandSPX.lands_againZ fly fun h4 fly4 up4 => ?_
              have J4 : Inv X pins σ1 H1 { s' with heap := h4 } := J.landed nb fly4.1 ((up.trans up3).trans up4) os ag
              obtain ⟨oe4, vs4, e4, z4, d4⟩ := fly4.there
              refine store_ok (X := X.suite a ((a, oe4) :: (X.pn ++ pins))) (v := .ref a) (J4.suite e4 d4 na nL nF) nd hi (.inl hl) rfl (fun s5 S5 => ?_) (.inr hl)
              refine wpAny_mono ((hsu a oe4 cls dd (X.pn ++ pins) nB z4 ⟨_, d4⟩).run [] s5 _ H1 _ S5 want) (fun f s6 e => ?_) (fun _ _ z => z.elim)
              cases f with
              | ret u => obtain ⟨v6, σ6, H6, S6, r6, q6⟩ := e; exact back hi hl S6 fun s7 J7 => ⟨_, _, _, J7, r6, q6⟩
              | brk => obtain ⟨σ6, H6, S6, q6⟩ := e; exact back hi hl S6 fun s7 J7 => ⟨_, _, J7, q6⟩
              | cont => obtain ⟨σ6, H6, S6, q6⟩ := e; exact back hi hl S6 fun s7 J7 => ⟨_, _, J7, q6⟩
              | next => obtain ⟨σ6, H6, S6, q6⟩ := e; exact back hi hl S6 fun s7 J7 => ⟨_, _, J7, q6⟩
    exact go hh w
end
end DD

/-! While an exception is handled: the end of a list, [x for x in xs if x], a def that is told the exception. -/
namespace DD
open PySem PySem.Spec PyProof.Rows L2
section
variable {prog : Program} {w : World} {A : Around} {E : Value → Shared → Prop} {s : Shared}
/-- a list's iterator ends while an exception is handled -/
theorem hot_end {it l x1 : Addr} {i : Nat} {items : Array Value} {Q : Option Value → Shared → Prop} (hot : HotX.HotAt A x1 s.heap) (hit : s.heap.IsListIter it l i) (hl : s.heap.IsList l items) (hx : items[i]? = none) (hne : x1 ≠ it)
    (hQ : ∀ h', (∀ b o, b ≠ it → s.heap.get? b = some o → h'.get? b = some o) → Q none { s with heap := h' }) : wpAny (model prog w) A (pyNext (.ref it)) Q E s := by
  obtain ⟨hh, o1, vs1, h1, d1, c1⟩ := hot
  obtain ⟨o, ho, hc, hd⟩ := id hit
  obtain ⟨ol, hol, _, nl, hdl⟩ := hl
  unfold pyNext
  refine wpAny_bind (wpAny_attempt (wpAny_callSpecial?_slot (name := Str.ofString "__next__") hit.typeIs slot_listiter_next (wpAny_call_entry slot_listiter_next hit.typeIs entry_listiter_next ?_ (args_listiter_next _))))
  show wpAny _ _ (field (.ref it) 0 >>= _) _ _ s
  refine wpAny_bind (wpAny_field ho hd (x := .ref l) rfl ?_)
  show wpAny _ _ (if (Value.ref l == Value.none) = true then _ else _) _ _ s
  rw [if_neg (show ¬ ((Value.ref l == Value.none) = true) by simp)]
  show wpAny _ _ (field (.ref it) 1 >>= _) _ _ s
  refine wpAny_bind (wpAny_field ho hd (x := .int i 0) rfl ?_)
  show wpAny _ _ (seqItems? (.ref l) >>= _) _ _ s
  refine wpAny_bind (wpAny_seqItems hol hdl ?_)
  simp only [Int.toNat_natCast, hx]
  refine wpAny_bind (wpAny_rule (wpAny_bind (wpAny_setField ho hd (by simp) ?_)))
  show wpAny _ _ (newExc (.type "StopIteration") [] >>= _) _ _ _
  refine wpAny_bind ?_
  simp only [newExc, newTuple]
  refine wpAny_bind (wpAny_newObj_type ?_ (by size_fits))
  refine wpAny_bind (m := firstArgMember _ _) (wpAny_of_eq (a := Value.none) (by first | rfl | (simp only [firstArgMember]; rfl)) ?_)
  refine wpAny_newObj_type ?_ (by size_fits)
  refine HotX.raiseNew_hot ⟨hh, o1, vs1, Heap.get?_push_of_some _ (Heap.get?_push_of_some _ (by rw [Heap.get?_update_other _ _ hne.symm]; exact h1)), d1, c1⟩ (Nat.ne_of_lt (Heap.lt_size (Heap.get?_push_of_some _ (by rw [Heap.get?_update_other _ _ hne.symm]; exact h1)))) (Heap.get?_push_size _ rfl) rfl (by first | (simp; done) | (simp; omega) | (simp only [Array.size_append]; simp; omega)) ?_
  refine wpAny_bind (wpAny_isInstance (T := "StopIteration") (b := true) ⟨_, Heap.get?_update_self _ (Heap.get?_push_size _ rfl) rfl, rfl⟩ isSubtype_stop ?_)
  refine wpAny_pure (hQ _ fun b u hb e => ?_)
  have e2 : (s.heap.update it (Obj.mapFields fun x => x.setIfInBounds 0 Value.none)).get? b = some u := by rw [Heap.get?_update_other _ _ (Ne.symm hb)]; exact e
  rw [Heap.get?_update_other _ _ (Nat.ne_of_gt (Heap.lt_size (Heap.get?_push_of_some _ e2))) ]
  exact Heap.get?_push_of_some _ (Heap.get?_push_of_some _ e2)
end

section
variable {X : Cx} {pins : List (Addr × Obj)} {σ : L2.St} {H : Hp} {s : Shared}
/-- the object that is handled, as the block of a comprehension sees it -/
structure Held (X : Cx) (p : Addr × Obj) : Prop where
  hot : L2H.Hot1 X.A p
  pin : p ∈ X.pn
/-- [y for x in xs if y2] over a list, while an exception is handled -/
theorem lc_hot {elt iter : Expr} {ifs : List Expr} {tg : Expr} {scope : Scope} {own : List (Str × Nat)} {pos pos' : Pos} {tl : TE} {g : TG} {tt : TT} {te : TE} {Q : VK} {Qf : Value → Shared → Prop} {p : Addr × Obj}
    (hc : Held X p) (nd : X.N.Nodup) (I : Inv X pins σ H s) (hi : PE X iter tl) (ok : BlkOk X.N X.env.scope scope own)
    (hg : ∀ (s : Shared) (H : Hp) (C : Addr) (cl : List (Str × Addr)) (fp : List Addr), PG (X.blk s H scope (compEnvC scope cl C X.env) fp) tg g)
    (ht : ∀ (s : Shared) (H : Hp) (C : Addr) (cl : List (Str × Addr)) (fp : List Addr), PTs (X.blk s H scope (compEnvC scope cl C X.env) fp) ifs tt)
    (he : ∀ (s : Shared) (H : Hp) (C : Addr) (cl : List (Str × Addr)) (fp : List Addr), PE (X.blk s H scope (compEnvC scope cl C X.env) fp) elt te)
    (hs : ∀ x, foldedSetIterable iter X.env x = pure x) (h : tLc (iList X.K tl) g tt te (own.map (·.2)) σ H Q)
    (fin : ∀ D C s' m H', Inv X pins σ H' s' → Q (.ref D) H' → s'.heap.Ns C m → FpOk X pins H' C → compPost (model X.prog X.w) X.A X.xe none Qf (.ref D) C (.ok .next) s') :
    wpAny (model X.prog X.w) X.A (comprehension (.ListComp elt [⟨tg, iter, ifs, 0⟩] scope pos) scope X.env pos' (newList []) false (eval iter X.env) none) Qf X.xe s := by
  have free : ∀ y ∈ scope.names, y.2 = .free → ∃ c, X.env.cells.lookup y.1 = some c := fun y hy e => (ok.free y hy e).elim (fun k => I.ok.has _ (.inl k)) fun k => I.ok.has _ (.inr k)
  refine wpAny_comprehension_free (use := none) rfl hs (closure_ok free) ok.kind (fun y hy e => by rw [ok.uniq y hy, e]) (thn (hi.run pins s σ H _ I h) fun v s1 ⟨x, H1, I1, r1, q1⟩ => ?_)
  obtain ⟨a, ea, ⟨xs, hq⟩, q⟩ := q1
  subst ea
  cases r1
  obtain ⟨its, rv, pl, hz⟩ := I1.list hq
  refine wpAny_pyIter_list pl.isList ?_
  have st2 : (s1.heap.push { cls := .type "list_iterator", data := .fields #[.ref a, .int 0 0] }).IsListIter s1.heap.objs.size a 0 := ⟨_, Heap.get?_push_size _ rfl, rfl, rfl⟩
  have I2 : Inv X pins σ H1 { s1 with heap := s1.heap.push { cls := .type "list_iterator", data := .fields #[.ref a, .int 0 0] } } := I1.kept (t' := s1.toks) fun b o e => Heap.get?_push_of_some _ e
  have f2 : FpOk X pins H1 s1.heap.objs.size := I1.fpOk (Nat.le_refl _) (I1.hok.fresh (Nat.le_refl _))
  have lt2 : s1.heap.objs.size < (s1.heap.push { cls := .type "list_iterator", data := .fields #[.ref a, .int 0 0] }).objs.size := by rw [Heap.size_push]; exact Nat.lt_succ_self _
  generalize hit : s1.heap.objs.size = it at st2 f2 lt2
  refine wpAny_newObj_type (newEnv_comp ?_) (by show 0 ≤ sizeLine; decide)
  generalize hs2 : ({ s1 with heap := s1.heap.push { cls := .type "list_iterator", data := .fields #[.ref a, .int 0 0] } } : Shared) = s2 at I2
  have h2e : s2.heap = s1.heap.push { cls := .type "list_iterator", data := .fields #[.ref a, .int 0 0] } := by rw [← hs2]
  rw [← h2e] at st2 lt2
  generalize hD : s2.heap.objs.size = D
  have hDn : H1 D = none := I2.hok.fresh (Nat.le_of_eq hD)
  obtain ⟨W, ⟨m0, w0⟩, turn⟩ := q D hDn
  generalize hs3 : ({ s2 with heap := s2.heap.push { cls := .type "list", data := .seq ([] : List Value).toArray } } : Shared) = s3
  have h3 : s3.heap = s2.heap.push { cls := .type "list", data := .seq ([] : List Value).toArray } := by rw [← hs3]
  have I3 : Inv X pins σ (upd H1 D (.lst [])) s3 := by
    rw [← hs3]
    exact I2.laid (t' := s2.toks) (fun b o e => Heap.get?_push_of_some _ e) (Nat.le_of_eq hD) ⟨Nat.zero_le _, [], 0, .nil, by rw [← hD]; exact Heap.get?_push_size _ rfl⟩
  have neD : it ≠ D := Nat.ne_of_lt (by rw [← hD]; exact lt2)
  have f3 : FpOk X pins (upd H1 D (.lst [])) it := ⟨by rw [upd_ne neD]; exact f2.1, f2.2⟩
  have lt3 : it < s3.heap.objs.size := by rw [h3, Heap.size_push]; exact Nat.lt_succ_of_lt lt2
  have f3' : ∀ b ∈ [it], FpOk X pins (upd H1 D (.lst [])) b ∧ b < s3.heap.objs.size := fun b hb => by rw [List.mem_singleton.mp hb]; exact ⟨f3, lt3⟩
  have st3 : s3.heap.IsListIter it a 0 := st2.at fun o e => by rw [h3]; exact Heap.get?_push_of_some _ e
  have I4 := block_start I3 ok nd f3'
  have pin3 := I3.pin p (List.mem_append_left _ hc.pin)
  have pg := hg s3 (upd H1 D (.lst [])) s3.heap.objs.size (cellsFrom (s3.heap.objs.size + 1) scope.names (cloFrom X.env.cells scope.names [])) [it]
  have pt := ht s3 (upd H1 D (.lst [])) s3.heap.objs.size (cellsFrom (s3.heap.objs.size + 1) scope.names (cloFrom X.env.cells scope.names [])) [it]
  have pe := he s3 (upd H1 D (.lst [])) s3.heap.objs.size (cellsFrom (s3.heap.objs.size + 1) scope.names (cloFrom X.env.cells scope.names [])) [it]
  show codeAny _ _ (.compStart (.ListComp elt [⟨tg, iter, ifs, 0⟩] scope pos) 0 (.ref it) (.ref D) (compEnvC scope (cellsFrom (s3.heap.objs.size + 1) scope.names (cloFrom X.env.cells scope.names [])) s3.heap.objs.size X.env)) (compPost (model X.prog X.w) X.A X.xe none Qf (.ref D) s3.heap.objs.size) { s3 with heap := pushCells (s3.heap.push { cls := .type "dict", data := .dict #[] }) scope.names }
  generalize hce : compEnvC scope (cellsFrom (s3.heap.objs.size + 1) scope.names (cloFrom X.env.cells scope.names [])) s3.heap.objs.size X.env = ce at I4 pg pt pe ⊢
  have cL : ce.locals = s3.heap.objs.size := by subst hce; rfl
  generalize hH3 : upd H1 D (.lst []) = H3 at I3 I4 pg pt pe w0 f3 f3' pin3
  generalize hs4 : ({ s3 with heap := pushCells (s3.heap.push { cls := .type "dict", data := .dict #[] }) scope.names } : Shared) = s4 at I4 ⊢
  have k4 : ∀ b o, s3.heap.get? b = some o → s4.heap.get? b = some o := fun b o e => by rw [← hs4]; exact pushCells_keeps _ _ _ _ (Heap.get?_push_of_some _ e)
  have st4 : s4.heap.IsListIter it a 0 := st3.at fun o e => k4 _ _ e
  have ltp : p.1 < it := by
    have z := Heap.lt_size (I1.pin p (List.mem_append_left _ hc.pin)).1
    rw [hit] at z
    exact z
  have I4p : Inv (X.blk s3 H3 scope ce [it]) [p] (wipe σ (own.map (·.2))) H3 s4 := I4.pins_of fun b hb => by
    rw [List.mem_singleton.mp hb]
    refine ⟨k4 _ _ pin3.1, pin3.2.1, ?_, fun m => ?_, pin3.2.2.2.2⟩
    · show p.1 ≠ ce.locals
      rw [cL]
      exact Nat.ne_of_lt (Nat.lt_trans ltp lt3)
    · exact (List.mem_cons.mp (I3.stkSub p.1 m)).elim pin3.2.2.1 pin3.2.2.2.1
  have stat : ∀ {σ' : L2.St} {H' : Hp} {s' : Shared}, Inv (X.blk s3 H3 scope ce [it]) [p] σ' H' s' → H' it = none → FpOk (X.blk s3 H3 scope ce [it]) [p] H' it := fun {σ' H' s'} J hn =>
    ⟨hn, (J.ok.exf it (by simp)).1, J.ok.exfs it (by simp), .inl (by simp), fun x c e => (J.ok.exf it (by simp)).2 x c e, fun b hb => by
      rw [List.mem_singleton.mp (show b ∈ [p] from hb)]
      exact Nat.ne_of_lt ltp⟩
  have loop : codeAny (model X.prog X.w) X.A (.compLoop (.ListComp elt [⟨tg, iter, ifs, 0⟩] scope pos) 0 (.ref it) (.ref D) ce) (compPost (model X.prog X.w) X.A X.xe none Qf (.ref D) s3.heap.objs.size) s4 := by
    refine compLoop_any (fun n s' => ∃ i H', Inv (X.blk s3 H3 scope ce [it]) [p] (wipe σ (own.map (·.2))) H' s' ∧ s'.heap.IsListIter it a i ∧ H' it = none ∧ W i n H') ?_ m0 ⟨0, H3, I4p, st4, f3.1, w0⟩
    rintro n s5 ⟨i, H5, I5, st5, n5, w5⟩
    obtain ⟨f0, f1, f2', f3b, f4, f5⟩ := stat I5 n5
    rcases turn i n H5 w5 with ⟨stop, qq⟩ | ⟨go, Nx, hNx, step⟩
    · obtain ⟨ys, hy, hlen⟩ := stop
      obtain ⟨its5, rv5, pl5, _⟩ := I5.list hy
      have hl := rv5.length
      obtain ⟨vs1, d1, c1⟩ := hc.hot.2
      have hotat : HotX.HotAt X.A p.1 s5.heap := ⟨hc.hot.1, p.2, vs1, (I5.pin p (by simp)).1, d1, c1⟩
      refine hot_end hotat st5 pl5.isList (by simp; omega) (Nat.ne_of_lt ltp) fun h' eb => ?_
      have I6 : Inv (X.blk s3 H3 scope ce [it]) [p] (wipe σ (own.map (·.2))) H5 { s5 with heap := h' } := I5.turned (t' := s5.toks) (fun b o hb e => eb b o hb e) f0 f1 f3b f4 f5
      have I7 : Inv X pins σ H5 { s5 with heap := h' } := I3.call' (ch := [it]) I6.os I6.base I6.hok I6.bare fun b hb => by
        rw [List.mem_singleton.mp hb]
        exact ⟨f3.2.2.2.1, f3.2.1, f3.2.2.2.2.1, f3.2.2.2.2.2⟩
      have nC : H5 s3.heap.objs.size = none := by
        have z : H5 ce.locals = none := I6.free
        rw [cL] at z
        exact z
      obtain ⟨m, hn, _⟩ := I6.loc
      have hn : h'.Ns ce.locals m := hn
      rw [cL] at hn
      exact fin D s3.heap.objs.size { s5 with heap := h' } m H5 I7 qq hn (I3.fpOk (Nat.le_refl _) nC)
    · obtain ⟨ys, y, hy, hyx⟩ := go
      obtain ⟨its5, rv5, pl5, _⟩ := I5.list hy
      obtain ⟨u, hu, ru⟩ := rv5.get hyx
      refine wpAny_pyNext_list_item st5 pl5.isList (x := u) (by simpa using hu) fun h' st' sb => ?_
      have I6 : Inv (X.blk s3 H3 scope ce [it]) [p] (wipe σ (own.map (·.2))) H5 { s5 with heap := h' } := I5.turned (t' := s5.toks) (fun b o hb e => (sb.2 b hb).trans e) f0 f1 f3b f4 f5
      obtain ⟨oi, ei, ci, di⟩ := id st'
      refine go_of (s := { s5 with heap := h' }) ei ci di (by decide) ?_
      have I7 := I6.pinned (fp := [it]) (fun b hb => by rw [List.mem_singleton.mp hb]; exact stat I6 n5) (fun b hb => by rw [List.mem_singleton.mp hb]; exact ⟨oi, ei, fun v z => by rw [di] at z; cases z⟩)
      refine thnF (pg.run _ { s5 with heap := h' } _ H5 y u _ I7 ru (step y H5 ⟨rfl, fun zs hz => by rw [I5.list_inj hz hy]; exact hyx⟩)) fun _ s8 ⟨σ8, H8, I8, hw8, q8⟩ => ?_
      refine thnF (pt.run _ s8 σ8 H8 _ I8 q8) fun b s9 ⟨H9, I9, q9⟩ => ?_
      have back : ∀ {s' : Shared} {H' : Hp}, Inv (X.blk s3 H3 scope ce [it]) ([p] ++ pinsAt [it] h') σ8 H' s' → Nx H' → ∃ m, m < n ∧ ∃ i H', Inv (X.blk s3 H3 scope ce [it]) [p] (wipe σ (own.map (·.2))) H' s' ∧ s'.heap.IsListIter it a i ∧ H' it = none ∧ W i m H' := fun {s' H'} J nx => by
        obtain ⟨m', hm, w'⟩ := hNx H' nx
        have z := J.pin (it, oi) (List.mem_append_right _ (List.mem_append_right _ (mem_pinsAt (by simp) ei)))
        have hl : (wipe σ (own.map (·.2))).length = σ8.length := by rw [← hw8, wipe_length]
        refine ⟨m', hm, i + 1, H', (J.unpinned (pins := [p])).weak hl (fun j v e => ?_), st'.at fun o e => ?_, z.2.1, w'⟩
        · rw [← hw8] at e
          exact (wipe_some e).1
        · rw [ei] at e
          cases e
          exact z.1
      cases b with
      | false =>
        simp only [Bool.false_eq_true, if_false] at q9 ⊢
        exact back I9 q9
      | true =>
        simp only [if_true] at q9 ⊢
        refine thnF (pe.run _ s9 σ8 H9 _ I9 q9) fun z s10 ⟨yv, H10, I10, r10, acc, hD10, hz10, nx⟩ => ?_
        exact app_ok (X := X.blk s3 H3 scope ce [it]) I10 hD10 hz10 r10 fun s11 I11 => back I11 nx
  exact codeAny_compStart_list loop (wpAny_pyIter_listiter st4 loop)
theorem pe_lcHot {elt iter : Expr} {ifs : List Expr} {tg : Expr} {scope : Scope} {own : List (Str × Nat)} {pos : Pos} {tl : TE} {g : TG} {tt : TT} {te : TE} {p : Addr × Obj} (hc : Held X p) (nd : X.N.Nodup) (hi : PE X iter tl) (ok : BlkOk X.N X.env.scope scope own)
    (hg : ∀ (s : Shared) (H : Hp) (C : Addr) (cl : List (Str × Addr)) (fp : List Addr), PG (X.blk s H scope (compEnvC scope cl C X.env) fp) tg g)
    (ht : ∀ (s : Shared) (H : Hp) (C : Addr) (cl : List (Str × Addr)) (fp : List Addr), PTs (X.blk s H scope (compEnvC scope cl C X.env) fp) ifs tt)
    (he : ∀ (s : Shared) (H : Hp) (C : Addr) (cl : List (Str × Addr)) (fp : List Addr), PE (X.blk s H scope (compEnvC scope cl C X.env) fp) elt te) (hs : ∀ x, foldedSetIterable iter X.env x = pure x := by intro _; rfl) :
    PE X (.ListComp elt [⟨tg, iter, ifs, 0⟩] scope pos) (tLc (iList X.K tl) g tt te (own.map (·.2))) := ⟨fun pins s σ H Q I h => by
  rw [eval_ListComp]
  refine lc_hot hc nd I hi ok hg ht he hs h fun D C s' m H' J q hn ⟨f0, f1, f2, f3, f4, f5⟩ => ⟨m, hn, fun h2 sb => ?_⟩
  exact ⟨.ref D, H', J.turned (t' := s'.toks) (fun b o hb e => (sb.2 b hb).trans e) f0 f1 f3 f4 f5, rfl, q⟩⟩
end
end DD

/-! A def that is told the exception which is handled; try with several clauses over data. -/
namespace DD
open PySem PySem.Spec PyProof.Rows L2
structure FnP (P : Program) (w : World) (K : PySem.W.Frag) (mg : Str → Option Value) (base : Heap) (k : Nat) (f : Addr) (fd : FuncData) (ps : List Str) (sp : Addr × Obj → Sp) : Prop where
  len : ∀ p vs H Q E, sp p vs H Q E → vs.length = ps.length
  run : ∀ (A : Around) (outer : List Env) (s : Shared) (H : Hp) (args : Args) (us : List Value) (vs : List V) (Q : VK) (E : XK) (p : Addr × Obj), L2H.RoomH k A → L2H.Hot1 A p → L2H.PinOk outer H s p → Env0 P w K mg base A outer s H → BindsTo s fd args (ps.zip us) → Vals vs us → sp p vs H Q E →
    codeAny (model P w) A (.call (.ref f) args) (CR CX0 outer P w H s Q E) s
abbrev cxP (P : Program) (w : World) (K : PySem.W.Frag) (mg : Str → Option Value) (base : Heap) (N : List Str) (q : Str) (scope : Scope) (f : Addr) (cdv : Value) (A : Around) (outer : List Env) (s : Shared) (H : Hp) (E : XK) (p : Addr × Obj) : Cx :=
  (L2H.cxH CX0 P w K mg base N q scope f cdv A outer s H E p).nox
section
variable {P : Program} {w : World} {K : PySem.W.Frag} {mg : Str → Option Value} {base : Heap} {x q : Str} {prm : Arguments} {bod : List Stmt} {sc : Scope} {dvs : List V} {kws : List (Str × V)} {f : Addr} {fd : FuncData} {N ps : List Str} {k : Nat} {sp : Addr × Obj → Sp}
theorem FnP.mono {j : Nat} (F : FnP P w K mg base j f fd ps sp) (h : j ≤ k) : FnP P w K mg base k f fd ps sp := ⟨F.len, fun A outer s H args us vs Q E p r => F.run A outer s H args us vs Q E p (r.mono h)⟩
theorem fnP_of (F : FunD K x q prm bod sc dvs kws f fd) (S : FnScope N ps sc) (hlen : ∀ p vs H Q E, sp p vs H Q E → vs.length = ps.length)
    (go : ∀ (cdv : Value) (A : Around) (outer : List Env) (s : Shared) (H : Hp) (vs : List V) (Q : VK) (E : XK) (p : Addr × Obj), L2H.RoomH k (cxP P w K mg base N q sc f cdv A outer s H E p).A → Held (cxP P w K mg base N q sc f cdv A outer s H E p) p → sp p vs H Q E →
      ∃ t, PSs (cxP P w K mg base N q sc f cdv A outer s H E p) bod t ∧ t { nx := fun _ H' => Q .non H', rt := Q } (L2.start N vs) H) : FnP P w K mg base (k + 1) f fd ps sp := by
  obtain ⟨oc, od, dV, kV, doc, pm, an, cdv, ct, osl, rfl, lk, hcode, _, _⟩ := F.ex
  refine ⟨hlen, fun A outer s H args us vs Q E p room hot pin env bnd rel prom => ?_⟩
  have kin : K.In s.heap := env.mod.kin.keeps fun b o e => (env.bs b o e).1
  have nol : s.heap.NoLimit := env.mod.nolimit.keeps fun b o e => (env.bs b o e).1
  have kinds : ∀ y ∈ ps.zip us, sc.names.lookup y.1 = some .local ∨ (sc.names.lookup y.1 = some .cell ∧ ((cellsFrom (s.heap.objs.size + 1) sc.names []).lookup y.1).isSome = true) := fun y hy =>
    (S.par y.1 (List.of_mem_zip (show (y.1, y.2) ∈ ps.zip us from hy)).1).imp id fun z => ⟨z, PySem.W.cellsFrom_some _ _ _ (.inl z)⟩
  refine codeAny_call_function room.depth (kin _ _ lk) rfl S.co S.gen rfl (PySem.W.codeRec_of kin hcode) (bnd _ _ _ _ (wpAny_newFunctionEnv_cells S.kind kinds fun ev hev s1 inC => ?_))
  subst hev
  obtain ⟨t, walk, ht⟩ := go cdv A outer s H vs Q E p (room.deeper _) ⟨hot, List.mem_singleton.mpr rfl⟩ prom
  have inv : Inv (L2H.cxH CX0 P w K mg base N q sc f cdv A outer s H E p) [] (L2.start N vs) H s1 := L2H.inv_startH S pin env (hlen _ _ _ _ _ prom) rel inC
  refine ⟨nol.keeps inC.toInCall.keep, codeAny_func (wpAny_mono (walk.nox.run [] s1 (L2.start N vs) H _ inv ht) (fun fl s2 hs => ?_) fun e s2 hs => hs)⟩
  have ending : ∀ {σ2 : L2.St} {H2 : Hp} {v : V} {u : Value}, Inv (L2H.cxH CX0 P w K mg base N q sc f cdv A outer s H E p) [] σ2 H2 s2 → RelV v u → Q v H2 → CE outer P w H s Q u s2 :=
    fun {σ2 H2 v u} J r2 qq => ⟨v, H2, J.os, J.bare, J.base, J.hok, r2, qq⟩
  cases fl with
  | ret u => obtain ⟨v, σ2, H2, J, r2, qq⟩ := hs; exact ending J r2 qq
  | next => obtain ⟨σ2, H2, J, qq⟩ := hs; exact ending (v := V.non) (u := Value.none) J rfl qq
  | brk => obtain ⟨_, _, _, z⟩ := hs; exact z.elim
  | cont => obtain ⟨_, _, _, z⟩ := hs; exact z.elim
end
structure CalP (P : Program) (w : World) (K : PySem.W.Frag) (mg : Str → Option Value) (base : Heap) (x : Str) (ps : List Str) (k : Nat) (sp : Addr × Obj → Sp) : Prop where
  ex : ∃ f fd, mg x = some (.ref f) ∧ KeepF K f fd ∧ Binds K fd ps [] ∧ FnP P w K mg base k f fd ps sp
theorem CalP.mono {P : Program} {w : World} {K : PySem.W.Frag} {mg : Str → Option Value} {base : Heap} {x : Str} {ps : List Str} {j k : Nat} {sp : Addr × Obj → Sp} (C : CalP P w K mg base x ps j sp) (h : j ≤ k) : CalP P w K mg base x ps k sp := by
  obtain ⟨f, fd, a, b, c, F⟩ := C.ex
  exact ⟨f, fd, a, b, c, F.mono h⟩
section
variable {X : Cx} {k : Nat} {f : Addr} {fd : FuncData} {ps : List Str} {sp : Addr × Obj → Sp} {x : Str} {q pos : Pos} {e : Expr} {es : List Expr} {t : TA} {p : Addr × Obj}
theorem pe_callP (F : FnP X.prog X.w X.K X.mg X.base k f fd ps sp) (hr : L2H.RoomH k X.A) (hp : Held X p) (hg : Gl X x) (hm : X.mg x = some (.ref f)) (hk : PySem.W.keepIn X.K (.ref f) = true) (hb : Binds X.K fd ps [])
    (ha : PA X (e :: es) t) (hdb : (x == ("__debug__" : Str)) = false := by decide) (he : starEach (e :: es) X.env = (false, eval e X.env) :: starEach es X.env := by rfl) (hpl : (backTo pos (starEach es X.env)).any (·.1) = false := by rfl) :
    PE X (.Call (.Name x q) (e :: es) [] pos) (tCall (sp p) [] (fun _ _ _ => False) t) := by
  refine ⟨fun pins s σ H Q I h => wpAny_Call_Name_kw (ld_glob I hg hm (PySem.W.callWith_K (h₀ := X.base) I.ok.mod.kin hk (thn (ha.run pos pins s σ H _ I h) fun us s1 ⟨vs, H1, I1, r, q1⟩ => ⟨I1.kIn, ?_⟩) he hpl) hdb)⟩
  have q1 : sp p vs H1 Q fun _ _ _ => False := by rw [← List.append_nil vs]; exact q1
  have hlen : (us ++ []).length = ps.length := by rw [List.append_nil, ← r.length]; exact F.len _ _ _ _ _ q1
  have bnd := hb s1 us I1.kIn hlen
  rw [List.append_nil] at bnd
  have z := I1.pin p (List.mem_append_left _ hp.pin)
  have pin : L2H.PinOk X.stack H1 s1 p := ⟨z.1, z.2.1, fun m => (List.mem_cons.mp (I1.stkSub p.1 m)).elim z.2.2.1 z.2.2.2.1, z.2.2.2.2⟩
  refine wpAny_call (codeAny_mono (F.run X.A X.stack s1 H1 ⟨us, []⟩ us vs Q _ p hr hp.hot pin I1.env0 bnd r q1) fun res s2 hres => ?_)
  cases res with
  | error ex => exact (pass0 pins σ H1 s1 ex s2 I1 hres)
  | ok fl => cases fl with
    | ret u => exact I1.after hres
    | next => exact hres.elim
    | brk => exact hres.elim
    | cont => exact hres.elim
end
/-- f(e), e the exception of class c that is handled: True -/
def spPin (T : Tb) (K : PySem.W.Frag) (ok : Str → Prop) : Addr × Obj → Sp := fun p vs H Q _ => ∃ c, ok c ∧ vs = [.ref p.1] ∧ p.2.cls = .ref (He.ga K c) ∧ p.2.dict = none ∧ LamX.Tabs T H ∧ ∀ H', Ext H H' → LamX.Tabs T H' → Q (.bl true) H'
section
variable {T : Tb} {P : Program} {w : World} {K : PySem.W.Frag} {mg : Str → Option Value} {base : Heap} {x : Str} {st : Stmt} {N ps : List Str} {k : Nat}
theorem cal_P {ok : Str → Prop} (F : Df K mg x st) (S : FnScope N ps (defScope st)) (hb : ∀ (kV doc pm : Value) (an : Option Addr) (cdv ct : Value) (us : List Value), us.length = ps.length → bindArgs (PySem.W.fnOf x x (defArgs st) (defBody st) (defScope st) .none kV doc pm an cdv ct) ⟨us, []⟩ = pure (ps.zip us))
    (hl1 : ps.length = 1) (hpn : ps.length ≤ N.length)
    (hbody : ∀ (f : Addr) (cdv : Value) (A : Around) (outer : List Env) (s : Shared) (H : Hp) (E : XK) (p : Addr × Obj), L2H.RoomH k (cxP P w K mg base N x (defScope st) f cdv A outer s H E p).A → Held (cxP P w K mg base N x (defScope st) f cdv A outer s H E p) p → ∀ c, ok c → p.2.cls = .ref (He.ga K c) → p.2.dict = none →
      SD T (cxP P w K mg base N x (defScope st) f cdv A outer s H E p) (env0 N.length [.adr p.1]) (defBody st) { rt := fun d' => d' = .bl true }) :
    CalP P w K mg base x ps (k + 1) (spPin T K ok) := by
  obtain ⟨f, fd, hm, F⟩ := F.ex
  refine ⟨f, fd, hm, (DD.FunD.keepF F), F.bindsN hb, fnP_of F S (fun p vs H Q E ⟨c, _, e, _⟩ => by rw [e, hl1]; rfl) fun cdv A outer s H vs Q E p hr hh h => ?_⟩
  obtain ⟨c, hc, rfl, h1, h2, h5, q⟩ := h
  refine ⟨_, hbody f cdv A outer s H E p hr hh c hc h1 h2, ⟨fun _ => none, H, fun _ => none, []⟩, start_ok (ds := [.adr p.1]) (fun a o e => by cases e) (fun a ps e => by cases e) (.cons (.adr p.1) .nil) h5 (by rw [hl1] at hpn; exact hpn), ?_⟩
  refine ⟨fun Γ' σ' H' e g' => False.elim e, fun d' v H' e x t da => ?_, fun es p ws H' e x t hp da => False.elim e, fun _ _ _ _ _ e => False.elim e, fun _ _ _ _ e => False.elim e, fun _ _ _ e => False.elim e, fun _ _ _ _ _ e => False.elim e, fun _ e => nomatch e⟩
  subst e
  cases da
  exact q H' x t
end
section
variable {T : Tb} {X : Cx} {Γ : Ev} {m : Bool} {a b e : Expr} {d : D} {ds : List D} {pos q p1 p2 : Pos} {x y c : Str} {ps : List Str} {k : Nat} {p : Addr × Obj}
/-- f(e) in the suite -/
theorem e_pin {ok : Str → Prop} (C : CalP X.prog X.w X.K X.mg X.base x ps k (spPin T X.K ok)) (hr : L2H.RoomH k X.A) (hp : Held X p) (hc : ok c) (h1 : p.2.cls = .ref (He.ga X.K c)) (h2 : p.2.dict = none) (ha : ED T X true Γ a (.adr p.1)) (hg : Gl X x := by rfl) (hdb : (x == ("__debug__" : Str)) = false := by decide)
    (he : starEach [a] X.env = (false, eval a X.env) :: starEach [] X.env := by rfl) (hpl : (backTo pos (starEach [] X.env)).any (·.1) = false := by rfl) : ED T X m Γ (.Call (.Name x q) [a] [] pos) (.bl true) := by
  obtain ⟨f, fd, hm, hk, hb, F⟩ := C.ex
  refine PE.imp' (pe_callP F hr hp hg hm hk.1 hb (a_one ha he) hdb he hpl) fun σ H Q ⟨Z, g, q⟩ => ⟨Z, g, fun vs H1 g1 x1 d1 => ?_⟩
  cases d1 with
  | cons d1 d2 =>
    cases d2
    cases d1
    exact ⟨c, hc, rfl, h1, h2, g1.tab, fun H2 x2 t2 => q _ H2 (g1.to x2 t2) (x1.trans x2) (.bl true)⟩
def rIsP (K : PySem.W.Frag) (Dc : Addr) (a : Addr) : List V → Hp → VK → Prop := fun xs H Q => ∃ (c : V) (cv : Value) (b : Bool), xs = [.ref a, c] ∧ (∀ u, RelV c u → u = cv) ∧ PySem.W.kitOne K (.ref Dc) cv = some b ∧ Q (.bl b) H
theorem call_isP {Dc : Addr} (C : ExcC X.K Dc) (hp : Held X p) (h1 : p.2.cls = .ref Dc) (h2 : p.2.dict = none) : CallR X (.builtin "isinstance") (rIsP X.K Dc p.1) := by
  intro pins s σ H xs us Q I r hh
  obtain ⟨c, cv, b, rfl, hcv, e, q1⟩ := hh
  cases r with
  | cons rx rr =>
    cases rr with
    | cons rt rr =>
      cases rr
      cases rx
      rw [hcv _ rt]
      have get := (I.pin p (List.mem_append_left _ hp.pin)).1
      obtain ⟨vs, hv, _⟩ := hp.hot.2
      have J : PySem.W.InstAt s.heap p.1 p.2 Dc none := by
        obtain ⟨a, oc, od, oda, osl⟩ := p
        dsimp only at h1 h2 hv get ⊢
        subst h1 h2 hv
        exact ⟨get, rfl, rfl, trivial⟩
      exact PySem.W.kia_one (PySem.W.handS_kitx_exc C.hg C.hk C.hs C.hd C.ha C.hn C.ht C.hm) I.kIn J e (fun z => nomatch z) fun tk => ⟨.bl b, H, I.kept (t' := tk) fun _ _ z => z, rfl, q1⟩
/-- isinstance(e, C), e the exception that is handled, C a class of the program -/
theorem e_isP {c2 : Str} {r : Bool} (C : ExcC X.K (He.ga X.K c)) (hp : Held X p) (h1 : p.2.cls = .ref (He.ga X.K c)) (h2 : p.2.dict = none) (hm : X.mg "isinstance" = none) (h : ED T X true Γ a (.adr p.1)) (hc2 : X.mg c2 = some (.ref (He.ga X.K c2))) (hk : PySem.W.kitOne X.K (.ref (He.ga X.K c)) (.ref (He.ga X.K c2)) = some r)
    (hg : Gl X "isinstance" := by rfl) (hgt : Gl X c2 := by rfl) (hs2 : starEach [Expr.Name c2 p2] X.env = (false, eval (.Name c2 p2) X.env) :: starEach [] X.env := by rfl) (hs : starEach [a, .Name c2 p2] X.env = (false, eval a X.env) :: starEach [.Name c2 p2] X.env := by rfl) (hpl : (backTo pos (starEach [Expr.Name c2 p2] X.env)).any (·.1) = false := by rfl)
    (hd : (c2 == ("__debug__" : Str)) = false := by decide) : ED T X m Γ (.Call (.Name "isinstance" p1) [a, .Name c2 p2] [] pos) (.bl r) :=
  PE.imp' (pe_callB (call_isP C hp h1 h2) hg hm (by decide +kernel) (pa_cons h (pa_cons (pe_glob (v := .ref (He.ga X.K c2)) hgt hc2 rfl hd) pa_nil hs2) hs) (by decide) (by decide) hs hpl) fun σ H Q ⟨Z, g, f⟩ => ⟨Z, g, fun v H1 g1 x1 d1 => by
    cases d1
    exact ⟨.ref (He.ga X.K c2), .ref (He.ga X.K c2), r, rfl, fun u z => z, hk, f _ H1 g1 x1 (.bl _)⟩⟩
theorem e_isPB {tn : Str} {Tn : String} {r : Bool} (C : ExcC X.K (He.ga X.K c)) (hp : Held X p) (h1 : p.2.cls = .ref (He.ga X.K c)) (h2 : p.2.dict = none) (hm : X.mg "isinstance" = none) (h : ED T X true Γ a (.adr p.1)) (ht : X.mg tn = none) (hv : bootBuiltins tn = some (.type Tn)) (hk : PySem.W.kitOne X.K (.ref (He.ga X.K c)) (.type Tn) = some r)
    (hg : Gl X "isinstance" := by rfl) (hgt : Gl X tn := by rfl) (hs2 : starEach [Expr.Name tn p2] X.env = (false, eval (.Name tn p2) X.env) :: starEach [] X.env := by rfl) (hs : starEach [a, .Name tn p2] X.env = (false, eval a X.env) :: starEach [.Name tn p2] X.env := by rfl) (hpl : (backTo pos (starEach [Expr.Name tn p2] X.env)).any (·.1) = false := by rfl)
    (hn : tn ≠ "__name__" := by decide) (hd : (tn == ("__debug__" : Str)) = false := by decide) : ED T X m Γ (.Call (.Name "isinstance" p1) [a, .Name tn p2] [] pos) (.bl r) :=
  PE.imp' (pe_callB (call_isP C hp h1 h2) hg hm (by decide +kernel) (pa_cons h (pa_cons (pe_bltn (v := .ty Tn) hgt ht hv rfl hn hd) pa_nil hs2) hs) (by decide) (by decide) hs hpl) fun σ H Q ⟨Z, g, f⟩ => ⟨Z, g, fun v H1 g1 x1 d1 => by
    cases d1
    exact ⟨.ty Tn, .type Tn, r, rfl, fun u z => z, hk, f _ H1 g1 x1 (.bl _)⟩⟩
end
end DD

/-! try with several clauses over data; [x for x in xs if x] while an exception is handled. -/
namespace DD
open PySem PySem.Spec L2
theorem held_suite {X : Cx} {a : Addr} {oe : Obj} {pn : List (Addr × Obj)} {cls : Value} {dd : Option Addr} (hz : L2N.Zn cls dd oe) (hd : ∃ vs, oe.data = .fields vs) : Held (X.suite a ((a, oe) :: pn)) (a, oe) := by
  obtain ⟨vs, hv⟩ := hd
  exact ⟨⟨rfl, vs, hv, hz.2.2 vs hv⟩, List.mem_cons_self⟩
inductive AnyH (X : Cx) : List ExceptHandler → Prop
  | nil : AnyH X []
  | cons {x : Str} {on : Option Str} {b₀ : Stmt} {suite : List Stmt} {np p2 : Pos} {hds : List ExceptHandler} (C : Ec X.K X.mg x) (hsl : ∃ o, slOk X on o) (r : AnyH X hds) (hg : Gl X x := by rfl) (hd : (x == ("__debug__" : Str)) = false := by decide) :
      AnyH X (.ExceptHandler (some (.Name x np)) on (b₀ :: suite) p2 :: hds)
theorem AnyH.hands {X : Cx} {hds : List ExceptHandler} (h : AnyH X hds) : ∃ l, Hands X hds l := by
  induction h with
  | nil => exact ⟨[], .nil⟩
  | @cons x on b₀ suite np p2 hds C hsl r hg hd ih =>
    obtain ⟨l, hl⟩ := ih
    obtain ⟨o, ho⟩ := hsl
    exact ⟨⟨.ref (He.ga X.K x), o, fun _ _ _ _ _ _ => False⟩ :: l, .cons ⟨hg, hd, .inl C.g⟩ ho (fun a oe cls dd pn _ _ _ => ⟨fun _ _ _ _ _ _ z => False.elim z⟩) hl⟩
/-- the clauses, the exception of class c0 -/
inductive HandL (T : Tb) (X : Cx) (Γh Γj : Ev) (P : Pst) (c0 : Str) : List ExceptHandler → Prop
  | miss {x : Str} {on : Option Str} {b₀ : Stmt} {suite : List Stmt} {np p2 : Pos} {hds : List ExceptHandler} (C : Ec X.K X.mg x) (hm : PySem.W.exmOne X.K (.ref (He.ga X.K c0)) (.ref (He.ga X.K x)) = some false) (hsl : ∃ o, slOk X on o) (r : HandL T X Γh Γj P c0 hds)
      (hg : Gl X x := by rfl) (hd : (x == ("__debug__" : Str)) = false := by decide) : HandL T X Γh Γj P c0 (.ExceptHandler (some (.Name x np)) on (b₀ :: suite) p2 :: hds)
  | hit {x : Str} {b₀ : Stmt} {suite : List Stmt} {np p2 : Pos} {hds : List ExceptHandler} (C : Ec X.K X.mg x) (hm : PySem.W.exmOne X.K (.ref (He.ga X.K c0)) (.ref (He.ga X.K x)) = some true)
      (hs : ∀ (a : Addr) (oe : Obj) (pn : List (Addr × Obj)), L2N.Zn (.ref (He.ga X.K c0)) none oe → (∃ vs, oe.data = .fields vs) → SD T (X.suite a ((a, oe) :: pn)) Γh (b₀ :: suite) { P with nx := fun Γ' => Wk Γ' Γj, xc := fun _ _ => False }) (r : AnyH X hds)
      (hg : Gl X x := by rfl) (hd : (x == ("__debug__" : Str)) = false := by decide) : HandL T X Γh Γj P c0 (.ExceptHandler (some (.Name x np)) none (b₀ :: suite) p2 :: hds)
  | hitAs (i : Nat) {x n : Str} {b₀ : Stmt} {suite : List Stmt} {np p2 : Pos} {hds : List ExceptHandler} (C : Ec X.K X.mg x) (hm : PySem.W.exmOne X.K (.ref (He.ga X.K c0)) (.ref (He.ga X.K x)) = some true)
      (hs : ∀ (a : Addr) (oe : Obj) (pn : List (Addr × Obj)), L2N.Zn (.ref (He.ga X.K c0)) none oe → (∃ vs, oe.data = .fields vs) → SD T (X.suite a ((a, oe) :: pn)) (Γh.set i (some (.sh (.adr a)))) (b₀ :: suite) { P with nx := fun Γ' => Wk (Γ'.set i none) Γj, xc := fun _ _ => False }) (r : AnyH X hds)
      (hl : i < Γh.length := by exact Nat.le_of_ble_eq_true rfl) (hi : X.N[i]? = some n := by rfl) (hln : X.env.kindOf n = some .local := by rfl)
      (hg : Gl X x := by rfl) (hd : (x == ("__debug__" : Str)) = false := by decide) : HandL T X Γh Γj P c0 (.ExceptHandler (some (.Name x np)) (some n) (b₀ :: suite) p2 :: hds)
theorem HandL.hands {T : Tb} {X : Cx} {Γh Γj : Ev} {P : Pst} {c0 : Str} {hds : List ExceptHandler} (h : HandL T X Γh Γj P c0 hds) : ∃ l, Hands X hds l ∧ ∀ (Z : Zn) (σ : St) (H : Hp) (E : Ends), GOk T X.K Z H σ Γh → FinP T X.K Z P E →
    wCl X.K (fun _ _ _ _ => False) { E with nx := tSt T X.K Γj P E } l (.ref (He.ga X.K c0)) none σ H := by
  induction h with
  | @miss x on b₀ suite np p2 hds C hm hsl r hg hd ih =>
    obtain ⟨l, hl, w⟩ := ih
    obtain ⟨o, ho⟩ := hsl
    exact ⟨⟨.ref (He.ga X.K x), o, fun _ _ _ _ _ _ => False⟩ :: l, .cons ⟨hg, hd, .inl C.g⟩ ho (fun a oe cls dd pn _ _ _ => ⟨fun _ _ _ _ _ _ z => False.elim z⟩) hl, fun Z σ H E g f => ⟨false, hm, fun z => (nomatch z), fun _ => w Z σ H E g f⟩⟩
  | @hit x b₀ suite np p2 hds C hm hs r hg hd =>
    obtain ⟨l, hl⟩ := r.hands
    refine ⟨⟨.ref (He.ga X.K x), none, fun a cls dd E σ H => cls = .ref (He.ga X.K c0) ∧ dd = none ∧ tSt T X.K Γh { P with nx := fun Γ' => Wk Γ' Γj, xc := fun _ _ => False } E σ H⟩ :: l, .cons ⟨hg, hd, .inl C.g⟩ trivial (fun a oe cls dd pn _ hz hd => ⟨fun pins s σ H E I ⟨e1, e2, h⟩ => ?_⟩) hl, fun Z σ H E g f => ⟨true, hm, fun _ a _ => ⟨rfl, rfl, Z, g, ?_⟩, fun z => nomatch z⟩⟩
    · subst e1
      subst e2
      exact (hs a oe pn hz hd).run pins s σ H E I h
    · exact ⟨fun Γ' σ' H' w g' => ⟨Z, g'.wk w, f⟩, f.rt, f.rl, f.ro, fun _ _ _ _ e => False.elim e, f.rn, f.rm, f.h0⟩
  | @hitAs i x n b₀ suite np p2 hds C hm hs r hl hi hln hg hd =>
    obtain ⟨l, hl2⟩ := r.hands
    refine ⟨⟨.ref (He.ga X.K x), some i, fun a cls dd E σ H => cls = .ref (He.ga X.K c0) ∧ dd = none ∧ tSt T X.K (Γh.set i (some (.sh (.adr a)))) { P with nx := fun Γ' => Wk (Γ'.set i none) Γj, xc := fun _ _ => False } E σ H⟩ :: l, .cons ⟨hg, hd, .inl C.g⟩ ⟨hi, hln⟩ (fun a oe cls dd pn _ hz hd => ⟨fun pins s σ H E I ⟨e1, e2, h⟩ => ?_⟩) hl2, fun Z σ H E g f => ⟨true, hm, fun _ a _ => ⟨rfl, rfl, Z, g.set hl (.adr a), ?_⟩, fun z => nomatch z⟩⟩
    · subst e1
      subst e2
      exact (hs a oe pn hz hd).run pins s σ H E I h
    · exact ⟨fun Γ' σ' H' w g' => ⟨Z, (g'.setNone i none).wk w, f⟩, f.rt, f.rl, f.ro, fun _ _ _ _ e => False.elim e, f.rn, f.rm, f.h0⟩
section
variable {T : Tb} {X : Cx} {Γ Γh Γj : Ev} {P : Pst} {c0 : Str} {body rest : List Stmt} {h0 : ExceptHandler} {hds : List ExceptHandler} {pos : Pos}
/-- try: body, which may raise c0, except ..: several clauses -/
theorem s_tryC (hbody : ∀ (W : WX) (pn : List (Addr × Obj)) (xe : Value → Shared → Prop), L2N.Takes (X.tr pn xe) W → PassesOwn (model X.prog X.w) X.A X.env xe → SD T (X.tr pn xe) Γ body { P with nx := fun Γ' => Wk Γ' Γj, xc := fun c' Γ' => c' = c0 ∧ Wk Γ' Γh, wx := W })
    (hh : HandL T X Γh Γj P c0 (h0 :: hds)) (hrest : SD T X Γj rest P) (nd : X.N.Nodup) (hst : X.stack = X.env :: X.outer := by rfl) (hf : X.env.frame = some X.env.locals := by rfl) :
    SD T X Γ (.Try body (h0 :: hds) [] [] pos :: rest) P := by
  obtain ⟨l, hl, w⟩ := hh.hands
  refine s_seq (ps_clauses (Wo := fun _ _ _ _ => False) (tb := fun W => tSt T X.K Γ { P with nx := fun Γ' => Wk Γ' Γj, xc := fun c' Γ' => c' = c0 ∧ Wk Γ' Γh, wx := W }) hst hf nd takes_no hbody hl) hrest fun E σ H ⟨Z, g, f⟩ => ?_
  refine ⟨Z, g, ⟨fun Γ' σ' H' w g' => ⟨Z, g'.wk w, f⟩, f.rt, f.rl, f.ro, fun c' Γ' σ' H' ⟨e, wk⟩ g' => ?_, f.rn, f.rm, f.h0⟩⟩
  subst e
  exact w Z σ' H' E (g'.wk wk) f
variable {elt t : Expr} {scope : Scope} {tp ip : Pos} {x z : Str} {α β : Type} {as : List α} {f : α → D} {q : Addr} {p0 : Addr × Obj}
/-- [elt for x in an owned list if t], while an exception is handled -/
theorem flHot (i2 j : Nat) (f' : β → D) {h : α → β} {p : α → Bool} (hc : Held X p0) (nd : X.N.Nodup) (hn : as.length ≤ 16777216) (hi2 : Γ[i2]? = some (some (.ow q (.lst (as.map f))))) (ok : BlkOk X.N X.env.scope scope [(x, j)])
    (hg : ∀ (s : Shared) (H : Hp) (C : Addr) (cl : List (Str × Addr)) (fp : List Addr), PG (blkOf X scope s H C cl fp) (.Name x tp) (gName j))
    (ht : ∀ (s : Shared) (H : Hp) (C : Addr) (cl : List (Str × Addr)) (fp : List Addr) (a : α), a ∈ as → BD T (blkOf X scope s H C cl fp) ((Γ.set j none).set j (some (.sh (f a)))) t (p a))
    (he : ∀ (s : Shared) (H : Hp) (C : Addr) (cl : List (Str × Addr)) (fp : List Addr) (a : α), a ∈ as → p a = true → ED T (blkOf X scope s H C cl fp) true ((Γ.set j none).set j (some (.sh (f a)))) elt (f' (h a)))
    (hk : (Γ.set j none)[i2]? = some (some (.ow q (.lst (as.map f)))) := by rfl) (hj : j < Γ.length := by exact Nat.le_of_ble_eq_true rfl) (ho : owns (Γ.set j none) = owns Γ := by rfl) (hup : ∀ d, owns ((Γ.set j none).set j (some (.sh d))) = owns (Γ.set j none) := by intro _; rfl)
    (hs : ∀ x, foldedSetIterable (.Name z ip) X.env x = pure x := by intro _; rfl) (hN : X.N[i2]? = some z := by rfl) (hv : Vis X.env.scope z := by first | exact Or.inl rfl | exact Or.inr (Or.inl rfl) | exact Or.inr (Or.inr rfl)) (hd : (z == ("__debug__" : Str)) = false := by decide) (hcd : (z == ("__classdict__" : Str)) = false := by decide) :
    LD T X Γ (.ListComp elt [⟨.Name x tp, .Name z ip, [t], 0⟩] scope pos) (((as.filter p).map h).map f') := by
  have hl : (as.map f).length = as.length := by simp
  have hlc := fun (σ : St) (H : Hp) (Q : VK) (hq : tL T X.K Γ (compD (fun i => (as[i]?.map p).getD false) (fun i => (as[i]?.map fun a => f' (h a)).getD .non) (as.map f).length) σ H Q) =>
    lc_reading (T := T) (X := X) (Γ := Γ) (own := [(x, j)]) (g := gName j) (n := (as.map f).length) (js := [j]) (up := upN j fun i => (as.map f).getD i .non) (Keep := fun Γ2 => Γ2[i2]? = some (some (.ow q (.lst (as.map f))))) (keep := fun i => (as[i]?.map p).getD false) (val := fun i => (as[i]?.map fun a => f' (h a)).getD .non)
      (by rw [hl]; exact hn) (by simpa using hj) (by simp) hk ho (fun i => hup _) σ H Q hq
  have main : LD T X Γ (.ListComp elt [⟨.Name x tp, .Name z ip, [t], 0⟩] scope pos) (compD (fun i => (as[i]?.map p).getD false) (fun i => (as[i]?.map fun a => f' (h a)).getD .non) (as.map f).length) := by
   refine PE.imp' (pe_lcHot (own := [(x, j)]) (g := gName j) (tt := ttC T X.K (as.map f).length (upN j fun i => (as.map f).getD i .non) (wipeE Γ [j]) fun i => (as[i]?.map p).getD false) (te := teC T X.K (as.map f).length (upN j fun i => (as.map f).getD i .non) (wipeE Γ [j]) (fun i => (as[i]?.map p).getD false) fun i => (as[i]?.map fun a => f' (h a)).getD .non) hc nd (pe_var hN hv hd hcd) ok hg
    (fun s H C cl fp => pts_one ⟨fun pins s' σ H' Q I ⟨i, hi', hh⟩ => ?_⟩) (fun s H C cl fp => ⟨fun pins s' σ H' Q I ⟨i, hi', hk, hh⟩ => ?_⟩) hs) (fun σ H Q hq => ?_)
   · have hlt : i < as.length := by rw [← hl]; exact hi'
     have e : as[i]? = some as[i] := by simp [hlt]
     have b := ht s H C cl fp as[i] (List.getElem_mem hlt)
     refine b.run pins s' σ H' Q I ?_
     have hh' : tB T X.K ((Γ.set j none).set j (some (.sh ((as.map f).getD i .non)))) ((as[i]?.map p).getD false) σ H' Q := hh
     rw [getD_map e, e] at hh'
     exact hh'
   · have hlt : i < as.length := by rw [← hl]; exact hi'
     have e : as[i]? = some as[i] := by simp [hlt]
     have hk' : p as[i] = true := by
       have hk2 : (as[i]?.map p).getD false = true := hk
       rw [e] at hk2
       exact hk2
     have b := he s H C cl fp as[i] (List.getElem_mem hlt) hk'
     refine b.run pins s' σ H' Q I ?_
     have hh' : tE T X.K true ((Γ.set j none).set j (some (.sh ((as.map f).getD i .non)))) ((as[i]?.map fun a => f' (h a)).getD .non) σ H' Q := hh
     rw [getD_map e, e] at hh'
     exact hh'
   · have h2 := hlc σ H Q hq
     obtain ⟨Z, g, q2⟩ := h2
     obtain ⟨v, e, rfl, vs, e1, e2⟩ := g.slots i2 _ hi2
     exact ⟨_, e, _, rfl, ⟨vs, SqL.of e1⟩, q2 _ (GoodL X.K _ (as.map f)) H g (Ext.refl H) stp_list fun Z2 H2 σ2 Γ2 g2 sm kp _ => by
       obtain ⟨v, e, _, vs, e1, e2⟩ := g2.slots i2 _ kp
       exact ⟨vs, e1, e2⟩⟩
  refine main.as ?_
  rw [hl, compD_list as p (fun a => f' (h a)) _ _ (fun i a e => by simp [e]) (fun i a e => by simp [e]) as.length (Nat.le_refl _), List.take_length, List.map_map]
  rfl
end
end DD

/-! What the classes of exceptions are asked, so that isinstance asks their instances rightly. -/
namespace DD
open PySem PySem.Spec L2
def excCB (K : PySem.W.Frag) (A : Addr) : Bool :=
  He.eqO (PySem.W.findIn K (.ref A) "__getattribute__") (some (some (.builtin "BaseException.__getattribute__"))) && (He.eqO (PySem.W.findIn K (.ref A) "__getattr__") (some none) && (decide (PySem.W.subIn K (.ref A) (.type "BaseException") = some true) && (PySem.W.hasDictIn K A &&
  (He.eqO (PySem.W.findIn K (.ref A) "__class__") (some (some (.builtin "object.__class__"))) && (He.eqO (PySem.W.specialIn K (.builtin "object.__class__") "__get__") (some (some (.builtin "getset_descriptor.__get__"))) && (decide (PySem.W.takesIn K (.builtin "object.__class__") = some true) && decide (PySem.W.mroIn K A (.type "object") = some true)))))))
theorem excCB_ok {K : PySem.W.Frag} {A : Addr} (h : excCB K A = true) : ExcC K A := by
  unfold excCB at h
  obtain ⟨h1, h⟩ := Bool.and_eq_true_iff.mp h
  obtain ⟨h2, h⟩ := Bool.and_eq_true_iff.mp h
  obtain ⟨h3, h⟩ := Bool.and_eq_true_iff.mp h
  obtain ⟨h4, h⟩ := Bool.and_eq_true_iff.mp h
  obtain ⟨h5, h⟩ := Bool.and_eq_true_iff.mp h
  obtain ⟨h6, h⟩ := Bool.and_eq_true_iff.mp h
  obtain ⟨h7, h8⟩ := Bool.and_eq_true_iff.mp h
  exact ⟨He.eqO_ok h1, He.eqO_ok h2, of_decide_eq_true h3, h4, He.eqO_ok h5, He.eqO_ok h6, of_decide_eq_true h7, of_decide_eq_true h8⟩
def kitR (c c2 : Str) : Bool := decide (c = c2) || decide (c2 = ("WeaveError" : Str))
/-- each of the classes cs is of itself, of WeaveError, of ValueError, of none of the others -/
structure Alone (K : PySem.W.Frag) (cs : List Str) : Prop where
  xc : ∀ c ∈ cs, ExcC K (He.ga K c)
  xv : ∀ c ∈ cs, PySem.W.kitOne K (.ref (He.ga K c)) (.type "ValueError") = some true
  xk : ∀ c ∈ cs, ∀ c2 ∈ cs ++ [("WeaveError" : Str)], PySem.W.kitOne K (.ref (He.ga K c)) (.ref (He.ga K c2)) = some (kitR c c2)
def aloneB (K : PySem.W.Frag) (cs : List Str) : Bool := cs.all fun c => excCB K (He.ga K c) && (decide (PySem.W.kitOne K (.ref (He.ga K c)) (.type "ValueError") = some true) && (cs ++ [("WeaveError" : Str)]).all fun c2 => decide (PySem.W.kitOne K (.ref (He.ga K c)) (.ref (He.ga K c2)) = some (kitR c c2)))
theorem aloneB_ok {K : PySem.W.Frag} {cs : List Str} (h : aloneB K cs = true) : Alone K cs := by
  have z : ∀ c ∈ cs, _ := fun c hc => List.all_eq_true.mp h c hc
  refine ⟨fun c hc => ?_, fun c hc => ?_, fun c hc c2 h2 => ?_⟩
  · exact excCB_ok (Bool.and_eq_true_iff.mp (z c hc)).1
  · exact of_decide_eq_true (Bool.and_eq_true_iff.mp (Bool.and_eq_true_iff.mp (z c hc)).2).1
  · exact of_decide_eq_true (List.all_eq_true.mp (Bool.and_eq_true_iff.mp (Bool.and_eq_true_iff.mp (z c hc)).2).2 c2 h2)
end DD

/-! What never happens. -/
namespace DD
open PySem PySem.Spec L2
section
variable {T : Tb} {X : Cx} {Γ : Ev} {sts : List Stmt} {P : Pst}
theorem s_never (h : ∃ (i : Nat) (p : Addr), Γ[i]? = some (some (.ow p .non))) : SD T X Γ sts P := ⟨fun pins s σ H E I ⟨Z, g, _⟩ => by
  obtain ⟨i, p, hi⟩ := h
  obtain ⟨v, _, _, ho⟩ := g.slots i _ hi
  exact False.elim ho⟩
/-- an environment that is never -/
def nevr (n : Nat) : Ev := some (.ow 0 .non) :: List.replicate n none
theorem s_nevr {n : Nat} : SD T X (nevr n) sts P := s_never ⟨0, 0, rfl⟩
end
end DD

/-! Methods that give a new list or raise. -/
namespace DD
open PySem PySem.Spec L2
inductive OutL where
  | lst (es : List D)
  | exc (c : Str)
def spRL (T : Tb) (K : PySem.W.Frag) (R : List D → OutL → Prop) : Sp := fun vs H Q E => ∃ G ds o, Same G H ∧ NoTbl G ∧ DaAll K G vs ds ∧ R ds o ∧ LamX.Tabs T H ∧
  (∀ es p ws H', o = .lst es → Ext H H' → LamX.Tabs T H' → H' p = none → DaAll K (gr G H H') ws es → Q (.ref p) (upd H' p (.lst ws))) ∧ ∀ c H', o = .exc c → Ext H H' → LamX.Tabs T H' → E (.ref (He.ga K c)) none H'
/-- what such a body is to end in -/
def PL (o : OutL) (E : XK) : Pst := { rl := fun es => o = .lst es, xc := fun c _ => o = .exc c, wx := fun cls d _ H => E cls d H }
def oOut : OutL → Out
  | .lst es => .val (.lst es)
  | .exc c => .exc c
section
variable {T : Tb} {P : Program} {w : World} {K : PySem.W.Frag} {mg : Str → Option Value} {base : Heap} {x q : Str} {st : Stmt} {N ps : List Str} {k : Nat}
theorem fnRL {R : List D → OutL → Prop} {f : Addr} {fd : FuncData} (F : FunD K x q (defArgs st) (defBody st) (defScope st) [] [] f fd) (S : FnScope N ps (defScope st))
    (hlen : ∀ ds o, R ds o → ds.length = ps.length) (hpn : ps.length ≤ N.length)
    (hbody : ∀ (f : Addr) (cdv : Value) (A : Around) (outer : List Env) (s : Shared) (H : Hp) (E : XK), Room k (cxX P w K mg base N q (defScope st) f cdv A outer s H E).A → L2N.Takes (cxX P w K mg base N q (defScope st) f cdv A outer s H E) (fun cls d _ H => E cls d H) →
      ∀ ds o, R ds o → SD T (cxX P w K mg base N q (defScope st) f cdv A outer s H E) (env0 N.length ds) (defBody st) (PL o E)) :
    FnOk P w K mg base (L2N.CX P w) (k + 1) f fd ps (spRL T K R) := by
  refine F.ok S (fun vs H Q E ⟨G, ds, o, h1, h2, h3, h4, _⟩ => by rw [h3.length]; exact hlen _ _ h4) fun cdv A outer s H vs Q E hr h => ?_
  obtain ⟨G, ds, o, h1, h2, h3, h4, h5, qv, qx⟩ := h
  have hl := hlen _ _ h4
  have hl3 := h3.length
  refine ⟨_, hbody f cdv A outer s H E hr (L2N.takes_of rfl rfl rfl rfl) ds o h4, ⟨G, H, fun _ => none, []⟩, start_ok h1 h2 h3 h5 (by omega), ?_⟩
  exact ⟨fun Γ' σ' H' e g' => False.elim e, fun d' v H' e x t da => False.elim e, fun es p ws H' e x t hp da => qv _ _ _ _ e x t hp da, fun _ _ _ _ _ e => False.elim e, fun c Γ' σ' H' e g' => qx _ _ e g'.ext g'.tab, fun _ _ _ e => False.elim e, fun _ _ _ _ _ e => False.elim e, fun _ e => nomatch e⟩
theorem calM_RL {R : List D → OutL → Prop} (F : DfM K x q st) (S : FnScope N ps (defScope st)) (hb : ∀ (kV doc pm : Value) (an : Option Addr) (cdv ct : Value) (us : List Value), us.length = ps.length → bindArgs (PySem.W.fnOf x q (defArgs st) (defBody st) (defScope st) .none kV doc pm an cdv ct) ⟨us, []⟩ = pure (ps.zip us))
    (hlen : ∀ ds o, R ds o → ds.length = ps.length) (hpn : ps.length ≤ N.length)
    (hbody : ∀ (f : Addr) (cdv : Value) (A : Around) (outer : List Env) (s : Shared) (H : Hp) (E : XK), Room k (cxX P w K mg base N q (defScope st) f cdv A outer s H E).A → L2N.Takes (cxX P w K mg base N q (defScope st) f cdv A outer s H E) (fun cls d _ H => E cls d H) →
      ∀ ds o, R ds o → SD T (cxX P w K mg base N q (defScope st) f cdv A outer s H E) (env0 N.length ds) (defBody st) (PL o E)) :
    CalMX P w K mg base x ps (k + 1) (spRL T K R) := by
  obtain ⟨f, fd, hm, F⟩ := F.ex
  exact ⟨f, fd, hm, F.bindsN hb, fnRL F S hlen hpn hbody⟩
theorem CalMX.toR {R : List D → OutL → Prop} (C : CalMX P w K mg base x ps k (spRL T K R)) : CalMX P w K mg base x ps k (spR T K fun ds o => ∃ o', R ds o' ∧ o = oOut o') := by
  obtain ⟨f, fd, hm, hb, F⟩ := C.ex
  refine ⟨f, fd, hm, hb, F.imp fun vs H Q E ⟨G, ds, o, h1, h2, h3, ⟨o', h4, e4⟩, h5, qv, qx⟩ => ⟨G, ds, o', h1, h2, h3, h4, h5, fun es p ws H' e x t hp da => ?_, fun c H' e x t => qx c H' (by rw [e4, e]; rfl) x t⟩⟩
  refine qv (.lst es) _ _ (by rw [e4, e]; rfl) (x.trans (Ext.upd hp)) (t.ext (same_upd hp)) ?_
  have hg : gr G H (upd H' p (.lst ws)) p = some (.lst ws) := by
    unfold gr
    rw [x.free hp]
    exact nt_of upd_same (fun ps z => by cases z)
  exact .lst hg (da.to (gr_ext (Ext.upd hp)))
end
section
variable {T : Tb} {X : Cx} {Γ : Ev} {m : Bool} {a e o : Expr} {d d0 : D} {ds es : List D} {es' : List Expr} {pos apos p : Pos} {x c : Str} {ps : List Str} {k : Nat} {W : WX} {R : List D → OutL → Prop}
/-- o.m(..): a new list of what cannot change; all may be owned -/
theorem l_methRL (Wc : Wv X.K) (C : CalMX X.prog X.w X.K X.mg X.base x ps k (spRL T X.K R)) (hr : Room k X.A) (h : R (.obj d0 :: ds) (.lst es)) (hi : immAll es = true) (ho : ED T X false Γ o (.obj d0)) (ha : AD T X false Γ (a :: es') ds) (hx : (x == ("known" : Str)) = false := by decide) {pl : Sem Bool}
    (hst : starEach (a :: es') X.env = (false, eval a X.env) :: starEach es' X.env := by rfl) (hpl : (backTo pos (starEach es' X.env)).any (·.1) = false := by rfl)
    (ht : eval (.Call (.Attribute o x apos) (a :: es') [] pos) X.env = (do
      let ov ← eval o X.env
      standAt apos.atName
      let (g, one) ← holding [ov] (getMethod ov x pl)
      callWith pos g one (backTo pos (starEach (a :: es') X.env)) (backToKw pos (keywordEach [] X.env))) := by rfl) : LD T X Γ (.Call (.Attribute o x apos) (a :: es') [] pos) es := by
  obtain ⟨f, fd, hm, hb, F⟩ := C.ex
  refine PE.imp' (pe_methS (pl := pl) (E := fun _ _ _ _ => False) ho Wc.cls hm F hr hb (fun σ => pass_no σ) ha hst hpl ht) fun σ H Q ⟨Z, g, q⟩ => ⟨Z, g, fun v H1 g1 x1 d1 => ?_⟩
  cases d1 with
  | obj e1 e2 =>
    refine ⟨_, _, _, rfl, g1.sub _ _ e1, look_no hx, Z, g1, fun vs H2 g2 x2 d2 => ?_⟩
    refine ⟨rg false Z H2 Γ, .obj d0 :: ds, .lst es, g2.sub, rg_noTbl g2, .cons (.obj (rg_ext x2 _ _ e1) (e2.to (rg_ext x2))) d2, h, g2.tab, fun es2 p ws H3 e x3 t3 hp d3 => ?_, fun c H' e => by cases e⟩
    cases e
    exact q p ws H3 (g2.to x3 t3) ((x1.trans x2).trans x3) hp (DaAll.imm (rg_tups (g2.to x3 t3)) es _ hi (d3.to (rg_after g2 x3)))
/-- o.m(..): a new list of what cannot change -/
theorem l_meth {R : List D → List D → Prop} (Wc : Wv X.K) (C : CalM X.prog X.w X.K X.mg X.base x ps k (spL T X.K R)) (hr : Room k X.A) (h : R (.obj d0 :: ds) es) (hi : immAll es = true) (ho : ED T X false Γ o (.obj d0)) (ha : AD T X false Γ (a :: es') ds) (hx : (x == ("known" : Str)) = false := by decide) {pl : Sem Bool}
    (hst : starEach (a :: es') X.env = (false, eval a X.env) :: starEach es' X.env := by rfl) (hpl : (backTo pos (starEach es' X.env)).any (·.1) = false := by rfl)
    (ht : eval (.Call (.Attribute o x apos) (a :: es') [] pos) X.env = (do
      let ov ← eval o X.env
      standAt apos.atName
      let (f, first) ← holding [ov] (getMethod ov x pl)
      callWith pos f first (backTo pos (starEach (a :: es') X.env)) (backToKw pos (keywordEach [] X.env))) := by rfl) : LD T X Γ (.Call (.Attribute o x apos) (a :: es') [] pos) es := by
  obtain ⟨f, fd, hm, hb, F⟩ := C.ex
  refine PE.imp' (pe_meth (pl := pl) ho Wc.cls hm F hr hb .nil pass0 ha hst hpl ht) fun σ H Q ⟨Z, g, q⟩ => ⟨Z, g, fun v H1 g1 x1 d1 => ?_⟩
  cases d1 with
  | obj e1 e2 =>
    refine ⟨_, _, _, rfl, g1.sub _ _ e1, look_no hx, Z, g1, fun vs H2 g2 x2 d2 => ?_⟩
    dsimp only
    rw [List.append_nil]
    exact ⟨rg false Z H2 Γ, .obj d0 :: ds, es, g2.sub, rg_noTbl g2, .cons (.obj (rg_ext x2 _ _ e1) (e2.to (rg_ext x2))) d2, h, g2.tab, fun r ws H3 x3 t3 hr3 d3 => q r ws H3 (g2.to x3 t3) ((x1.trans x2).trans x3) hr3 (DaAll.imm (rg_tups (g2.to x3 t3)) es _ hi (d3.to (rg_after g2 x3)))⟩
end
section
variable {T : Tb} {X : Cx} {Γ : Ev} {op : CmpOp} {a b : Expr}
theorem CD.as {k k' : Bool} (h : CD T X Γ op a b k) (q : k = k') : CD T X Γ op a b k' := q ▸ h
end
section
variable {α β : Type} {T : Tb} {X : Cx} {Γ : Ev} {elt : Expr} {scope : Scope} {pos tp ip : Pos} {x z : Str} {q : Addr} {as : List α} {f : α → D}
/-- [elt for x in an owned list] -/
theorem mpO (i2 j : Nat) (f' : β → D) {h : α → β} (nd : X.N.Nodup) (hn : as.length ≤ 16777216) (hi2 : Γ[i2]? = some (some (.ow q (.lst (as.map f))))) (ok : BlkOk X.N X.env.scope scope [(x, j)])
    (hg : ∀ (s : Shared) (H : Hp) (C : Addr) (cl : List (Str × Addr)) (fp : List Addr), PG (blkOf X scope s H C cl fp) (.Name x tp) (gName j))
    (he : ∀ (s : Shared) (H : Hp) (C : Addr) (cl : List (Str × Addr)) (fp : List Addr) (a : α), a ∈ as → ED T (blkOf X scope s H C cl fp) true ((Γ.set j none).set j (some (.sh (f a)))) elt (f' (h a)))
    (hk : (Γ.set j none)[i2]? = some (some (.ow q (.lst (as.map f)))) := by rfl) (hj : j < Γ.length := by exact Nat.le_of_ble_eq_true rfl) (ho : owns (Γ.set j none) = owns Γ := by rfl) (hup : ∀ d, owns ((Γ.set j none).set j (some (.sh d))) = owns (Γ.set j none) := by intro _; rfl)
    (hN : X.N[i2]? = some z := by rfl) (hv : Vis X.env.scope z := by first | exact Or.inl rfl | exact Or.inr (Or.inl rfl) | exact Or.inr (Or.inr rfl)) (hd : (z == ("__debug__" : Str)) = false := by decide) (hcd : (z == ("__classdict__" : Str)) = false := by decide)
    (hc : X.calm = true := by rfl) (hs : ∀ x, foldedSetIterable (.Name z ip) X.env x = pure x := by intro _; rfl) :
    LD T X Γ (.ListComp elt [⟨.Name x tp, .Name z ip, [], 0⟩] scope pos) ((as.map h).map f') := by
  have hl : (as.map f).length = as.length := by simp
  refine LD.as (l_comp (g := gName j) (keep := fun _ => true) (val := fun i => (as[i]?.map fun a => f' (h a)).getD .non) hc nd (src_own hi2 hN hv hd hcd) ok hg (fun s H C cl fp i _ => PTs.mk fun pins s' σ H' Q I ⟨Z, g, q⟩ => (pts_nil (X := blkOf X scope s H C cl fp)).run pins s' σ H' Q I (q H' g (Ext.refl H'))) (fun s H C cl fp i hi' hk => ?_) (by rw [hl]; exact hn) (by simpa using hj) (by simp) hk ho (fun i => hup _) hs) ?_
  · have hlt : i < as.length := by rw [← hl]; exact hi'
    have e : as[i]? = some as[i] := by simp [hlt]
    show ED T (blkOf X scope s H C cl fp) true ((Γ.set j none).set j (some (.sh ((as.map f).getD i .non)))) elt ((as[i]?.map fun a => f' (h a)).getD .non)
    rw [getD_map e, e]
    exact he s H C cl fp as[i] (List.getElem_mem hlt)
  · rw [hl, compD_list as (fun _ => true) (fun a => f' (h a)) _ _ (fun _ _ _ => rfl) (fun i a e => by simp [e]) as.length (Nat.le_refl _), List.take_length, List.filter_eq_self.mpr (by simp), List.map_map]
    rfl
end
end DD

/-! for a, b in a list of pairs. -/
namespace DD
open PySem PySem.Spec L2
section
variable {T : Tb} {X : Cx} {Γ : Ev} {e : Expr} {ds : List D} {j1 j2 : Nat} {elts : List Expr} {kk : Nat} {tpos pos : Pos}
theorem stp_pairs {K : PySem.W.Frag} {a : Addr} {f g : Nat → D} (hd : ∀ i, i < ds.length → ds.getD i .non = .tup [f i, g i]) : Stp T K (Itl K a) (g2 K j1 j2) ds.length [j1, j2] (upN2 j1 j2 f g) (GoodL K a ds) where
  stop := fun Z H σ Γ g ⟨vs, e1, e2⟩ => ⟨vs, SqL.of e1, by rw [e2.length]; exact Nat.le_refl _⟩
  turn := fun Z i H σ Γ hi g ⟨vs, e1, e2⟩ hj => by
    have hl := e2.length
    have hv : i < vs.length := by omega
    refine ⟨⟨vs, vs[i], SqL.of e1, by simp [hv]⟩, fun v H' y Q q => ?_⟩
    obtain ⟨rfl, y⟩ := y
    have hx := y vs (SqL.of e1)
    obtain ⟨d, hdd, h⟩ := e2.get' hx
    have ed := hd i hi
    rw [List.getD_eq_getElem?_getD, hdd] at ed
    have ed' : d = .tup [f i, _] := ed
    rw [ed'] at h
    cases h with
    | tup t1 t2 =>
      cases t2 with
      | cons a1 a2 =>
        cases a2 with
        | cons a2 a3 =>
          cases a3
          exact take_pair g (SqT.of (g.sub _ _ t1)) a1 a2 (hj j1 (by simp)) (hj j2 (by simp)) fun σ2 g2 hw => q σ2 _ g2 (Ext.refl _) hw
theorem src_pairs {f g : Nat → D} (h : ED T X true Γ e (.lst ds)) (hd : ∀ i, i < ds.length → ds.getD i .non = .tup [f i, g i]) : PI X (.Tuple elts kk tpos) e (tSrc T X.K Γ (g2 X.K j1 j2) ds.length [j1, j2] (upN2 j1 j2 f g) fun _ => True) :=
  PI.imp' (pi_list h) fun σ H R ⟨Z, g, q⟩ => ⟨Z, g, fun v H1 g1 x1 d1 => by
    cases d1 with
    | lst e1 e2 =>
      exact ⟨_, rfl, ⟨_, SqL.of (g1.sub _ _ e1)⟩, q _ (GoodL X.K _ ds) H1 g1 x1 (stp_pairs hd) fun Z2 H2 σ2 Γ2 g2 sm _ _ => ⟨_, g2.sub _ _ (g2.base _ _ (sm _ _ e1)), (e2.to sm).to g2.base⟩⟩⟩
variable {α : Type} {as : List α} {f g : α → D} {iter : Expr} {tp : Pos} {rest body : List Stmt} {P : Pst}
/-- for x, y in a stable list of pairs -/
theorem s_forP (j1 j2 : Nat) {elts : List Expr} {kk : Nat} (Γs : Nat → Ev) (L : Nat) (hi : ED T X true Γ iter (.lst (as.map fun a => .tup [f a, g a]))) (hg : PG X (.Tuple elts kk tp) (g2 X.K j1 j2)) (h0 : Wk Γ (Γs 0)) (hL : ∀ k, (Γs k).length = L) (hj1 : j1 < L) (hj2 : j2 < L)
    (hb : ∀ (k : Nat) (a : α), as[k]? = some a → SD T X (((Γs k).set j1 (some (.sh (f a)))).set j2 (some (.sh (g a)))) body { P with nx := fun Γ' => Wk Γ' (Γs (k + 1)) }) (hr : SD T X (Γs as.length) rest P)
    (hp : PassesOwn (model X.prog X.w) X.A X.env X.xe := by first | exact PassesOwn.never | exact L2.passes_of rfl | assumption) (hc : X.calm = true := by rfl) (hs : ∀ x, foldedSetIterable iter X.env x = pure x := by intro _; rfl) :
    SD T X Γ (.For (.Tuple elts kk tp) iter body [] pos :: rest) P := by
  have hl : (as.map fun a => D.tup [f a, g a]).length = as.length := by simp
  refine s_for Γs L (src_pairs (f := fun i => (as[i]?.map f).getD .non) (g := fun i => (as[i]?.map g).getD .non) hi (fun i hi => ?_)) hg h0 (fun _ _ => trivial) hL (by intro j hj; simp only [List.mem_cons, List.not_mem_nil, or_false] at hj; rcases hj with rfl | rfl <;> assumption) (fun k hk => ?_) (by rw [hl]; exact hr) hp hc hs
  · have hlt : i < as.length := by rw [← hl]; exact hi
    have e : as[i]? = some as[i] := by simp [hlt]
    rw [getD_map e, e]; rfl
  · have hlt : k < as.length := by rw [← hl]; exact hk
    have e : as[k]? = some as[k] := by simp [hlt]
    show SD T X (((Γs k).set j1 (some (.sh ((as[k]?.map f).getD .non)))).set j2 (some (.sh ((as[k]?.map g).getD .non)))) body _
    rw [e]
    exact hb k _ e
end
section
variable {α β : Type} {T : Tb} {X : Cx} {Γ : Ev} {elt iter t : Expr} {scope : Scope} {pos tp cpos px : Pos} {x y : Str} {as : List α} {f : α → D} {rest : List Stmt} {P : Pst}
/-- name = [elt for x in a stable list if t], on one line -/
theorem s_flL (i j : Nat) (f' : β → D) {h : α → β} {p : α → Bool} (nd : X.N.Nodup) (hn : as.length ≤ 16777216) (hi : ED T X true Γ iter (.lst (as.map f))) (ok : BlkOk X.N X.env.scope scope [(x, j)])
    (hg : ∀ (s : Shared) (H : Hp) (C : Addr) (cl : List (Str × Addr)) (fp : List Addr), PG (blkOf X scope s H C cl fp) (.Name x tp) (gName j))
    (ht : ∀ (s : Shared) (H : Hp) (C : Addr) (cl : List (Str × Addr)) (fp : List Addr) (a : α), a ∈ as → BD T (blkOf X scope s H C cl fp) ((Γ.set j none).set j (some (.sh (f a)))) t (p a))
    (he : ∀ (s : Shared) (H : Hp) (C : Addr) (cl : List (Str × Addr)) (fp : List Addr) (a : α), a ∈ as → p a = true → ED T (blkOf X scope s H C cl fp) true ((Γ.set j none).set j (some (.sh (f a)))) elt (f' (h a)))
    (hr : ∀ r, SD T X (Γ.set i (some (.ow r (.lst (((as.filter p).map h).map f'))))) rest P)
    (hj : j < Γ.length := by exact Nat.le_of_ble_eq_true rfl) (ho : owns (Γ.set j none) = owns Γ := by rfl) (hup : ∀ d, owns ((Γ.set j none).set j (some (.sh d))) = owns (Γ.set j none) := by intro _; rfl)
    (hl : i < Γ.length := by exact Nat.le_of_ble_eq_true rfl) (hy : X.N[i]? = some y := by rfl) (hyl : X.env.scope.names.lookup y = some .local := by rfl)
    (hsw : swapsWith (.ListComp elt [⟨.Name x tp, iter, [t], 0⟩] scope cpos) (some (.Name y px)) pos.line X.env = pure true := by exact sw_true rfl rfl rfl (by decide +kernel)) (hc : X.calm = true := by rfl) (hs : ∀ x, foldedSetIterable iter X.env x = pure x := by intro _; rfl) :
    SD T X Γ (.Assign [.Name y px] (.ListComp elt [⟨.Name x tp, iter, [t], 0⟩] scope cpos) pos :: rest) P := by
  have hlen : (as.map f).length = as.length := by simp
  have ev : compD (fun i => (as[i]?.map p).getD false) (fun i => (as[i]?.map fun a => f' (h a)).getD .non) (as.map f).length = ((as.filter p).map h).map f' := by
    rw [hlen, compD_list as p (fun a => f' (h a)) _ _ (fun i a e => by simp [e]) (fun i a e => by simp [e]) as.length (Nat.le_refl _), List.take_length, List.map_map]
    rfl
  refine s_setLc i (g := gName j) (keep := fun i => (as[i]?.map p).getD false) (val := fun i => (as[i]?.map fun a => f' (h a)).getD .non) nd (src_list hi) ok hg (fun s H C cl fp i hi' => pts_one ?_) (fun s H C cl fp i hi' hk => ?_) (fun p => by rw [ev]; exact hr p) (by rw [hlen]; exact hn) (by simpa using hj) (by simp) trivial ho (fun i => hup _) hl hy hyl hsw hc hs
  · have hlt : i < as.length := by rw [← hlen]; exact hi'
    have e : as[i]? = some as[i] := by simp [hlt]
    show BD T (blkOf X scope s H C cl fp) ((Γ.set j none).set j (some (.sh ((as.map f).getD i .non)))) t ((as[i]?.map p).getD false)
    rw [getD_map e, e]
    exact ht s H C cl fp as[i] (List.getElem_mem hlt)
  · have hlt : i < as.length := by rw [← hlen]; exact hi'
    have e : as[i]? = some as[i] := by simp [hlt]
    show ED T (blkOf X scope s H C cl fp) true ((Γ.set j none).set j (some (.sh ((as.map f).getD i .non)))) elt ((as[i]?.map fun a => f' (h a)).getD .non)
    rw [e] at hk
    rw [getD_map e, e]
    exact he s H C cl fp as[i] (List.getElem_mem hlt) hk
variable {ps : List Str} {k : Nat} {d0 : D} {es : List D} {o : Expr} {apos : Pos}
/-- o.m(), a new list, o stable -/
theorem l_meth0T {R : List D → List D → Prop} (W : Wv X.K) (C : CalM X.prog X.w X.K X.mg X.base x ps k (spL T X.K R)) (hr : Room k X.A) (h : R [.obj d0] es) (ho : ED T X true Γ o (.obj d0)) (hx : (x == ("known" : Str)) = false := by decide) {pl : Sem Bool}
    (ht : eval (.Call (.Attribute o x apos) [] [] pos) X.env = (do
      let ov ← eval o X.env
      standAt apos.atName
      let (f, first) ← holding [ov] (getMethod ov x pl)
      callWith pos f first (backTo pos (starEach [] X.env)) (backToKw pos (keywordEach [] X.env))) := by rfl) : LD T X Γ (.Call (.Attribute o x apos) [] [] pos) es := by
  obtain ⟨f, fd, hm, hb, F⟩ := C.ex
  refine PE.imp' (pe_meth0 (pl := pl) ho W.cls hm F hr hb .nil pass0 ht) fun σ H Q ⟨Z, g, q⟩ => ⟨Z, g, fun v H1 g1 x1 d1 => ?_⟩
  cases d1 with
  | obj e1 e2 =>
    refine ⟨_, _, _, rfl, g1.sub _ _ e1, by show (match x == ("known" : Str) with | true => _ | false => _) = none; rw [hx]; rfl, ?_⟩
    exact ⟨rg true Z H1 Γ, [.obj d0], es, g1.sub, rg_noTbl g1, .cons (.obj e1 e2) .nil, h, g1.tab, fun r ws H2 x2 t2 hr2 d2 => q r ws H2 (g1.to x2 t2) (x1.trans x2) hr2 (d2.to (rg_after g1 x2))⟩
end
end DD

/-! Calls that change the object of their first argument. -/
namespace DD
open PySem PySem.Spec L2
section
variable {T : Tb} {X : Cx} {Γ Γ' : Ev} {m : Bool} {e a b : Expr} {d d' r : D} {ds : List D} {es' : List Expr} {pos p cpos yp : Pos} {x y c : Str} {ps : List Str} {k : Nat} {P : Pst} {rest th : List Stmt} {o : Addr} {R : D → List D → OutM → Prop}
/-- f(name, a ..), the object that name alone tells is changed -/
theorem em_call (i : Nat) (C : CalX X.prog X.w X.K X.mg X.base x ps k (spMX T X.K R)) (hr : Room k X.A) (hi : Γ[i]? = some (some (.ow o (.obj d)))) (h : R d ds (.val r d')) (ha : AD T X true Γ es' ds)
    (hg : Gl X x := by rfl) (hdb : (x == ("__debug__" : Str)) = false := by decide) (hN : X.N[i]? = some y := by rfl) (hv : Vis X.env.scope y := by first | exact Or.inl rfl | exact Or.inr (Or.inl rfl) | exact Or.inr (Or.inr rfl)) (hd : (y == ("__debug__" : Str)) = false := by decide)
    (hcd : (y == ("__classdict__" : Str)) = false := by decide) (he : starEach (.Name y yp :: es') X.env = (false, eval (.Name y yp) X.env) :: starEach es' X.env := by rfl) (hpl : (backTo cpos (starEach es' X.env)).any (·.1) = false := by rfl) :
    EM T X Γ (Γ.set i (some (.ow o (.obj d')))) (.Call (.Name x p) (.Name y yp :: es') [] cpos) r := by
  obtain ⟨f, fd, hm, hk, hb, F⟩ := C.ex
  refine PE.imp' (pe_callS (E := fun _ _ _ _ => False) F hr hg hm hk.1 hb (fun σ => pass_no σ) (pa_cons (pe_var hN hv hd hcd) ha he) hdb he hpl) fun σ H Q ⟨Z, g, q⟩ => ?_
  obtain ⟨v, e1, ⟨a', dx, rfl, hins⟩, ow⟩ := g.slots i _ hi
  refine ⟨_, e1, Z, g, fun vs H2 g2 x2 d2 => ?_⟩
  obtain ⟨v2, e2, ⟨a2, dx2, ea, hins2⟩, ow2⟩ := g2.slots i _ hi
  have ev : V.ref a' = v2 := by
    have := e1.symm.trans e2
    simpa using this
  subst ev
  cases ea
  have hm2 : o ∈ owns Γ := mem_owns.mpr ⟨i, _, hi⟩
  have eo := owns_same Γ i o (.obj d) (.obj d') hi
  refine ⟨rg true Z H2 Γ, vs, ds, a', dx2, o, d, .val r d', rfl, same_mns g2 hm2, rg_noTbl g2, d2, hins2, ow2, h, g2.tab, fun r' d'' v H3 e x3 t3 o3 d3 => ?_, fun c H' e => by cases e⟩
  cases e
  refine q v H3 (g2.chg hi x3 t3 o3) ?_
  have er : rg true Z H3 (Γ.set i (some (.ow o (.obj d')))) = rg true Z H3 Γ := by
    funext b
    unfold rg
    rw [eo]
  rw [er]
  exact d3.to (g2.seen hm2 x3)
theorem bm_neI {i j : Int} (ha : EM T X Γ Γ' a (.int i)) (hb : ED T X true Γ' b (.int j)) (h1 : behindInMarks .NotEq b = false := by first | exact nobehind _ (by decide) (by decide) | rfl) : BM T X Γ Γ' (.Compare a [.NotEq] [b] pos) (!decide (i = j)) :=
  PT.imp' (pt_cmp (pc_opR op_ne ha hb) h1) fun σ H Q ⟨Z, g, q⟩ => ⟨Z, g, fun v H1 g1 d1 => ⟨Z, g1, fun u H2 g2 x2 d2 => by
    cases d1
    cases d2
    exact ⟨rfl, !decide (i = j), by simp, q H2 g2⟩⟩⟩
end
end DD

/-! name = what an owned list of truths was read for; name = [elt for x in range(n)]. -/
namespace DD
open PySem PySem.Spec L2
mutual
/-- no list of truths, no dict in it -/
def apd : D → Bool
  | .non => true
  | .bl _ => true
  | .int _ => true
  | .str _ => true
  | .tup xs => apds xs
  | .lst (.bl _ :: _) => false
  | .lst xs => apds xs
  | .adr _ => true
  | _ => false
def apds : List D → Bool
  | [] => true
  | d :: ds => apd d && apds ds
end
/-- what is lost from G to G' is a list of truths or a dict -/
def Lost (G G' : Hp) : Prop := ∀ a o, G a = some o → G' a = some o ∨ (∃ b vs, o = .lst (.bl b :: vs)) ∨ ∃ kvs, o = .dK kvs
theorem apds_map {α : Type} {f : α → D} (h : ∀ a, apd (f a) = true) : ∀ xs : List α, apds (xs.map f) = true
  | [] => rfl
  | x :: xs => by simp [apds, h x, apds_map h xs]
theorem apd_lst {xs : List D} (h : apds xs = true) (h2 : ∀ b r, xs ≠ .bl b :: r) : apd (.lst xs) = true := by
  cases xs with
  | nil => simp [apd, apds]
  | cons x xs => cases x <;> first | exact absurd rfl (h2 _ _) | (simp only [apd]; exact h)
section
variable {K : PySem.W.Frag} {G G' : Hp}
mutual
theorem Da.apart (s : Lost G G') : ∀ (d : D) (v : V), apd d = true → Da K G v d → Da K G' v d
  | .non, _, _, h => by cases h; exact .non
  | .bl b, _, _, h => by cases h; exact .bl b
  | .int b, _, _, h => by cases h; exact .int b
  | .str b, _, _, h => by
    cases h with
    | str _ q => exact .str b q
  | .lst ds, _, q, h => by
    cases h with
    | lst hs ha =>
      have q' : apds ds = true ∧ ∀ b r, ds ≠ .bl b :: r := by
        cases ds with
        | nil => exact ⟨by simp [apds], fun b r e => by cases e⟩
        | cons x xs => cases x <;> first | (simp [apd] at q; done) | exact ⟨by simpa only [apd] using q, fun b r e => by cases e⟩
      rcases s _ _ hs with r | ⟨b, vs, e⟩ | ⟨kvs, e⟩
      · exact .lst r (DaAll.apart s ds _ q'.1 ha)
      · cases e
        cases ha with
        | cons h1 h2 => cases h1; exact absurd rfl (q'.2 _ _)
      · cases e
  | .scr ds, _, q, h => by simp [DD.apd] at q
  | .tup ds, _, q, h => by
    cases h with
    | tup hs ha =>
      rcases s _ _ hs with r | ⟨b, vs, e⟩ | ⟨kvs, e⟩
      · exact .tup r (DaAll.apart s ds _ (by simpa [DD.apd] using q) ha)
      · cases e
      · cases e
  | .ktp ds, _, q, h => by simp [DD.apd] at q
  | .dic ks ds, _, q, h => by simp [DD.apd] at q
  | .dit ks ds, _, q, h => by simp [DD.apd] at q
  | .obj d, _, q, h => by simp [DD.apd] at q
  | .adr a, _, _, h => by cases h; exact .adr a
  | .exn c, _, q, h => by simp [DD.apd] at q
  | .fr S d, _, q, h => by simp [DD.apd] at q
theorem DaAll.apart (s : Lost G G') : ∀ (ds : List D) (vs : List V), apds ds = true → DaAll K G vs ds → DaAll K G' vs ds
  | [], _, _, h => by cases h; exact .nil
  | d :: ds, _, q, h => by
    have q' : DD.apd d = true ∧ apds ds = true := by simpa [apds] using q
    cases h with
    | cons h1 h2 => exact .cons (Da.apart s d _ q'.1 h1) (DaAll.apart s ds _ q'.2 h2)
end
end
/-- all that is owned is a list of truths, or an object -/
def okOw : Ev → Bool
  | [] => true
  | some (.ow _ (.lst (.bl _ :: _))) :: r => okOw r
  | some (.ow _ (.obj (.dic _ _))) :: r => okOw r
  | some (.ow _ _) :: _ => false
  | _ :: r => okOw r
theorem okOw_get : ∀ {Γ : Ev}, okOw Γ = true → ∀ (i : Nat) (p : Addr) (d : D), Γ[i]? = some (some (.ow p d)) → (∃ b r, d = .lst (.bl b :: r)) ∨ ∃ ks ds, d = .obj (.dic ks ds)
  | [], _, i, p, d, e => by simp at e
  | s :: Γ, h, i, p, d, e => by
    have key : okOw Γ = true ∧ ∀ q d', s = some (.ow q d') → (∃ b r, d' = .lst (.bl b :: r)) ∨ ∃ ks ds, d' = .obj (.dic ks ds) := by
      unfold okOw at h
      split at h
      · rename_i e2; cases e2
      · rename_i e2; cases e2; exact ⟨h, fun q d' z => by cases z; exact .inl ⟨_, _, rfl⟩⟩
      · rename_i e2; cases e2; exact ⟨h, fun q d' z => by cases z; exact .inr ⟨_, _, rfl⟩⟩
      · cases h
      · rename_i n1 n2 n3 e2
        cases e2
        exact ⟨h, fun q d' z => (n3 _ _ z).elim⟩
    cases i with
    | zero => simp at e; exact key.2 p d e
    | succ i => exact okOw_get key.1 i p d (by simpa using e)
section
variable {T : Tb} {X : Cx} {Γ : Ev} {e : Expr} {d : D} {pos px : Pos} {x : Str} {rest sts : List Stmt} {P : Pst}
theorem GOk.noex {T : Tb} {K : PySem.W.Frag} {Z : Zn} {H : Hp} {σ : St} {Γ : Ev} (g : GOk T K Z H σ Γ) : GOk T K { Z with ex := [] } H σ Γ := by
  have s : Same (rg true Z H Γ) (rg true { Z with ex := [] } H Γ) := fun a o h => by
    unfold rg at h ⊢
    by_cases q : (True ∧ a ∈ Z.ex ++ owns Γ)
    · rw [if_pos ⟨rfl, q.2⟩] at h; cases h
    · rw [if_neg (fun z => q ⟨trivial, z.2⟩)] at h
      rw [if_neg (fun z => q ⟨trivial, List.mem_append_right _ (by simpa using z.2)⟩)]
      exact h
  exact ⟨g.g0, g.gt, g.ext, g.tab, (List.nodup_append.mp g.nd).2.1, fun p hp => g.old p (List.mem_append_right _ (by simpa using hp)), (fun p hp => nomatch hp), g.len, fun i s' h => by
    obtain ⟨v, q1, q2⟩ := g.slots i s' h
    exact ⟨v, q1, q2.mono s (Ext.refl _)⟩, g.base.trans s⟩
theorem lost_of {T : Tb} {K : PySem.W.Frag} {Z : Zn} {H : Hp} {σ : St} {Γ : Ev} (g : GOk T K Z H σ Γ) (hx : Z.ex = []) (ho : okOw Γ = true) : Lost (rg false Z H Γ) (rg true Z H Γ) := fun a o h => by
  unfold rg at h ⊢
  rw [if_neg (fun z => by cases z.1)] at h
  by_cases q : a ∈ Z.ex ++ owns Γ
  · right
    have hn := g.old a q
    rw [hx, List.nil_append] at q
    obtain ⟨i, d, hi⟩ := mem_owns.mp q
    obtain ⟨v, _, _, ow⟩ := g.slots i _ hi
    have ha : H a = some o := by
      unfold gr at h
      rw [hn] at h
      exact (nt_some h).1
    rcases okOw_get ho i a d hi with ⟨b, r, rfl⟩ | ⟨ks, ds, rfl⟩
    · obtain ⟨vs, e1, e2⟩ := ow
      cases e2 with
      | cons h1 h2 =>
        cases h1
        rw [ha] at e1
        exact .inl ⟨b, _, Option.some.inj e1⟩
    · obtain ⟨kvs, e1, _⟩ := ow
      rw [ha] at e1
      exact .inr ⟨kvs, Option.some.inj e1⟩
  · left
    rw [if_neg (fun z => q z.2)]
    exact h
/-- at the top of a def: name = e, e has read owned lists of truths and tells none -/
theorem s_setA (i : Nat) (nd : X.N.Nodup) (he : ED T X false Γ e d) (ha : apd d = true) (ho : okOw Γ = true) (hr : SD T X (Γ.set i (some (.sh d))) rest P) (hnx : ∀ Γ', ¬ P.nx Γ') (hxc : ∀ c Γ', ¬ P.xc c Γ') (hrm : ∀ d Γ', ¬ P.rm d Γ') (hl : i < Γ.length := by exact Nat.le_of_ble_eq_true rfl) (hi : X.N[i]? = some x := by rfl) (hx : Loc X.env.scope x := by first | exact .inl rfl | exact .inr rfl)
    (hs : swapsWith e (some (.Name x px)) pos.line X.env = pure false := by rfl) (hf : X.fn x = true ∨ X.env.scope.names.lookup x = some .local := by first | exact .inl rfl | exact .inr rfl) : SD T X Γ (.Assign [.Name x px] e pos :: rest) P :=
  s_seq (ps_set nd hi hx he hs hf) hr fun E σ H ⟨Z, g, f⟩ => ⟨{ Z with ex := [] }, g.noex, fun v H1 g1 x1 d1 => ⟨{ Z with ex := [] }, g1.set hl (Da.apart (lost_of g1 rfl ho) d v ha d1), ⟨fun Γ' σ' H' w => absurd w (hnx _), f.rt, f.rl, f.ro, fun c Γ' σ' H' w => absurd w (hxc _ _), f.rn, fun d Γ' v σ' H' w => absurd w (hrm _ _), f.h0⟩⟩⟩
end
section
variable {β : Type} {T : Tb} {X : Cx} {Γ : Ev} {elt : Expr} {scope : Scope} {pos tp cpos px : Pos} {x y : Str} {rest : List Stmt} {P : Pst}
/-- name = [elt for x in range(n)], on one line -/
theorem s_mpR (i j : Nat) (f' : β → D) {h : Nat → β} {n : Int} {a : Expr} {rp rpos : Pos} (nd : X.N.Nodup) (hm : X.mg "range" = none) (hn : n.toNat ≤ 16777216) (hneg : -(2 ^ 62) ≤ n) (hi : ED T X true Γ a (.int n)) (ok : BlkOk X.N X.env.scope scope [(x, j)])
    (hg : ∀ (s : Shared) (H : Hp) (C : Addr) (cl : List (Str × Addr)) (fp : List Addr), PG (blkOf X scope s H C cl fp) (.Name x tp) (gName j))
    (he : ∀ (s : Shared) (H : Hp) (C : Addr) (cl : List (Str × Addr)) (fp : List Addr) (i : Nat), i < n.toNat → ED T (blkOf X scope s H C cl fp) true ((Γ.set j none).set j (some (.sh (.int (i : Nat))))) elt (f' (h i)))
    (hr : ∀ p, SD T X (Γ.set i (some (.ow p (.lst (((List.range n.toNat).map h).map f'))))) rest P)
    (hj : j < Γ.length := by exact Nat.le_of_ble_eq_true rfl) (ho : owns (Γ.set j none) = owns Γ := by rfl) (hup : ∀ d, owns ((Γ.set j none).set j (some (.sh d))) = owns (Γ.set j none) := by intro _; rfl)
    (hl : i < Γ.length := by exact Nat.le_of_ble_eq_true rfl) (hy : X.N[i]? = some y := by rfl) (hyl : X.env.scope.names.lookup y = some .local := by rfl)
    (hsw : swapsWith (.ListComp elt [⟨.Name x tp, .Call (.Name "range" rp) [a] [] rpos, [], 0⟩] scope cpos) (some (.Name y px)) pos.line X.env = pure true := by exact sw_true rfl rfl rfl (by decide +kernel)) (hc : X.calm = true := by rfl) (hgl : Gl X "range" := by rfl) (hst : starEach [a] X.env = [(false, eval a X.env)] := by rfl)
    (hs : ∀ x, foldedSetIterable (.Call (.Name "range" rp) [a] [] rpos) X.env x = pure x := by intro _; rfl) :
    SD T X Γ (.Assign [.Name y px] (.ListComp elt [⟨.Name x tp, .Call (.Name "range" rp) [a] [] rpos, [], 0⟩] scope cpos) pos :: rest) P := by
  have ev : compD (fun _ => true) (fun i => f' (h i)) n.toNat = ((List.range n.toNat).map h).map f' := by
    unfold compD
    rw [List.filter_eq_self.mpr (by simp), List.map_map]
    rfl
  refine s_setLc i (g := gName j) (keep := fun _ => true) (val := fun i => f' (h i)) nd (src_range hm hneg (by omega) hi hgl hst) ok hg (fun s H C cl fp i _ => PTs.mk fun pins s' σ H' Q I ⟨Z, g, q⟩ => (pts_nil (X := blkOf X scope s H C cl fp)).run pins s' σ H' Q I (q H' g (Ext.refl H'))) (fun s H C cl fp i hi' _ => ?_) (fun p => by rw [ev]; exact hr p) hn (by simpa using hj) (by simp) trivial ho (fun i => hup _) hl hy hyl hsw hc hs
  show ED T (blkOf X scope s H C cl fp) true ((Γ.set j none).set j (some (.sh (.int (0 + (i : Int)))))) elt (f' (h i))
  rw [Int.zero_add]
  exact he s H C cl fp i hi'
end
end DD

/-! [elt for x, y in a list of pairs]. -/
namespace DD
open PySem PySem.Spec L2
section
variable {T : Tb} {X : Cx} {Γ : Ev} {iter : Expr} {pos tp : Pos} {x : Str} {α : Type} {as : List α} {f g : α → D} {elt : Expr} {scope : Scope}
theorem mpP (j1 j2 : Nat) {γ : Type} (f' : γ → D) {h : α → γ} {x1 x2 : Str} {elts : List Expr} {kk : Nat} (nd : X.N.Nodup) (hn : as.length ≤ 16777216) (hi : ED T X true Γ iter (.lst (as.map fun a => .tup [f a, g a]))) (ok : BlkOk X.N X.env.scope scope [(x1, j1), (x2, j2)])
    (hg : ∀ (s : Shared) (H : Hp) (C : Addr) (cl : List (Str × Addr)) (fp : List Addr), PG (blkOf X scope s H C cl fp) (.Tuple elts kk tp) (g2 X.K j1 j2))
    (he : ∀ (s : Shared) (H : Hp) (C : Addr) (cl : List (Str × Addr)) (fp : List Addr) (a : α), a ∈ as → ED T (blkOf X scope s H C cl fp) true (((wipeE Γ [j1, j2]).set j1 (some (.sh (f a)))).set j2 (some (.sh (g a)))) elt (f' (h a)))
    (hj1 : j1 < Γ.length := by exact Nat.le_of_ble_eq_true rfl) (hj2 : j2 < Γ.length := by exact Nat.le_of_ble_eq_true rfl) (ho : owns (wipeE Γ [j1, j2]) = owns Γ := by rfl) (hup : ∀ d d', owns (((wipeE Γ [j1, j2]).set j1 (some (.sh d))).set j2 (some (.sh d'))) = owns (wipeE Γ [j1, j2]) := by intro _ _; rfl) (hc : X.calm = true := by rfl)
    (hs : ∀ x, foldedSetIterable iter X.env x = pure x := by intro _; rfl) :
    LD T X Γ (.ListComp elt [⟨.Tuple elts kk tp, iter, [], 0⟩] scope pos) ((as.map h).map f') := by
  have hl : (as.map fun a => D.tup [f a, g a]).length = as.length := by simp
  refine LD.as (l_comp (g := g2 X.K j1 j2) (keep := fun _ => true) (val := fun i => (as[i]?.map fun a => f' (h a)).getD .non) hc nd (src_pairs (f := fun i => (as[i]?.map f).getD .non) (g := fun i => (as[i]?.map g).getD .non) hi (fun i hi => ?_)) ok hg (fun s H C cl fp i _ => PTs.mk fun pins s' σ H' Q I ⟨Z, g, q⟩ => (pts_nil (X := blkOf X scope s H C cl fp)).run pins s' σ H' Q I (q H' g (Ext.refl H'))) (fun s H C cl fp i hi' _ => ?_) (by rw [hl]; exact hn) (by intro j hj; simp only [List.mem_cons, List.not_mem_nil, or_false] at hj; rcases hj with rfl | rfl <;> assumption) (by simp) trivial ho (fun i => hup _ _) hs) ?_
  · have hlt : i < as.length := by rw [← hl]; exact hi
    have e : as[i]? = some as[i] := by simp [hlt]
    rw [getD_map e, e]; rfl
  · have hlt : i < as.length := by rw [← hl]; exact hi'
    have e : as[i]? = some as[i] := by simp [hlt]
    show ED T (blkOf X scope s H C cl fp) true (((wipeE Γ [j1, j2]).set j1 (some (.sh ((as[i]?.map f).getD .non)))).set j2 (some (.sh ((as[i]?.map g).getD .non)))) elt ((as[i]?.map fun a => f' (h a)).getD .non)
    rw [e]
    exact he s H C cl fp as[i] (List.getElem_mem hlt)
  · rw [hl, compD_list as (fun _ => true) (fun a => f' (h a)) _ _ (fun _ _ _ => rfl) (fun i a e => by simp [e]) as.length (Nat.le_refl _), List.take_length, List.filter_eq_self.mpr (by simp), List.map_map]
    rfl
end
end DD

/-! The defs of the joined program. -/
namespace KK
open PySem PySem.Spec L2 DD
def top (i : Nat) : Stmt := PySem.Challenge.pw_patchweave_k09_whole_any_order.main.body.getD i (.Pass ⟨0, 0, 0, 0⟩)
abbrev st_is_name : Stmt := top 14
abbrev nm_is_name : List Str := ["thing", "sign"]
theorem sc_is_name : FnScope nm_is_name ["thing"] (defScope st_is_name) := ⟨rfl, rfl, rfl, by decide +kernel, rfl, by decide +kernel, by decide +kernel⟩
theorem nd_is_name : (nm_is_name : List Str).Nodup := by decide +kernel
abbrev st_is_line : Stmt := top 15
abbrev nm_is_line : List Str := ["thing", "sign"]
theorem sc_is_line : FnScope nm_is_line ["thing"] (defScope st_is_line) := ⟨rfl, rfl, rfl, by decide +kernel, rfl, by decide +kernel, by decide +kernel⟩
theorem nd_is_line : (nm_is_line : List Str).Nodup := by decide +kernel
abbrev st_is_rising : Stmt := top 16
abbrev nm_is_rising : List Str := ["names", "one", "other"]
theorem sc_is_rising : FnScope nm_is_rising ["names"] (defScope st_is_rising) := ⟨rfl, rfl, rfl, by decide +kernel, rfl, by decide +kernel, by decide +kernel⟩
theorem nd_is_rising : (nm_is_rising : List Str).Nodup := by decide +kernel
abbrev st_is_deed : Stmt := top 17
abbrev nm_is_deed : List Str := ["deed"]
theorem sc_is_deed : FnScope nm_is_deed ["deed"] (defScope st_is_deed) := ⟨rfl, rfl, rfl, by decide +kernel, rfl, by decide +kernel, by decide +kernel⟩
theorem nd_is_deed : (nm_is_deed : List Str).Nodup := by decide +kernel
abbrev st_check : Stmt := top 18
abbrev nm_check : List Str := ["change", "name", "leans", "deeds", "deed", "lean"]
theorem sc_check : FnScope nm_check ["change"] (defScope st_check) := ⟨rfl, rfl, rfl, by decide +kernel, rfl, by decide +kernel, by decide +kernel⟩
theorem nd_check : (nm_check : List Str).Nodup := by decide +kernel
abbrev st_adds_of : Stmt := top 19
abbrev nm_adds_of : List Str := ["change", "deed"]
theorem sc_adds_of : FnScope nm_adds_of ["change"] (defScope st_adds_of) := ⟨rfl, rfl, rfl, by decide +kernel, rfl, by decide +kernel, by decide +kernel⟩
theorem nd_adds_of : (nm_adds_of : List Str).Nodup := by decide +kernel
abbrev st_copied : Stmt := top 20
abbrev nm_copied : List Str := ["change"]
theorem sc_copied : FnScope nm_copied ["change"] (defScope st_copied) := ⟨rfl, rfl, rfl, by decide +kernel, rfl, by decide +kernel, by decide +kernel⟩
theorem nd_copied : (nm_copied : List Str).Nodup := by decide +kernel
abbrev st_heights : Stmt := top 22
abbrev nm_heights : List Str := ["known", "found", "left", "later", "name", "leans", "lean"]
theorem sc_heights : FnScope nm_heights ["known"] (defScope st_heights) := ⟨rfl, rfl, rfl, by decide +kernel, rfl, by decide +kernel, by decide +kernel⟩
theorem nd_heights : (nm_heights : List Str).Nodup := by decide +kernel
abbrev st_ground_of : Stmt := top 23
abbrev nm_ground_of : List Str := ["known", "names", "found", "waiting", "name"]
theorem sc_ground_of : FnScope nm_ground_of ["known", "names"] (defScope st_ground_of) := ⟨rfl, rfl, rfl, by decide +kernel, rfl, by decide +kernel, by decide +kernel⟩
theorem nd_ground_of : (nm_ground_of : List Str).Nodup := by decide +kernel
abbrev st_in_order : Stmt := top 24
abbrev nm_in_order : List Str := ["known", "height", "names"]
theorem sc_in_order : FnScope nm_in_order ["known"] (defScope st_in_order) := ⟨rfl, rfl, rfl, by decide +kernel, rfl, by decide +kernel, by decide +kernel⟩
theorem nd_in_order : (nm_in_order : List Str).Nodup := by decide +kernel
abbrev st_own_adds : Stmt := top 26
abbrev nm_own_adds : List Str := ["change", "count", "deed"]
theorem sc_own_adds : FnScope nm_own_adds ["change", "count"] (defScope st_own_adds) := ⟨rfl, rfl, rfl, by decide +kernel, rfl, by decide +kernel, by decide +kernel⟩
theorem nd_own_adds : (nm_own_adds : List Str).Nodup := by decide +kernel
abbrev st_done : Stmt := top 27
abbrev nm_done : List Str := ["known", "row", "words", "gone", "name", "number", "deed", "at"]
theorem sc_done : FnScope nm_done ["known"] (defScope st_done) := ⟨rfl, rfl, rfl, by decide +kernel, rfl, by decide +kernel, by decide +kernel⟩
theorem nd_done : (nm_done : List Str).Nodup := by decide +kernel
abbrev st_l_cell : Stmt := top 30
abbrev nm_l_cell : List Str := ["_law_script", "_law_k"]
theorem sc_l_cell : FnScope nm_l_cell ["_law_script", "_law_k"] (defScope st_l_cell) := ⟨rfl, rfl, rfl, by decide +kernel, rfl, by decide +kernel, by decide +kernel⟩
theorem nd_l_cell : (nm_l_cell : List Str).Nodup := by decide +kernel
abbrev st_l_mixed : Stmt := top 31
abbrev nm_l_mixed : List Str := ["_law_cell_here", "_law_k"]
theorem sc_l_mixed : FnScope nm_l_mixed ["_law_cell_here", "_law_k"] (defScope st_l_mixed) := ⟨rfl, rfl, rfl, by decide +kernel, rfl, by decide +kernel, by decide +kernel⟩
theorem nd_l_mixed : (nm_l_mixed : List Str).Nodup := by decide +kernel
abbrev st_l_name : Stmt := top 32
abbrev nm_l_name : List Str := ["_law_cell_here", "_law_taken", "_law_signs", "_law_left", "_law_found", "_law_at", "_law_j"]
theorem sc_l_name : FnScope nm_l_name ["_law_cell_here", "_law_taken"] (defScope st_l_name) := ⟨rfl, rfl, rfl, by decide +kernel, rfl, by decide +kernel, by decide +kernel⟩
theorem nd_l_name : (nm_l_name : List Str).Nodup := by decide +kernel
abbrev st_l_line : Stmt := top 33
abbrev nm_l_line : List Str := ["_law_cell_here", "_law_some", "_law_size", "_law_found", "_law_j"]
theorem sc_l_line : FnScope nm_l_line ["_law_cell_here"] (defScope st_l_line) := ⟨rfl, rfl, rfl, by decide +kernel, rfl, by decide +kernel, by decide +kernel⟩
theorem nd_l_line : (nm_l_line : List Str).Nodup := by decide +kernel
abbrev st_l_leans : Stmt := top 34
abbrev nm_l_leans : List Str := ["_law_cell_here", "_law_ahead", "_law_left", "_law_found", "_law_k", "_law_change", "_law_last"]
theorem sc_l_leans : FnScope nm_l_leans ["_law_cell_here", "_law_ahead"] (defScope st_l_leans) := ⟨rfl, rfl, rfl, by decide +kernel, rfl, by decide +kernel, by decide +kernel⟩
theorem nd_l_leans : (nm_l_leans : List Str).Nodup := by decide +kernel
abbrev st_l_marks : Stmt := top 35
abbrev nm_l_marks : List Str := ["_law_change", "_law_many", "_law_deed", "_law_j"]
theorem sc_l_marks : FnScope nm_l_marks ["_law_change"] (defScope st_l_marks) := ⟨rfl, rfl, rfl, by decide +kernel, rfl, by decide +kernel, by decide +kernel⟩
theorem nd_l_marks : (nm_l_marks : List Str).Nodup := by decide +kernel
abbrev st_l_deeds : Stmt := top 36
abbrev nm_l_deeds : List Str := ["_law_name_here", "_law_cell_here", "_law_many", "_law_marks_here", "_law_deeds_here", "_law_own", "_law_k", "_law_known", "_law_left", "_law_at", "_law_line_here", "_law_mark", "_law_j"]
theorem sc_l_deeds : FnScope nm_l_deeds ["_law_name_here", "_law_cell_here", "_law_many", "_law_marks_here"] (defScope st_l_deeds) := ⟨rfl, rfl, rfl, by decide +kernel, rfl, by decide +kernel, by decide +kernel⟩
theorem nd_l_deeds : (nm_l_deeds : List Str).Nodup := by decide +kernel
abbrev st_l_changes : Stmt := top 37
abbrev nm_l_changes : List Str := ["_law_cells", "_law_most", "_law_found", "_law_taken", "_law_k", "_law_name_here", "_law_leans_here", "_law_marks_here", "_law_change", "_law_many"]
theorem sc_l_changes : FnScope nm_l_changes ["_law_cells", "_law_most"] (defScope st_l_changes) := ⟨rfl, rfl, rfl, by decide +kernel, rfl, by decide +kernel, by decide +kernel⟩
theorem nd_l_changes : (nm_l_changes : List Str).Nodup := by decide +kernel
abbrev st_l_copy : Stmt := top 38
abbrev nm_l_copy : List Str := ["_law_change"]
theorem sc_l_copy : FnScope nm_l_copy ["_law_change"] (defScope st_l_copy) := ⟨rfl, rfl, rfl, by decide +kernel, rfl, by decide +kernel, by decide +kernel⟩
theorem nd_l_copy : (nm_l_copy : List Str).Nodup := by decide +kernel
abbrev st_l_turned : Stmt := top 39
abbrev nm_l_turned : List Str := ["_law_changes_here", "_law_cell_here", "_law_left", "_law_there", "_law_found", "_law_ready", "_law_change", "_law_lean"]
theorem sc_l_turned : FnScope nm_l_turned ["_law_changes_here", "_law_cell_here"] (defScope st_l_turned) := ⟨rfl, rfl, rfl, by decide +kernel, rfl, by decide +kernel, by decide +kernel⟩
theorem nd_l_turned : (nm_l_turned : List Str).Nodup := by decide +kernel
abbrev st_l_heights : Stmt := top 40
abbrev nm_l_heights : List Str := ["_law_changes_here", "_law_found", "_law_change", "_law_lean"]
theorem sc_l_heights : FnScope nm_l_heights ["_law_changes_here"] (defScope st_l_heights) := ⟨rfl, rfl, rfl, by decide +kernel, rfl, by decide +kernel, by decide +kernel⟩
theorem nd_l_heights : (nm_l_heights : List Str).Nodup := by decide +kernel
abbrev st_l_model : Stmt := top 41
abbrev nm_l_model : List Str := ["_law_changes_here", "_law_height", "_law_order", "_law_row", "_law_words", "_law_gone", "_law_change", "_law_own", "_law_deed", "_law_at", "_law_mark"]
theorem sc_l_model : FnScope nm_l_model ["_law_changes_here"] (defScope st_l_model) := ⟨rfl, rfl, rfl, by decide +kernel, rfl, by decide +kernel, by decide +kernel⟩
theorem nd_l_model : (nm_l_model : List Str).Nodup := by decide +kernel
abbrev st_l_mark_like : Stmt := top 42
abbrev nm_l_mark_like : List Str := ["_law_found", "_law_due"]
theorem sc_l_mark_like : FnScope nm_l_mark_like ["_law_found", "_law_due"] (defScope st_l_mark_like) := ⟨rfl, rfl, rfl, by decide +kernel, rfl, by decide +kernel, by decide +kernel⟩
theorem nd_l_mark_like : (nm_l_mark_like : List Str).Nodup := by decide +kernel
abbrev st_l_row_like : Stmt := top 43
abbrev nm_l_row_like : List Str := ["_law_found", "_law_due", "_law_one", "_law_other"]
theorem sc_l_row_like : FnScope nm_l_row_like ["_law_found", "_law_due"] (defScope st_l_row_like) := ⟨rfl, rfl, rfl, by decide +kernel, rfl, by decide +kernel, by decide +kernel⟩
theorem nd_l_row_like : (nm_l_row_like : List Str).Nodup := by decide +kernel
abbrev st_l_told_like : Stmt := top 44
abbrev nm_l_told_like : List Str := ["_law_found", "_law_due", "_law_one", "_law_other"]
theorem sc_l_told_like : FnScope nm_l_told_like ["_law_found", "_law_due"] (defScope st_l_told_like) := ⟨rfl, rfl, rfl, by decide +kernel, rfl, by decide +kernel, by decide +kernel⟩
theorem nd_l_told_like : (nm_l_told_like : List Str).Nodup := by decide +kernel
abbrev st_l_texts_like : Stmt := top 45
abbrev nm_l_texts_like : List Str := ["_law_found", "_law_due", "_law_one"]
theorem sc_l_texts_like : FnScope nm_l_texts_like ["_law_found", "_law_due"] (defScope st_l_texts_like) := ⟨rfl, rfl, rfl, by decide +kernel, rfl, by decide +kernel, by decide +kernel⟩
theorem nd_l_texts_like : (nm_l_texts_like : List Str).Nodup := by decide +kernel
abbrev st_l_one_stands : Stmt := top 46
abbrev nm_l_one_stands : List Str := ["_law_weave", "_law_row", "_law_told", "_law_names", "_law_at", "_law_found", "_law_good", "_law_pair"]
theorem sc_l_one_stands : FnScope nm_l_one_stands ["_law_weave", "_law_row", "_law_told", "_law_names", "_law_at"] (defScope st_l_one_stands) := ⟨rfl, rfl, rfl, by decide +kernel, rfl, by decide +kernel, by decide +kernel⟩
theorem nd_l_one_stands : (nm_l_one_stands : List Str).Nodup := by decide +kernel
abbrev st_l_stands : Stmt := top 47
abbrev nm_l_stands : List Str := ["_law_weave", "_law_changes_here", "_law_row", "_law_told", "_law_names", "_law_turn", "_law_at", "_law_change"]
theorem sc_l_stands : FnScope nm_l_stands ["_law_weave", "_law_changes_here"] (defScope st_l_stands) := ⟨rfl, rfl, rfl, by decide +kernel, rfl, by decide +kernel, by decide +kernel⟩
theorem nd_l_stands : (nm_l_stands : List Str).Nodup := by decide +kernel
abbrev st_l_row_right : Stmt := top 48
abbrev nm_l_row_right : List Str := ["_law_row", "_law_changes_here", "_law_marks_here", "_law_change", "_law_own", "_law_deed"]
theorem sc_l_row_right : FnScope nm_l_row_right ["_law_row", "_law_changes_here"] (defScope st_l_row_right) := ⟨rfl, rfl, rfl, by decide +kernel, rfl, by decide +kernel, by decide +kernel⟩
theorem nd_l_row_right : (nm_l_row_right : List Str).Nodup := by decide +kernel
abbrev st_l_wide : Stmt := top 49
abbrev nm_l_wide : List Str := ["_law_cells", "_law_flag", "_law_most", "_law_found", "_law_j"]
theorem sc_l_wide : FnScope nm_l_wide ["_law_cells", "_law_flag", "_law_most"] (defScope st_l_wide) := ⟨rfl, rfl, rfl, by decide +kernel, rfl, by decide +kernel, by decide +kernel⟩
theorem nd_l_wide : (nm_l_wide : List Str).Nodup := by decide +kernel
abbrev st_l_hold : Stmt := top 50
abbrev nm_l_hold : List Str := ["_law_weave", "_law_held_here", "_law_some"]
theorem sc_l_hold : FnScope nm_l_hold ["_law_weave", "_law_held_here"] (defScope st_l_hold) := ⟨rfl, rfl, rfl, by decide +kernel, rfl, by decide +kernel, by decide +kernel⟩
theorem nd_l_hold : (nm_l_hold : List Str).Nodup := by decide +kernel
abbrev st_l_held : Stmt := top 51
abbrev nm_l_held : List Str := ["_law_held_here", "_law_one", "_law_other"]
theorem sc_l_held : FnScope nm_l_held ["_law_held_here"] (defScope st_l_held) := ⟨rfl, rfl, rfl, by decide +kernel, rfl, by decide +kernel, by decide +kernel⟩
theorem nd_l_held : (nm_l_held : List Str).Nodup := by decide +kernel
abbrev st_law : Stmt := top 52
abbrev nm_law : List Str := ["_law_script", "_law_changes_here", "_law_weaves", "_law_held_here", "_law_turn", "_law_weave", "_law_change", "_law_handed"]
theorem sc_law : FnScope nm_law ["_law_script"] (defScope st_law) := ⟨rfl, rfl, rfl, by decide +kernel, rfl, by decide +kernel, by decide +kernel⟩
theorem nd_law : (nm_law : List Str).Nodup := by decide +kernel
def bodyC : Stmt → List Stmt
  | .ClassDef _ _ _ b _ _ _ _ _ _ _ => b
  | _ => []
def ctop (i j : Nat) : Stmt := (bodyC (top i)).getD j (.Pass ⟨0, 0, 0, 0⟩)
abbrev st_Weave___init__ : Stmt := ctop 28 0
abbrev nm_Weave___init__ : List Str := ["self"]
theorem sc_Weave___init__ : FnScope nm_Weave___init__ ["self"] (defScope st_Weave___init__) := ⟨rfl, rfl, rfl, by decide +kernel, rfl, by decide +kernel, by decide +kernel⟩
theorem nd_Weave___init__ : (nm_Weave___init__ : List Str).Nodup := by decide +kernel
abbrev st_Weave_add : Stmt := ctop 28 1
abbrev nm_Weave_add : List Str := ["self", "change", "name", "leans", "deeds", "lean", "at", "deed", "many"]
theorem sc_Weave_add : FnScope nm_Weave_add ["self", "change"] (defScope st_Weave_add) := ⟨rfl, rfl, rfl, by decide +kernel, rfl, by decide +kernel, by decide +kernel⟩
theorem nd_Weave_add : (nm_Weave_add : List Str).Nodup := by decide +kernel
abbrev st_Weave_need : Stmt := ctop 28 2
abbrev nm_Weave_need : List Str := ["self", "name"]
theorem sc_Weave_need : FnScope nm_Weave_need ["self", "name"] (defScope st_Weave_need) := ⟨rfl, rfl, rfl, by decide +kernel, rfl, by decide +kernel, by decide +kernel⟩
theorem nd_Weave_need : (nm_Weave_need : List Str).Nodup := by decide +kernel
abbrev st_Weave_names : Stmt := ctop 28 4
abbrev nm_Weave_names : List Str := ["self"]
theorem sc_Weave_names : FnScope nm_Weave_names ["self"] (defScope st_Weave_names) := ⟨rfl, rfl, rfl, by decide +kernel, rfl, by decide +kernel, by decide +kernel⟩
theorem nd_Weave_names : (nm_Weave_names : List Str).Nodup := by decide +kernel
abbrev st_Weave_change : Stmt := ctop 28 5
abbrev nm_Weave_change : List Str := ["self", "name"]
theorem sc_Weave_change : FnScope nm_Weave_change ["self", "name"] (defScope st_Weave_change) := ⟨rfl, rfl, rfl, by decide +kernel, rfl, by decide +kernel, by decide +kernel⟩
theorem nd_Weave_change : (nm_Weave_change : List Str).Nodup := by decide +kernel
abbrev st_Weave_height : Stmt := ctop 28 6
abbrev nm_Weave_height : List Str := ["self", "name"]
theorem sc_Weave_height : FnScope nm_Weave_height ["self", "name"] (defScope st_Weave_height) := ⟨rfl, rfl, rfl, by decide +kernel, rfl, by decide +kernel, by decide +kernel⟩
theorem nd_Weave_height : (nm_Weave_height : List Str).Nodup := by decide +kernel
abbrev st_Weave_row : Stmt := ctop 28 9
abbrev nm_Weave_row : List Str := ["self"]
theorem sc_Weave_row : FnScope nm_Weave_row ["self"] (defScope st_Weave_row) := ⟨rfl, rfl, rfl, by decide +kernel, rfl, by decide +kernel, by decide +kernel⟩
theorem nd_Weave_row : (nm_Weave_row : List Str).Nodup := by decide +kernel
abbrev st_Weave_told : Stmt := ctop 28 10
abbrev nm_Weave_told : List Str := ["self", "row", "words", "gone", "mark"]
theorem sc_Weave_told : FnScope nm_Weave_told ["self"] (defScope st_Weave_told) := ⟨rfl, rfl, rfl, by decide +kernel, rfl, by decide +kernel, by decide +kernel⟩
theorem nd_Weave_told : (nm_Weave_told : List Str).Nodup := by decide +kernel
abbrev st_Weave_text : Stmt := ctop 28 11
abbrev nm_Weave_text : List Str := ["self", "pair"]
theorem sc_Weave_text : FnScope nm_Weave_text ["self"] (defScope st_Weave_text) := ⟨rfl, rfl, rfl, by decide +kernel, rfl, by decide +kernel, by decide +kernel⟩
theorem nd_Weave_text : (nm_Weave_text : List Str).Nodup := by decide +kernel
abbrev st_Weave_open_sets : Stmt := ctop 28 12
abbrev nm_Weave_open_sets : List Str := ["self", "mark", "names", "name", "found", "deed", "one"]
theorem sc_Weave_open_sets : FnScope nm_Weave_open_sets ["self", "mark"] (defScope st_Weave_open_sets) := ⟨rfl, rfl, rfl, by decide +kernel, rfl, by decide +kernel, by decide +kernel⟩
theorem nd_Weave_open_sets : (nm_Weave_open_sets : List Str).Nodup := by decide +kernel
abbrev st_Weave_questions : Stmt := ctop 28 13
abbrev nm_Weave_questions : List Str := ["self", "found", "pair", "names"]
theorem sc_Weave_questions : FnScope nm_Weave_questions ["self"] (defScope st_Weave_questions) := ⟨rfl, rfl, rfl, by decide +kernel, rfl, by decide +kernel, by decide +kernel⟩
theorem nd_Weave_questions : (nm_Weave_questions : List Str).Nodup := by decide +kernel
/-- what the walk over the head tells -/
structure Pr (K : PySem.W.Frag) (mg : Str → Option Value) : Prop where
  bt : Bt mg
  f_is_name : Df K mg "is_name" st_is_name
  f_is_line : Df K mg "is_line" st_is_line
  f_is_rising : Df K mg "is_rising" st_is_rising
  f_is_deed : Df K mg "is_deed" st_is_deed
  f_check : Df K mg "check" st_check
  f_adds_of : Df K mg "adds_of" st_adds_of
  f_copied : Df K mg "copied" st_copied
  f_heights : Df K mg "heights" st_heights
  f_ground_of : Df K mg "ground_of" st_ground_of
  f_in_order : Df K mg "in_order" st_in_order
  f_own_adds : Df K mg "own_adds" st_own_adds
  f_done : Df K mg "done" st_done
  f_l_cell : Df K mg "_law_cell" st_l_cell
  f_l_mixed : Df K mg "_law_mixed" st_l_mixed
  f_l_name : Df K mg "_law_name" st_l_name
  f_l_line : Df K mg "_law_line" st_l_line
  f_l_leans : Df K mg "_law_leans" st_l_leans
  f_l_marks : Df K mg "_law_marks" st_l_marks
  f_l_deeds : Df K mg "_law_deeds" st_l_deeds
  f_l_changes : Df K mg "_law_changes" st_l_changes
  f_l_copy : Df K mg "_law_copy" st_l_copy
  f_l_turned : Df K mg "_law_turned" st_l_turned
  f_l_heights : Df K mg "_law_heights" st_l_heights
  f_l_model : Df K mg "_law_model" st_l_model
  f_l_mark_like : Df K mg "_law_mark_like" st_l_mark_like
  f_l_row_like : Df K mg "_law_row_like" st_l_row_like
  f_l_told_like : Df K mg "_law_told_like" st_l_told_like
  f_l_texts_like : Df K mg "_law_texts_like" st_l_texts_like
  f_l_one_stands : Df K mg "_law_one_stands" st_l_one_stands
  f_l_stands : Df K mg "_law_stands" st_l_stands
  f_l_row_right : Df K mg "_law_row_right" st_l_row_right
  f_l_wide : Df K mg "_law_wide" st_l_wide
  f_l_hold : Df K mg "_law_hold" st_l_hold
  f_l_held : Df K mg "_law_held" st_l_held
  f_law : Df K mg "law" st_law
  wv : Wv K
  gW : mg "Weave" = some (.ref (He.ga K "Weave"))
  m_init : DfM K "__init__" "Weave.__init__" st_Weave___init__
  m_add : DfM K "add" "Weave.add" st_Weave_add
  m_need : DfM K "need" "Weave.need" st_Weave_need
  m_names : DfM K "names" "Weave.names" st_Weave_names
  m_change : DfM K "change" "Weave.change" st_Weave_change
  m_height : DfM K "height" "Weave.height" st_Weave_height
  m_row : DfM K "row" "Weave.row" st_Weave_row
  m_told : DfM K "told" "Weave.told" st_Weave_told
  m_text : DfM K "text" "Weave.text" st_Weave_text
  m_open_sets : DfM K "open_sets" "Weave.open_sets" st_Weave_open_sets
  m_questions : DfM K "questions" "Weave.questions" st_Weave_questions
  x_WeaveError : Ec K mg "WeaveError"
  x_BadChange : Ec K mg "BadChange"
  x_NotLeaned : Ec K mg "NotLeaned"
  x_Twice : Ec K mg "Twice"
  x_Missing : Ec K mg "Missing"
  x_NoLine : Ec K mg "NoLine"
  k_SIGNS : ∃ t, mg "SIGNS" = some (.str "abcdefghijklmnopqrstuvwxyz0123456789" t)
  k_WORDS : ∃ a, mg "WORDS" = some (.ref a) ∧ ∀ G, SqT K G a ((["add", "cut", "set"] : List Str).map V.str)
  k_MOST_SIGNS : ∃ t, mg "MOST_SIGNS" = some (.int 12 t)
  k_MOST_LINE : ∃ t, mg "MOST_LINE" = some (.int 200 t)
  k_MOST_DEEDS : ∃ t, mg "MOST_DEEDS" = some (.int 20 t)
/-- .. with the tables of codes -/
structure PrL (T : Tb) (K : PySem.W.Frag) (mg : Str → Option Value) (base : Heap) : Prop where
  p : Pr K mg
  l_in_order : DfC T K mg base "in_order" st_in_order
  l_l_model : DfC T K mg base "_law_model" st_l_model
end KK

/-! Walks over the helpers of the laws. -/
namespace KK
open PySem PySem.Spec L2 DD MM
section
variable {T : Tb} {P : Program} {w : World} {K : PySem.W.Frag} {mg : Str → Option Value} {base : Heap}
theorem c_l_mixed (R : Pr K mg) : Cal P w K mg base "_law_mixed" ["_law_cell_here", "_law_k"] 1 (spE T K fun ds d => ∃ c k : Int, ds = [.int c, .int k] ∧ d = .int (mixed c k)) :=
  cal_E R.f_l_mixed sc_l_mixed (fun _ _ _ _ _ _ us hl => match us, hl with | [_, _], _ => rfl) (by rintro _ _ ⟨c, k, rfl, rfl⟩; rfl) (by decide) fun f cdv A outer s H E hr ds d ⟨c, k, e1, e2⟩ => by
    subst e1 e2
    exact s_ret (e_mod (by decide) (e_mul (.inr (by decide)) (e_add (e_var 0 rfl) (e_mul (.inl (by decide)) e_int (e_var 1 rfl))) e_int) e_int) rfl
theorem c_l_cell (R : Pr K mg) : Cal P w K mg base "_law_cell" ["_law_script", "_law_k"] 1 (spE T K fun ds d => ∃ (x : D) (ns : List Int) (k : Int), 0 ≤ k ∧ ILd x ns ∧ ds = [x, .int k] ∧ d = .int (cell ns k)) :=
  cal_E R.f_l_cell sc_l_cell (fun _ _ _ _ _ _ us hl => match us, hl with | [_, _], _ => rfl) (by rintro _ _ ⟨x, ns, k, h0, hd, rfl, rfl⟩; rfl) (by decide) fun f cdv A outer s H E hr ds d ⟨x, ns, k, h0, hd, e1, e2⟩ => by
    subst e1 e2
    unfold cell
    exact s_ift (b_of_c (c_lt (e_var 1 rfl) (e_lenIL hd R.bt.len (e_var 0 rfl)))) (fun hb =>
        s_ret (e_ixIL hd (atI_getD 0 h0 (of_decide_eq_true hb)) (e_var 0 rfl) (e_var 1 rfl)) (by rw [if_pos (of_decide_eq_true hb)])) fun hb =>
      s_ret e_int (by rw [if_neg (of_decide_eq_false hb)])
theorem c_l_line (R : Pr K mg) : Cal P w K mg base "_law_line" ["_law_cell_here"] 1 (spE T K fun ds d => ∃ c : Int, ds = [.int c] ∧ d = .str (line c)) :=
  cal_E R.f_l_line sc_l_line (fun _ _ _ _ _ _ us hl => match us, hl with | [_], _ => rfl) (by rintro _ _ ⟨c, rfl, rfl⟩; rfl) (by decide) fun f cdv A outer s H E hr ds d ⟨c, e1, e2⟩ => by
    subst e1 e2
    have h1 := lsize_lo c
    have h2 := lsize_hi c
    have h3 := line0_len c
    have h4 := line0_sok c
    exact
      s_set 1 nd_l_line e_str <|
      s_set 1 nd_l_line (e_cat (by decide +kernel) (e_var 1 rfl) e_str) <|
      s_set 2 nd_l_line (e_mod (by decide) (e_var 0 rfl) e_int) <|
      s_ifj [some (.sh (.int c)), some (.sh (.str SOME)), some (.sh (.int (lsize c))), none, none] (b_of_c (c_eqI (e_mod (by decide) (e_fdiv ⟨by decide, by decide⟩ (e_var 0 rfl) e_int) e_int) e_int)) (fun hb =>
          s_set 2 nd_l_line (e_mod (by decide) (e_fdiv ⟨by decide, by decide⟩ (e_var 0 rfl) e_int) e_int) <|
          s_nil (.same (.same (.sh (by unfold lsize; rw [if_pos (of_decide_eq_true hb)]) (.refl _))))) (fun hb =>
          s_nil (.same (.same (.sh (by unfold lsize; rw [if_neg (of_decide_eq_false hb)]) (.refl _))))) <|
      s_set 3 nd_l_line (ED.as (d' := .str (line0 c)) (e_join (by rw [sum_sg SOME (fun (j : Nat) => (c / 7 + (j : Int) * (1 + c % 5)) % 94)]; omega) h4 e_str (e_of_l (mpR 4 D.str (h := fun (j : Nat) => sg SOME ((c / 7 + (j : Int) * (1 + c % 5)) % 94)) nd_l_line R.bt.range (by omega) (by omega) (e_var 2 rfl) (show BlkOk nm_l_line (defScope st_l_line) _ _ from ⟨rfl, by decide +kernel, by decide +kernel, by decide +kernel, by decide +kernel⟩) (fun _ _ _ _ _ => pg_name nd_l_line rfl (.inl rfl)) (fun _ _ _ _ _ i hi => (e_ixS (atI_getD 0 (by omega) (by have := SOME_len; unfold TL.tl at this; omega)) (e_var 1 rfl) (e_mod (by decide) (e_add (e_fdiv ⟨by decide, by decide⟩ (e_var 0 rfl) e_int) (e_mul (.inr (by omega)) (e_var 4 rfl) (e_add e_int (e_mod (by decide) (e_var 0 rfl) e_int)))) e_int)))))) rfl) <|
      s_ift (b_pw (b_and (b_of_c (c_eqI (e_mod (by decide) (e_fdiv ⟨by decide, by decide⟩ (e_var 0 rfl) e_int) e_int) e_int)) fun h0 => (b_and1 (b_of_c (c_lt (e_var 2 rfl) e_int))))) (fun hb =>
          s_ret (e_cat (by have q := cutS_length (line0 c) none (some 1); have q2 := cutS_length (line0 c) (some 1) none; rw [len_app]; have : (": " : Str).length = 2 := by decide +kernel
                           omega) (e_cat (by have q := cutS_length (line0 c) none (some 1); have : (": " : Str).length = 2 := by decide +kernel
                                             omega) (e_sliceS (e_var 3 rfl) p_none (p_some e_int)) e_str) (e_sliceS (e_var 3 rfl) (p_some e_int) p_none))
            (by simp only [Bool.and_eq_true, decide_eq_true_eq] at hb; unfold line; rw [if_pos ⟨hb.1, hb.2⟩])) fun hb =>
      s_ret (e_var 3 rfl) (by simp only [Bool.and_eq_false_iff, decide_eq_false_iff_not] at hb; unfold line; rw [if_neg (fun z => by rcases hb with hb | hb; exact hb z.1; exact hb z.2)])
end
end KK

/-! Walks: names, marks, leans. -/
namespace KK
open PySem PySem.Spec L2 DD MM
section
variable {T : Tb} {P : Program} {w : World} {K : PySem.W.Frag} {mg : Str → Option Value} {base : Heap}
theorem ne_of_notEmpty {α : Type} {xs : List α} {f : α → D} (h : (!(xs.map f).isEmpty) = true) : xs ≠ [] := fun e => by subst e; simp at h
theorem SIGl {n : Int} (h0 : 0 ≤ n) (h1 : n < 36) : n < (SIG.cps.toList.length : Int) := by have := SIG_len; unfold TL.tl at this; omega
theorem c_l_name (R : Pr K mg) : Cal P w K mg base "_law_name" ["_law_cell_here", "_law_taken"] 2 (spE T K fun ds d => ∃ (c : Int) (tk : List Str), tk.length < 1000 ∧ (∀ z ∈ tk, isNm z) ∧ ds = [.int c, .lst (tk.map D.str)] ∧ d = .str (name c tk)) :=
  cal_E R.f_l_name sc_l_name (fun _ _ _ _ _ _ us hl => match us, hl with | [_, _], _ => rfl) (by rintro _ _ ⟨c, tk, h1, h2, rfl, rfl⟩; rfl) (by decide) fun f cdv A outer s H E hr ds d ⟨c, tk, hl, hn, e1, e2⟩ => by
    subst e1 e2
    have m0 := mixed_lo c 5
    have m1 := mixed_hi c 5
    have n0 := nm0_ok c
    have n3 := nm3_ok c hn
    have n2 := nm2_ok c hn
    have n1 := nm1_ok c
    exact
      s_set 2 nd_l_name (e_str (n := SIG)) <|
      s_set 3 nd_l_name (e_call ((c_l_mixed R).mono (by decide)) hr ⟨_, _, rfl, rfl⟩ (a_two (e_var 0 rfl) e_int)) <|
      s_set 4 nd_l_name (ED.as (d' := .str (nm0 c)) (e_join (by rw [sum_sg SIG (fun (j : Nat) => mixed c (j : Int) % 36)]; omega) n0.sok e_str (e_of_l (mpR 6 D.str (h := fun (j : Nat) => sg SIG (mixed c (j : Int) % 36)) nd_l_name R.bt.range (by omega) (by omega) (e_add e_int (e_mod (by decide) (e_var 3 rfl) e_int)) (show BlkOk nm_l_name (defScope st_l_name) _ _ from ⟨rfl, by decide +kernel, by decide +kernel, by decide +kernel, by decide +kernel⟩) (fun _ _ _ _ _ => pg_name nd_l_name rfl (.inl rfl)) (fun _ _ _ _ _ i hi => (e_ixS (atI_getD 0 (by omega) (SIGl (by omega) (by omega))) (e_var 2 rfl) (e_mod (by decide) (e_call ((c_l_mixed R).mono (by decide)) hr ⟨_, _, rfl, rfl⟩ (a_two (e_var 0 rfl) (e_var 6 rfl))) e_int)))))) rfl) <|
      s_ifj [some (.sh (.int c)), some (.sh (.lst (tk.map D.str))), some (.sh (.str SIG)), some (.sh (.int (mixed c 5))), some (.sh (.str (nm1 c))), none, none] (b_of_c (c_eqI (e_mod (by decide) (e_var 0 rfl) e_int) e_int)) (fun hb =>
          s_set 4 nd_l_name (e_strI R.bt.str (dec_log (by omega) (by omega)) (dec_sok (by omega) (by omega)) (e_mod (by decide) (e_var 3 rfl) e_int)) <|
          s_nil (.same (.same (.same (.same (.sh (by unfold nm1; rw [if_pos (of_decide_eq_true hb)]; rfl) (.refl _))))))) (fun hb =>
          s_nil (.same (.same (.same (.same (.sh (by unfold nm1; rw [if_neg (of_decide_eq_false hb)]) (.refl _))))))) <|
      s_ifj [some (.sh (.int c)), some (.sh (.lst (tk.map D.str))), some (.sh (.str SIG)), some (.sh (.int (mixed c 5))), some (.sh (.str (nm2 c tk))), none, none] (b_pw (b_and (b_of_c (c_eqI (e_mod (by decide) (e_var 0 rfl) e_int) e_int)) fun h0 => (b_and1 (b_lst (e_var 1 rfl))))) (fun hb =>
          have hb' := Bool.and_eq_true_iff.mp hb
          have q1 := of_decide_eq_true hb'.1
          have q2 := ne_of_notEmpty hb'.2
          have ql := hn _ (last_mem q2)
          s_set 4 nd_l_name (e_cat (by have := cutS_length (tk.getLastD "") none (some 11); have := ql.2.1; show _ + 1 ≤ _; omega) (e_sliceS (ED.as (d' := .str (tk.getLastD "")) (e_ixR (atI_map D.str (atI_last q2)) (e_var 1 rfl) (e_neg e_int)) (by rw [List.getLastD_eq_getLast?, List.getLast?_eq_getLast q2]; rfl)) p_none (p_some e_int)) (e_ixS (atI_getD 0 (by omega) (SIGl (by omega) (by omega))) (e_var 2 rfl) (e_mod (by decide) (e_var 3 rfl) e_int))) <|
          s_nil (.same (.same (.same (.same (.sh (by unfold nm2; rw [if_pos ⟨q1, q2⟩]; rfl) (.refl _))))))) (fun hb =>
          s_nil (.same (.same (.same (.same (.sh (by
            unfold nm2
            rw [if_neg]
            rintro ⟨z1, z2⟩
            rw [decide_eq_true z1, Bool.true_and] at hb
            cases tk with
            | nil => exact z2 rfl
            | cons _ _ => simp at hb) (.refl _))))))) <|
      s_ifj [some (.sh (.int c)), some (.sh (.lst (tk.map D.str))), some (.sh (.str SIG)), some (.sh (.int (mixed c 5))), some (.sh (.str (nm3 c tk))), none, none] (b_pw (b_and (b_of_c (c_gt (e_mod (by decide) (e_var 0 rfl) e_int) e_int)) fun h1 => (b_and1 (b_lst (e_var 1 rfl))))) (fun hb =>
          have hb' := Bool.and_eq_true_iff.mp hb
          have q1 := of_decide_eq_true hb'.1
          have q2 := ne_of_notEmpty hb'.2
          have qp := npick_mem c q2
          have qn := hn _ qp.2
          have qa := nat_ok c q2 hn
          have qm := qn.1
          have qm2 := qn.2.1
          have qL : 0 < (tk.length : Int) := by have := List.length_pos_iff.mpr q2; omega
          s_set 4 nd_l_name (e_ixR (atI_map D.str qp.1) (e_var 1 rfl) (e_mod qL (e_var 3 rfl) ((e_lenL R.bt.len (e_var 1 rfl)).as (by rw [List.length_map])))) <|
          s_set 5 nd_l_name (ED.as (d' := .int (nat c tk)) (e_mod (by omega) (e_fdiv ⟨by decide, by decide⟩ (e_var 3 rfl) e_int) (e_lenS R.bt.len (e_var 4 rfl))) rfl) <|
          s_set 4 nd_l_name (e_cat (by have t1 := cutS_length (npick c tk) none (some (nat c tk)); have t2 := cutS_length (npick c tk) (some (nat c tk + 1)) none; rw [len_app]; show _ + 1 + _ ≤ _; omega) (e_cat (by have t1 := cutS_length (npick c tk) none (some (nat c tk)); show _ + 1 ≤ _; omega) (e_sliceS (e_var 4 rfl) p_none (p_some (e_var 5 rfl))) (e_ixS (atI_getD 0 (by omega) (SIGl (by omega) (by omega))) (e_var 2 rfl) (e_mod (by decide) (e_fdiv ⟨by decide, by decide⟩ (e_var 3 rfl) e_int) e_int))) (e_sliceS (e_var 4 rfl) (p_some (e_add (e_var 5 rfl) e_int)) p_none)) <|
          s_nil (.same (.same (.same (.same (.sh (by unfold nm3; rw [if_pos ⟨q1, q2⟩]; rfl) (.drop (.refl _)))))))) (fun hb =>
          s_nil (.same (.same (.same (.same (.sh (by
            unfold nm3
            rw [if_neg]
            rintro ⟨z1, z2⟩
            rw [decide_eq_true z1, Bool.true_and] at hb
            cases tk with
            | nil => exact z2 rfl
            | cons _ _ => simp at hb) (.refl _))))))) <|
      s_ift (b_of_c (c_notInL (e_var 4 rfl) (e_var 1 rfl))) (fun hb =>
          s_ret (e_var 4 rfl) (by unfold name; rw [if_pos (by simpa using hb)])) fun hb =>
      s_ret (e_ixL (atI_map _ (fall_at tk)) (i_of_l (flR 6 D.str (h := fun (j : Nat) => dec j) (p := fun (j : Nat) => !decide (dec j ∈ tk)) nd_l_name R.bt.range (by omega) (by omega) (e_add ((e_lenL R.bt.len (e_var 1 rfl)).as (by rw [List.length_map])) e_int) (show BlkOk nm_l_name (defScope st_l_name) _ _ from ⟨rfl, by decide +kernel, by decide +kernel, by decide +kernel, by decide +kernel⟩) (fun _ _ _ _ _ => pg_name nd_l_name rfl (.inl rfl)) (fun _ _ _ _ _ i hi => (b_of_c (c_notInL (e_strI R.bt.str (dec_log (by omega) (by omega)) (dec_sok (by omega) (by omega)) (e_var 6 rfl)) (e_var 1 rfl)))) (fun _ _ _ _ _ i hi hk => (e_strI R.bt.str (dec_log (by omega) (by omega)) (dec_sok (by omega) (by omega)) (e_var 6 rfl))))) e_int)
        (by unfold name; rw [if_neg (by simpa using hb)])
end
end KK

/-! Walks: what the program looks at in a change. -/
namespace KK
open PySem PySem.Spec L2 DD MM
section
variable {T : Tb} {P : Program} {w : World} {K : PySem.W.Frag} {mg : Str → Option Value} {base : Heap}
theorem c_is_name (R : Pr K mg) : Cal P w K mg base "is_name" ["thing"] 1 (spE T K fun ds d => ∃ z : Str, SOk z ∧ ds = [.str z] ∧ d = .bl (nmB z)) :=
  cal_E R.f_is_name sc_is_name (fun _ _ _ _ _ _ us hl => match us, hl with | [_], _ => rfl) (by rintro _ _ ⟨z, h1, rfl, rfl⟩; rfl) (by decide) fun f cdv A outer s H E hr ds d ⟨z, hz, e1, e2⟩ => by
    subst e1 e2
    exact s_ret (e_and (e_chI e_int (e_lenS R.bt.len (e_var 0 rfl)) (e_gint R.k_MOST_SIGNS)) fun h0 => (e_one (e_all R.bt.all (e_of_l (mpS 1 D.bl nd_is_name hz (e_var 0 rfl) (show BlkOk nm_is_name (defScope st_is_name) _ _ from ⟨rfl, by decide +kernel, by decide +kernel, by decide +kernel, by decide +kernel⟩) (fun _ _ _ _ _ => pg_name nd_is_name rfl (.inl rfl)) (fun _ _ _ _ _ k hk => (e_of_c (c_inS (e_var 1 rfl) (e_gstr R.k_SIGNS))))))))) rfl
theorem c_is_line (R : Pr K mg) : Cal P w K mg base "is_line" ["thing"] 1 (spE T K fun ds d => ∃ z : Str, SOk z ∧ ds = [.str z] ∧ d = .bl (lnB z)) :=
  cal_E R.f_is_line sc_is_line (fun _ _ _ _ _ _ us hl => match us, hl with | [_], _ => rfl) (by rintro _ _ ⟨z, h1, rfl, rfl⟩; rfl) (by decide) fun f cdv A outer s H E hr ds d ⟨z, hz, e1, e2⟩ => by
    subst e1 e2
    exact s_ret (e_and (e_of_c (c_le (e_lenS R.bt.len (e_var 0 rfl)) (e_gint R.k_MOST_LINE))) fun h1 => (e_one (e_all R.bt.all (e_of_l (mpS 1 D.bl (h := lnK) nd_is_line hz (e_var 0 rfl) (show BlkOk nm_is_line (defScope st_is_line) _ _ from ⟨rfl, by decide +kernel, by decide +kernel, by decide +kernel, by decide +kernel⟩) (fun _ _ _ _ _ => pg_name nd_is_line rfl (.inl rfl)) (fun _ _ _ _ _ k hk => (e_chS e_str (e_var 1 rfl) e_str))))))) rfl
theorem c_is_rising (R : Pr K mg) : Cal P w K mg base "is_rising" ["names"] 1 (spE T K fun ds d => ∃ xs : List Str, ds = [.lst (xs.map D.str)] ∧ d = .bl (decide (rising xs))) :=
  cal_E R.f_is_rising sc_is_rising (fun _ _ _ _ _ _ us hl => match us, hl with | [_], _ => rfl) (by rintro _ _ ⟨z, rfl, rfl⟩; rfl) (by decide) fun f cdv A outer s H E hr ds d ⟨xs, e1, e2⟩ => by
    subst e1 e2
    have hc : cutD xs (some 1) none = xs.drop 1 := cutD_from xs (by decide)
    refine s_forZI (as := xs) (bs := xs.drop 1) (f := D.str) (g := D.str) (n := xs.length - 1) (fun k => ∀ (i : Nat) (a b : Str), i < k → xs[i]? = some a → xs[i + 1]? = some b → slt a b) 1 2 (fun k => [some (.sh (.lst (xs.map D.str))), none, none]) 3 R.bt.zip (by omega) (by simp) (by simp) (e_var 0 rfl) (e_of_l ((l_slice (i_of_e (e_var 0 rfl)) (p_some e_int) p_none).as (by rw [cutD_map, hc]))) (pg_tup rfl (pgs_cons (pg_name nd_is_rising rfl (.inl rfl)) (pgs_cons (pg_name nd_is_rising rfl (.inl rfl)) pgs_nil))) (Wk.eq rfl) (fun i a b h => absurd h (by omega)) (fun _ => rfl) (by decide) (by decide) (fun k a b ha hb ik => ?_) (fun ik => ?_)
    · have hb' : xs[k + 1]? = some b := by rw [List.getElem?_drop, Nat.add_comm] at hb; exact hb
      refine s_ift (b_of_c (c_geS (e_var 1 rfl) (e_var 2 rfl))) (fun hq => s_ret e_bl ?_) fun hq => s_nil ⟨.same (.drop (.drop .nil)), ?_⟩
      · rw [decide_eq_false fun h => ?_]
        have q := rising_get h ha hb'
        rw [decide_eq_true (show a.cps.toList < b.cps.toList from q)] at hq
        simp at hq
      · intro i x y hi hx hy
        by_cases e : i = k
        · subst e
          rw [ha] at hx
          rw [hb'] at hy
          cases hx
          cases hy
          rw [Bool.not_eq_false'] at hq
          exact of_decide_eq_true hq
        · exact ik i x y (by omega) hx hy
    · refine s_ret e_bl ?_
      rw [decide_eq_true]
      refine rising_adj fun i a b ha hb => ik i a b ?_ ha hb
      have := (List.getElem?_eq_some_iff.mp hb).1
      omega
theorem c_is_deed (R : Pr K mg) : Cal P w K mg base "is_deed" ["deed"] 2 (spE T K fun ds d => ∃ x : Dd, (x.1 = ("add" : Str) ∨ x.1 = ("set" : Str) → ∃ z, x.2.2 = some z ∧ SOk z) ∧ ds = [eDd x] ∧ d = .bl (dkB x)) :=
  cal_E R.f_is_deed sc_is_deed (fun _ _ _ _ _ _ us hl => match us, hl with | [_], _ => rfl) (by rintro _ _ ⟨x, h1, rfl, rfl⟩; rfl) (by decide) fun f cdv A outer s H E hr ds d ⟨x, hx, e1, e2⟩ => by
    subst e1 e2
    refine s_ift (b_of_c (c_notInK (e_ixT (dd0 _) (e_var 0 rfl) e_int) (e_gtup R.k_WORDS))) (fun hb => s_ret e_bl ?_) fun hb => ?_
    · unfold dkB
      rw [if_pos (by rw [Bool.not_eq_true'] at hb; exact of_decide_eq_false hb)]
    have hw : x.1 ∈ [("add" : Str), "cut", "set"] := by rw [Bool.not_eq_false'] at hb; exact of_decide_eq_true hb
    refine s_ift (b_of_c (c_eqS (e_ixT (dd0 _) (e_var 0 rfl) e_int) e_str)) (fun hc => s_ret (e_of_c (c_notN (e_ixT (dd1 _) (e_var 0 rfl) e_int))) ?_) fun hc => ?_
    · unfold dkB
      rw [if_neg (fun q => q hw), if_pos (of_decide_eq_true hc), isNon_om]
      cases x.2.1 <;> rfl
    have hc' := of_decide_eq_false hc
    obtain ⟨z, hz, hk⟩ := hx (by
      simp only [List.mem_cons, List.not_mem_nil, or_false] at hw
      rcases hw with e | e | e
      · exact .inl e
      · exact absurd e hc'
      · exact .inr e)
    refine s_ret (e_and (e_call ((c_is_line R).mono (by decide)) hr ⟨z, hk, rfl, rfl⟩ (a_one (e_ixT (dd2 hz) (e_var 0 rfl) e_int))) fun h3 => (e_one (e_or (e_of_c (c_eqS (e_ixT (dd0 _) (e_var 0 rfl) e_int) e_str)) fun h2 => (e_one (e_of_c (c_notN (e_ixT (dd1 _) (e_var 0 rfl) e_int))))))) ?_
    unfold dkB
    rw [if_neg (fun q => q hw), if_neg hc', isNon_om, hz]
    cases x.2.1 <;> rfl
end
end KK

/-! Walk: a change looked at, that may be refused. -/
namespace KK
open PySem PySem.Spec L2 DD MM
def toOut : Option Str → D → Out
  | none, d => .val d
  | some c, _ => .exc c
section
variable {T : Tb} {P : Program} {w : World} {K : PySem.W.Frag} {mg : Str → Option Value} {base : Heap}
/-- check, that may refuse -/
theorem x_check (R : Pr K mg) : CalX P w K mg base "check" ["change"] 3 (spR T K fun ds o => ∃ ch : Ch, KCh ch ∧ ds = [eCh ch] ∧ o = toOut (chk ch) .non) :=
  cal_X R.f_check sc_check (fun _ _ _ _ _ _ us hl => match us, hl with | [_], _ => rfl) (by rintro _ _ ⟨x, h1, rfl, rfl⟩; rfl) (by decide) fun f cdv A outer s H E hr tk ds o ⟨ch, hk, e1, e2⟩ => by
    subst e1
    have l1 := hk.l1
    have l2 := hk.l2
    refine s_un3 1 2 3 (e_var 0 rfl) (pg_tup rfl (pgs_cons (pg_name nd_check rfl (.inl rfl)) (pgs_cons (pg_name nd_check rfl (.inl rfl)) (pgs_cons (pg_name nd_check rfl (.inl rfl)) pgs_nil)))) ?_
    refine s_ift (b_pw (b_or (b_not (b_of_e' (e_call ((c_is_name R).mono (by decide)) hr ⟨ch.1, hk.nm, rfl, rfl⟩ (a_one (e_var 1 rfl))))) fun h4 => (b_or1 (b_not (b_of_e' (e_all R.bt.all (e_of_l (mpL 5 D.bl nd_check (by omega) (e_var 2 rfl) (show BlkOk nm_check (defScope st_check) _ _ from ⟨rfl, by decide +kernel, by decide +kernel, by decide +kernel, by decide +kernel⟩) (fun _ _ _ _ _ => pg_name nd_check rfl (.inl rfl)) (fun _ _ _ _ _ a ha => (e_call ((c_is_name R).mono (by decide)) hr ⟨a, hk.ln a ha, rfl, rfl⟩ (a_one (e_var 5 rfl)))))))))))) (fun hb => ?_) fun hb => ?_
    · exact s_raise R.x_BadChange tk (by show o = _; rw [e2]; unfold chk; rw [if_pos hb]; rfl)
    refine s_ift (b_pw (b_or (b_not (b_of_e' (e_call ((c_is_rising R).mono (by decide)) hr ⟨_, rfl, rfl⟩ (a_one (e_var 2 rfl))))) fun h5 => (b_or1 (b_of_c (c_inL (e_var 1 rfl) (e_var 2 rfl)))))) (fun hb2 => ?_) fun hb2 => ?_
    · exact s_raise R.x_BadChange tk (by show o = _; rw [e2]; unfold chk; rw [if_neg (by rw [hb]; decide), if_pos hb2]; rfl)
    refine s_ift (b_pw (b_or (b_of_c (c_gt ((e_lenL R.bt.len (e_var 3 rfl)).as (by rw [List.length_map])) (e_gint R.k_MOST_DEEDS))) fun h6 => (b_or1 (b_not (b_of_e' (e_all R.bt.all (e_of_l (mpL 4 D.bl nd_check (by omega) (e_var 3 rfl) (show BlkOk nm_check (defScope st_check) _ _ from ⟨rfl, by decide +kernel, by decide +kernel, by decide +kernel, by decide +kernel⟩) (fun _ _ _ _ _ => pg_name nd_check rfl (.inl rfl)) (fun _ _ _ _ _ a ha => (e_call ((c_is_deed R).mono (by decide)) hr ⟨a, hk.dd a ha, rfl, rfl⟩ (a_one (e_var 4 rfl)))))))))))) (fun hb3 => ?_) fun hb3 => ?_
    · exact s_raise R.x_BadChange tk (by show o = _; rw [e2]; unfold chk; rw [if_neg (by rw [hb]; decide), if_neg (by rw [hb2]; decide), if_pos hb3]; rfl)
    have eo : chk ch = (if ch.2.2.any (ntB ch) = true then some ("NotLeaned" : Str) else (none : Option Str)) := by unfold chk; rw [if_neg (by rw [hb]; decide), if_neg (by rw [hb2]; decide), if_neg (by rw [hb3]; decide)]
    refine s_forLI (fun k => ∀ d ∈ ch.2.2.take k, ntB ch d = false) 4 (fun _ => [some (.sh (eCh ch)), some (.sh (.str ch.1)), some (.sh (.lst (ch.2.1.map D.str))), some (.sh (.lst (ch.2.2.map eDd))), none, none]) 6 (e_var 3 rfl) (pg_name nd_check rfl (.inl rfl)) (Wk.eq rfl) (by simp) (fun _ => rfl) (by decide) (fun k a ha ik => ?_) (fun ik => s_nil ?_)
    · have nxt : ntB ch a = false → ∀ d ∈ ch.2.2.take (k + 1), ntB ch d = false := fun q d hd => by
        rw [List.take_add_one, ha] at hd
        rcases List.mem_append.mp hd with h | h
        · exact ik d h
        · rw [List.mem_singleton.mp h]; exact q
      obtain ⟨wd, m, l⟩ := a
      cases m with
      | none =>
        refine s_ift (b_pw (b_and (l := true) (b_of_c (c_notN (e_ixT (dd1 _) (e_var 4 rfl) e_int))) fun h => absurd (show false = true from h) (by decide))) (fun hb => absurd (show false = true from hb) (by decide)) fun hb => s_nil ⟨(.same (.same (.same (.same (.drop (.drop .nil)))))), nxt rfl⟩
      | some m =>
        refine s_ift (b_pw (b_and (b_of_c (c_notN (e_ixT (dd1 _) (e_var 4 rfl) e_int))) fun h8 => (b_and (b_of_c (c_neS (e_ixT rfl (e_ixT (dd1 _) (e_var 4 rfl) e_int) e_int) (e_var 1 rfl))) fun h7 => (b_and1 (b_of_c (c_notInL (e_ixT rfl (e_ixT (dd1 _) (e_var 4 rfl) e_int) e_int) (e_var 2 rfl))))))) (fun hb => ?_) fun hb => s_nil ⟨(.same (.same (.same (.same (.drop (.drop .nil)))))), nxt hb⟩
        refine s_raise R.x_NotLeaned tk (show o = _ from ?_)
        have : ch.2.2.any (ntB ch) = true := List.any_eq_true.mpr ⟨_, List.mem_of_getElem? ha, hb⟩
        rw [e2, eo, if_pos this]
        rfl
    · have : ch.2.2.any (ntB ch) = false := List.any_eq_false.mpr fun d hd => by rw [ik d (by rw [List.take_length]; exact hd)]; decide
      show o = _
      rw [e2, eo, this]
      rfl
end
end KK

/-! Walks: a change looked at, copied; a change that comes. -/
namespace KK
open PySem PySem.Spec L2 DD MM
theorem cutD_to {α : Type} (xs : List α) (n : Nat) : cutD xs none (some (n : Int)) = xs.take n := by
  unfold cutD
  show (xs.drop 0).take ((if (n : Int) < 0 then ((n : Int) + (xs.length : Int)).toNat else min (n : Int).toNat xs.length) - 0) = _
  rw [if_neg (by omega), List.drop_zero, Nat.sub_zero, Int.toNat_natCast]
  by_cases h : n ≤ xs.length
  · rw [Nat.min_eq_left h]
  · rw [Nat.min_eq_right (by omega), List.take_length, List.take_of_length_le (by omega)]
section
variable {T : Tb} {P : Program} {w : World} {K : PySem.W.Frag} {mg : Str → Option Value} {base : Heap}
theorem c_adds_of (R : Pr K mg) : Cal P w K mg base "adds_of" ["change"] 1 (spE T K fun ds d => ∃ ch : Ch, ch.2.2.length ≤ 1000 ∧ ds = [eCh ch] ∧ d = .int (adds ch.2.2 : Nat)) :=
  cal_E R.f_adds_of sc_adds_of (fun _ _ _ _ _ _ us hl => match us, hl with | [_], _ => rfl) (by rintro _ _ ⟨ch, h1, rfl, rfl⟩; rfl) (by decide) fun f cdv A outer s H E hr ds d ⟨ch, hl, e1, e2⟩ => by
    subst e1 e2
    exact s_ret (e_lenL R.bt.len (e_of_l (flL 1 eDd (h := fun d => d) (p := fun d => decide (d.1 = ("add" : Str))) nd_adds_of (by omega) (e_ixT rfl (e_var 0 rfl) e_int) (show BlkOk nm_adds_of (defScope st_adds_of) _ _ from ⟨rfl, by decide +kernel, by decide +kernel, by decide +kernel, by decide +kernel⟩) (fun _ _ _ _ _ => pg_name nd_adds_of rfl (.inl rfl)) (fun _ _ _ _ _ a ha => (b_of_c (c_eqS (e_ixT (dd0 _) (e_var 1 rfl) e_int) e_str))) (fun _ _ _ _ _ a ha hk => (e_var 1 rfl))))) (by show D.int _ = D.int _; rw [List.length_map, List.length_map]; rfl)
theorem c_own_adds (R : Pr K mg) : Cal P w K mg base "own_adds" ["change", "count"] 1 (spE T K fun ds d => ∃ (ch : Ch) (n : Nat), ch.2.2.length ≤ 1000 ∧ ds = [eCh ch, .int (n : Nat)] ∧ d = .int (adds (ch.2.2.take n) : Nat)) :=
  cal_E R.f_own_adds sc_own_adds (fun _ _ _ _ _ _ us hl => match us, hl with | [_, _], _ => rfl) (by rintro _ _ ⟨ch, n, h1, rfl, rfl⟩; rfl) (by decide) fun f cdv A outer s H E hr ds d ⟨ch, n, hl, e1, e2⟩ => by
    subst e1 e2
    have hlt : (ch.2.2.take n).length ≤ 16777216 := by rw [List.length_take]; omega
    exact s_ret (e_lenL R.bt.len (e_of_l (flL 2 eDd (as := ch.2.2.take n) (h := fun d => d) (p := fun d => decide (d.1 = ("add" : Str))) nd_own_adds hlt (e_of_l (LD.as (l_slice (i_of_e (e_ixT rfl (e_var 0 rfl) e_int)) p_none (p_some (e_var 1 rfl))) (by rw [cutD_map, cutD_to]; rfl))) (show BlkOk nm_own_adds (defScope st_own_adds) _ _ from ⟨rfl, by decide +kernel, by decide +kernel, by decide +kernel, by decide +kernel⟩) (fun _ _ _ _ _ => pg_name nd_own_adds rfl (.inl rfl)) (fun _ _ _ _ _ a ha => (b_of_c (c_eqS (e_ixT (dd0 _) (e_var 2 rfl) e_int) e_str))) (fun _ _ _ _ _ a ha hk => (e_var 2 rfl))))) (by show D.int _ = D.int _; rw [List.length_map, List.length_map]; rfl)
theorem c_copied (R : Pr K mg) : Cal P w K mg base "copied" ["change"] 1 (spN T K fun ds d => ∃ ch : Ch, ds = [eCh ch] ∧ d = eCh ch) :=
  cal_N R.f_copied sc_copied (fun _ _ _ _ _ _ us hl => match us, hl with | [_], _ => rfl) (by rintro _ _ ⟨ch, rfl, rfl⟩; rfl) (by decide) fun f cdv A outer s H E hr ds d ⟨ch, e1, e2⟩ => by
    subst e1 e2
    exact s_retN' (f_tup (h := f_cons (f_imm (e_ixT rfl (e_var 0 rfl) e_int)) (f_cons (f_lst (l_listOf R.bt.list (i_of_e (e_ixT rfl (e_var 0 rfl) e_int))) (immAll_map (fun _ => rfl) _)) (f_cons (f_lst (l_listOf R.bt.list (i_of_e (e_ixT rfl (e_var 0 rfl) e_int))) (immAll_map imm_dd _)) f_nil)))) rfl
end
end KK

/-! Walks: a change comes to a weave. -/
namespace KK
open PySem PySem.Spec L2 DD MM
abbrev eW (L : List Ch) : D := .obj (sdic eCh (kd L))
def toOutM : Option Str → D → D → OutM
  | none, r, d => .val r d
  | some c, _, _ => .exc c
theorem kd_put (L : List Ch) (ch : Ch) (h : ch.1 ∉ L.map (·.1)) : aput (kd L) ch.1 ch = kd (L ++ [ch]) := by
  unfold aput
  rw [if_neg]
  · unfold kd; rw [List.map_append]; rfl
  · intro q
    obtain ⟨p, hp, e⟩ := List.any_eq_true.mp q
    unfold kd at hp
    obtain ⟨c, hc, rfl⟩ := List.mem_map.mp hp
    exact h (List.mem_map.mpr ⟨c, hc, of_decide_eq_true e⟩)
section
variable {T : Tb} {P : Program} {w : World} {K : PySem.W.Frag} {mg : Str → Option Value} {base : Heap}
theorem x_need (R : Pr K mg) : CalMX P w K mg base "need" ["self", "name"] 1 (spR T K fun ds o => ∃ (L : List Ch) (z : Str), ds = [eW L, .str z] ∧ o = toOut (if decide (z ∈ L.map (·.1)) = true then none else some "Missing") .non) :=
  calM_X R.m_need sc_Weave_need (fun _ _ _ _ _ _ us hl => match us, hl with | [_, _], _ => rfl) (by rintro _ _ ⟨L, z, rfl, rfl⟩; rfl) (by decide) fun f cdv A outer s H E hr tk ds o ⟨L, z, e1, e2⟩ => by
    subst e1
    refine s_ift (b_of_c (c_notInDic hr.units (e_var 1 rfl) (e_known R.wv (e_var 0 rfl)))) (fun hb => ?_) fun hb => s_nil ?_
    · rw [kd_isSome, Bool.not_eq_true'] at hb
      exact s_raise R.x_Missing tk (by show o = _; rw [e2, hb]; rfl)
    · rw [kd_isSome, Bool.not_eq_false'] at hb
      show o = _
      rw [e2, hb]; rfl
theorem x_add (R : Pr K mg) : CalMX P w K mg base "add" ["self", "change"] 4 (spMX T K fun d ds o => ∃ (L : List Ch) (ch : Ch), KCh ch ∧ (∀ c ∈ L, c.2.2.length ≤ 1000) ∧ L.length ≤ 1000 ∧ d = sdic eCh (kd L) ∧ ds = [eCh ch] ∧ o = toOutM (addO L ch) .non (sdic eCh (kd (L ++ [ch])))) :=
  calM_MX R.m_add sc_Weave_add (fun _ _ _ _ _ _ us hl => match us, hl with | [_, _], _ => rfl) (by rintro _ _ _ ⟨L, ch, h1, h2, h3, rfl, rfl, rfl⟩; rfl) (by decide) fun f cdv A outer s H E hr tk p d ds o ⟨L, ch, hk, hb, hL, e0, e1, e2⟩ => by
    subst e0 e1
    have l1 := hk.l1
    have l2 := hk.l2
    cases hc : chk ch with
    | some c =>
      exact s_exprX (x_call ((x_check R).mono (by decide)) hr ⟨ch, hk, rfl, by rw [hc]; rfl⟩ tk (a_one (e_var (m := true) 1 rfl))) ⟨by rw [e2]; unfold addO; rw [hc]; rfl, rfl⟩
    | none =>
    have hmk := chk_marks hc
    have ea : addO L ch = (if decide (ch.1 ∈ L.map (·.1)) = true then some ("Twice" : Str) else if (ch.2.1.all fun l => decide (l ∈ L.map (·.1))) = false then some ("Missing" : Str) else if nlAny L ch ch.2.2.length = true then some ("NoLine" : Str) else (none : Option Str)) := by unfold addO; rw [hc]
    refine s_expr (e_callX ((x_check R).mono (by decide)) hr ⟨ch, hk, rfl, by rw [hc]; rfl⟩ (a_one (e_var 1 rfl))) ?_
    refine s_un3 2 3 4 (e_var 1 rfl) (pg_tup rfl (pgs_cons (pg_name nd_Weave_add rfl (.inl rfl)) (pgs_cons (pg_name nd_Weave_add rfl (.inl rfl)) (pgs_cons (pg_name nd_Weave_add rfl (.inl rfl)) pgs_nil)))) ?_
    refine s_ift (b_of_c (c_inDic hr.units (e_var 2 rfl) (e_known R.wv (e_own 0 rfl)))) (fun h1 => ?_) fun h1 => ?_
    · rw [kd_isSome] at h1
      exact s_raise R.x_Twice tk ⟨by rw [e2, ea, if_pos h1]; rfl, rfl⟩
    rw [kd_isSome] at h1
    rw [if_neg (by rw [h1]; decide)] at ea
    have hnew : ch.1 ∉ L.map (·.1) := of_decide_eq_false h1
    refine s_forLI (fun k => ∀ l ∈ ch.2.1.take k, l ∈ L.map (·.1)) 5 (fun _ => [some (.ow p (eW L)), some (.sh (eCh ch)), some (.sh (.str ch.1)), some (.sh (.lst (ch.2.1.map D.str))), some (.sh (.lst (ch.2.2.map eDd))), none, none, none, none]) 9 (e_var 3 rfl) (pg_name nd_Weave_add rfl (.inl rfl)) (Wk.eq rfl) (by simp) (fun _ => rfl) (by decide) (fun k a ha ik => ?_) (fun ik => ?_)
    · by_cases q : a ∈ L.map (·.1)
      · refine s_expr (e_methX R.wv ((x_need R).mono (by decide)) hr ⟨L, a, rfl, by rw [decide_eq_true q]; rfl⟩ (e_own 0 rfl) (a_one (e_var 5 rfl))) ?_
        refine s_nil ⟨(.same (.same (.same (.same (.same (.drop (.drop (.drop (.drop .nil))))))))), fun l hl => ?_⟩
        rw [List.take_add_one, ha] at hl
        rcases List.mem_append.mp hl with h | h
        · exact ik l h
        · rw [List.mem_singleton.mp h]; exact q
      · refine s_exprX (x_meth R.wv ((x_need R).mono (by decide)) hr ⟨L, a, rfl, by rw [decide_eq_false q]; rfl⟩ tk (e_own 0 rfl) (a_one (e_var 5 rfl))) ⟨?_, rfl⟩
        have : (ch.2.1.all fun l => decide (l ∈ L.map (·.1))) = false := by
          rw [List.all_eq_false]
          exact ⟨a, List.mem_of_getElem? ha, by rw [decide_eq_false q]; decide⟩
        rw [e2, ea, if_pos this]
        rfl
    rw [List.take_length] at ik
    have hall : (ch.2.1.all fun l => decide (l ∈ L.map (·.1))) = true := List.all_eq_true.mpr fun l hl => decide_eq_true (ik l hl)
    rw [if_neg (by rw [hall]; decide)] at ea
    refine s_forEI (fun k => nlAny L ch k = false) 6 7 (fun _ => [some (.ow p (eW L)), some (.sh (eCh ch)), some (.sh (.str ch.1)), some (.sh (.lst (ch.2.1.map D.str))), some (.sh (.lst (ch.2.2.map eDd))), none, none, none, none]) 9 R.bt.enumerate (e_var 4 rfl) (pg_tup rfl (pgs_cons (pg_name nd_Weave_add rfl (.inl rfl)) (pgs_cons (pg_name nd_Weave_add rfl (.inl rfl)) pgs_nil))) (.same (.same (.same (.same (.same (.drop (.drop (.drop (.drop .nil))))))))) rfl (fun _ => rfl) (by decide) (by decide) (fun k a ha ik2 => ?_) (fun ik2 => ?_)
    · have hk2 : k < ch.2.2.length := (List.getElem?_eq_some_iff.mp ha).1
      have nxt : nlB L ch k a = false → nlAny L ch (k + 1) = false := fun q => by unfold nlAny; rw [ha, ik2]; exact q
      obtain ⟨wd, om, ln⟩ := a
      cases om with
      | none =>
        exact s_if2 (b_of_c (c_notN (e_ixT (dd1 _) (e_var 7 rfl) e_int))) (fun hb => by cases hb) (fun hb => s_nil ⟨.same (.same (.same (.same (.same (.drop (.drop (.drop (.drop .nil)))))))), nxt rfl⟩)
      | some m =>
        have hm := hmk _ (List.mem_of_getElem? ha) m rfl
        refine s_if2 (b_of_c (c_notN (e_ixT (dd1 _) (e_var 7 rfl) e_int))) (fun _ => ?_) (fun hb => by cases hb)
        refine s_set 8 nd_Weave_add (e_call ((c_own_adds R).mono (by decide)) hr ⟨ch, k, l2, rfl, rfl⟩ (a_two (e_var (m := true) 1 rfl) (e_var 6 rfl))) ?_
        have eN : ∀ x : Int, ((decide (0 ≤ m.2) && decide (m.2 < x)) = true ↔ 0 ≤ m.2 ∧ m.2 < x) := fun x => by simp
        refine s_ifj [some (.ow p (eW L)), some (.sh (eCh ch)), some (.sh (.str ch.1)), some (.sh (.lst (ch.2.1.map D.str))), some (.sh (.lst (ch.2.2.map eDd))), none, some (.sh (.int (k : Nat))), some (.sh (eDd (wd, some m, ln))), some (.sh (.int (if m.1 = ch.1 then (adds (ch.2.2.take k) : Nat) else (adds (chOf L m.1).2.2 : Nat) : Int)))] (b_of_c (c_neS (e_ixT rfl (e_ixT (dd1 _) (e_var 7 rfl) e_int) e_int) (e_var 2 rfl))) (fun hn => ?_) (fun hn => ?_) ?_
        · have hne : ¬ m.1 = ch.1 := by simpa using hn
          obtain ⟨c1, c2, c3⟩ := chOf_mem (ik _ (hm.resolve_left hne))
          refine s_set 8 nd_Weave_add (e_imm (e_call ((c_adds_of R).mono (by decide)) hr ⟨chOf L m.1, hb _ c2, rfl, rfl⟩ (a_one (e_dgetR (m0 := false) hr.units (e_known R.wv (e_own 0 rfl)) c1 (e_ixT rfl (e_ixT (dd1 _) (e_var 7 rfl) e_int) e_int))))) ?_
          rw [if_neg hne]
          exact s_nil (Wk.eq rfl)
        · have he : m.1 = ch.1 := by simpa using hn
          rw [if_pos he]
          exact s_nil (Wk.eq rfl)
        refine s_ift (b_not (b_chL e_int (e_ixT rfl (e_ixT (dd1 _) (e_var 7 rfl) e_int) e_int) (e_var 8 rfl))) (fun hx => ?_) fun hx => s_nil ⟨.same (.same (.same (.same (.same (.drop (.drop (.drop (.drop .nil)))))))), nxt hx⟩
        refine s_raise R.x_NoLine tk ⟨?_, rfl⟩
        rw [e2, ea, if_pos (nlAny_up ha hx hk2)]
        rfl
    · rw [if_neg (by rw [ik2]; decide)] at ea
      refine s_kput (w := ch) 0 R.wv hr.units rfl (by rw [kd_len]; omega) (e_call ((c_copied R).ofN.mono (by decide)) hr ⟨ch, rfl, rfl⟩ (a_one (e_var 1 rfl))) (e_var 2 rfl) ?_
      rw [kd_put L ch hnew]
      exact s_nil ⟨_, by rw [e2, ea]; rfl, rfl⟩
end
end KK

/-! Walks: leans, marks, deeds. -/
namespace KK
open PySem PySem.Spec L2 DD MM
section
variable {T : Tb} {P : Program} {w : World} {K : PySem.W.Frag} {mg : Str → Option Value} {base : Heap}
theorem c_l_leans (R : Pr K mg) : Cal P w K mg base "_law_leans" ["_law_cell_here", "_law_ahead"] 2 (spL T K fun ds es => ∃ (c : Int) (ah : List Ch), ah.length < 64 ∧ ds = [.int c, .lst (ah.map eCh)] ∧ es = (leans c ah).map D.str) :=
  cal_L R.f_l_leans sc_l_leans (fun _ _ _ _ _ _ us hl => match us, hl with | [_, _], _ => rfl) (by rintro _ _ ⟨c, ah, h1, rfl, rfl⟩; rfl) (by decide) fun f cdv A outer s H E hr ds es ⟨c, ah, hl, e1, e2⟩ => by
    subst e1 e2
    have inv := lnSt_inv c ah
    have len := leans_len c ah
    exact
      s_set 2 nd_l_leans (e_call ((c_l_mixed R).mono (by decide)) hr ⟨_, _, rfl, rfl⟩ (a_two (e_var 0 rfl) e_int)) <|
      s_new 3 nd_l_leans (l_lst (h := a_nil)) fun p3 =>
      s_forE 4 5 (fun k => [some (.sh (.int c)), some (.sh (.lst (ah.map eCh))), some (.sh (.int (lnSt c ah k).1)), some (.ow p3 (.lst ((lnSt c ah k).2.map D.str))), none, none, none]) 7 R.bt.enumerate (e_var 1 rfl) (pg_tup rfl (pgs_cons (pg_name nd_l_leans rfl (.inl rfl)) (pgs_cons (pg_name nd_l_leans rfl (.inl rfl)) pgs_nil))) (.refl _) (fun _ => rfl) (by decide) (by decide) (fun k a ha =>
          have st : lnSt c ah (k + 1) = lnStep c ah.length k a (lnSt c ah k) := nst_succ ha
          have hk : k < ah.length := (List.getElem?_eq_some_iff.mp ha).1
          have q := inv k (by omega)
          have ql : ((lnSt c ah k).2.map D.str).length < 16777216 := by have := q.2.length_le; simp at this; rw [List.length_map]; omega
          s_set 6 nd_l_leans (e_and (e_of_c (c_eqI (e_var 4 rfl) (e_sub ((e_lenL R.bt.len (e_var 1 rfl)).as (by rw [List.length_map])) e_int))) fun h1 => (e_one (e_of_c (c_eqI (e_mod (by decide) (e_var 0 rfl) e_int) e_int)))) <|
          s_ifj [some (.sh (.int c)), some (.sh (.lst (ah.map eCh))), some (.sh (.int (lnSt c ah k).1)), some (.ow p3 (.lst ((lnSt c ah (k + 1)).2.map D.str))), some (.sh (.int (k : Nat))), none, none] (k := lnHit c ah.length k (lnSt c ah k).1) (b_pw (b_or (b_of_e' (e_var 6 rfl)) fun h4 => (b_or1 (b_pw (b_and (b_of_c (c_eqI (e_mod (by omega) (e_var 2 rfl) (e_add e_int (e_mod (by decide) (e_var 0 rfl) e_int))) e_int)) fun h3 => (b_and1 (b_pw (b_or (b_of_c (c_lt ((e_lenL R.bt.len (e_var 1 rfl)).as (by rw [List.length_map])) e_int)) fun h2 => (b_or1 (b_of_c (c_eqI (e_mod (by decide) (e_var 4 rfl) e_int) (e_mod (by decide) (e_fdiv ⟨by decide, by decide⟩ (e_var 2 rfl) e_int) e_int)))))))))))) (fun hb =>
              s_append 3 rfl ql (e_ixT rfl (e_var 5 rfl) e_int) <|
              s_nil (.same (.same (.same (.ow (by rw [st]; unfold lnStep; rw [if_pos hb, List.map_append]; rfl) (.same (.drop (.drop .nil)))))))) (fun hb =>
              s_nil (.same (.same (.same (.ow (by rw [st]; unfold lnStep; rw [if_neg (by rw [hb]; decide)]) (.same (.drop (.drop .nil)))))))) <|
          s_set 2 nd_l_leans (e_fdiv ⟨by decide, by decide⟩ (e_var 2 rfl) e_int) <|
          s_if2 (b_of_c (c_lt (e_var 2 rfl) e_int)) (fun hb =>
              s_set 2 nd_l_leans (e_call ((c_l_mixed R).mono (by decide)) hr ⟨_, _, rfl, rfl⟩ (a_two (e_var 0 rfl) (e_add (e_var 4 rfl) e_int))) <|
              s_nil (.same (.same (.sh (by rw [st]; unfold lnStep lnLeft; rw [if_pos (of_decide_eq_true hb)]) (.same (.drop (.refl _))))))) (fun hb =>
              s_nil (.same (.same (.sh (by rw [st]; unfold lnStep lnLeft; rw [if_neg (of_decide_eq_false hb)]) (.same (.drop (.refl _)))))))) <|
      s_retL (l_sorted R.bt.sorted (by omega) (e_own 3 rfl)) rfl
theorem c_l_marks (R : Pr K mg) : Cal P w K mg base "_law_marks" ["_law_change"] 1 (spL T K fun ds es => ∃ (ch : Ch), ch.2.2.length ≤ 1000 ∧ ds = [eCh ch] ∧ es = (mks ch).map eMk) :=
  cal_L R.f_l_marks sc_l_marks (fun _ _ _ _ _ _ us hl => match us, hl with | [_], _ => rfl) (by rintro _ _ ⟨ch, h1, rfl, rfl⟩; rfl) (by decide) fun f cdv A outer s H E hr ds es ⟨ch, hl, e1, e2⟩ => by
    subst e1 e2
    have := adds_le ch.2.2
    exact
      s_set 1 nd_l_marks (ED.as (d' := .int (adds ch.2.2 : Nat)) (e_lenL R.bt.len (e_of_l (flL 2 eDd (h := fun d => d) (p := fun d => decide (d.1 = ("add" : Str))) nd_l_marks (by omega) (e_ixT rfl (e_var 0 rfl) e_int) (show BlkOk nm_l_marks (defScope st_l_marks) _ _ from ⟨rfl, by decide +kernel, by decide +kernel, by decide +kernel, by decide +kernel⟩) (fun _ _ _ _ _ => pg_name nd_l_marks rfl (.inl rfl)) (fun _ _ _ _ _ a ha => (b_of_c (c_eqS (e_ixT (dd0 _) (e_var 2 rfl) e_int) e_str))) (fun _ _ _ _ _ a ha hk => (e_var 2 rfl))))) (by rw [List.length_map, List.length_map]; rfl)) <|
      s_retL (mpR 3 eMk (h := fun (j : Nat) => (ch.1, (j : Int))) nd_l_marks R.bt.range (by omega) (by omega) (e_var 1 rfl) (show BlkOk nm_l_marks (defScope st_l_marks) _ _ from ⟨rfl, by decide +kernel, by decide +kernel, by decide +kernel, by decide +kernel⟩) (fun _ _ _ _ _ => pg_name nd_l_marks rfl (.inl rfl)) (fun _ _ _ _ _ i hi => (e_tup (h := (a_two (e_ixT rfl (e_var 0 rfl) e_int) (e_var 3 rfl)))))) (by unfold mks; rfl)
end
end KK

/-! Walks: deeds. -/
namespace KK
open PySem PySem.Spec L2 DD MM
section
variable {T : Tb} {P : Program} {w : World} {K : PySem.W.Frag} {mg : Str → Option Value} {base : Heap}
theorem c_l_deeds (R : Pr K mg) : Cal P w K mg base "_law_deeds" ["_law_name_here", "_law_cell_here", "_law_many", "_law_marks_here"] 3 (spL T K fun ds es => ∃ (nm : Str) (c many : Int) (ms : List DD.Mk), 0 ≤ many ∧ many ≤ 1000 ∧ ms.length ≤ 100000 ∧ ds = [.str nm, .int c, .int many, .lst (ms.map eMk)] ∧ es = (deeds nm c many ms).map eDd) :=
  cal_L R.f_l_deeds sc_l_deeds (fun _ _ _ _ _ _ us hl => match us, hl with | [_, _, _, _], _ => rfl) (by rintro _ _ ⟨nm, c, many, ms, h1, h2, h3, rfl, rfl⟩; rfl) (by decide) fun f cdv A outer s H E hr ds es ⟨nm, c, many, ms, h0, h1, h2, e1, e2⟩ => by
    subst e1 e2
    have inv := dSt_inv nm c ms many.toNat
    refine s_new 4 nd_l_deeds (l_lst (h := a_nil)) fun p4 => ?_
    refine s_set 5 nd_l_deeds e_int ?_
    refine s_forR 6 (fun k => [some (.sh (.str nm)), some (.sh (.int c)), some (.sh (.int many)), some (.sh (.lst (ms.map eMk))), some (.ow p4 (.lst ((dSt nm c ms k).1.map eDd))), some (.sh (.int (dSt nm c ms k).2)), none, none, none, none, none, none, none]) 13 R.bt.range (e_var 2 rfl) (pg_name nd_l_deeds rfl (.inl rfl)) (Wk.eq rfl) (fun _ => rfl) (by decide) (fun k hk => ?_) (s_retO 4 rfl rfl)
    · skip
      have q := inv k (by omega)
      have qa := adds_le (dSt nm c ms k).1
      have st : dSt nm c ms (k + 1) = dStep nm c ms k (dSt nm c ms k) := rfl
      have m0 := mixed_lo c (k : Int)
      generalize dSt nm c ms (k + 1) = s1 at st
      generalize dSt nm c ms k = s0 at q qa st
      obtain ⟨ds0, own⟩ := s0
      obtain ⟨q1, q2, q3⟩ := q
      simp only at q1 q2 q3 qa
      have qk := dKnown_len nm ms own
      have a0 := dAt_lo nm c ms k own
      have a1 := dAt_hi nm c ms k own
      have ql : (ds0.map eDd).length < 16777216 := by rw [List.length_map]; omega
      exact
      s_new 7 nd_l_deeds ((l_cat (by simp; omega) (i_of_e (e_var 3 rfl)) (i_of_l (mpR 12 eMk (h := fun (j : Nat) => (nm, (j : Int))) nd_l_deeds R.bt.range (by omega) (by omega) (e_var 5 rfl) (show BlkOk nm_l_deeds (defScope st_l_deeds) _ _ from ⟨rfl, by decide +kernel, by decide +kernel, by decide +kernel, by decide +kernel⟩) (fun _ _ _ _ _ => pg_name nd_l_deeds rfl (.inl rfl)) (fun _ _ _ _ _ i hi => (e_tup (h := (a_two (e_var 0 rfl) (e_var 12 rfl)))))))).as (es := (dKnown nm ms own).map eMk) (by unfold dKnown; rw [List.map_append])) fun p7 =>
      s_set 8 nd_l_deeds (e_call ((c_l_mixed R).mono (by decide)) hr ⟨_, _, rfl, rfl⟩ (a_two (e_var 1 rfl) (e_var 6 rfl))) <|
      s_set 9 nd_l_deeds (ED.as (d' := .int (dAt nm c ms k own)) (e_mod (by omega) (e_fdiv ⟨by decide, by decide⟩ (e_var 8 rfl) e_int) (e_add ((e_lenL R.bt.len (e_own 7 rfl)).as (by rw [List.length_map])) e_int)) rfl) <|
      s_set 10 nd_l_deeds (e_call ((c_l_line R).mono (by decide)) hr ⟨_, rfl, rfl⟩ (a_one (e_fdiv ⟨by decide, by decide⟩ (e_var 8 rfl) e_int))) <|
      s_if2 (k := dAdd nm c ms k own) (BD.as (b_pw (b_or (b_of_c (c_lt (e_mod (by decide) (e_var 8 rfl) e_int) e_int)) fun h2 => (b_or1 (b_not (b_lst (e_own 7 rfl)))))) (by unfold dAdd; rw [Bool.not_not, List.isEmpty_map])) (fun hb =>
          s_set 11 nd_l_deeds e_non <|
          s_ifj [some (.sh (.str nm)), some (.sh (.int c)), some (.sh (.int many)), some (.sh (.lst (ms.map eMk))), some (.ow p4 (.lst (ds0.map eDd))), some (.sh (.int own)), none, none, none, none, some (.sh (.str (line (mixed c (k : Int) / 365)))), some (.sh (eOM (dPut nm c ms k own))), none] (b_of_c (c_gt (e_var 9 rfl) e_int)) (fun hb =>
              s_set 11 nd_l_deeds (e_ixL (atI_map eMk (dPut_at nm c ms k own (of_decide_eq_true hb))) (i_var 7 rfl) (e_sub (e_var 9 rfl) e_int)) <|
              s_nil (.same (.same (.same (.same (.same (.same (.drop (.drop (.drop (.drop (.same (.sh (by unfold dPut; rw [if_pos (of_decide_eq_true hb)]; rfl) (.drop .nil)))))))))))))) (fun hb =>
              s_nil (.same (.same (.same (.same (.same (.same (.drop (.drop (.drop (.drop (.same (.sh (by unfold dPut; rw [if_neg (of_decide_eq_false hb)]; rfl) (.drop .nil)))))))))))))) <|
          s_append 4 rfl ql (e_tup (h := (a_cons e_str (a_cons (e_var 11 rfl) (a_one (e_var 10 rfl)))))) <|
          s_set 5 nd_l_deeds (e_add (e_var 5 rfl) e_int) <|
          s_nil (.same (.same (.same (.same (.ow (by rw [st]; unfold dStep; rw [if_pos hb, List.map_append]; rfl) (.sh (by rw [st]; unfold dStep; rw [if_pos hb]) (.drop (.drop (.drop (.drop (.drop (.drop (.drop .nil)))))))))))))) (fun hb =>
          have hne : dKnown nm ms own ≠ [] := fun e => by unfold dAdd at hb; rw [e] at hb; simp at hb
          have hlen : 0 < ((dKnown nm ms own).length : Int) := by have := List.length_pos_iff.mpr hne; omega
          have hb' : ¬ dAdd nm c ms k own = true := by rw [hb]; decide
          s_if2 (b_of_c (c_eqI (e_mod (by decide) (e_var 8 rfl) e_int) e_int)) (fun hc =>
              s_append 4 rfl ql (e_tup (h := (a_two e_str (e_ixL (atI_map eMk (dHit_at nm c ms k own hne)) (i_var 7 rfl) (e_mod hlen (e_var 9 rfl) ((e_lenL R.bt.len (e_own 7 rfl)).as (by rw [List.length_map]))))))) <|
              s_nil (.same (.same (.same (.same (.ow (by rw [st]; unfold dStep; rw [if_neg hb', if_pos (of_decide_eq_true hc), List.map_append]; rfl) (.sh (by rw [st]; unfold dStep; rw [if_neg hb', if_pos (of_decide_eq_true hc)]) (.drop (.drop (.drop (.drop (.drop (.drop (.drop .nil)))))))))))))) (fun hc =>
              s_append 4 rfl ql (e_tup (h := (a_cons e_str (a_cons (e_ixL (atI_map eMk (dHit_at nm c ms k own hne)) (i_var 7 rfl) (e_mod hlen (e_var 9 rfl) ((e_lenL R.bt.len (e_own 7 rfl)).as (by rw [List.length_map])))) (a_one (e_var 10 rfl)))))) <|
              s_nil (.same (.same (.same (.same (.ow (by rw [st]; unfold dStep; rw [if_neg hb', if_neg (of_decide_eq_false hc), List.map_append]; rfl) (.sh (by rw [st]; unfold dStep; rw [if_neg hb', if_neg (of_decide_eq_false hc)]) (.drop (.drop (.drop (.drop (.drop (.drop (.drop .nil)))))))))))))))
end
end KK

/-! Walks: changes. -/
namespace KK
open PySem PySem.Spec L2 DD MM
theorem cAt0 (cs : List Int) (k : Nat) : cs.getD (4 * (k : Int)).toNat 0 = cAt cs k 0 := by unfold cAt; rw [Int.add_zero]
theorem chN_lo (cs : List Int) {most : Int} (h : 0 ≤ most) : 0 ≤ chN cs most := by unfold chN; omega
theorem chN_hi (cs : List Int) (most : Int) : chN cs most ≤ most := by unfold chN; omega
theorem chN_cs (cs : List Int) (most : Int) : 4 * chN cs most ≤ cs.length := by unfold chN; omega
theorem mem_of_take {α : Type} {xs : List α} {x : α} (h : x ∈ xs) : ∃ i : Nat, xs[i]? = some x := by
  obtain ⟨i, hi, e⟩ := List.mem_iff_getElem.mp h
  exact ⟨i, by rw [← e]; simp [hi]⟩
theorem okChs.mem {cs : List Ch} (h : okChs cs) {ch : Ch} (hm : ch ∈ cs) : ∃ fs, okCh fs ch := by
  obtain ⟨i, e⟩ := mem_of_take hm
  exact ⟨_, h i ch e⟩
theorem okChs.adds {cs : List Ch} (h : okChs cs) : ∀ ch ∈ cs, adds ch.2.2 ≤ 20 := fun ch hm => by
  obtain ⟨fs, q⟩ := okChs.mem h hm
  exact Nat.le_trans (adds_le _) q.len
section
variable {T : Tb} {P : Program} {w : World} {K : PySem.W.Frag} {mg : Str → Option Value} {base : Heap}
theorem c_l_changes (R : Pr K mg) : Cal P w K mg base "_law_changes" ["_law_cells", "_law_most"] 4 (spL T K fun ds es => ∃ (x : D) (cs : List Int) (most : Int), 0 ≤ most ∧ most ≤ 63 ∧ ILd x cs ∧ ds = [x, .int most] ∧ es = (changes cs most).map eCh) :=
  cal_L R.f_l_changes sc_l_changes (fun _ _ _ _ _ _ us hl => match us, hl with | [_, _], _ => rfl) (by rintro _ _ ⟨x, cs, most, h1, h2, h3, rfl, rfl⟩; rfl) (by decide) fun f cdv A outer s H E hr ds es ⟨x, cs, most, h0, h1, hd, e1, e2⟩ => by
    subst e1 e2
    have hN0 := chN_lo cs h0
    have hN1 := chN_hi cs most
    have hN2 := chN_cs cs most
    have inv := chSt_inv cs (n := (chN cs most).toNat) (by omega)
    refine s_new 2 nd_l_changes (l_lst (h := a_nil)) fun p2 => ?_
    refine s_new 3 nd_l_changes (l_lst (h := (a_one e_str))) fun p3 => ?_
    refine s_forR 4 (fun k => [some (.sh x), some (.sh (.int most)), some (.ow p2 (.lst ((chSt cs k).1.map eCh))), some (.ow p3 (.lst ((chSt cs k).2.map D.str))), none, none, none, none, none, none]) 10 R.bt.range (ED.as (d' := .int (chN cs most)) (e_min2 R.bt.min (e_fdiv ⟨by decide, by decide⟩ (e_lenIL hd R.bt.len (e_var 0 rfl)) e_int) (e_var 1 rfl)) (congrArg D.int (by unfold chN; split <;> omega))) (pg_name nd_l_changes rfl (.inl rfl)) (Wk.eq rfl) (fun _ => rfl) (by decide) (fun k hk => ?_) (s_retO 2 rfl (by unfold changes; rfl))
    have I := inv k (by omega)
    have st : chSt cs (k + 1) = chStep cs k (chSt cs k) := rfl
    generalize chSt cs (k + 1) = s1 at st
    generalize chSt cs k = s0 at I st
    obtain ⟨fs, tk⟩ := s0
    have hfl := I.len
    have htk : tk.length < 1000 := by have := I.tk; simp only at this hfl; rw [this]; simp; omega
    have hA := okChs.adds I.ok
    have hM := mkSt_len (leans (cAt cs k 1) fs) fs 20 hA
    simp only at hfl
    have at0 : atI cs (4 * (k : Int)) = some (cAt cs k 0) := by rw [← cAt0]; exact atI_getD 0 (by omega) (by omega)
    have at1 : atI cs (4 * (k : Int) + 1) = some (cAt cs k 1) := atI_getD 0 (by omega) (by omega)
    have at2 : atI cs (4 * (k : Int) + 2) = some (cAt cs k 2) := atI_getD 0 (by omega) (by omega)
    have at3 : atI cs (4 * (k : Int) + 3) = some (cAt cs k 3) := atI_getD 0 (by omega) (by omega)
    have ml := many_lo (cAt cs k 3)
    have mh := many_hi (cAt cs k 3)
    have qf : (fs.map eCh).length < 16777216 := by rw [List.length_map]; omega
    have qt : (tk.map D.str).length < 16777216 := by rw [List.length_map]; omega
    refine s_set 5 nd_l_changes (e_imm (e_call ((c_l_name R).mono (by decide)) hr ⟨cAt cs k 0, tk, htk, I.tn, rfl, rfl⟩ (a_two (e_ixIL hd at0 (e_var 0 rfl) (e_mul (.inl (by decide)) e_int (e_var 4 rfl))) (e_own 3 rfl)))) ?_
    refine s_append 3 rfl qt (e_var 5 rfl) ?_
    refine s_new 6 nd_l_changes (l_callI ((c_l_leans R).mono (by decide)) hr ⟨cAt cs k 1, fs, by omega, rfl, rfl⟩ (imm_strs _) (a_two (e_ixIL hd at1 (e_var 0 rfl) (e_add (e_mul (.inl (by decide)) e_int (e_var 4 rfl)) e_int)) (e_own 2 rfl))) fun p6 => ?_
    refine s_set 7 nd_l_changes (e_of_l (l_lst (h := a_nil))) ?_
    refine s_forO 2 8 (as := fs) (f := eCh) (p := p2) (fun j => [some (.sh x), some (.sh (.int most)), some (.ow p2 (.lst (fs.map eCh))), some (.ow p3 (.lst (tk.map D.str ++ [D.str (name (cAt cs k 0) tk)]))), some (.sh (.int (k : Nat))), some (.sh (.str (name (cAt cs k 0) tk))), some (.ow p6 (.lst ((leans (cAt cs k 1) fs).map D.str))), some (.sh (.lst ((mkSt (leans (cAt cs k 1) fs) fs j).map eMk))), none, none]) 10 rfl (pg_name nd_l_changes rfl (.inl rfl)) (Wk.eq rfl) (fun _ => rfl) (fun _ => rfl) (by decide) (fun j a ha => ?_) ?_
    · have sj : mkSt (leans (cAt cs k 1) fs) fs (j + 1) = mkStep (leans (cAt cs k 1) fs) j a (mkSt (leans (cAt cs k 1) fs) fs j) := nst_succ ha
      have hj : j < fs.length := (List.getElem?_eq_some_iff.mp ha).1
      have hj2 := hM j (by omega)
      have hja := hA a (List.mem_of_getElem? ha)
      have hj3 : a.2.2.length ≤ 1000 := by
        obtain ⟨gs, q⟩ := okChs.mem I.ok (List.mem_of_getElem? ha)
        have := q.len
        omega
      exact s_if2 (b_of_c (c_inL (e_ixT rfl (e_var 8 rfl) e_int) (e_own 6 rfl))) (fun hb =>
            s_set 7 nd_l_changes (e_of_l (l_cat (by rw [List.length_map, List.length_map, mks_len]; omega) (i_of_e (e_var 7 rfl)) (i_of_l (l_call ((c_l_marks R).mono (by decide)) hr ⟨a, hj3, rfl, rfl⟩ (a_one (e_var 8 rfl)))))) <|
            s_nil (.same (.same (.same (.same (.same (.same (.same (.sh (by rw [sj]; unfold mkStep; rw [if_pos (of_decide_eq_true hb), List.map_append]) (.drop (.drop .nil)))))))))))
          (fun hb =>
            s_nil (.same (.same (.same (.same (.same (.same (.same (.sh (by rw [sj]; unfold mkStep; rw [if_neg (of_decide_eq_false hb)]) (.drop (.drop .nil)))))))))))
    · refine s_rel (i := 6) rfl ?_
      refine s_set 9 nd_l_changes (e_mod (by decide) (e_ixIL hd at3 (e_var 0 rfl) (e_add (e_mul (.inl (by decide)) e_int (e_var 4 rfl)) e_int)) e_int) ?_
      refine s_ifj [some (.sh x), some (.sh (.int most)), some (.ow p2 (.lst (fs.map eCh))), some (.ow p3 (.lst (tk.map D.str ++ [D.str (name (cAt cs k 0) tk)]))), some (.sh (.int (k : Nat))), some (.sh (.str (name (cAt cs k 0) tk))), some (.sh (.lst ((leans (cAt cs k 1) fs).map D.str))), some (.sh (.lst ((mksOf (leans (cAt cs k 1) fs) fs).map eMk))), none, some (.sh (.int (many (cAt cs k 3))))] (b_of_c (c_eqI (e_mod (by decide) (e_fdiv ⟨by decide, by decide⟩ (e_ixIL hd at3 (e_var 0 rfl) (e_add (e_mul (.inl (by decide)) e_int (e_var 4 rfl)) e_int)) e_int) e_int) e_int)) (fun hb =>
            s_set 9 nd_l_changes (e_sub e_int (e_mod (by decide) (e_fdiv ⟨by decide, by decide⟩ (e_ixIL hd at3 (e_var 0 rfl) (e_add (e_mul (.inl (by decide)) e_int (e_var 4 rfl)) e_int)) e_int) e_int)) <|
            s_nil (.same (.same (.same (.same (.same (.same (.same (.sh rfl (.drop (.sh (by unfold many; rw [if_pos (of_decide_eq_true hb)]) .nil)))))))))))
          (fun hb => s_nil (.same (.same (.same (.same (.same (.same (.same (.sh rfl (.drop (.sh (by unfold many; rw [if_neg (of_decide_eq_false hb)]) .nil))))))))))) ?_
      refine s_append 2 rfl qf (e_tup (h := (a_cons (e_var 5 rfl) (a_cons (e_var 6 rfl) (a_one (e_of_l (l_call ((c_l_deeds R).mono (by decide)) hr ⟨_, cAt cs k 2, _, _, ml, by omega, by have := hM fs.length (Nat.le_refl _); have e : (mksOf (leans (cAt cs k 1) fs) fs).length ≤ fs.length * 20 := this; omega, rfl, rfl⟩ (a_cons (e_var 5 rfl) (a_cons (e_ixIL hd at2 (e_var 0 rfl) (e_add (e_mul (.inl (by decide)) e_int (e_var 4 rfl)) e_int)) (a_cons (e_var 9 rfl) (a_one (e_var 7 rfl)))))))))))) ?_
      exact s_nil (.same (.same (.ow (by rw [st]; unfold chStep chNew; rw [List.map_append]; rfl) (.ow (by rw [st]; unfold chStep; rw [List.map_append]; rfl) (.drop (.drop (.drop (.drop (.drop (.drop .nil))))))))))
end
end KK

/-! Walks: heights, the plain model. -/
namespace KK
open PySem PySem.Spec L2 DD MM
theorem beq_mk : (instBEqOfDecidableEq : BEq DD.Mk) = instBEqProd := by
  have h : (instBEqOfDecidableEq : BEq DD.Mk).beq = (instBEqProd : BEq DD.Mk).beq := by
    funext a b
    have h1 : (instBEqOfDecidableEq : BEq DD.Mk).beq a b = decide (a = b) := rfl
    rw [h1]
    by_cases e : a = b
    · subst e
      rw [decide_eq_true rfl]
      exact (beq_self_eq_true (α := DD.Mk) a).symm
    · rw [decide_eq_false e]
      exact (beq_eq_false_iff_ne.mpr e).symm
  exact congrArg BEq.mk h
def insN (r : List DD.Mk) : Option DD.Mk → Nat
  | none => 0
  | some m => r.idxOf m + 1
theorem insAt_map (r : List DD.Mk) (o : Option DD.Mk) (x : DD.Mk) : (r.map eMk).take ((insN r o : Nat) : Int).toNat ++ [eMk x] ++ (r.map eMk).drop ((insN r o : Nat) : Int).toNat = (insAt r o x).map eMk := by
  unfold insAt
  rw [Int.toNat_natCast]
  cases o <;> simp [insN, List.map_append, List.map_take, List.map_drop]
section
variable {T : Tb} {P : Program} {w : World} {K : PySem.W.Frag} {mg : Str → Option Value} {base : Heap}
theorem c_l_heights (R : Pr K mg) : Cal P w K mg base "_law_heights" ["_law_changes_here"] 1 (spE T K fun ds d => ∃ chs : List Ch, inOrd chs ∧ chs.length ≤ 1000 ∧ (∀ ch ∈ chs, ch.2.1.length ≤ 1000) ∧ ds = [.lst (chs.map eCh)] ∧ d = sdic D.int (hts chs)) :=
  cal_E R.f_l_heights sc_l_heights (fun _ _ _ _ _ _ us hl => match us, hl with | [_], _ => rfl) (by rintro _ _ ⟨chs, h1, h2, h3, rfl, rfl⟩; rfl) (by decide) fun f cdv A outer s H E hr ds d ⟨chs, ho, hl, hb, e1, e2⟩ => by
    subst e1 e2
    have inv := htSt_keys chs
    refine s_dict 1 nd_l_heights fun p1 => ?_
    refine s_forL 2 (fun k => [some (.sh (.lst (chs.map eCh))), some (.ow p1 (sdic D.int (htSt chs k))), none, none]) 4 (e_var 0 rfl) (pg_name nd_l_heights rfl (.inl rfl)) (Wk.eq rfl) (fun _ => rfl) (by decide) (fun k a ha => ?_) ?_
    · have hk : k < chs.length := (List.getElem?_eq_some_iff.mp ha).1
      obtain ⟨i1, i2⟩ := inv k (by omega)
      have st : htSt chs (k + 1) = aput (htSt chs k) a.1 (htOf (htSt chs k) a.2.1) := nst_succ ha
      have hle := hb a (List.mem_of_getElem? ha)
      have hin := ho k a ha
      rw [st]
      generalize htSt chs k = m at i1 i2
      have get : ∀ l ∈ a.2.1, aget m l = some ((aget m l).getD 0) := fun l hl => by
        have := (i2 l).mpr (hin l hl)
        obtain ⟨w, hw⟩ := Option.isSome_iff_exists.mp this
        rw [hw]; rfl
      refine s_dput 1 hr.units rfl (by omega) (e_maxDef R.bt.max hr.units (e_of_l (mpL 3 D.int (h := fun l => (aget m l).getD 0 + 1) nd_l_heights (by omega) (e_ixT rfl (e_var 2 rfl) e_int) (show BlkOk nm_l_heights (defScope st_l_heights) _ _ from ⟨rfl, by decide +kernel, by decide +kernel, by decide +kernel, by decide +kernel⟩) (fun _ _ _ _ _ => pg_name nd_l_heights rfl (.inl rfl)) (fun _ _ _ _ _ l hl => (e_add (e_dgetO 1 hr.units rfl (get l hl) (e_var 3 rfl)) e_int)))) e_int) (e_ixT rfl (e_var 2 rfl) e_int) ?_
      exact s_nil (.same (.ow rfl (.drop (.drop .nil))))
    · refine s_rel (i := 1) rfl ?_
      exact s_ret (e_var 1 rfl) rfl
theorem c_l_model (R : PrL T K mg base) : Cal P w K mg base "_law_model" ["_law_changes_here"] 4 (spE T K fun ds d => ∃ chs : List Ch, inOrd chs ∧ (chs.map (·.1)).Nodup ∧ vChs chs ∧ chs.length ≤ 1000 ∧ (∀ ch ∈ chs, ch.2.1.length ≤ 1000 ∧ ch.2.2.length ≤ 1000) ∧ ds = [.lst (chs.map eCh)] ∧ d = .tup [.lst ((model chs).1.map eMk), .lst ((toldOf (model chs)).map eTl)]) :=
  cal_EC R.l_l_model sc_l_model (fun _ _ _ _ _ _ us hl => match us, hl with | [_], _ => rfl) (by rintro _ _ ⟨chs, h1, h2, h3, h4, h5, rfl, rfl⟩; rfl) (by decide) fun f cdv A outer s H E hr hT ds d ⟨chs, ho, nd, hv, hl, hb, e1, e2⟩ => by
    subst e1 e2
    have hkeys := htSt_keys chs chs.length (Nat.le_refl _)
    have hget : ∀ ch ∈ byName chs, aget (hts chs) ch.1 = some (hOf chs ch.1) := fun ch hch => by
      have hm := (List.mergeSort_perm chs (PySem.W.dataLe true fun ch => PyData.str ch.1)).mem_iff.mp hch
      have := (hkeys.2 ch.1).mpr (by rw [List.take_length]; exact List.mem_map.mpr ⟨ch, hm, rfl⟩)
      obtain ⟨w, hw⟩ := Option.isSome_iff_exists.mp this
      unfold hOf hts
      rw [hw]; rfl
    have hperm := plain_perm (hOf chs) chs
    have hseq := okSeq_of hv (fun ch hch z hz => hOf_lean ho nd hch hz) hperm (plain_up (hOf chs) chs)
    have hbd : ∀ ch ∈ plain (hOf chs) chs, ch.2.2.length ≤ 1000 := fun ch hch => (hb ch (hperm.mem_iff.mp hch)).2
    have hdo := doSt_ok hseq hbd
    have hll : (plain (hOf chs) chs).length = chs.length := hperm.length_eq
    have hbn : (byName chs).length = chs.length := (List.mergeSort_perm chs (PySem.W.dataLe true fun ch => PyData.str ch.1)).length_eq
    refine s_set 1 nd_l_model (e_call ((c_l_heights R.p).mono (by decide)) hr ⟨chs, ho, hl, fun ch hch => (hb ch hch).1, rfl, rfl⟩ (a_one (e_var 0 rfl))) ?_
    refine s_new 2 nd_l_model (LD.as (es := (byName chs).map eCh) (l_sortKeyR (as := chs) (f := eCh) (key := fun ch => .str ch.1) R.p.bt.sorted hr.units (hr.mono (by decide)) hT (show LamP (defScope st_l_model) _ _ from ⟨rfl, rfl, rfl, by decide +kernel, rfl, by decide +kernel⟩) (by omega) (i_of_e (e_var 0 rfl)) (raw_first (show LamP (defScope st_l_model) _ _ from ⟨rfl, rfl, rfl, by decide +kernel, rfl, by decide +kernel⟩) (fun a => rfl)) (fun a b => by simp [PySem.W.alike]) (fun a => ⟨by simp, by simp, by simp [PyData.depth]⟩)) rfl) fun p2 => ?_
    refine s_par3c 3 4 5 (pg_tup rfl (pgs_cons (pg_name nd_l_model rfl (.inl rfl)) (pgs_cons (pg_name nd_l_model rfl (.inr rfl)) (pgs_cons (pg_name nd_l_model rfl (.inr rfl)) pgs_nil)))) fun p3 p4 p5 => ?_
    refine s_forL 6 (as := plain (hOf chs) chs) (f := eCh) (fun k => [some (.sh (.lst (chs.map eCh))), some (.sh (sdic D.int (hts chs))), some (.ow p2 (.lst ((byName chs).map eCh))), some (.ow p3 (.lst ((doSt (plain (hOf chs) chs) k).1.map eMk))), some (.ow p4 (mdic D.str (doSt (plain (hOf chs) chs) k).2.1)), some (.ow p5 (mdic D.bl (doSt (plain (hOf chs) chs) k).2.2)), none, none, none, none, none]) 11
      (e_of_l (LD.as (l_sortKey (as := byName chs) (f := eCh) (key := fun ch => .int (hOf chs ch.1)) R.p.bt.sorted hr.units (hr.mono (by decide)) hT (show LamP (defScope st_l_model) _ _ from ⟨rfl, rfl, rfl, by decide +kernel, rfl, by decide +kernel⟩) (by omega) (i_var 2 rfl) (raw_dict 1 (show LamP (defScope st_l_model) _ _ from ⟨rfl, rfl, rfl, by decide +kernel, rfl, by decide +kernel⟩) (raw_first (show LamP (defScope st_l_model) _ _ from ⟨rfl, rfl, rfl, by decide +kernel, rfl, by decide +kernel⟩) (fun a => rfl)) rfl hget (by exact fun _ _ => rfl)) (fun a b => by simp [PySem.W.alike]) (fun a => ⟨by simp, by simp, by simp [PyData.depth]⟩)) rfl)) (pg_name nd_l_model rfl (.inl rfl)) (Wk.eq rfl) (fun _ => rfl) (by decide) (fun k a ha => ?_) ?_
    · have hk : k < (plain (hOf chs) chs).length := (List.getElem?_eq_some_iff.mp ha).1
      have hd0 := hdo k (by omega)
      have hst : doSt (plain (hOf chs) chs) (k + 1) = dCh a (doSt (plain (hOf chs) chs) k) := nst_succ ha
      have hsq := hseq k a ha
      have hab := hbd a (List.mem_of_getElem? ha)
      rw [hst]
      generalize doSt (plain (hOf chs) chs) k = s0 at hd0
      generalize allMks ((plain (hOf chs) chs).take k) = ms at hd0 hsq
      have inn := deedSt_ok hd0 hsq
      refine s_set 7 nd_l_model e_int ?_
      refine s_forL 8 (as := a.2.2) (f := eDd) (fun j => [some (.sh (.lst (chs.map eCh))), some (.sh (sdic D.int (hts chs))), some (.ow p2 (.lst ((byName chs).map eCh))), some (.ow p3 (.lst ((deedSt a.1 a.2.2 s0 j).1.1.map eMk))), some (.ow p4 (mdic D.str (deedSt a.1 a.2.2 s0 j).1.2.1)), some (.ow p5 (mdic D.bl (deedSt a.1 a.2.2 s0 j).1.2.2)), some (.sh (eCh a)), some (.sh (.int (deedSt a.1 a.2.2 s0 j).2)), none, none, none]) 11 (e_ixT rfl (e_var 6 rfl) e_int) (pg_name nd_l_model rfl (.inl rfl)) (Wk.eq rfl) (fun _ => rfl) (by decide) (fun j b hb' => ?_) ?_
      · have hj : j < a.2.2.length := (List.getElem?_eq_some_iff.mp hb').1
        obtain ⟨q1, q2⟩ := inn j (by omega)
        have hsj : deedSt a.1 a.2.2 s0 (j + 1) = dDeed a.1 b (deedSt a.1 a.2.2 s0 j) := nst_succ hb'
        have okd := hsq j b hb'
        rw [hsj]
        generalize deedSt a.1 a.2.2 s0 j = s1 at q1 q2
        obtain ⟨r1, own⟩ := s1
        simp only at q1 q2
        subst q1
        obtain ⟨hin, _, _⟩ := dDeed_ok q2 okd
        obtain ⟨row, words, gone⟩ := r1
        have b1 := q2.l1
        have b2 := q2.l2
        have b3 := q2.l3
        simp only at b1 b2 b3 hin
        have hkb : k * 1000 ≤ 1000000 := by have : k ≤ 1000 := by omega
                                            omega
        obtain ⟨wd, o, l⟩ := b
        refine s_if2 (b_of_c (c_eqS (e_ixT (dd0 _) (e_var 8 rfl) e_int) e_str)) (fun hc => ?_) (fun hc => ?_)
        · have hw : wd = ("add" : Str) := of_decide_eq_true hc
          obtain ⟨z, hz⟩ : ∃ z, l = some z := by
            rcases okd with ⟨_, _, z, h3, _⟩ | ⟨m, _, e | ⟨z, _, e⟩⟩
            · exact ⟨z, h3⟩
            · cases e; exact absurd hw (by decide +kernel)
            · cases e; exact ⟨z, rfl⟩
          have eD : dDeed a.1 (wd, o, l) ((row, words, gone), ((adds (a.2.2.take j) : Nat) : Int)) = ((insAt row o (a.1, ((adds (a.2.2.take j) : Nat) : Int)), aput words (a.1, ((adds (a.2.2.take j) : Nat) : Int)) (l.getD ""), gone), ((adds (a.2.2.take j) : Nat) : Int) + 1) := by unfold dDeed; rw [if_pos hw]
          rw [eD]
          refine s_set 9 nd_l_model e_int ?_
          refine s_ifj [some (.sh (.lst (chs.map eCh))), some (.sh (sdic D.int (hts chs))), some (.ow p2 (.lst ((byName chs).map eCh))), some (.ow p3 (.lst (row.map eMk))), some (.ow p4 (mdic D.str words)), some (.ow p5 (mdic D.bl gone)), some (.sh (eCh a)), some (.sh (.int ((adds (a.2.2.take j) : Nat) : Int))), some (.sh (eDd (wd, o, l))), some (.sh (.int ((insN row o : Nat) : Int))), none] (b_of_c (c_notN (e_ixT (dd1 _) (e_var 8 rfl) e_int))) (fun hn => ?_) (fun hn => ?_) ?_
          · cases o with
            | none => cases hn
            | some m =>
              refine s_set 9 nd_l_model (e_add (e_indexO (v := m) 3 enc_mk (by have := hr.un; have := hr.units; omega) rfl (hin m rfl) (e_ixT (dd1 _) (e_var 8 rfl) e_int)) e_int) ?_
              exact s_nil (.same (.same (.same (.same (.same (.same (.same (.same (.same (.sh (congrArg D.int (by rw [beq_mk]; show ((row.idxOf m : Nat) : Int) + 1 = ((row.idxOf m + 1 : Nat) : Int); omega)) (.drop .nil)))))))))))
          · cases o with
            | none => exact s_nil (.same (.same (.same (.same (.same (.same (.same (.same (.same (.sh rfl (.drop .nil)))))))))))
            | some m => cases hn
          have hidx : insN row o ≤ row.length + 1 := by
            cases o with
            | none => exact Nat.zero_le _
            | some m => exact Nat.succ_le_succ (List.idxOf_le_length)
          refine s_insert 3 rfl (by omega) (by omega) (by rw [List.length_map]; omega) (e_var 9 rfl) (ED.as (d' := eMk (a.1, ((adds (a.2.2.take j) : Nat) : Int))) (e_tup (h := (a_two (e_ixT rfl (e_var 6 rfl) e_int) (e_var 7 rfl)))) rfl) ?_
          refine s_dputM 4 (w := l.getD "") hr.units rfl (by omega) (ED.as (e_ixT (dd2 hz) (e_var 8 rfl) e_int) (by rw [hz]; rfl)) (ED.as (d' := eMk (a.1, ((adds (a.2.2.take j) : Nat) : Int))) (e_tup (h := (a_two (e_ixT rfl (e_var 6 rfl) e_int) (e_var 7 rfl)))) rfl) ?_
          refine s_set 7 nd_l_model (e_add (e_var 7 rfl) e_int) ?_
          exact s_nil (.same (.same (.same (.ow (congrArg D.lst (insAt_map row o _)) (.same (.same (.same (.same (.drop (.drop (.drop .nil)))))))))))
        · have hw := of_decide_eq_false hc
          rcases okd with ⟨h1, _⟩ | ⟨m, _, e | ⟨z, _, e⟩⟩
          · exact absurd h1 hw
          · cases e
            have e2 : ¬ ("cut" : Str) = ("set" : Str) := by decide +kernel
            refine s_if2 (b_of_c (c_eqS (e_ixT (dd0 _) (e_var 8 rfl) e_int) e_str)) (fun hs => absurd (of_decide_eq_true hs) e2) (fun hs => ?_)
            have eD : dDeed a.1 (("cut" : Str), some m, none) ((row, words, gone), ((adds (a.2.2.take j) : Nat) : Int)) = ((row, words, aput gone m true), ((adds (a.2.2.take j) : Nat) : Int)) := by unfold dDeed; rw [if_neg hw, if_neg e2]; rfl
            rw [eD]
            refine s_dputM 5 (w := true) (k := m) hr.units rfl (show gone.length < 16777216 by omega) e_bl (e_ixT (dd1 _) (e_var 8 rfl) e_int) ?_
            exact s_nil (.same (.same (.same (.same (.same (.same (.same (.same (.drop (.drop (.drop .nil)))))))))))
          · cases e
            refine s_if2 (b_of_c (c_eqS (e_ixT (dd0 _) (e_var 8 rfl) e_int) e_str)) (fun hs => ?_) (fun hs => absurd rfl (of_decide_eq_false hs))
            have eD : dDeed a.1 (("set" : Str), some m, some z) ((row, words, gone), ((adds (a.2.2.take j) : Nat) : Int)) = ((row, aput words m z, gone), ((adds (a.2.2.take j) : Nat) : Int)) := by unfold dDeed; rw [if_neg hw, if_pos rfl]; rfl
            rw [eD]
            refine s_dputM 4 (w := z) (k := m) hr.units rfl (show words.length < 16777216 by omega) (e_ixT (dd2 rfl) (e_var 8 rfl) e_int) (e_ixT (dd1 _) (e_var 8 rfl) e_int) ?_
            exact s_nil (.same (.same (.same (.same (.same (.same (.same (.same (.drop (.drop (.drop .nil)))))))))))
      · exact s_nil (.same (.same (.same (.ow rfl (.ow rfl (.ow rfl (.drop (.drop (.drop (.drop (.drop .nil)))))))))))
    · have hd0 := hdo (plain (hOf chs) chs).length (Nat.le_refl _)
      have em : model chs = doSt (plain (hOf chs) chs) (plain (hOf chs) chs).length := rfl
      rw [em]
      generalize doSt (plain (hOf chs) chs) (plain (hOf chs) chs).length = r at hd0
      obtain ⟨row, words, gone⟩ := r
      have b1 := hd0.l1
      simp only at b1
      have get : ∀ m ∈ row, aget words m = some ((aget words m).getD "") := fun m hm => by
        obtain ⟨w, hw⟩ := Option.isSome_iff_exists.mp (hd0.wd m hm)
        simp only at hw
        rw [hw]; rfl
      refine s_rel (i := 3) rfl ?_
      refine s_ret (e_tup (h := (a_two (e_var 3 rfl) (e_of_l (flL 10 eTl (p := fun m => !(aget gone m).isSome) (h := fun m => (m, (aget words m).getD "")) nd_l_model (show row.length ≤ 16777216 by omega) (e_var 3 rfl) (show BlkOk nm_l_model (defScope st_l_model) _ _ from ⟨rfl, by decide +kernel, by decide +kernel, by decide +kernel, by decide +kernel⟩) (fun _ _ _ _ _ => pg_name nd_l_model rfl (.inl rfl)) (fun _ _ _ _ _ a ha => (b_of_c (c_notInDicM hr.units (e_var 10 rfl) (e_own 5 rfl)))) (fun _ _ _ _ _ a ha hk => (e_tup (h := (a_two (e_var 10 rfl) (e_dgetOM 4 hr.units rfl (get a ha) (e_var 10 rfl))))))))))) rfl
end
end KK

/-! Walks: heights, the order of a dict, deeds done. -/
namespace KK
open PySem PySem.Spec L2 DD MM
/-- a dict of changes as it may be told -/
structure KL (L : List Ch) : Prop where
  nm : ∀ ch ∈ L, SOk ch.1
  l0 : L.length ≤ 1000
  l1 : ∀ ch ∈ L, ch.2.1.length ≤ 1000
  l2 : ∀ ch ∈ L, ch.2.2.length ≤ 1000
theorem KL.keys {L : List Ch} (h : KL L) : ∀ q ∈ kd L, SOk q.1 := fun q hq => by
  unfold kd at hq
  obtain ⟨c, hc, rfl⟩ := List.mem_map.mp hq
  exact h.nm c hc
theorem immAll_vals {κ β : Type} {g : β → D} (h : ∀ b, imm (g b) = true) (m : List (κ × β)) : immAll (m.map fun p => g p.2) = true := by
  induction m with
  | nil => rfl
  | cons p m ih => simp [immAll, h, ih]
section
variable {T : Tb} {P : Program} {w : World} {K : PySem.W.Frag} {mg : Str → Option Value} {base : Heap}
theorem c_heights (R : Pr K mg) : Cal P w K mg base "heights" ["known"] 1 (spE T K fun ds d => ∃ L : List Ch, KL L ∧ ds = [sdic eCh (kd L)] ∧ d = sdic D.int (hg L)) :=
  cal_E R.f_heights sc_heights (fun _ _ _ _ _ _ us hl => match us, hl with | [_], _ => rfl) (by rintro _ _ ⟨L, h1, rfl, rfl⟩; rfl) (by decide) fun f cdv A outer s H E hr ds d ⟨L, hL, e1, e2⟩ => by
    subst e1 e2
    have b0 := hL.l0
    refine s_dict 1 nd_heights fun p1 => ?_
    refine s_new 2 nd_heights (l_keysD R.bt.list hL.keys (e_var 0 rfl)) fun p2 => ?_
    rw [kd_keys]
    refine s_while (α := Nat × List (Str × Int) × List Str × Addr) (fun a => [some (.sh (sdic eCh (kd L))), some (.ow p1 (sdic D.int a.2.1)), some (.ow a.2.2.2 (.lst (a.2.2.1.map D.str))), none, none, none, none]) (fun a => a.2.2.1.length)
      (fun a => hgLoop L a.1 a.2.1 a.2.2.1 = hg L ∧ a.2.2.1.length < a.1 ∧ (∀ z ∈ a.2.2.1, z ∈ L.map (·.1)) ∧ a.2.1.length + 1000 * a.1 ≤ 1001000 ∧ a.2.2.1.length ≤ 1000) (fun a => !((a.2.2.1.map D.str).isEmpty)) (L.length + 1, [], L.map (·.1), p2) (Wk.eq rfl) ⟨rfl, by simp, fun z hz => hz, by simp; omega, by simp; omega⟩ (fun a ha => (b_lst (e_own 2 rfl)).as (by cases a.2.2.1 <;> rfl)) (fun a ha hc => ?_) fun a ha hc => ?_
    · obtain ⟨n, g, left, p⟩ := a
      obtain ⟨i1, i2, i3, i4, i5⟩ := ha
      dsimp only at i1 i2 i3 i4 i5 hc ⊢
      have hne : left ≠ [] := fun e => by rw [e] at hc; cases hc
      obtain ⟨n, rfl⟩ : ∃ k, n = k + 1 := ⟨n - 1, by omega⟩
      have sub := pSt_sub L g left
      refine s_new 3 nd_heights (l_lst (h := a_nil)) fun p3 => ?_
      refine s_forO 2 4 (as := left) (f := D.str) (fun k => [some (.sh (sdic eCh (kd L))), some (.ow p1 (sdic D.int (pSt L g left k).1)), some (.ow p (.lst (left.map D.str))), some (.ow p3 (.lst ((pSt L g left k).2.map D.str))), none, none, none]) 7 rfl (pg_name nd_heights rfl (.inl rfl)) (Wk.eq rfl) (fun _ => rfl) (fun _ => rfl) (by decide) (fun k a ha => ?_) ?_
      · have hk : k < left.length := (List.getElem?_eq_some_iff.mp ha).1
        obtain ⟨s1, s2, s3⟩ := sub k (by omega)
        have st : pSt L g left (k + 1) = pStep L a (pSt L g left k) := nst_succ ha
        rw [st]
        generalize pSt L g left k = q at s1 s2 s3
        obtain ⟨fk, lt⟩ := q
        dsimp only at s1 s2 s3
        obtain ⟨c1, c2, c3⟩ := chOf_mem (i3 a (List.mem_of_getElem? ha))
        have bl := hL.l1 _ c2
        refine s_set 5 nd_heights (e_ixT rfl (e_dgetR (g := eCh) (w := chOf L a) hr.units (e_var 0 rfl) c1 (e_var 4 rfl)) e_int) ?_
        have eAll : ((chOf L a).2.1.map fun l => (aget fk l).isSome).all (fun z => z) = (chOf L a).2.1.all fun l => (aget fk l).isSome := by rw [List.all_map]; rfl
        refine s_if2 (b_of_e' (e_all R.bt.all (e_of_l (mpL 6 D.bl (h := fun l => (aget fk l).isSome) nd_heights (by omega) (e_var 5 rfl) (show BlkOk nm_heights (defScope st_heights) _ _ from ⟨rfl, by decide +kernel, by decide +kernel, by decide +kernel, by decide +kernel⟩) (fun _ _ _ _ _ => pg_name nd_heights rfl (.inl rfl)) (fun _ _ _ _ _ l hl => (e_of_c (c_inDic hr.units (e_var 6 rfl) (e_own 1 rfl)))))))) (fun hb => ?_) (fun hb => ?_)
        · rw [eAll] at hb
          have eS : pStep L a (fk, lt) = (aput fk a (htOf fk (chOf L a).2.1), lt) := by unfold pStep; rw [if_pos hb]
          rw [eS]
          have get : ∀ l ∈ (chOf L a).2.1, aget fk l = some ((aget fk l).getD 0) := fun l hl => by
            obtain ⟨w, hw⟩ := Option.isSome_iff_exists.mp (List.all_eq_true.mp hb l hl)
            rw [hw]; rfl
          refine s_dput 1 hr.units rfl (show fk.length < 16777216 by omega) (e_maxDef R.bt.max hr.units (e_of_l (mpL 6 D.int (h := fun l => (aget fk l).getD 0 + 1) nd_heights (by omega) (e_var 5 rfl) (show BlkOk nm_heights (defScope st_heights) _ _ from ⟨rfl, by decide +kernel, by decide +kernel, by decide +kernel, by decide +kernel⟩) (fun _ _ _ _ _ => pg_name nd_heights rfl (.inl rfl)) (fun _ _ _ _ _ l hl => (e_add (e_dgetO 1 hr.units rfl (get l hl) (e_var 6 rfl)) e_int)))) e_int) (e_var 4 rfl) ?_
          exact s_nil (.same (.ow rfl (.same (.ow rfl (.drop (.drop (.drop .nil)))))))
        · rw [eAll] at hb
          have eS : pStep L a (fk, lt) = (fk, lt ++ [a]) := by unfold pStep; rw [if_neg (by rw [hb]; decide)]
          rw [eS]
          refine s_append 3 rfl (by rw [List.length_map]; show lt.length < _; omega) (e_var 4 rfl) ?_
          exact s_nil (.same (.ow rfl (.same (.ow (by rw [List.map_append]; rfl) (.drop (.drop (.drop .nil)))))))
      · obtain ⟨s1, s2, s3⟩ := sub left.length (Nat.le_refl _)
        have step : hgLoop L (n + 1) g left = if (pSt L g left left.length).2.length = left.length then (pSt L g left left.length).1 else hgLoop L n (pSt L g left left.length).1 (pSt L g left left.length).2 := by
          show (if left = [] then g else _) = _
          rw [if_neg hne]
        rw [step] at i1
        generalize pSt L g left left.length = q at s1 s2 s3 i1
        obtain ⟨fk, lt⟩ := q
        dsimp only at s1 s2 s3 i1
        refine s_ift (b_of_c (c_eqI (e_lenL R.bt.len (e_own 3 rfl)) (e_lenL R.bt.len (e_own 2 rfl)))) (fun hb => ?_) fun hb => ?_
        · have hb' : lt.length = left.length := by have := of_decide_eq_true hb; simp only [List.length_map] at this; omega
          rw [if_pos hb'] at i1
          refine s_rel (i := 1) rfl ?_
          exact s_ret (e_var 1 rfl) (by show _ = _; rw [← i1])
        · have hb' : lt.length ≠ left.length := fun e => by
            have := of_decide_eq_false hb
            apply this
            simp [e]
          rw [if_neg hb'] at i1
          refine s_move 2 3 nd_heights rfl ?_
          exact s_nil ⟨(n, fk, lt, p3), ⟨i1, by show lt.length < n; omega, fun z hz => i3 z (s3 z hz), by show fk.length + 1000 * n ≤ _; omega, by show lt.length ≤ _; omega⟩, by show lt.length < left.length; omega, (.same (.same (.same (.same (.drop (.drop (.drop .nil)))))))⟩
    · obtain ⟨n, g, left, p⟩ := a
      obtain ⟨i1, i2, i3, i4, i5⟩ := ha
      dsimp only at i1 i2 hc ⊢
      have hne : left = [] := by cases left with | nil => rfl | cons _ _ => cases hc
      obtain ⟨n, rfl⟩ : ∃ k, n = k + 1 := ⟨n - 1, by omega⟩
      have : g = hg L := by rw [← i1]; show _ = (if left = [] then g else _); rw [if_pos hne]
      refine s_rel (i := 1) rfl ?_
      exact s_ret (e_var 1 rfl) (by show _ = _; rw [this])
theorem c_in_order (R : PrL T K mg base) : Cal P w K mg base "in_order" ["known"] 4 (spE T K fun ds d => ∃ L : List Ch, KL L ∧ L.length < 64 ∧ (∀ z ∈ L.map (·.1), (aget (hg L) z).isSome = true) ∧ ds = [sdic eCh (kd L)] ∧ d = .lst ((ordOf L).map D.str)) :=
  cal_EC R.l_in_order sc_in_order (fun _ _ _ _ _ _ us hl => match us, hl with | [_], _ => rfl) (by rintro _ _ ⟨chs, h1, h2, h3, rfl, rfl⟩; rfl) (by decide) fun f cdv A outer s H E hr hT ds d ⟨L, hL, h64, hall, e1, e2⟩ => by
    subst e1 e2
    have hlen : (ssort (L.map (·.1))).reverse.length = L.length := by rw [List.length_reverse, (ssort_perm _).length_eq, List.length_map]
    have hget : ∀ z ∈ (ssort (L.map (·.1))).reverse, aget (hg L) z = some (hgAt L z) := fun z hz => by
      obtain ⟨w, hw⟩ := Option.isSome_iff_exists.mp (hall z ((ssort_perm _).mem_iff.mp (List.mem_reverse.mp hz)))
      unfold hgAt
      rw [hw]; rfl
    refine s_set 1 nd_in_order (e_call ((c_heights R.p).mono (by decide)) hr ⟨L, hL, rfl, rfl⟩ (a_one (e_var 0 rfl))) ?_
    refine s_new 2 nd_in_order (l_sortedDR R.p.bt.sorted (by rw [kd_len]; exact h64) hL.keys (e_var 0 rfl)) fun p2 => ?_
    rw [kd_keys]
    exact s_retL (l_sortKey (as := (ssort (L.map (·.1))).reverse) (f := D.str) (key := fun z => .int (hgAt L z)) R.p.bt.sorted hr.units (hr.mono (by decide)) hT (show LamP (defScope st_in_order) _ _ from ⟨rfl, rfl, rfl, by decide +kernel, rfl, by decide +kernel⟩) (by omega) (i_var 2 rfl) (raw_dict 1 (show LamP (defScope st_in_order) _ _ from ⟨rfl, rfl, rfl, by decide +kernel, rfl, by decide +kernel⟩) (raw_name (h := fun z => z) (show LamP (defScope st_in_order) _ _ from ⟨rfl, rfl, rfl, by decide +kernel, rfl, by decide +kernel⟩) (fun a => rfl)) rfl hget (by exact fun _ _ => rfl)) (fun a b => by simp [PySem.W.alike]) (fun a => ⟨by simp, by simp, by simp [PyData.depth]⟩)) rfl
/-- the deeds of a dict of changes, all done -/
def dnD (r : Rw) : D := .tup [.lst (r.1.map eMk), mdic D.str r.2.1, mdic D.bl r.2.2]
structure DoOk (L : List Ch) : Prop where
  kl : KL L
  l64 : L.length < 64
  hs : ∀ z ∈ L.map (·.1), (aget (hg L) z).isSome = true
  sq : okSeq (seqOf L)
theorem c_done (R : PrL T K mg base) : Cal P w K mg base "done" ["known"] 5 (spN T K fun ds d => ∃ L : List Ch, DoOk L ∧ ds = [sdic eCh (kd L)] ∧ d = dnD (doAll (seqOf L))) :=
  cal_N R.p.f_done sc_done (fun _ _ _ _ _ _ us hl => match us, hl with | [_], _ => rfl) (by rintro _ _ ⟨L, h1, rfl, rfl⟩; rfl) (by decide) fun f cdv A outer s H E hr ds d ⟨L, hD, e1, e2⟩ => by
    subst e1 e2
    have hL := hD.kl
    have h64 := hD.l64
    have hseq := hD.sq
    have omem : ∀ z ∈ ordOf L, z ∈ L.map (·.1) := fun z hz => nOrd_mem.mp hz
    have olen : (ordOf L).length = L.length := by unfold ordOf; rw [nOrd_len, List.length_map]
    have slen : (seqOf L).length = L.length := by unfold seqOf; rw [List.length_map, olen]
    have hbd : ∀ ch ∈ seqOf L, ch.2.2.length ≤ 1000 := fun ch hch => by
      unfold seqOf at hch
      obtain ⟨z, hz, rfl⟩ := List.mem_map.mp hch
      exact hL.l2 _ (chOf_mem (omem z hz)).2.1
    have hdo := doSt_ok hseq hbd
    refine s_par3 (kp := ⟨0, 0, 0, 0⟩) 1 2 3 nd_done (hr := fun p3 p4 p5 => ?_)
    refine s_forL 4 (as := ordOf L) (f := D.str) (fun k => [some (.sh (sdic eCh (kd L))), some (.ow p3 (.lst ((doSt (seqOf L) k).1.map eMk))), some (.ow p4 (mdic D.str (doSt (seqOf L) k).2.1)), some (.ow p5 (mdic D.bl (doSt (seqOf L) k).2.2)), none, none, none, none]) 8
      (e_call ((c_in_order R).mono (by decide)) hr ⟨L, hL, h64, hD.hs, rfl, rfl⟩ (a_one (e_var 0 rfl))) (pg_name nd_done rfl (.inl rfl)) (Wk.eq rfl) (fun _ => rfl) (by decide) (fun k z hz => ?_) ?_
    · have hk : k < (ordOf L).length := (List.getElem?_eq_some_iff.mp hz).1
      obtain ⟨c1, c2, c3⟩ := chOf_mem (omem z (List.mem_of_getElem? hz))
      have ha : (seqOf L)[k]? = some (chOf L z) := by unfold seqOf; rw [List.getElem?_map, hz]; rfl
      have hd0 := hdo k (by omega)
      have hst : doSt (seqOf L) (k + 1) = dCh (chOf L z) (doSt (seqOf L) k) := nst_succ ha
      have hsq := hseq k _ ha
      have hab := hbd _ (List.mem_of_getElem? ha)
      rw [hst]
      generalize chOf L z = a at c1 c2 c3 ha hst hsq hab
      generalize doSt (seqOf L) k = s0 at hd0
      generalize allMks ((seqOf L).take k) = ms at hd0 hsq
      have inn := deedSt_ok hd0 hsq
      have hk2 : k ≤ 1000 := by omega
      refine s_set 5 nd_done e_int ?_
      refine s_forL 6 (as := a.2.2) (f := eDd) (fun j => [some (.sh (sdic eCh (kd L))), some (.ow p3 (.lst ((deedSt a.1 a.2.2 s0 j).1.1.map eMk))), some (.ow p4 (mdic D.str (deedSt a.1 a.2.2 s0 j).1.2.1)), some (.ow p5 (mdic D.bl (deedSt a.1 a.2.2 s0 j).1.2.2)), some (.sh (.str z)), some (.sh (.int (deedSt a.1 a.2.2 s0 j).2)), none, none]) 8 (e_ixT rfl (e_dgetR (g := eCh) (w := a) hr.units (e_var 0 rfl) c1 (e_var 4 rfl)) e_int) (pg_name nd_done rfl (.inl rfl)) (Wk.eq rfl) (fun _ => rfl) (by decide) (fun j b hb' => ?_) ?_
      · have hj : j < a.2.2.length := (List.getElem?_eq_some_iff.mp hb').1
        obtain ⟨q1, q2⟩ := inn j (by omega)
        have hsj : deedSt a.1 a.2.2 s0 (j + 1) = dDeed a.1 b (deedSt a.1 a.2.2 s0 j) := nst_succ hb'
        have okd := hsq j b hb'
        rw [hsj]
        generalize deedSt a.1 a.2.2 s0 j = s1 at q1 q2
        obtain ⟨r1, own⟩ := s1
        simp only at q1 q2
        subst q1
        obtain ⟨hin, _, _⟩ := dDeed_ok q2 okd
        obtain ⟨row, words, gone⟩ := r1
        have b1 := q2.l1
        have b2 := q2.l2
        have b3 := q2.l3
        simp only at b1 b2 b3 hin
        have hkb : k * 1000 ≤ 1000000 := by omega
        obtain ⟨wd, o, l⟩ := b
        have eMkz : eMk (a.1, ((adds (a.2.2.take j) : Nat) : Int)) = .tup [.str z, .int ((adds (a.2.2.take j) : Nat) : Int)] := by rw [c3]; rfl
        refine s_if2 (b_of_c (c_eqS (e_ixT (dd0 _) (e_var 6 rfl) e_int) e_str)) (fun hc => ?_) (fun hc => ?_)
        · have hw : wd = ("add" : Str) := of_decide_eq_true hc
          obtain ⟨y, hy⟩ : ∃ y, l = some y := by
            rcases okd with ⟨_, _, y, h3, _⟩ | ⟨m, _, e | ⟨y, _, e⟩⟩
            · exact ⟨y, h3⟩
            · cases e; exact absurd hw (by decide +kernel)
            · cases e; exact ⟨y, rfl⟩
          have eD : dDeed a.1 (wd, o, l) ((row, words, gone), ((adds (a.2.2.take j) : Nat) : Int)) = ((insAt row o (a.1, ((adds (a.2.2.take j) : Nat) : Int)), aput words (a.1, ((adds (a.2.2.take j) : Nat) : Int)) (l.getD ""), gone), ((adds (a.2.2.take j) : Nat) : Int) + 1) := by unfold dDeed; rw [if_pos hw]
          rw [eD]
          refine s_set 7 nd_done e_int ?_
          refine s_ifj [some (.sh (sdic eCh (kd L))), some (.ow p3 (.lst (row.map eMk))), some (.ow p4 (mdic D.str words)), some (.ow p5 (mdic D.bl gone)), some (.sh (.str z)), some (.sh (.int ((adds (a.2.2.take j) : Nat) : Int))), some (.sh (eDd (wd, o, l))), some (.sh (.int ((insN row o : Nat) : Int)))] (b_of_c (c_notN (e_ixT (dd1 _) (e_var 6 rfl) e_int))) (fun hn => ?_) (fun hn => ?_) ?_
          · cases o with
            | none => cases hn
            | some m =>
              refine s_set 7 nd_done (e_add (e_indexO (v := m) 1 enc_mk (by have := hr.un; have := hr.units; omega) rfl (hin m rfl) (e_ixT (dd1 _) (e_var 6 rfl) e_int)) e_int) ?_
              exact s_nil (.same (.same (.same (.same (.same (.same (.same (.sh (congrArg D.int (by rw [beq_mk]; show ((row.idxOf m : Nat) : Int) + 1 = ((row.idxOf m + 1 : Nat) : Int); omega)) .nil))))))))
          · cases o with
            | none => exact s_nil (.same (.same (.same (.same (.same (.same (.same (.sh rfl .nil))))))))
            | some m => cases hn
          have hidx : insN row o ≤ row.length + 1 := by
            cases o with
            | none => exact Nat.zero_le _
            | some m => exact Nat.succ_le_succ (List.idxOf_le_length)
          refine s_insert 1 rfl (by omega) (by omega) (by rw [List.length_map]; omega) (e_var 7 rfl) (ED.as (d' := eMk (a.1, ((adds (a.2.2.take j) : Nat) : Int))) (e_tup (h := (a_two (e_var 4 rfl) (e_var 5 rfl)))) eMkz.symm) ?_
          refine s_dputM 2 (w := l.getD "") hr.units rfl (by omega) (ED.as (e_ixT (dd2 hy) (e_var 6 rfl) e_int) (by rw [hy]; rfl)) (ED.as (d' := eMk (a.1, ((adds (a.2.2.take j) : Nat) : Int))) (e_tup (h := (a_two (e_var 4 rfl) (e_var 5 rfl)))) eMkz.symm) ?_
          refine s_set 5 nd_done (e_add (e_var 5 rfl) e_int) ?_
          exact s_nil (.same (.ow (congrArg D.lst (insAt_map row o _)) (.same (.same (.same (.same (.drop (.drop .nil))))))))
        · have hw := of_decide_eq_false hc
          rcases okd with ⟨h1, _⟩ | ⟨m, _, e | ⟨y, _, e⟩⟩
          · exact absurd h1 hw
          · cases e
            have e2 : ¬ ("cut" : Str) = ("set" : Str) := by decide +kernel
            refine s_if2 (b_of_c (c_eqS (e_ixT (dd0 _) (e_var 6 rfl) e_int) e_str)) (fun hs => absurd (of_decide_eq_true hs) e2) (fun hs => ?_)
            have eD : dDeed a.1 (("cut" : Str), some m, none) ((row, words, gone), ((adds (a.2.2.take j) : Nat) : Int)) = ((row, words, aput gone m true), ((adds (a.2.2.take j) : Nat) : Int)) := by unfold dDeed; rw [if_neg hw, if_neg e2]; rfl
            rw [eD]
            refine s_dputM 3 (w := true) (k := m) hr.units rfl (show gone.length < 16777216 by omega) e_bl (e_ixT (dd1 _) (e_var 6 rfl) e_int) ?_
            exact s_nil (.same (.same (.same (.same (.same (.same (.drop (.drop .nil))))))))
          · cases e
            refine s_if2 (b_of_c (c_eqS (e_ixT (dd0 _) (e_var 6 rfl) e_int) e_str)) (fun hs => ?_) (fun hs => absurd rfl (of_decide_eq_false hs))
            have eD : dDeed a.1 (("set" : Str), some m, some y) ((row, words, gone), ((adds (a.2.2.take j) : Nat) : Int)) = ((row, aput words m y, gone), ((adds (a.2.2.take j) : Nat) : Int)) := by unfold dDeed; rw [if_neg hw, if_pos rfl]; rfl
            rw [eD]
            refine s_dputM 2 (w := y) (k := m) hr.units rfl (show words.length < 16777216 by omega) (e_ixT (dd2 rfl) (e_var 6 rfl) e_int) (e_ixT (dd1 _) (e_var 6 rfl) e_int) ?_
            exact s_nil (.same (.same (.same (.same (.same (.same (.drop (.drop .nil))))))))
      · exact s_nil (.same (.ow rfl (.ow rfl (.ow rfl (.drop (.drop (.drop (.drop .nil))))))))
    · rw [olen, ← slen]
      have eF : dnD (doAll (seqOf L)) = .tup [.lst ((doSt (seqOf L) (seqOf L).length).1.map eMk), mdic D.str (doSt (seqOf L) (seqOf L).length).2.1, mdic D.bl (doSt (seqOf L) (seqOf L).length).2.2] := rfl
      rw [eF]
      exact s_retN' (f_tup (h := f_cons (f_own 1 rfl (imm_mks _)) (f_cons (f_own 2 rfl (immAll_vals (fun _ => rfl) _)) (f_cons (f_own 3 rfl (immAll_vals (fun _ => rfl) _)) f_nil)))) rfl
end
end KK

/-! Walks: what a weave tells. -/
namespace KK
open PySem PySem.Spec L2 DD MM
/-- L is a weave's dict, chs its changes in an order that keeps leanings -/
structure We (chs L : List Ch) : Prop where
  ord : inOrd chs
  nd : (chs.map (·.1)).Nodup
  v : vChs chs
  pm : L.Perm chs
  kl : KL L
  l64 : L.length < 64
section
variable {chs L : List Ch}
theorem We.len (h : We chs L) : chs.length = L.length := h.pm.length_eq.symm
theorem We.good (h : We chs L) : GoodCh chs :=
  ⟨h.ord, h.nd, h.v, by have := h.len; have := h.l64; omega, fun ch hch => h.kl.l1 ch (h.pm.mem_iff.mpr hch), fun ch hch => h.kl.l2 ch (h.pm.mem_iff.mpr hch)⟩
theorem We.do (h : We chs L) : DoOk L :=
  ⟨h.kl, h.l64, fun z hz => by rw [hg_ok h.ord h.nd h.pm z ((h.pm.map _).mem_iff.mp hz)]; rfl, by rw [seqOf_ok h.ord h.nd h.pm]; exact h.good.seq⟩
theorem We.model (h : We chs L) : doAll (seqOf L) = model chs := by rw [seqOf_ok h.ord h.nd h.pm]; rfl
theorem We.ndL (h : We chs L) : (L.map (·.1)).Nodup := (h.pm.map _).nodup_iff.mpr h.nd
theorem We.rowD (h : We chs L) : RwOk (MM.model chs) (fun m => m ∈ allMks (plain (hOf chs) chs)) (chs.length * 1000) := by
  have := doSt_ok h.good.seq h.good.b (plain (hOf chs) chs).length (Nat.le_refl _)
  rw [List.take_length] at this
  rw [← (plain_perm (hOf chs) chs).length_eq]
  exact this
end
theorem told_len' {chs L : List Ch} (h : We chs L) : (toldOf (model chs)).length ≤ 1000000 := by
  have b1 := h.rowD.l1
  have := h.len
  have := h.l64
  unfold toldOf
  rw [List.length_map]
  exact Nat.le_trans (List.length_filter_le _ _) (by omega)
theorem row_len' {chs L : List Ch} (h : We chs L) : (model chs).1.length ≤ 1000000 := by
  have b1 := h.rowD.l1
  have := h.len
  have := h.l64
  omega
theorem snd_map (ts : List (DD.Mk × Str)) : (ts.map fun q => q.2).map D.str = (ts.map (·.2)).map D.str := rfl
section
variable {T : Tb} {P : Program} {w : World} {K : PySem.W.Frag} {mg : Str → Option Value} {base : Heap}
theorem c_names (R : Pr K mg) : CalM P w K mg base "names" ["self"] 1 (spL T K fun ds es => ∃ L : List Ch, KL L ∧ L.length < 64 ∧ ds = [eW L] ∧ es = (ssort (L.map (·.1))).map D.str) :=
  calM_L R.m_names sc_Weave_names (fun _ _ _ _ _ _ us hl => match us, hl with | [_], _ => rfl) (by rintro _ _ ⟨L, h1, h2, rfl, rfl⟩; rfl) (by decide) fun f cdv A outer s H E hr ds es ⟨L, hL, h64, e1, e2⟩ => by
    subst e1 e2
    exact s_retL (l_sortedD R.bt.sorted (by rw [kd_len]; exact h64) hL.keys (e_known R.wv (e_var 0 rfl))) (by show _ = _; rw [kd_keys])
theorem c_row (R : PrL T K mg base) : CalM P w K mg base "row" ["self"] 6 (spL T K fun ds es => ∃ chs L : List Ch, We chs L ∧ ds = [eW L] ∧ es = (model chs).1.map eMk) :=
  calM_L R.p.m_row sc_Weave_row (fun _ _ _ _ _ _ us hl => match us, hl with | [_], _ => rfl) (by rintro _ _ ⟨chs, L, h1, rfl, rfl⟩; rfl) (by decide) fun f cdv A outer s H E hr ds es ⟨chs, L, hW, e1, e2⟩ => by
    subst e1 e2
    rw [← hW.model]
    exact s_retL (l_callIx ((c_done R).mono (by decide)) hr ⟨L, hW.do, rfl, rfl⟩ rfl (imm_mks _) (a_one (e_known R.p.wv (e_var 0 rfl)))) rfl
theorem c_told (R : PrL T K mg base) : CalM P w K mg base "told" ["self"] 6 (spL T K fun ds es => ∃ chs L : List Ch, We chs L ∧ ds = [eW L] ∧ es = (toldOf (model chs)).map eTl) :=
  calM_L R.p.m_told sc_Weave_told (fun _ _ _ _ _ _ us hl => match us, hl with | [_], _ => rfl) (by rintro _ _ ⟨chs, L, h1, rfl, rfl⟩; rfl) (by decide) fun f cdv A outer s H E hr ds es ⟨chs, L, hW, e1, e2⟩ => by
    subst e1 e2
    have hd0 := hW.rowD
    have hcl := hW.len
    have h64 := hW.l64
    have em := hW.model
    generalize hr0 : model chs = r at hd0 em
    obtain ⟨row, words, gone⟩ := r
    have b1 := hd0.l1
    simp only at b1
    have get : ∀ m ∈ row, aget words m = some ((aget words m).getD "") := fun m hm => by
      obtain ⟨w, hw⟩ := Option.isSome_iff_exists.mp (hd0.wd m hm)
      simp only at hw
      rw [hw]; rfl
    refine s_un3 1 2 3 (d1 := .lst (row.map eMk)) (d2 := mdic D.str words) (d3 := mdic D.bl gone) ((e_call ((c_done R).ofN.mono (by decide)) hr ⟨L, hW.do, rfl, rfl⟩ (a_one (e_known R.p.wv (e_var (m := true) 0 rfl)))).as (by rw [em]; rfl)) (pg_tup rfl (pgs_cons (pg_name nd_Weave_told rfl (.inl rfl)) (pgs_cons (pg_name nd_Weave_told rfl (.inr rfl)) (pgs_cons (pg_name nd_Weave_told rfl (.inr rfl)) pgs_nil)))) ?_
    exact s_retL (flL 4 eTl (p := fun m => !(aget gone m).isSome) (h := fun m => (m, (aget words m).getD "")) nd_Weave_told (show row.length ≤ 16777216 by omega) (e_var 1 rfl) (show BlkOk nm_Weave_told (defScope st_Weave_told) _ _ from ⟨rfl, by decide +kernel, by decide +kernel, by decide +kernel, by decide +kernel⟩) (fun _ _ _ _ _ => pg_name nd_Weave_told rfl (.inl rfl)) (fun _ _ _ _ _ a ha => (b_of_c (c_notInDicM hr.units (e_var 4 rfl) (e_var 3 rfl)))) (fun _ _ _ _ _ a ha hk => (e_tup (h := (a_two (e_var 4 rfl) (e_dgetRM (g := D.str) hr.units (e_var 2 rfl) (get a ha) (e_var 4 rfl))))))) rfl
theorem c_text (R : PrL T K mg base) : CalM P w K mg base "text" ["self"] 7 (spL T K fun ds es => ∃ chs L : List Ch, We chs L ∧ ds = [eW L] ∧ es = ((toldOf (model chs)).map (·.2)).map D.str) :=
  calM_L R.p.m_text sc_Weave_text (fun _ _ _ _ _ _ us hl => match us, hl with | [_], _ => rfl) (by rintro _ _ ⟨chs, L, h1, rfl, rfl⟩; rfl) (by decide) fun f cdv A outer s H E hr ds es ⟨chs, L, hW, e1, e2⟩ => by
    subst e1 e2
    have hd0 := hW.rowD
    have hcl := hW.len
    have h64 := hW.l64
    have b1 := hd0.l1
    have hlen : (toldOf (model chs)).length ≤ 16777216 := by
      unfold toldOf
      rw [List.length_map]
      exact Nat.le_trans (List.length_filter_le _ _) (by omega)
    exact s_retL (mpL 1 D.str (h := fun (q : DD.Mk × Str) => q.2) nd_Weave_text hlen (e_of_l (l_meth0 R.p.wv ((c_told R).mono (by decide)) hr ⟨chs, L, hW, rfl, rfl⟩ (immAll_map (fun _ => rfl) _) (e_var 0 rfl))) (show BlkOk nm_Weave_text (defScope st_Weave_text) _ _ from ⟨rfl, by decide +kernel, by decide +kernel, by decide +kernel, by decide +kernel⟩) (fun _ _ _ _ _ => pg_name nd_Weave_text rfl (.inl rfl)) (fun _ _ _ _ _ a ha => (e_ixT rfl (e_var 1 rfl) e_int))) rfl
end
end KK

/-! Walks: on what a weave's changes lean. -/
namespace KK
open PySem PySem.Spec L2 DD MM
theorem ssort_mem' {xs : List Str} {z : Str} : z ∈ ssort xs ↔ z ∈ xs := (List.mergeSort_perm xs sle).mem_iff
theorem ssort_len' (xs : List Str) : (ssort xs).length = xs.length := (List.mergeSort_perm xs sle).length_eq
theorem fl_t {α : Type} {p : α → Bool} {l : List α} {a : α} (h : p a = true) : (l ++ [a]).filter p = l.filter p ++ [a] := by rw [List.filter_append]; simp [h]
theorem fl_f {α : Type} {p : α → Bool} {l : List α} {a : α} (h : p a = false) : (l ++ [a]).filter p = l.filter p := by rw [List.filter_append]; simp [h]
/-- a set of names as a dict -/
def kT (f : List Str) : List (Str × Bool) := f.map fun z => (z, true)
theorem kT_get (f : List Str) (z : Str) : (aget (kT f) z).isSome = decide (z ∈ f) := by
  induction f with
  | nil => rfl
  | cons a f ih =>
    show (aget ((a, true) :: kT f) z).isSome = _
    rw [aget_cons]
    by_cases h : a = z
    · rw [if_pos h, h]; simp
    · rw [if_neg h, ih]
      have : (z ∈ a :: f) ↔ z ∈ f := ⟨fun q => (List.mem_cons.mp q).elim (fun e => absurd e.symm h) id, List.mem_cons_of_mem _⟩
      exact decide_eq_decide.mpr this.symm
theorem kT_put (f : List Str) (z : Str) (h : z ∉ f) : aput (kT f) z true = kT (f ++ [z]) := by
  unfold aput
  rw [if_neg]
  · unfold kT; rw [List.map_append]; rfl
  · intro q
    obtain ⟨p, hp, e⟩ := List.any_eq_true.mp q
    obtain ⟨c, hc, rfl⟩ := List.mem_map.mp hp
    exact h (of_decide_eq_true e ▸ hc)
theorem We.gr {chs L : List Ch} (h : We chs L) : GrOk chs := ⟨h.nd, fun ch hch z hz => h.good.leansIn ch hch z hz, fun ch hch => h.kl.l1 ch (h.pm.mem_iff.mpr hch), by have := h.len; have := h.l64; omega⟩
theorem We.names {chs L : List Ch} (h : We chs L) {z : Str} (hz : z ∈ chs.map (·.1)) : z ∈ L.map (·.1) := (h.pm.map _).mem_iff.mpr hz
section
variable {T : Tb} {P : Program} {w : World} {K : PySem.W.Frag} {mg : Str → Option Value} {base : Heap}
theorem c_ground_of (R : Pr K mg) : Cal P w K mg base "ground_of" ["known", "names"] 1 (spE T K fun ds d => ∃ (L : List Ch) (ns : List Str), GrOk L ∧ ns.length ≤ 1000 ∧ (∀ z ∈ ns, z ∈ L.map (·.1)) ∧ ds = [sdic eCh (kd L), .lst (ns.map D.str)] ∧ d = sdic D.bl (kT (ground L ns 1000))) :=
  cal_E R.f_ground_of sc_ground_of (fun _ _ _ _ _ _ us hl => match us, hl with | [_, _], _ => rfl) (by rintro _ _ ⟨L, ns, h1, h2, h3, rfl, rfl⟩; rfl) (by decide) fun f cdv A outer s H E hr ds d ⟨L, ns, hG, hnl, hns, e1, e2⟩ => by
    subst e1 e2
    have nd := hG.nd
    have hb := hG.hb
    have hl := hG.l0
    refine s_dict 2 nd_ground_of fun p2 => ?_
    refine s_new 3 nd_ground_of (l_listOf R.bt.list (i_of_e (e_var 1 rfl))) fun p3 => ?_
    refine s_while (α := GS) (fun s => [some (.sh (sdic eCh (kd L))), some (.sh (.lst (ns.map D.str))), some (.ow p2 (sdic D.bl (kT s.1))), some (.ow p3 (.lst (s.2.map D.str))), none]) (fun s => gMu L.length 1000 s)
      (fun s => GOn L ns s ∧ ∃ n, gMu L.length 1000 s ≤ n ∧ n ≤ 2000000 ∧ gRun (lnsD L) n s = ground L ns 1000) (fun s => !s.2.isEmpty) ([], ns) (Wk.eq rfl)
      ⟨⟨by simp, by simp, hns, fun z h => Or.inr h, by simp⟩, _, Nat.le_refl _, by
        unfold gMu
        show (L.length - 0) * 1001 + ns.length ≤ 2000000
        have : (L.length - 0) * 1001 ≤ 1000 * 1001 := Nat.mul_le_mul_right _ (by omega)
        omega, rfl⟩ (fun s hs => BD.as (b_lst (e_own 3 rfl)) (by rw [List.isEmpty_map])) (fun s ⟨hg, n, hn1, hn2, hn3⟩ hc => ?_) (fun s ⟨hg, n, hn1, hn2, hn3⟩ hc => ?_)
    · have hne : s.2 ≠ [] := by intro e; rw [e] at hc; simp at hc
      obtain ⟨ok1, ok2⟩ := gStep_ok nd hG.hl hb hg hne
      obtain ⟨n', rfl⟩ : ∃ n', n = n' + 1 := ⟨n - 1, by omega⟩
      have hrun : gRun (lnsD L) n' (gStep (lnsD L) s) = ground L ns 1000 := by rw [← hn3]; show _ = (if s.2 = [] then s.1 else _); rw [if_neg hne]
      have hfl := hg.len
      have hwl : s.2.length ≤ 2000000 := by unfold gMu at hn1; omega
      obtain ⟨fd, wt⟩ := s
      simp only at hne hfl hwl
      have eg := List.getLast?_eq_some_getLast hne
      generalize wt.getLast hne = z at eg
      have hz : z ∈ L.map (·.1) := hg.w z (by show z ∈ wt; rw [split_last eg]; simp)
      obtain ⟨cz, hcz, ez, hget⟩ := lns_get nd hz
      obtain ⟨c1, c2, c3⟩ := chOf_mem hz
      have ecz : chOf L z = cz := same_name nd c2 hcz (c3.trans ez.symm)
      rw [ecz] at c1
      have eS : gStep (lnsD L) (fd, wt) = if z ∈ fd then (fd, wt.dropLast) else (fd ++ [z], wt.dropLast ++ cz.2.1) := by unfold gStep; simp only [eg]; rw [hget]; rfl
      refine s_pop 3 4 (d := .str z) nd_ground_of rfl (by rw [List.length_map, List.getElem?_map]; rw [List.getLast?_eq_getElem?] at eg; rw [eg]; rfl) ?_
      refine s_if2 (b_of_c (c_notInDic hr.units (e_var 4 rfl) (e_own 2 rfl))) (fun hb' => ?_) (fun hb' => ?_)
      · rw [kT_get, Bool.not_eq_true'] at hb'
        have hq : ¬ z ∈ fd := of_decide_eq_false hb'
        refine s_dput (g := D.bl) (w := true) 2 hr.units rfl (by unfold kT; rw [List.length_map]; show fd.length < _; omega) e_bl (e_var 4 rfl) ?_
        refine s_extend 3 rfl (by rw [List.length_dropLast, List.length_map, List.length_map]; have := hb cz hcz; show wt.length - 1 + cz.2.1.length ≤ _; omega) (ED.as (e_ixT rfl (e_dgetR (g := eCh) (w := cz) hr.units (e_var 0 rfl) c1 (e_var 4 rfl)) e_int) rfl) ?_
        refine s_nil ⟨gStep (lnsD L) (fd, wt), ⟨ok1, n', by omega, by omega, hrun⟩, ok2, ?_⟩
        rw [eS, if_neg hq]
        exact .same (.same (.ow (by rw [kT_put _ _ hq]) (.ow (by rw [List.map_append, List.map_dropLast]) (.drop .nil))))
      · rw [kT_get, Bool.not_eq_false'] at hb'
        have hq : z ∈ fd := of_decide_eq_true hb'
        refine s_nil ⟨gStep (lnsD L) (fd, wt), ⟨ok1, n', by omega, by omega, hrun⟩, ok2, ?_⟩
        rw [eS, if_pos hq]
        exact .same (.same (.ow rfl (.ow (by rw [List.map_dropLast]) (.drop .nil))))
    · have he : s.2 = [] := by simpa using hc
      refine s_rel (i := 2) rfl ?_
      refine s_ret (e_var 2 rfl) ?_
      have : s.1 = ground L ns 1000 := by
        rw [← hn3]
        cases n with
        | zero => rfl
        | succ n => show _ = (if s.2 = [] then s.1 else _); rw [if_pos he]
      show _ = _
      rw [this]
/-- one of ground_of -/
theorem ground1 {L : List Ch} (hG : GrOk L) {a : Str} (ha : a ∈ L.map (·.1)) : ([a] : List Str).length ≤ 1000 ∧ ∀ z ∈ [a], z ∈ L.map (·.1) := ⟨Nat.le_of_ble_eq_true rfl, fun z hz => by rw [List.mem_singleton.mp hz]; exact ha⟩
/-- what a name that is there, or is not, gives -/
def ifIn (L : List Ch) (z : Str) (es : List D) : OutL := if decide (z ∈ L.map (·.1)) = true then .lst es else .exc "Missing"
theorem c_open_sets (R : Pr K mg) : CalM P w K mg base "open_sets" ["self", "mark"] 3 (spL T K fun ds es => ∃ (chs L : List Ch) (m : DD.Mk), We chs L ∧ ds = [eW L, eMk m] ∧ es = (uns chs m).map D.str) :=
  calM_L R.m_open_sets sc_Weave_open_sets (fun _ _ _ _ _ _ us hl => match us, hl with | [_, _], _ => rfl) (by rintro _ _ ⟨chs, L, m, h, rfl, rfl⟩; rfl) (by decide) fun f cdv A outer s H E hr ds es ⟨chs, L, m, hW, e1, e2⟩ => by
    subst e1 e2
    have hG := hW.gr.perm hW.pm
    have h64 := hW.l64
    have ek : (ssort ((kd L).map (·.1))).map D.str = (ssort (L.map (·.1))).map D.str := by rw [kd_keys]
    have hsl : (ssort (L.map (·.1))).length = L.length := by rw [ssort_len', List.length_map]
    rw [← opS_eq hW.gr hW.pm m]
    refine s_new 2 nd_Weave_open_sets (LD.as (es := (((ssort (L.map (·.1))).take 0).filter fun z => setB (chOf L z) m).map D.str) (l_lst (h := a_nil)) (by rw [List.take_zero]; rfl)) fun p2 => ?_
    refine s_forL 3 (as := ssort (L.map (·.1))) (f := D.str) (fun k => [some (.sh (eW L)), some (.sh (eMk m)), some (.ow p2 (.lst ((((ssort (L.map (·.1))).take k).filter fun z => setB (chOf L z) m).map D.str))), none, none, none, none]) 7 (e_of_l (LD.as (l_sortedD R.bt.sorted (by rw [kd_len]; exact h64) hW.kl.keys (e_known R.wv (e_var 0 rfl))) ek)) (pg_name nd_Weave_open_sets rfl (.inr rfl)) (Wk.eq rfl) (fun _ => rfl) (by decide) (fun k a ha => ?_) ?_
    · have hk : k < (ssort (L.map (·.1))).length := (List.getElem?_eq_some_iff.mp ha).1
      have hin := ssort_mem'.mp (List.mem_of_getElem? ha)
      obtain ⟨c1, c2, c3⟩ := chOf_mem hin
      have et : (ssort (L.map (·.1))).take (k + 1) = (ssort (L.map (·.1))).take k ++ [a] := by rw [List.take_add_one, ha]; rfl
      have hfl : (((ssort (L.map (·.1))).take k).filter fun z => setB (chOf L z) m).length ≤ k := Nat.le_trans (List.length_filter_le _ _) (by rw [List.length_take]; omega)
      have bl := hW.kl.l2 _ c2
      have eB : setB (chOf L a) m = (((chOf L a).2.2.map fun dd => decide (dd.1 = ("set" : Str)) && decide (dd.2.1 = some m)).any fun z => z) := by unfold setB; rw [List.any_map]; rfl
      refine s_if2 (k := setB (chOf L a) m) (BD.as (b_of_e' (e_any R.bt.any (e_of_l (mpL 5 D.bl (h := fun dd : Dd => decide (dd.1 = ("set" : Str)) && decide (dd.2.1 = some m)) nd_Weave_open_sets (by omega) (e_ixT rfl (e_dgetR (g := eCh) (w := chOf L a) hr.units (e_known R.wv (e_var 0 rfl)) c1 (e_var 3 rfl)) e_int) (show BlkOk nm_Weave_open_sets (defScope st_Weave_open_sets) _ _ from ⟨rfl, by decide +kernel, by decide +kernel, by decide +kernel, by decide +kernel⟩) (fun _ _ _ _ _ => pg_name nd_Weave_open_sets rfl (.inl rfl)) (fun _ _ _ _ _ dd hdd => (e_and (e_of_c (c_eqS (e_ixT (dd0 _) (e_var 5 rfl) e_int) e_str)) fun h2 => (e_one (e_of_c (c_eqD (f := eOM) (v := some m) enc_om hr.units (e_ixT (dd1 _) (e_var 5 rfl) e_int) (e_var 1 rfl)))))))))) eB.symm) (fun hb => ?_) (fun hb => ?_)
      · refine s_append 2 rfl (by rw [List.length_map]; omega) (e_var 3 rfl) ?_
        exact s_nil (.same (.same (.ow (by rw [et, fl_t (p := fun z => setB (chOf L z) m) hb, List.map_append]; rfl) (.drop (.drop (.drop (.drop .nil)))))))
      · exact s_nil (.same (.same (.ow (by rw [et, fl_f (p := fun z => setB (chOf L z) m) hb]) (.drop (.drop (.drop (.drop .nil)))))))
    rw [List.take_length]
    have eO : ((ssort (L.map (·.1))).filter fun z => setB (chOf L z) m) = opN L m := rfl
    rw [eO]
    have hol : (opN L m).length ≤ L.length := by rw [← eO]; exact Nat.le_trans (List.length_filter_le _ _) (by omega)
    have hoin : ∀ z ∈ opN L m, z ∈ L.map (·.1) := fun z hz => ssort_mem'.mp (List.mem_filter.mp hz).1
    refine s_new 4 nd_Weave_open_sets (LD.as (es := (((opN L m).take 0).filter fun z => !((opN L m).any fun o => decide (o ≠ z) && onB L o z)).map D.str) (l_lst (h := a_nil)) (by rw [List.take_zero]; rfl)) fun p4 => ?_
    refine s_forO 2 3 (as := opN L m) (f := D.str) (fun k => [some (.sh (eW L)), some (.sh (eMk m)), some (.ow p2 (.lst ((opN L m).map D.str))), none, some (.ow p4 (.lst ((((opN L m).take k).filter fun z => !((opN L m).any fun o => decide (o ≠ z) && onB L o z)).map D.str))), none, none]) 7 rfl (pg_name nd_Weave_open_sets rfl (.inr rfl)) (Wk.eq rfl) (fun _ => rfl) (fun _ => rfl) (by decide) (fun k a ha => ?_) ?_
    · have hk : k < (opN L m).length := (List.getElem?_eq_some_iff.mp ha).1
      have et : (opN L m).take (k + 1) = (opN L m).take k ++ [a] := by rw [List.take_add_one, ha]; rfl
      have hfl : (((opN L m).take k).filter fun z => !((opN L m).any fun o => decide (o ≠ z) && onB L o z)).length ≤ k := Nat.le_trans (List.length_filter_le _ _) (by rw [List.length_take]; omega)
      have eB : (((opN L m).map fun o => !decide (o = a) && onB L o a).any fun z => z) = ((opN L m).any fun o => decide (o ≠ a) && onB L o a) := by
        rw [List.any_map]
        refine any_ext fun o _ => ?_
        by_cases q : o = a <;> simp [q]
      refine s_if2 (k := !((opN L m).any fun o => decide (o ≠ a) && onB L o a)) (BD.as (b_not (b_of_e' (e_imm (e_any R.bt.any (e_of_l (mpO 2 6 D.bl (as := opN L m) (h := fun o => !decide (o = a) && onB L o a) nd_Weave_open_sets (by omega) rfl (show BlkOk nm_Weave_open_sets (defScope st_Weave_open_sets) _ _ from ⟨rfl, by decide +kernel, by decide +kernel, by decide +kernel, by decide +kernel⟩) (fun _ _ _ _ _ => pg_name nd_Weave_open_sets rfl (.inl rfl)) (fun _ _ _ _ _ o ho => ?_))))))) (by rw [eB])) (fun hb => ?_) (fun hb => ?_)
      · obtain ⟨g1, g2⟩ := ground1 hG (hoin o ho)
        refine (e_and (e_of_c (c_neS (e_var 6 rfl) (e_var 3 rfl))) fun h6 => (e_one (e_of_c (CD.as (c_inDic (g := D.bl) (m := kT (ground L [o] 1000)) hr.units (e_var 3 rfl) (e_call ((c_ground_of R).mono (by decide)) hr ⟨L, [o], hG, g1, g2, rfl, rfl⟩ (a_two (e_known R.wv (e_var 0 rfl)) (e_of_l (l_lst (h := (a_one (e_var 6 rfl)))))))) (kT_get _ _)))))
      · refine s_append 4 rfl (by rw [List.length_map]; omega) (e_var 3 rfl) ?_
        exact s_nil (.same (.same (.same (.drop (.ow (by rw [et, fl_t (p := fun z => !((opN L m).any fun o => decide (o ≠ z) && onB L o z)) hb, List.map_append]; rfl) (.drop (.drop .nil)))))))
      · exact s_nil (.same (.same (.same (.drop (.ow (by rw [et, fl_f (p := fun z => !((opN L m).any fun o => decide (o ≠ z) && onB L o z)) hb]) (.drop (.drop .nil)))))))
    · rw [List.take_length]
      exact s_retO 4 rfl rfl
theorem qSt_succ {chs : List Ch} {k : Nat} {q : DD.Mk × Str} (h : (toldOf (model chs))[k]? = some q) : qSt chs (k + 1) = qStep chs q (qSt chs k) := nst_succ h
theorem c_questions (R : PrL T K mg base) : CalM P w K mg base "questions" ["self"] 7 (spL T K fun ds es => ∃ chs L : List Ch, We chs L ∧ ds = [eW L] ∧ es = (qs chs).map eQ) :=
  calM_L R.p.m_questions sc_Weave_questions (fun _ _ _ _ _ _ us hl => match us, hl with | [_], _ => rfl) (by rintro _ _ ⟨chs, L, h1, rfl, rfl⟩; rfl) (by decide) fun f cdv A outer s H E hr ds es ⟨chs, L, hW, e1, e2⟩ => by
    subst e1 e2
    have tl := told_len' hW
    refine s_new 1 nd_Weave_questions (l_lst (h := a_nil)) fun p1 => ?_
    refine s_forL 2 (as := toldOf (model chs)) (f := eTl) (fun k => [some (.sh (eW L)), some (.ow p1 (.lst ((qSt chs k).map eQ))), none, none]) 4 (e_of_l (l_meth0 R.p.wv ((c_told R).mono (by decide)) hr ⟨chs, L, hW, rfl, rfl⟩ (immAll_map (fun _ => rfl) _) (e_var 0 rfl))) (pg_name nd_Weave_questions rfl (.inl rfl)) (Wk.eq rfl) (fun _ => rfl) (by decide) (fun k q hq => ?_) ?_
    · have hk : k < (toldOf (model chs)).length := (List.getElem?_eq_some_iff.mp hq).1
      have hl := qSt_len chs k (Nat.le_of_lt hk)
      refine s_set 3 nd_Weave_questions (e_of_l (l_meth R.p.wv ((c_open_sets R.p).mono (by decide)) hr ⟨chs, L, q.1, hW, rfl, rfl⟩ (imm_strs _) (e_var 0 rfl) (a_one (e_ixT (d := eMk q.1) rfl (e_var 2 rfl) e_int)))) ?_
      have hul := uns_len (chs := chs) q.1
      have hcl := hW.len
      have h64 := hW.l64
      refine s_if2 (b_of_c (c_gt (e_lenL R.p.bt.len (e_var 3 rfl)) e_int)) (fun hb => ?_) (fun hb => ?_)
      · refine s_append 1 rfl (by rw [List.length_map]; omega) (e_tup (h := (a_two (e_ixT (d := eMk q.1) rfl (e_var 2 rfl) e_int) (e_var 3 rfl)))) ?_
        refine s_nil (.same (.ow ?_ (.drop (.drop .nil))))
        rw [qSt_succ hq]
        unfold qStep
        rw [if_pos (by rw [List.length_map] at hb; have := of_decide_eq_true hb; omega), List.map_append]; rfl
      · refine s_nil (.same (.ow ?_ (.drop (.drop .nil))))
        rw [qSt_succ hq]
        unfold qStep
        rw [if_neg (by rw [List.length_map] at hb; have := of_decide_eq_false hb; omega)]
    · exact s_retO 1 rfl rfl
end
end KK

/-! Walks: what a weave tells is held, with its repr. -/
namespace KK
open PySem PySem.Spec L2 DD MM
theorem hent_map (hs : List (List D)) : hs.map hent = hs.map fun x => D.tup [.lst x, .str (shown (.lst x))] := rfl
section
variable {T : Tb} {P : Program} {w : World} {K : PySem.W.Frag} {mg : Str → Option Value} {base : Heap}
theorem c_l_hold (R : PrL T K mg base) : CalG P w K mg base "_law_hold" ["_law_weave", "_law_held_here"] 8 (spA T K fun d es es' => ∃ (chs L : List Ch) (hs : List (List D)), Lw chs ∧ We chs L ∧ hs.length ≤ 100000 ∧ d = eW L ∧ es = hs.map hent ∧ es' = (hs ++ newH chs).map hent) :=
  calG_A R.p.f_l_hold sc_l_hold (fun _ _ _ _ _ _ us hl => match us, hl with | [_, _], _ => rfl) rfl (by decide) fun f cdv A outer s H E hr gd p d es es' ⟨chs, L, hs, lw, hW, hl, e0, e1, e2⟩ => by
    subst e0 e1 e2
    have h63 : chs.length ≤ 63 := by have := hW.len; have := hW.l64; omega
    have hn : ssort (L.map (·.1)) = ssort (chs.map (·.1)) := ssort_perm_eq (hW.pm.map _)
    have ok := newH_ok lw h63
    refine s_forL 2 (as := newH chs) (f := D.lst) (fun k => [some (.sh (eW L)), some (.ow p (.lst ((hs ++ (newH chs).take k).map hent))), none]) 3 (e_of_l (LD.as (es := (newH chs).map D.lst) (l_lst (h := (a_cons (e_of_l (l_meth0T R.p.wv ((c_row R).mono (by decide)) hr ⟨chs, L, hW, rfl, rfl⟩ (e_var 0 rfl))) (a_cons (e_of_l (l_meth0T R.p.wv ((c_told R).mono (by decide)) hr ⟨chs, L, hW, rfl, rfl⟩ (e_var 0 rfl))) (a_cons (e_of_l (l_meth0T R.p.wv ((c_names R.p).mono (by decide)) hr ⟨L, hW.kl, hW.l64, rfl, rfl⟩ (e_var 0 rfl))) (a_cons (e_of_l (l_meth0T R.p.wv ((c_text R).mono (by decide)) hr ⟨chs, L, hW, rfl, rfl⟩ (e_var 0 rfl))) (a_one (e_of_l (l_meth0T R.p.wv ((c_questions R).mono (by decide)) hr ⟨chs, L, hW, rfl, rfl⟩ (e_var 0 rfl)))))))))) (by rw [hn]; rfl))) (pg_name nd_l_hold rfl (.inl rfl)) (Wk.eq (by rw [List.take_zero, List.append_nil]; rfl)) (fun _ => rfl) (by decide) (fun k x hx => ?_) ?_
    · have hin := List.mem_of_getElem? hx
      have hk : k < (newH chs).length := (List.getElem?_eq_some_iff.mp hx).1
      have h5 : (newH chs).length = 5 := rfl
      have et : (newH chs).take (k + 1) = (newH chs).take k ++ [x] := by rw [List.take_add_one, hx]; rfl
      refine s_append 1 rfl (by rw [List.length_map, List.length_append, List.length_take]; omega) (e_tup (h := (a_two (e_var 2 rfl) (e_repr R.p.bt.repr gd hr.units (e_var 2 rfl) (ok x hin).shw (ok x hin).sok)))) ?_
      exact s_nil (.same (.ow (by rw [et, ← List.append_assoc, List.map_append (l₂ := [x])]; rfl) (.drop .nil)))
    · refine s_nil ?_
      rw [List.take_length]
      rfl
theorem c_l_held (R : PrL T K mg base) : CalG P w K mg base "_law_held" ["_law_held_here"] 2 (spE T K fun ds d => ∃ hs : List (List D), hs.length ≤ 16777216 ∧ (∀ x ∈ hs, okH x) ∧ ds = [.lst (hs.map hent)] ∧ d = .bl true) :=
  calG_E R.p.f_l_held sc_l_held (fun _ _ _ _ _ _ us hl => match us, hl with | [_], _ => rfl) (by rintro _ _ ⟨hs, h1, h2, rfl, rfl⟩; rfl) (by decide) fun f cdv A outer s H E hr gd ds d ⟨hs, hl, ok, e1, e2⟩ => by
    subst e1 e2
    refine s_ret (e_all R.p.bt.all (e_of_l (mpP 1 2 D.bl (as := hs) (f := D.lst) (g := fun x => .str (shown (.lst x))) (h := fun _ => true) (x1 := "_law_one") (x2 := "_law_other") nd_l_held hl (e_var 0 rfl) (show BlkOk nm_l_held (defScope st_l_held) _ _ from ⟨rfl, by decide +kernel, by decide +kernel, by decide +kernel, by decide +kernel⟩) (fun _ _ _ _ _ => pg_tup rfl (pgs_cons (pg_name nd_l_held rfl (.inl rfl)) (pgs_cons (pg_name nd_l_held rfl (.inl rfl)) pgs_nil))) (fun _ _ _ _ _ x hx => ?_)))) (by show _ = _; rw [List.all_map]; simp)
    exact ED.as (e_of_c (c_eqS (e_repr R.p.bt.repr gd hr.units (e_var 1 rfl) (ok x hx).shw (ok x hx).sok) (e_var 2 rfl))) (by simp)
end
end KK

/-! Each line stands behind the one it was put behind. -/
namespace MM
open PySem L2 DD TL
theorem nst_end {α σ : Type} {step : Nat → α → σ → σ} {s0 : σ} {as : List α} {k : Nat} (h : as[k]? = none) : nst step s0 as (k + 1) = nst step s0 as k := by
  show (match as[k]? with | some a => step k a (nst step s0 as k) | none => nst step s0 as k) = _
  rw [h]
theorem ins_sub (r : List Mk) (o : Option Mk) (x : Mk) : r.Sublist (insAt r o x) := by
  have h : ∀ n : Nat, r.Sublist (r.take n ++ [x] ++ r.drop n) := fun n => by
    have h : (r.take n ++ r.drop n).Sublist (r.take n ++ [x] ++ r.drop n) := List.Sublist.append (List.sublist_append_left ..) (List.Sublist.refl _)
    rwa [List.take_append_drop] at h
  exact h _
theorem ins_put {r : List Mk} {m x : Mk} (h : m ∈ r) : [m, x].Sublist (insAt r (some m) x) := by
  unfold insAt
  show [m, x].Sublist (r.take (r.idxOf m + 1) ++ [x] ++ r.drop (r.idxOf m + 1))
  have hi : r.idxOf m < r.length := List.idxOf_lt_length_iff.mpr h
  have hm : m ∈ r.take (r.idxOf m + 1) := by
    rw [List.mem_take_iff_getElem]
    exact ⟨r.idxOf m, by omega, by simp⟩
  have h1 : [m].Sublist (r.take (r.idxOf m + 1)) := List.singleton_sublist.mpr hm
  have h2 : ([m] ++ [x]).Sublist (r.take (r.idxOf m + 1) ++ [x]) := h1.append (List.Sublist.refl _)
  exact h2.trans (List.sublist_append_left ..)
theorem deed_sub (nm : Str) (d : Dd) (s : Rw × Int) : s.1.1.Sublist (dDeed nm d s).1.1 := by
  unfold dDeed
  split
  · exact ins_sub _ _ _
  · split <;> exact List.Sublist.refl _
theorem deedSt_sub (nm : Str) (ds : List Dd) (s : Rw) : ∀ (k j : Nat), (deedSt nm ds s k).1.1.Sublist (deedSt nm ds s (k + j)).1.1
  | k, 0 => List.Sublist.refl _
  | k, j + 1 => by
    refine (deedSt_sub nm ds s k j).trans ?_
    rw [← Nat.add_assoc]
    show (deedSt nm ds s (k + j)).1.1.Sublist (deedSt nm ds s (k + j + 1)).1.1
    cases e : ds[k + j]? with
    | none =>
      have : deedSt nm ds s (k + j + 1) = deedSt nm ds s (k + j) := nst_end e
      rw [this]
      exact List.Sublist.refl _
    | some d =>
      have : deedSt nm ds s (k + j + 1) = dDeed nm d (deedSt nm ds s (k + j)) := nst_succ e
      rw [this]
      exact deed_sub _ _ _
theorem doSt_sub (L : List Ch) : ∀ (k j : Nat), (doSt L k).1.Sublist (doSt L (k + j)).1
  | k, 0 => List.Sublist.refl _
  | k, j + 1 => by
    refine (doSt_sub L k j).trans ?_
    rw [← Nat.add_assoc]
    cases e : L[k + j]? with
    | none =>
      have : doSt L (k + j + 1) = doSt L (k + j) := nst_end e
      rw [this]
      exact List.Sublist.refl _
    | some ch =>
      have : doSt L (k + j + 1) = dCh ch (doSt L (k + j)) := nst_succ e
      rw [this]
      have := deedSt_sub ch.1 ch.2.2 (doSt L (k + j)) 0 ch.2.2.length
      rw [Nat.zero_add] at this
      exact this
/-- in nodup rows: before is a lesser place -/
theorem idx_lt : ∀ {r : List Mk} {m x : Mk}, r.Nodup → [m, x].Sublist r → r.idxOf m < r.idxOf x
  | [], _, _, _, h => by cases h
  | a :: r, m, x, nd, h => by
    rw [List.nodup_cons] at nd
    cases h with
    | cons _ h =>
      have hm : m ∈ r := h.subset (by simp)
      have hx : x ∈ r := h.subset (by simp)
      have e1 : ¬ a = m := fun e => nd.1 (e ▸ hm)
      have e2 : ¬ a = x := fun e => nd.1 (e ▸ hx)
      have ih := idx_lt nd.2 h
      have b1 : (a == m) = false := by simpa using e1
      have b2 : (a == x) = false := by simpa using e2
      rw [List.idxOf_cons, List.idxOf_cons, b1, b2]
      simp only [cond_false]
      omega
    | cons_cons _ h =>
      have hx : x ∈ r := h.subset (by simp)
      have e2 : ¬ a = x := fun e => nd.1 (e ▸ hx)
      have b2 : (a == x) = false := by simpa using e2
      rw [List.idxOf_cons_self, List.idxOf_cons, b2]
      simp only [cond_false]
      omega
/-- the line that a deed adds stands in the row, behind the one it was put behind -/
theorem seq_put {L : List Ch} {b : Nat} (hs : okSeq L) (hb : ∀ ch ∈ L, ch.2.2.length ≤ b) {ch : Ch} (hch : ch ∈ L) {i : Nat} {d : Dd} (hd : ch.2.2[i]? = some d) (ha : d.1 = ("add" : Str)) :
    (ch.1, ((adds (ch.2.2.take i) : Nat) : Int)) ∈ (doAll L).1 ∧ ∀ m, d.2.1 = some m → [m, (ch.1, ((adds (ch.2.2.take i) : Nat) : Int))].Sublist (doAll L).1 := by
  obtain ⟨k, hk⟩ := List.getElem?_of_mem hch
  have hkl : k < L.length := (List.getElem?_eq_some_iff.mp hk).1
  have hil : i < ch.2.2.length := (List.getElem?_eq_some_iff.mp hd).1
  have r0 := doSt_ok hs hb k (by omega)
  have hds := hs k ch hk
  obtain ⟨q1, q2⟩ := deedSt_ok r0 hds i (by omega)
  have e1 : deedSt ch.1 ch.2.2 (doSt L k) (i + 1) = dDeed ch.1 d (deedSt ch.1 ch.2.2 (doSt L k) i) := nst_succ hd
  have e2 : doSt L (k + 1) = dCh ch (doSt L k) := nst_succ hk
  have s1 : (deedSt ch.1 ch.2.2 (doSt L k) (i + 1)).1.1.Sublist (doAll L).1 := by
    have a := deedSt_sub ch.1 ch.2.2 (doSt L k) (i + 1) (ch.2.2.length - (i + 1))
    rw [show i + 1 + (ch.2.2.length - (i + 1)) = ch.2.2.length by omega] at a
    have b := doSt_sub L (k + 1) (L.length - (k + 1))
    rw [show k + 1 + (L.length - (k + 1)) = L.length by omega, e2] at b
    exact a.trans b
  have e3 : (deedSt ch.1 ch.2.2 (doSt L k) (i + 1)).1.1 = insAt (deedSt ch.1 ch.2.2 (doSt L k) i).1.1 d.2.1 (ch.1, ((adds (ch.2.2.take i) : Nat) : Int)) := by
    rw [e1]
    unfold dDeed
    rw [if_pos ha, q1]
  rw [e3] at s1
  refine ⟨s1.subset ((insAt_mem ..).mpr (.inl rfl)), fun m hm => ?_⟩
  have hin := (dDeed_ok (n := k * b + i) (s := (deedSt ch.1 ch.2.2 (doSt L k) i).1) q2 (hds i d hd)).1 m hm
  rw [hm] at s1
  exact (ins_put hin).trans s1
theorem row_put {chs : List Ch} (h : Lw chs) (hl : chs.length ≤ 1000) {ch : Ch} (hch : ch ∈ chs) {i : Nat} {d : Dd} (hd : ch.2.2[i]? = some d) (ha : d.1 = ("add" : Str)) :
    (ch.1, ((adds (ch.2.2.take i) : Nat) : Int)) ∈ (model chs).1 ∧ ∀ m, d.2.1 = some m → m ∈ (model chs).1 ∧ (model chs).1.idxOf m < (model chs).1.idxOf (ch.1, ((adds (ch.2.2.take i) : Nat) : Int)) := by
  have g := h.good hl
  obtain ⟨a, b⟩ := seq_put g.seq g.b ((plain_perm _ _).mem_iff.mpr hch) hd ha
  exact ⟨a, fun m hm => ⟨(b m hm).subset (by simp), idx_lt g.rowNd (b m hm)⟩⟩
theorem allMks_nodup : ∀ {chs : List Ch}, (chs.map (·.1)).Nodup → (allMks chs).Nodup
  | [], _ => by simp [allMks]
  | ch :: chs, nd => by
    rw [List.map_cons, List.nodup_cons] at nd
    show ((ch :: chs).flatMap mks).Nodup
    rw [List.flatMap_cons]
    refine List.nodup_append.mpr ⟨?_, allMks_nodup nd.2, fun a ha b hb e => ?_⟩
    · unfold mks
      refine List.pairwise_map.mpr (List.nodup_iff_pairwise_ne.mp List.nodup_range |>.imp fun {i j} h e => h ?_)
      have e2 : (i : Int) = (j : Int) := congrArg Prod.snd e
      omega
    · subst e
      obtain ⟨c, hc, hm⟩ := List.mem_flatMap.mp hb
      exact nd.1 (by rw [← (mem_mks.mp ha).1, (mem_mks.mp hm).1]; exact List.mem_map_of_mem hc)
theorem row_perm {chs : List Ch} (h : Lw chs) (hl : chs.length ≤ 1000) : (model chs).1.Perm (allMks chs) := by
  have g := h.good hl
  have p1 : (allMks (plain (hOf chs) chs)).Perm (allMks chs) := (plain_perm _ _).flatMap_right mks
  refine List.Perm.trans ?_ p1
  refine (List.perm_ext_iff_of_nodup g.rowNd (allMks_nodup (((plain_perm _ _).map _).nodup_iff.mpr h.nd))).mpr (h.row20 hl).mem
theorem allMks_take {chs : List Ch} {k : Nat} {ch : Ch} (e : chs[k]? = some ch) : allMks (chs.take (k + 1)) = allMks (chs.take k) ++ mks ch := by
  unfold allMks; rw [List.take_add_one, e]; simp
/-- a change's marks, of its first j deeds -/
def mksTo (ch : Ch) (j : Nat) : List Mk := (List.range (adds (ch.2.2.take j))).map fun (i : Nat) => (ch.1, (i : Int))
theorem mksTo_all (ch : Ch) : mksTo ch ch.2.2.length = mks ch := by unfold mksTo mks; rw [List.take_length]
theorem mksTo_t {ch : Ch} {j : Nat} {d : Dd} (e : ch.2.2[j]? = some d) (h : d.1 = ("add" : Str)) : mksTo ch (j + 1) = mksTo ch j ++ [(ch.1, ((adds (ch.2.2.take j) : Nat) : Int))] ∧ adds (ch.2.2.take (j + 1)) = adds (ch.2.2.take j) + 1 := by
  have ea : adds (ch.2.2.take (j + 1)) = adds (ch.2.2.take j) + 1 := by
    rw [List.take_add_one, e, adds_app]
    have : adds (some d).toList = 1 := by unfold adds; rw [Option.toList_some, List.filter_cons, if_pos (decide_eq_true h)]; rfl
    rw [this]
  refine ⟨?_, ea⟩
  unfold mksTo
  rw [ea, List.range_succ, List.map_append]; rfl
theorem mksTo_f {ch : Ch} {j : Nat} {d : Dd} (e : ch.2.2[j]? = some d) (h : d.1 ≠ ("add" : Str)) : mksTo ch (j + 1) = mksTo ch j ∧ adds (ch.2.2.take (j + 1)) = adds (ch.2.2.take j) := by
  have ea : adds (ch.2.2.take (j + 1)) = adds (ch.2.2.take j) := by
    rw [List.take_add_one, e, adds_app]
    have : adds (some d).toList = 0 := by unfold adds; rw [Option.toList_some, List.filter_cons, if_neg (by rw [decide_eq_true_iff]; exact h)]; rfl
    rw [this, Nat.add_zero]
  unfold mksTo
  rw [ea]
  exact ⟨rfl, rfl⟩
/-! ### what is held, weave by weave -/
def hStep (T : List Ch) (j : Nat) (hs : List (List D)) : List (List D) := if hs.length < 60 then hs ++ newH (T.take (j + 1)) else hs
def hSt (T : List Ch) (hs : List (List D)) : Nat → List (List D) := nrg (hStep T) hs
structure HOkS (hs : List (List D)) : Prop where
  l : hs.length < 65
  ok : ∀ x ∈ hs, okH x
theorem hSt_ok {T : List Ch} {hs : List (List D)} (h : Lw T) (hl : T.length ≤ 63) (hh : HOkS hs) : ∀ k, k ≤ T.length → HOkS (hSt T hs k) :=
  nrg_inv (fun _ s => HOkS s) hh fun k s hk q => by
    unfold hStep
    split
    · have lk := h.take (k + 1)
      have ok := newH_ok lk (by rw [List.length_take]; omega)
      refine ⟨by rw [List.length_append]; show s.length + 5 < 65; omega, fun x hx => ?_⟩
      rcases List.mem_append.mp hx with a | a
      · exact q.ok x a
      · exact ok x a
    · exact q
mutual
theorem fin_pln : ∀ (n : Nat) (d : D), fin n d → pln d = true
  | n, .non, _ => rfl
  | n, .bl _, _ => rfl
  | n, .int i, h => rfl
  | n, .str _, _ => rfl
  | 0, .lst ds, h => by simp only [fin] at h
  | 0, .tup ds, h => by simp only [fin] at h
  | n + 1, .lst ds, h => by simp only [pln]; exact finA_pln n ds (by simpa only [fin] using h)
  | n + 1, .tup ds, h => by simp only [pln]; exact finA_pln n ds (by simpa only [fin] using h)
  | n, .ktp xs, h => by cases n <;> simp only [fin] at h
  | n, .scr xs, h => by cases n <;> simp only [fin] at h
  | n, .dic ks vs, h => by cases n <;> simp only [fin] at h
  | n, .dit ks vs, h => by cases n <;> simp only [fin] at h
  | n, .obj d, h => by cases n <;> simp only [fin] at h
  | n, .adr a, h => by cases n <;> simp only [fin] at h
  | n, .exn a, h => by cases n <;> simp only [fin] at h
  | n, .fr a d, h => by cases n <;> simp only [fin] at h
theorem finA_pln : ∀ (n : Nat) (ds : List D), finA n ds → plnA ds = true
  | n, [], _ => by simp only [plnA]
  | n, d :: ds, h => by
    have h' : fin n d ∧ finA n ds := by simpa only [finA] using h
    simp only [plnA, Bool.and_eq_true]
    exact ⟨fin_pln n d h'.1, finA_pln n ds h'.2⟩
end
theorem hent_pln {x : List D} (h : okH x) : pln (hent x) = true := by
  show pln (.tup [.lst x, .str _]) = true
  have := fin_pln 30 (.lst x) h.1
  simp only [pln, plnA, Bool.and_true]
  simpa only [pln] using this
theorem hs_pln {hs : List (List D)} (h : ∀ x ∈ hs, okH x) : plnA (hs.map hent) = true := plnA_map fun x hx => hent_pln (h x hx)
end MM

/-! name.index(..) of a stable list; a or b, a changes an object. -/
namespace DD
open PySem PySem.Spec L2
section
variable {T : Tb} {X : Cx} {Γ Γ' : Ev} {a b : Expr} {k l : Bool} {rest : List Expr} {pos : Pos}
theorem bm_or (ha : BM T X Γ Γ' a k) (hb : k = false → PW X (.BoolOp .Or (b :: rest) pos) (tB T X.K Γ' l)) : BM T X Γ Γ' (.BoolOp .Or (a :: b :: rest) pos) (k || l) := by
  cases k with
  | false => exact (PW.imp' (t' := tMB T X.K Γ Γ' (false || l)) (pw_or ha (hb rfl)) fun σ H Q ⟨Z, g, q⟩ => ⟨Z, g, fun H1 g1 => iteF ⟨Z, g1, fun H2 g2 x2 => q H2 g2⟩⟩).pt
  | true => exact (PW.imp' (t' := tMB T X.K Γ Γ' (true || l)) (pw_or ha (PW.mk (t := fun _ _ _ => False) fun _ _ _ _ _ _ _ h => h.elim)) fun σ H Q ⟨Z, g, q⟩ => ⟨Z, g, fun H1 g1 => iteT (q H1 g1)⟩).pt
end
section
variable {T : Tb} {X : Cx} {Γ : Ev} {m : Bool} {e : Expr} {xp apos cpos : Pos} {x : Str} {α : Type} [DecidableEq α] {f : α → D} {n : Nat} {as : List α} {v : α}
/-- name.index(e), name a stable list -/
theorem e_indexS (i : Nat) (E : Enc f n) (hu : X.A.units + 65 < cLine) (hi : Γ[i]? = some (some (.sh (.lst (as.map f))))) (hmem : v ∈ as) (he : ED T X true Γ e (f v)) (hn : n ≤ 63 := by decide)
    (hN : X.N[i]? = some x := by rfl) (hv : Vis X.env.scope x := by first | exact Or.inl rfl | exact Or.inr (Or.inl rfl) | exact Or.inr (Or.inr rfl)) (hd : (x == ("__debug__" : Str)) = false := by decide)
    (hcd : (x == ("__classdict__" : Str)) = false := by decide) (hs1 : starEach [e] X.env = (false, eval e X.env) :: starEach [] X.env := by rfl) (hbase : attributeBase (.Name x xp) "index" X.env (eval (.Name x xp) X.env) = eval (.Name x xp) X.env := by rfl)
    (hfew : ((backTo cpos (starEach [e] X.env)).all (fun x => !x.1) && (backToKw cpos (keywordEach [] X.env)).all (fun x => x.1.isSome) && decide ([e].length + ([] : List Keyword).length + (if ([] : List Keyword).isEmpty then 0 else 1) < 30)) = true := by rfl)
    (hline : (apos.endLine == cpos.line) = true := by rfl) :
    ED T X m Γ (.Call (.Attribute (.Name x xp) "index" apos) [e] [] cpos) (.int (as.idxOf v : Nat)) :=
  PE.imp' (pe_bm PySem.F.plainAttrs_list PySem.F.slot_list_index PySem.F.type_list_index (mt_indexD hu) (pe_var hN hv hd hcd) (pa_cons he pa_nil hs1) hbase hfew hline hs1) fun σ H Q ⟨Z, g, q⟩ => by
    obtain ⟨w, e1, dw⟩ := g.slots i _ hi
    have dw : Da X.K (rg true Z H Γ) w (.lst (as.map f)) := dw
    cases dw with
    | @lst p0 vs0 _ h1 h2 =>
    refine ⟨_, e1, .inl ⟨rfl, _, SqL.of (g.sub _ _ h1)⟩, Z, g, fun u H1 g1 x1 d1 => ?_⟩
    obtain ⟨w', e1', dw'⟩ := g1.slots i _ hi
    have ew : V.ref p0 = w' := by
      have := e1.symm.trans e1'
      simpa using this
    subst ew
    have dw' : Da X.K (rg true Z H1 Γ) (.ref p0) (.lst (as.map f)) := dw'
    cases dw' with
    | @lst _ vs1 _ h1'' h2' =>
    have h1' := g1.sub _ _ h1''
    obtain ⟨a1, a2⟩ := Da.dp g1.sub _ _ (E.pl v) d1
    obtain ⟨b1, b2⟩ := DaAll.dp g1.sub _ _ (plainDs_map E.pl as) h2'
    have hdep := depthAll_map E.dp as
    have hlt : as.idxOf v < as.length := List.idxOf_lt_length_of_mem hmem
    refine ⟨p0, u, toPy (f v), toPys (as.map f), as.idxOf v, toPy (f v), rfl, rfl, .lst (SqL.of h1') b1, a1, shaped_of b2 (by simp only [PyData.depth]; omega), shaped_of a2 (Nat.le_trans (E.dp v) (by omega)), ?_, by rw [E.eq]; exact decide_eq_true rfl, fun k z' hk hz => ?_, q _ H1 g1 x1 (.int _)⟩
    · rw [toPys_map, List.getElem?_map, List.getElem?_eq_getElem hlt]
      simp
    · rw [toPys_map, List.getElem?_map] at hz
      have hkl : k < as.length := by omega
      rw [List.getElem?_eq_getElem hkl] at hz
      cases Option.some.inj hz
      rw [E.eq]
      refine decide_eq_false fun e => ?_
      have := List.not_of_lt_findIdx hk
      simp [e] at this
end
end DD

/-! Walk: a change copied. -/
namespace KK
open PySem PySem.Spec L2 DD MM
section
variable {T : Tb} {P : Program} {w : World} {K : PySem.W.Frag} {mg : Str → Option Value} {base : Heap}
theorem c_l_copy (R : Pr K mg) : Cal P w K mg base "_law_copy" ["_law_change"] 1 (spN T K fun ds d => ∃ ch : Ch, ds = [eCh ch] ∧ d = eCh ch) :=
  cal_N R.f_l_copy sc_l_copy (fun _ _ _ _ _ _ us hl => match us, hl with | [_], _ => rfl) (by rintro _ _ ⟨ch, rfl, rfl⟩; rfl) (by decide) fun f cdv A outer s H E hr ds d ⟨ch, e1, e2⟩ => by
    subst e1 e2
    exact s_retN' (f_tup (h := f_cons (f_imm (e_ixT rfl (e_var 0 rfl) e_int)) (f_cons (f_lst (l_listOf R.bt.list (i_of_e (e_ixT rfl (e_var 0 rfl) e_int))) (immAll_map (fun _ => rfl) _)) (f_cons (f_lst (l_listOf R.bt.list (i_of_e (e_ixT rfl (e_var 0 rfl) e_int))) (immAll_map imm_dd _)) f_nil)))) rfl
end
end KK

/-! Walks: a law's changes in a drawn order. -/
namespace KK
open PySem PySem.Spec L2 DD MM
theorem Lw.we {L : List Ch} (h : Lw L) (hl : L.length < 64) : We L L :=
  ⟨h.ord, h.nd, h.v, List.Perm.refl _, ⟨fun ch hch => (h.each ch hch).nm.sok, by omega, fun ch hch => by have := h.l1 hch; omega, fun ch hch => by have := (h.each ch hch).len; omega⟩, hl⟩
theorem Lw.weP {chs L : List Ch} (h : Lw chs) (pm : L.Perm chs) (hl : chs.length < 64) : We chs L :=
  ⟨h.ord, h.nd, h.v, pm, ⟨fun ch hch => (h.each ch (pm.mem_iff.mp hch)).nm.sok, by rw [pm.length_eq]; omega, fun ch hch => by have := h.l1 (pm.mem_iff.mp hch); omega, fun ch hch => by have := (h.each ch (pm.mem_iff.mp hch)).len; omega⟩, by rw [pm.length_eq]; exact hl⟩
theorem blkOk_free {N : List Str} {sc0 sc scope : Scope} {own : List (Str × Nat)} (h : BlkOk N sc0 scope own) (hf : ∀ y ∈ scope.names, y.2 = .free → sc.names.lookup y.1 = some .cell ∨ sc.names.lookup y.1 = some .free) : BlkOk N sc scope own := ⟨h.kind, h.uniq, h.ix, hf, h.own⟩
theorem beq_eq {α : Type} [DecidableEq α] (i : BEq α) [LawfulBEq α] : (instBEqOfDecidableEq : BEq α) = i := by
  have h : (instBEqOfDecidableEq : BEq α).beq = i.beq := by
    funext a b
    have h1 : (instBEqOfDecidableEq : BEq α).beq a b = decide (a = b) := rfl
    rw [h1]
    by_cases e : a = b
    · subst e
      rw [decide_eq_true rfl]
      exact (beq_self_eq_true (α := α) a).symm
    · rw [decide_eq_false e]
      exact (beq_eq_false_iff_ne.mpr e).symm
  exact congrArg BEq.mk h
theorem erase_ch (l : List Ch) (c : Ch) : @List.erase Ch instBEqOfDecidableEq l c = l.erase c := by rw [beq_eq (α := Ch) instBEqProd]
section
variable {T : Tb} {P : Program} {w : World} {K : PySem.W.Frag} {mg : Str → Option Value} {base : Heap}
theorem c_l_turned (R : Pr K mg) : Cal P w K mg base "_law_turned" ["_law_changes_here", "_law_cell_here"] 2 (spL T K fun ds es => ∃ (chs : List Ch) (c : Int), Lw chs ∧ chs.length ≤ 1000 ∧ ds = [.lst (chs.map eCh), .int c] ∧ es = (turned chs c).map eCh) :=
  cal_L R.f_l_turned sc_l_turned (fun _ _ _ _ _ _ us hl => match us, hl with | [_, _], _ => rfl) (by rintro _ _ ⟨chs, c, h1, h2, rfl, rfl⟩; rfl) (by decide) fun f cdv A outer s H E hr ds es ⟨chs, c, hW, hl, e1, e2⟩ => by
    subst e1 e2
    refine s_new 2 nd_l_turned (l_listOf R.bt.list (i_of_e (e_var 0 rfl))) fun p2 => ?_
    refine s_new 3 nd_l_turned (l_lst (h := a_nil)) fun p3 => ?_
    refine s_new 4 nd_l_turned (l_lst (h := a_nil)) fun p4 => ?_
    refine s_while (α := Nat × List Ch × List Ch) (fun a => [some (.sh (.lst (chs.map eCh))), some (.sh (.int c)), some (.ow p2 (.lst (a.2.1.map eCh))), some (.ow p3 (.lst ((a.2.2.map (·.1)).map D.str))), some (.ow p4 (.lst (a.2.2.map eCh))), none, none, none]) (fun a => a.2.1.length)
      (fun a => tnLoop c a.1 a.2.1 a.2.2 = turned chs c ∧ a.2.1.length < a.1 ∧ (a.2.2 ++ a.2.1).Perm chs) (fun a => !((a.2.1.map eCh).isEmpty)) (chs.length + 1, chs, []) (Wk.eq rfl) ⟨rfl, by simp, by simp⟩ (fun a ha => (b_lst (e_own 2 rfl))) (fun a ha hc => ?_) fun a ha hc => ?_
    · obtain ⟨n, left, fnd⟩ := a
      obtain ⟨i1, i2, i3⟩ := ha
      dsimp only at i1 i2 i3 hc ⊢
      have hne : left ≠ [] := fun e => by rw [e] at hc; cases hc
      obtain ⟨n, rfl⟩ : ∃ k, n = k + 1 := ⟨n - 1, by omega⟩
      have hpl := i3.length_eq
      rw [List.length_append] at hpl
      obtain ⟨p1, p2'⟩ := tn_pick hW c i3 hne
      obtain ⟨x1, x2⟩ := tn_ix hW c i3 hne
      have step : tnLoop c (n + 1) left fnd = tnLoop c n (left.erase (tnPick c left fnd)) (fnd ++ [tnPick c left fnd]) := by
        show (if left = [] then fnd else _) = _
        rw [if_neg hne]
      rw [step] at i1
      have eR : left.filter (fun ch => (ch.2.1.map fun l => decide (l ∈ fnd.map (·.1))).all fun z => z) = tnReady left fnd := by
        unfold tnReady
        congr 1
        funext ch
        rw [List.all_map]
        rfl
      refine s_flO 5 2 6 eCh (as := left) (h := fun d => d) (p := fun ch => (ch.2.1.map fun l => decide (l ∈ fnd.map (·.1))).all fun z => z) nd_l_turned (by omega) rfl (show BlkOk nm_l_turned (defScope st_l_turned) _ _ from ⟨rfl, by decide +kernel, by decide +kernel, by decide +kernel, by decide +kernel⟩) (fun _ _ _ _ _ => pg_name nd_l_turned rfl (.inl rfl)) (fun _ _ _ _ _ a ha => (b_of_e' (e_all R.bt.all (e_of_l (mpL 7 D.bl (h := fun l => decide (l ∈ fnd.map (·.1))) nd_l_turned (by have := hW.l1 (i3.mem_iff.mp (List.mem_append_right _ ha)); omega) (e_ixT rfl (e_var 6 rfl) e_int) (blkOk_free (show BlkOk nm_l_turned (defScope st_l_turned) _ _ from ⟨rfl, by decide +kernel, by decide +kernel, by decide +kernel, by decide +kernel⟩) (fun y hy hf => by
        simp only [List.mem_cons, List.not_mem_nil, or_false] at hy
        rcases hy with rfl | rfl | rfl
        · cases hf
        · cases hf
        · exact Or.inl rfl)) (fun _ _ _ _ _ => pg_name nd_l_turned rfl (.inl rfl)) (fun _ _ _ _ _ l hl => (e_of_c (c_inL (e_var 7 rfl) (e_own 3 rfl))))))))) (fun _ _ _ _ _ a ha hk => (e_var 6 rfl)) fun p5 => ?_
      rw [eR, List.map_id']
      have hlen : (left.map eCh).length = left.length := List.length_map _
      have hlen2 : ((tnReady left fnd).map eCh).length = (tnReady left fnd).length := List.length_map _
      have hpos : 0 < (tnReady left fnd).length := List.length_pos_iff.mpr (tn_ready hW i3 hne)
      refine s_set 6 nd_l_turned (ED.as (d' := eCh (tnPick c left fnd)) (e_ixL (atI_map _ (atI_getD ch0 x2 (by omega))) (i_var 5 rfl) (e_mod (by omega) (e_call ((c_l_mixed R).mono (by decide)) hr ⟨c, (left.length : Nat), rfl, rfl⟩ (a_two (e_var 1 rfl) ((e_lenL R.bt.len (e_own 2 rfl)).as (by rw [hlen])))) ((e_lenL R.bt.len (e_own 5 rfl)).as (by rw [hlen2])))) rfl) ?_
      refine s_remove (v := tnPick c left fnd) 2 enc_ch (by have := hr.un; have := hr.units; omega) rfl p1 (e_var 6 rfl) ?_
      rw [erase_ch]
      refine s_append 3 rfl (by rw [List.length_map, List.length_map]; omega) (e_ixT (d := .str (tnPick c left fnd).1) rfl (e_var 6 rfl) e_int) ?_
      refine s_append 4 rfl (by rw [List.length_map]; omega) (e_var 6 rfl) ?_
      have el := List.length_erase_of_mem p1
      have lp := List.length_pos_of_mem p1
      have e3 : D.lst ((fnd.map (·.1)).map D.str ++ [.str (tnPick c left fnd).1]) = .lst (((fnd ++ [tnPick c left fnd]).map (·.1)).map D.str) := by rw [List.map_append, List.map_append]; rfl
      have e4 : D.lst (fnd.map eCh ++ [eCh (tnPick c left fnd)]) = .lst ((fnd ++ [tnPick c left fnd]).map eCh) := by rw [List.map_append]; rfl
      exact s_nil ⟨(n, left.erase (tnPick c left fnd), fnd ++ [tnPick c left fnd]), ⟨i1, by show (left.erase _).length < n; omega, tn_step hW c i3 hne⟩, by show (left.erase _).length < left.length; omega, (.same (.same (.same (.ow e3 (.ow e4 (.drop (.drop (.drop .nil))))))))⟩
    · obtain ⟨n, left, fnd⟩ := a
      obtain ⟨i1, i2, i3⟩ := ha
      dsimp only at i1 i2 hc ⊢
      have hne : left = [] := by cases left with | nil => rfl | cons _ _ => cases hc
      obtain ⟨n, rfl⟩ : ∃ k, n = k + 1 := ⟨n - 1, by omega⟩
      have : fnd = turned chs c := by rw [← i1]; show _ = (if left = [] then fnd else _); rw [if_pos hne]
      exact s_retO 4 rfl (by show _ = _; rw [this])
end
end KK

/-! Walks: a law's looks at a weave. -/
namespace KK
open PySem PySem.Spec L2 DD MM
section
variable {T : Tb} {P : Program} {w : World} {K : PySem.W.Frag} {mg : Str → Option Value} {base : Heap}
theorem c_l_mark_like (R : Pr K mg) : Cal P w K mg base "_law_mark_like" ["_law_found", "_law_due"] 1 (spE T K fun ds d => ∃ m : DD.Mk, ds = [eMk m, eMk m] ∧ d = .bl true) :=
  cal_E R.f_l_mark_like sc_l_mark_like (fun _ _ _ _ _ _ us hl => match us, hl with | [_, _], _ => rfl) (by rintro _ _ ⟨x, rfl, rfl⟩; rfl) (by decide) fun f cdv A outer s H E hr ds d ⟨m, e1, e2⟩ => by
    subst e1 e2
    refine s_ift (b_pw (b_or (b_not (b_of_e' (e_isi R.bt.isinstance R.bt.tuple rfl (e_var 0 rfl) rfl))) fun h1 => (b_or (b_of_c (c_neI (e_lenT R.bt.len (e_var 0 rfl)) e_int)) fun h0 => (b_or1 (b_not (b_of_e' (e_isi R.bt.isinstance R.bt.str rfl (e_ixT rfl (e_var 0 rfl) e_int) rfl))))))) (fun hb => ?_) fun hb => ?_
    · exact absurd (show false = true from hb) (by decide)
    refine s_ift (b_pw (b_or (b_not (b_of_e' (e_isi R.bt.isinstance R.bt.int rfl (e_ixT rfl (e_var 0 rfl) e_int) rfl))) fun h2 => (b_or1 (b_of_e' (e_isi R.bt.isinstance R.bt.bool rfl (e_ixT rfl (e_var 0 rfl) e_int) rfl))))) (fun hb => ?_) fun hb => ?_
    · exact absurd (show false = true from hb) (by decide)
    exact s_ret (e_of_c (c_eqD enc_mk hr.units (e_var 0 rfl) (e_var 1 rfl))) (by rw [decide_eq_true rfl])
theorem c_l_row_like (R : Pr K mg) : Cal P w K mg base "_law_row_like" ["_law_found", "_law_due"] 2 (spE T K fun ds d => ∃ ms : List DD.Mk, ms.length ≤ 10000000 ∧ ds = [.lst (ms.map eMk), .lst (ms.map eMk)] ∧ d = .bl true) :=
  cal_E R.f_l_row_like sc_l_row_like (fun _ _ _ _ _ _ us hl => match us, hl with | [_, _], _ => rfl) (by rintro _ _ ⟨x, h, rfl, rfl⟩; rfl) (by decide) fun f cdv A outer s H E hr ds d ⟨ms, hl, e1, e2⟩ => by
    subst e1 e2
    refine s_ift (b_pw (b_or (b_not (b_of_e' (e_isi R.bt.isinstance R.bt.list rfl (e_var 0 rfl) rfl))) fun h3 => (b_or1 (b_of_c (c_neI (e_lenL R.bt.len (e_var 0 rfl)) (e_lenL R.bt.len (e_var 1 rfl))))))) (fun hb => ?_) fun hb => ?_
    · exfalso
      rw [decide_eq_true rfl] at hb
      cases hb
    refine s_ret (e_all R.bt.all (e_of_l (mpZ 2 3 D.bl (x1 := "_law_one") (x2 := "_law_other") (as := ms) (bs := ms) (f := eMk) (g := eMk) (h := fun _ => true) nd_l_row_like R.bt.zip rfl (by omega) (e_var 0 rfl) (e_var 1 rfl) (show BlkOk nm_l_row_like (defScope st_l_row_like) _ _ from ⟨rfl, by decide +kernel, by decide +kernel, by decide +kernel, by decide +kernel⟩) (fun _ _ _ _ _ => pg_tup rfl (pgs_cons (pg_name nd_l_row_like rfl (.inl rfl)) (pgs_cons (pg_name nd_l_row_like rfl (.inl rfl)) pgs_nil))) (fun _ _ _ _ _ k a b ha hb => (e_call ((c_l_mark_like R).mono (by decide)) hr ⟨a, by rw [ha] at hb; cases hb; rfl, rfl⟩ (a_two (e_var 2 rfl) (e_var 3 rfl))))))) ?_
    rw [(all_map (fun _ => true) (List.range ms.length)).mpr fun _ _ => rfl]
theorem c_l_told_like (R : Pr K mg) : Cal P w K mg base "_law_told_like" ["_law_found", "_law_due"] 2 (spE T K fun ds d => ∃ ts : List (DD.Mk × Str), ts.length ≤ 10000000 ∧ ds = [.lst (ts.map eTl), .lst (ts.map eTl)] ∧ d = .bl true) :=
  cal_E R.f_l_told_like sc_l_told_like (fun _ _ _ _ _ _ us hl => match us, hl with | [_, _], _ => rfl) (by rintro _ _ ⟨x, h, rfl, rfl⟩; rfl) (by decide) fun f cdv A outer s H E hr ds d ⟨ts, hl, e1, e2⟩ => by
    subst e1 e2
    refine s_ift (b_pw (b_or (b_not (b_of_e' (e_isi R.bt.isinstance R.bt.list rfl (e_var 0 rfl) rfl))) fun h3 => (b_or1 (b_of_c (c_neI (e_lenL R.bt.len (e_var 0 rfl)) (e_lenL R.bt.len (e_var 1 rfl))))))) (fun hb => ?_) fun hb => ?_
    · exfalso
      rw [decide_eq_true rfl] at hb
      cases hb
    refine s_forZ 2 3 (as := ts) (bs := ts) (f := eTl) (g := eTl) (fun _ => [some (.sh (.lst (ts.map eTl))), some (.sh (.lst (ts.map eTl))), none, none]) 4 R.bt.zip rfl (e_var 0 rfl) (e_var 1 rfl) (pg_tup rfl (pgs_cons (pg_name nd_l_told_like rfl (.inl rfl)) (pgs_cons (pg_name nd_l_told_like rfl (.inl rfl)) pgs_nil))) (Wk.eq rfl) (fun _ => rfl) (by decide) (by decide) (fun k a b ha hb => ?_) (s_ret e_bl rfl)
    rw [ha] at hb
    cases hb
    refine s_ift (b_pw (b_or (b_not (b_of_e' (e_isi R.bt.isinstance R.bt.tuple rfl (e_var 2 rfl) rfl))) fun h6 => (b_or (b_of_c (c_neI (e_lenT R.bt.len (e_var 2 rfl)) e_int)) fun h5 => (b_or1 (b_not (b_of_e' (e_isi R.bt.isinstance R.bt.str rfl (e_ixT rfl (e_var 2 rfl) e_int) rfl))))))) (fun hb => ?_) fun hb => ?_
    · exact absurd (show false = true from hb) (by decide)
    refine s_ift (b_pw (b_or (b_not (b_of_e' (e_call ((c_l_mark_like R).mono (by decide)) hr ⟨a.1, rfl, rfl⟩ (a_two (e_ixT rfl (e_var 2 rfl) e_int) (e_ixT rfl (e_var 3 rfl) e_int))))) fun h7 => (b_or1 (b_of_c (c_neS (e_ixT (d := .str a.2) rfl (e_var 2 rfl) e_int) (e_ixT (d := .str a.2) rfl (e_var 3 rfl) e_int)))))) (fun hb => ?_) fun hb => s_nil (.same (.same (.drop (.drop .nil))))
    exfalso
    rw [decide_eq_true rfl] at hb
    cases hb
theorem c_l_texts_like (R : Pr K mg) : Cal P w K mg base "_law_texts_like" ["_law_found", "_law_due"] 1 (spE T K fun ds d => ∃ ts : List Str, ts.length ≤ 10000000 ∧ ds = [.lst (ts.map D.str), .lst (ts.map D.str)] ∧ d = .bl true) :=
  cal_E R.f_l_texts_like sc_l_texts_like (fun _ _ _ _ _ _ us hl => match us, hl with | [_, _], _ => rfl) (by rintro _ _ ⟨x, h, rfl, rfl⟩; rfl) (by decide) fun f cdv A outer s H E hr ds d ⟨ts, hl, e1, e2⟩ => by
    subst e1 e2
    refine s_ift (b_pw (b_or (b_not (b_of_e' (e_isi R.bt.isinstance R.bt.list rfl (e_var 0 rfl) rfl))) fun h3 => (b_or1 (b_of_c (c_neI (e_lenL R.bt.len (e_var 0 rfl)) (e_lenL R.bt.len (e_var 1 rfl))))))) (fun hb => ?_) fun hb => ?_
    · exfalso
      rw [decide_eq_true rfl] at hb
      cases hb
    refine s_ret (e_and (e_all R.bt.all (e_of_l (mpL 2 D.bl (h := fun _ => true) nd_l_texts_like (by omega) (e_var 0 rfl) (show BlkOk nm_l_texts_like (defScope st_l_texts_like) _ _ from ⟨rfl, by decide +kernel, by decide +kernel, by decide +kernel, by decide +kernel⟩) (fun _ _ _ _ _ => pg_name nd_l_texts_like rfl (.inl rfl)) (fun _ _ _ _ _ a ha => (e_isi R.bt.isinstance R.bt.str rfl (e_var 2 rfl) rfl))))) fun h9 => (e_one (e_of_c (c_eqD (f := fun xs : List Str => D.lst (xs.map D.str)) (u := ts) (v := ts) (enc_list enc_str) hr.units (e_var 0 rfl) (e_var 1 rfl))))) ?_
    rw [(all_map (fun _ => true) ts).mpr fun _ _ => rfl, decide_eq_true rfl]
    rfl
end
end KK

/-! Walks: a weave stands as its changes ask; a weave made of changes. -/
namespace KK
open PySem PySem.Spec L2 DD MM
section
variable {T : Tb} {P : Program} {w : World} {K : PySem.W.Frag} {mg : Str → Option Value} {base : Heap}
theorem c_l_one_stands (R : PrL T K mg base) : Cal P w K mg base "_law_one_stands" ["_law_weave", "_law_row", "_law_told", "_law_names", "_law_at"] 8 (spE T K fun ds d => ∃ (chs L : List Ch) (n : Int), We chs L ∧ ds = [eW L, .lst ((model chs).1.map eMk), .lst ((toldOf (model chs)).map eTl), .lst ((ssort (chs.map (·.1))).map D.str), .int n] ∧ d = .bl true) :=
  cal_E R.p.f_l_one_stands sc_l_one_stands (fun _ _ _ _ _ _ us hl => match us, hl with | [_, _, _, _, _], _ => rfl) (by rintro _ _ ⟨chs, L, n, h, rfl, rfl⟩; rfl) (by decide) fun f cdv A outer s H E hr ds d ⟨chs, L, n, hW, e1, e2⟩ => by
    subst e1 e2
    have tl := told_len' hW
    have rl := row_len' hW
    have hn : ssort (L.map (·.1)) = ssort (chs.map (·.1)) := ssort_eq ((ssort_perm _).trans (hW.pm.map _)) (List.pairwise_mergeSort (le := sle) (fun a b c => sle_trans a b c) (fun a b => sle_total a b) _)
    have nl : (ssort (chs.map (·.1))).length ≤ 10000000 := by rw [(ssort_perm _).length_eq, List.length_map]; have := hW.len; have := hW.l64; omega
    refine s_ifJ (α := Addr × List D) (fun a => [some (.sh (eW L)), some (.sh (.lst ((model chs).1.map eMk))), some (.sh (.lst ((toldOf (model chs)).map eTl))), some (.sh (.lst ((ssort (chs.map (·.1))).map D.str))), some (.sh (.int n)), some (.ow a.1 (.lst a.2)), some (.sh (.bl true)), none]) (b_of_c (c_eqI (e_var 4 rfl) e_int)) (fun hb => ?_) (fun hb => ?_) fun a => ?_
    · refine s_new 5 nd_l_one_stands (l_meth0 R.p.wv ((c_row R).mono (by decide)) hr ⟨chs, L, hW, rfl, rfl⟩ (imm_mks _) (e_var 0 rfl)) fun p5 => ?_
      refine s_set 6 nd_l_one_stands (e_imm (e_call ((c_l_row_like R.p).mono (by decide)) hr ⟨_, by omega, rfl, rfl⟩ (a_two (e_own 5 rfl) (e_var 1 rfl)))) ?_
      exact s_nil ⟨(p5, _), Wk.eq rfl⟩
    · refine s_if2 (b_of_c (c_eqI (e_var 4 rfl) e_int)) (fun hb => ?_) (fun hb => ?_)
      · refine s_new 5 nd_l_one_stands (l_meth0 R.p.wv ((c_told R).mono (by decide)) hr ⟨chs, L, hW, rfl, rfl⟩ (immAll_map (fun _ => rfl) _) (e_var 0 rfl)) fun p5 => ?_
        refine s_set 6 nd_l_one_stands (e_imm (e_call ((c_l_told_like R.p).mono (by decide)) hr ⟨_, by omega, rfl, rfl⟩ (a_two (e_own 5 rfl) (e_var 2 rfl)))) ?_
        exact s_nil ⟨(p5, _), Wk.eq rfl⟩
      · refine s_if2 (b_of_c (c_eqI (e_var 4 rfl) e_int)) (fun hb => ?_) (fun hb => ?_)
        · refine s_new 5 nd_l_one_stands ((l_meth0 R.p.wv ((c_names R.p).mono (by decide)) hr ⟨L, hW.kl, hW.l64, rfl, rfl⟩ (imm_strs _) (e_var 0 rfl)).as (by rw [hn])) fun p5 => ?_
          refine s_set 6 nd_l_one_stands (e_imm (e_call ((c_l_texts_like R.p).mono (by decide)) hr ⟨_, nl, rfl, rfl⟩ (a_two (e_own 5 rfl) (e_var 3 rfl)))) ?_
          exact s_nil ⟨(p5, _), Wk.eq rfl⟩
        · refine s_new 5 nd_l_one_stands (l_meth0 R.p.wv ((c_text R).mono (by decide)) hr ⟨chs, L, hW, rfl, rfl⟩ (imm_strs _) (e_var 0 rfl)) fun p5 => ?_
          refine s_set 6 nd_l_one_stands (e_imm (e_call ((c_l_texts_like R.p).mono (by decide)) hr ⟨(toldOf (model chs)).map (·.2), by rw [List.length_map]; omega, rfl, rfl⟩ (a_two (e_own 5 rfl) (e_of_l (mpL 7 D.str (h := fun (q : DD.Mk × Str) => q.2) nd_l_one_stands (by omega) (e_var 2 rfl) (show BlkOk nm_l_one_stands (defScope st_l_one_stands) _ _ from ⟨rfl, by decide +kernel, by decide +kernel, by decide +kernel, by decide +kernel⟩) (fun _ _ _ _ _ => pg_name nd_l_one_stands rfl (.inl rfl)) (fun _ _ _ _ _ a ha => (e_ixT rfl (e_var 7 rfl) e_int))))))) ?_
          exact s_nil ⟨(p5, _), Wk.eq rfl⟩
    refine s_ifj [some (.sh (eW L)), some (.sh (.lst ((model chs).1.map eMk))), some (.sh (.lst ((toldOf (model chs)).map eTl))), some (.sh (.lst ((ssort (chs.map (·.1))).map D.str))), some (.sh (.int n)), none, some (.sh (.bl true)), none] (b_of_e' (e_var 6 rfl)) (fun hb => ?_) (fun hb => by cases hb) ?_
    · refine s_clear 5 rfl ?_
      exact s_nil (.same (.same (.same (.same (.same (.drop (.same (.same .nil))))))))
    · exact s_ret (e_var 6 rfl) rfl
theorem c_l_stands (R : PrL T K mg base) : Cal P w K mg base "_law_stands" ["_law_weave", "_law_changes_here"] 9 (spE T K fun ds d => ∃ (chs L : List Ch), We chs L ∧ ds = [eW L, .lst (chs.map eCh)] ∧ d = .bl true) :=
  cal_E R.p.f_l_stands sc_l_stands (fun _ _ _ _ _ _ us hl => match us, hl with | [_, _], _ => rfl) (by rintro _ _ ⟨chs, L, h, rfl, rfl⟩; rfl) (by decide) fun f cdv A outer s H E hr ds d ⟨chs, L, hW, e1, e2⟩ => by
    subst e1 e2
    have hcl := hW.len
    have h64 := hW.l64
    have tl := told_len' hW
    have rl := row_len' hW
    have g := hW.good
    refine s_un2 2 3 (d1 := .lst ((model chs).1.map eMk)) (d2 := .lst ((toldOf (model chs)).map eTl)) (e_call ((c_l_model R).mono (by decide)) hr ⟨chs, g.ord, g.nd, g.v, g.ll, fun ch hch => ⟨g.l1 ch hch, g.l2 ch hch⟩, rfl, rfl⟩ (a_one (e_var 1 rfl))) (pg_tup rfl (pgs_cons (pg_name nd_l_stands rfl (.inl rfl)) (pgs_cons (pg_name nd_l_stands rfl (.inl rfl)) pgs_nil))) ?_
    refine s_new 4 nd_l_stands (l_sorted (xs := chs.map (·.1)) R.p.bt.sorted (by rw [List.length_map]; omega) (e_of_l (mpL 7 D.str (h := fun (ch : Ch) => ch.1) nd_l_stands (by omega) (e_var 1 rfl) (show BlkOk nm_l_stands (defScope st_l_stands) _ _ from ⟨rfl, by decide +kernel, by decide +kernel, by decide +kernel, by decide +kernel⟩) (fun _ _ _ _ _ => pg_name nd_l_stands rfl (.inl rfl)) (fun _ _ _ _ _ a ha => (e_ixT (d := .str a.1) rfl (e_var 7 rfl) e_int))))) fun p4 => ?_
    refine s_forR 5 (n := 5) (fun _ => [some (.sh (eW L)), some (.sh (.lst (chs.map eCh))), some (.sh (.lst ((model chs).1.map eMk))), some (.sh (.lst ((toldOf (model chs)).map eTl))), some (.ow p4 (.lst ((ssort (chs.map (·.1))).map D.str))), none, none, none]) 8 R.p.bt.range e_int (pg_name nd_l_stands rfl (.inl rfl)) (Wk.eq rfl) (fun _ => rfl) (by decide) (fun k hk => ?_) (s_ret e_bl rfl)
    have hk5 : k < 5 := by omega
    refine s_set 6 nd_l_stands (e_mod (by decide) (e_add (e_mul (.inl ⟨by omega, by omega⟩) (e_var 5 rfl) (e_add e_int (e_mul (.inr (by decide)) (e_mod (by decide) (e_lenL R.p.bt.len (e_var 2 rfl)) e_int) e_int))) (e_lenL R.p.bt.len (e_var 3 rfl))) e_int) ?_
    refine s_ift (b_not (b_of_e' (e_imm (e_call ((c_l_one_stands R).mono (by decide)) hr ⟨chs, L, _, hW, rfl, rfl⟩ (a_cons (e_var 0 rfl) (a_cons (e_var 2 rfl) (a_cons (e_var 3 rfl) (a_cons (e_own 4 rfl) (a_one (e_var 6 rfl)))))))))) (fun hb => by cases hb) fun hb => ?_
    exact s_nil (.same (.same (.same (.same (.same (.drop (.drop (.drop .nil))))))))
end
end KK

/-! Walks: a new weave. -/
namespace KK
open PySem PySem.Spec L2 DD MM
section
variable {T : Tb} {P : Program} {w : World} {K : PySem.W.Frag} {mg : Str → Option Value} {base : Heap}
theorem c_init (R : Pr K mg) : CalM P w K mg base "__init__" ["self"] 1 (spInit K) :=
  cal_init (rest := []) R.wv R.m_init sc_Weave___init__ (fun _ _ _ _ _ _ us hl => match us, hl with | [_], _ => rfl) rfl (fun _ _ _ _ _ _ _ => rfl) rfl
end
end KK

/-! Walks: wide, some, ground, closed. -/
namespace KK
open PySem PySem.Spec L2 DD MM
section
variable {T : Tb} {P : Program} {w : World} {K : PySem.W.Frag} {mg : Str → Option Value} {base : Heap}
theorem c_l_wide (R : Pr K mg) : Cal P w K mg base "_law_wide" ["_law_cells", "_law_flag", "_law_most"] 2 (spE T K fun ds d => ∃ (x : D) (cs : List Int) (flag most : Int), ILd x cs ∧ 0 ≤ most ∧ most ≤ 60 ∧ ds = [x, .int flag, .int most] ∧ d = wideD x cs flag most) :=
  cal_E R.f_l_wide sc_l_wide (fun _ _ _ _ _ _ us hl => match us, hl with | [_, _, _], _ => rfl) (by rintro _ _ ⟨x, cs, flag, most, h1, h2, h3, rfl, rfl⟩; rfl) (by decide) fun f cdv A outer s H E hr ds d ⟨x, cs, flag, most, hd, h0, h1, e1, e2⟩ => by
    subst e1 e2
    refine s_ift (k := decide (wideC cs flag)) (BD.as (b_pw (b_or (b_of_c (c_lt (e_lenIL hd R.bt.len (e_var 0 rfl)) e_int)) fun h0 => (b_or1 (b_of_c (c_neI (e_mod (by decide) (e_var 1 rfl) e_int) e_int))))) (Bool.eq_iff_iff.mpr (by rw [decide_eq_true_iff (p := wideC cs flag)]; simp [wideC]))) (fun hb => ?_) fun hb => ?_
    · exact s_ret (e_var 0 rfl) (by show x = wideD x cs flag most; unfold wideD; rw [if_pos (of_decide_eq_true hb)])
    · have hw : ¬ wideC cs flag := of_decide_eq_false hb
      have hlen : 4 ≤ (cs.length : Int) := by unfold wideC at hw; omega
      have hm0 : 0 ≤ flag / 12 % (61 - most) := Int.emod_nonneg _ (by omega)
      have hm1 : flag / 12 % (61 - most) < 61 - most := Int.emod_lt_of_pos _ (by omega)
      have hN : wideN flag most ≤ 240 := by unfold wideN; omega
      have hN0 : 0 ≤ wideN flag most := by unfold wideN; omega
      refine s_new 3 nd_l_wide (l_lst (h := a_nil)) fun p3 => ?_
      refine s_forR 4 (n := wideN flag most) (fun k => [some (.sh x), some (.sh (.int flag)), some (.sh (.int most)), some (.ow p3 (.lst ((wideTo cs flag k).map D.int))), none]) 5 R.bt.range (e_mul (.inl (by decide)) e_int (e_add (e_var 2 rfl) (e_mod (by omega) (e_fdiv ⟨by decide, by decide⟩ (e_var 1 rfl) e_int) (e_sub e_int (e_var 2 rfl))))) (pg_name nd_l_wide rfl (.inl rfl)) (Wk.eq rfl) (fun _ => rfl) (by decide) (fun k hk => ?_) ?_
      · have hk' : k < 240 := by omega
        have i0 : 0 ≤ (k : Int) % cs.length := Int.emod_nonneg _ (by omega)
        have i1 : (k : Int) % cs.length < cs.length := Int.emod_lt_of_pos _ (by omega)
        have hat : atI cs ((k : Int) % cs.length) = some (cs.getD ((k : Int) % cs.length).toNat 0) := atI_getD 0 i0 i1
        have ln := wideTo_len cs flag k
        refine s_append 3 rfl (by rw [List.length_map, ln]; omega) (e_call ((c_l_mixed R).mono (by decide)) hr ⟨_, _, rfl, rfl⟩ (a_two (e_ixIL hd hat (e_var 0 rfl) (e_mod (by omega) (e_var 4 rfl) (e_lenIL hd R.bt.len (e_var 0 rfl)))) (e_var 4 rfl))) ?_
        refine s_if2 (k := decide ((k : Int) % 4 = 1 ∧ flag / 12 % 2 = 1)) (BD.as (b_pw (b_and (b_of_c (c_eqI (e_mod (by decide) (e_var 4 rfl) e_int) e_int)) fun h1 => (b_and1 (b_of_c (c_eqI (e_mod (by decide) (e_fdiv ⟨by decide, by decide⟩ (e_var 1 rfl) e_int) e_int) e_int))))) (by simp)) (fun hb2 => ?_) (fun hb2 => ?_)
        · have hq := of_decide_eq_true hb2
          have hg : ((wideTo cs flag k).map D.int ++ [D.int (mixed (cs.getD ((k : Int) % cs.length).toNat 0) k)])[k]? = some (D.int (mixed (cs.getD ((k : Int) % cs.length).toNat 0) k)) := by
            rw [List.getElem?_append_right (by rw [List.length_map, ln]; omega), List.length_map, ln, Nat.sub_self]; rfl
          have hat2 : atI ((wideTo cs flag k).map D.int ++ [D.int (mixed (cs.getD ((k : Int) % cs.length).toNat 0) k)]) (k : Int) = some (D.int (mixed (cs.getD ((k : Int) % cs.length).toNat 0) k)) := atI_nat (by omega) (by rw [Int.toNat_natCast]; exact hg)
          refine s_setItem (jj := k) 3 rfl (e_add (e_mul (.inr (by decide)) (e_fdiv ⟨by decide, by decide⟩ (e_ixL hat2 (i_var 3 rfl) (e_var 4 rfl)) e_int) e_int) e_int) (e_var 4 rfl) (by
            have hl : ((wideTo cs flag k).map D.int ++ [D.int (mixed (cs.getD ((k : Int) % cs.length).toNat 0) k)]).length = k + 1 := by simp [ln]
            rw [hl]
            unfold ixN
            rw [if_pos (by omega), if_pos (by omega), Int.toNat_natCast]) ?_
          refine s_nil (.same (.same (.same (.ow ?_ (.drop .nil)))))
          rw [wideTo_succ, List.map_append]
          unfold wideAt
          rw [if_pos hq, List.set_append_right _ _ (by rw [List.length_map, ln]; omega), List.length_map, ln, Nat.sub_self]
          rfl
        · have hq := of_decide_eq_false hb2
          refine s_nil (.same (.same (.same (.ow ?_ (.drop .nil)))))
          rw [wideTo_succ, List.map_append]
          unfold wideAt
          rw [if_neg hq]
          rfl
      · refine s_rel (i := 3) rfl ?_
        exact s_ret (e_var 3 rfl) (by show _ = wideD x cs flag most; unfold wideD; rw [if_neg hw])
end
end KK

/-! The law k09 walked. -/
namespace KK
open PySem PySem.Spec L2 DD MM
theorem idx_mk (r : List DD.Mk) (m : DD.Mk) : @List.idxOf DD.Mk instBEqOfDecidableEq m r = r.idxOf m := by rw [beq_eq (α := DD.Mk) instBEqProd]
section
variable {T : Tb} {P : Program} {w : World} {K : PySem.W.Frag} {mg : Str → Option Value} {base : Heap}
theorem c_l_row_right (R : Pr K mg) : Cal P w K mg base "_law_row_right" ["_law_row", "_law_changes_here"] 1 (spE T K fun ds d => ∃ chs : List Ch, Lw chs ∧ chs.length ≤ 100 ∧ ds = [.lst ((model chs).1.map eMk), .lst (chs.map eCh)] ∧ d = .bl true) :=
  cal_E R.f_l_row_right sc_l_row_right (fun _ _ _ _ _ _ us hl => match us, hl with | [_, _], _ => rfl) (by rintro _ _ ⟨chs, h1, h2, rfl, rfl⟩; rfl) (by decide) fun f cdv A outer s H E hr ds d ⟨chs, lw, hl, e1, e2⟩ => by
    subst e1 e2
    have hrow := (lw.row20 (by omega)).l1
    have hpm := row_perm lw (by omega)
    refine s_new 2 nd_l_row_right (LD.as (es := (allMks (chs.take 0)).map eMk) (l_lst (h := a_nil)) rfl) fun p2 => ?_
    refine s_forL 3 (as := chs) (f := eCh) (fun k => [some (.sh (.lst ((model chs).1.map eMk))), some (.sh (.lst (chs.map eCh))), some (.ow p2 (.lst ((allMks (chs.take k)).map eMk))), none, none, none]) 6 (e_var 1 rfl) (pg_name nd_l_row_right rfl (.inl rfl)) (Wk.eq rfl) (fun _ => rfl) (by decide) (fun k ch hch => ?_) ?_
    · have hk : k < chs.length := (List.getElem?_eq_some_iff.mp hch).1
      have hin := List.mem_of_getElem? hch
      have hlen := (lw.each ch hin).len
      have hak : (allMks (chs.take k)).length ≤ 2000 := by
        have h1 : ((allMks (chs.take k)).length : Nat) ≤ (allMks chs).length := by
          have e : allMks chs = allMks (chs.take k) ++ allMks (chs.drop k) := by unfold allMks; rw [← List.flatMap_append, List.take_append_drop]
          rw [e, List.length_append]; omega
        have := hpm.length_eq
        omega
      refine s_set 4 nd_l_row_right (ED.as (d' := .int ((adds (ch.2.2.take 0) : Nat) : Int)) e_int rfl) ?_
      refine s_forL 5 (as := ch.2.2) (f := eDd) (fun j => [some (.sh (.lst ((model chs).1.map eMk))), some (.sh (.lst (chs.map eCh))), some (.ow p2 (.lst ((allMks (chs.take k) ++ mksTo ch j).map eMk))), some (.sh (eCh ch)), some (.sh (.int ((adds (ch.2.2.take j) : Nat) : Int))), none]) 6 (e_ixT rfl (e_var 3 rfl) e_int) (pg_name nd_l_row_right rfl (.inl rfl)) (Wk.eq (by simp [mksTo, adds])) (fun _ => rfl) (by decide) (fun j d hd => ?_) ?_
      · have hj : j < ch.2.2.length := (List.getElem?_eq_some_iff.mp hd).1
        have hto : (mksTo ch j).length ≤ 20 := by unfold mksTo; rw [List.length_map, List.length_range]; exact Nat.le_trans (adds_le _) (by rw [List.length_take]; omega)
        refine s_if2 (b_of_c (c_eqS (e_ixT (dd0 _) (e_var 5 rfl) e_int) e_str)) (fun hb => ?_) (fun hb => ?_)
        · have hq := of_decide_eq_true hb
          obtain ⟨t1, t2⟩ := mksTo_t hd hq
          obtain ⟨r1, r2⟩ := row_put lw (by omega) hin hd hq
          generalize hx : ((ch.1, ((adds (ch.2.2.take j) : Nat) : Int)) : DD.Mk) = x at t1 r1 r2
          have hlast : atI ((allMks (chs.take k) ++ mksTo ch j ++ [x]).map eMk) (-1) = some (eMk x) := by
            rw [List.append_assoc, ← List.append_assoc]
            have h := atI_last (xs := (allMks (chs.take k) ++ mksTo ch j ++ [x])) (by simp)
            exact atI_map eMk (by simpa using h)
          refine s_append 2 rfl (by rw [List.length_map, List.length_append]; omega) (ED.as (d' := eMk x) (e_tup (h := (a_two (e_ixT (d := .str ch.1) rfl (e_var 3 rfl) e_int) (e_var 4 rfl)))) (by rw [← hx]; rfl)) ?_
          have es : (allMks (chs.take k) ++ mksTo ch j).map eMk ++ [eMk x] = (allMks (chs.take k) ++ mksTo ch j ++ [x]).map eMk := by rw [List.map_append (l₂ := [x])]; rfl
          rw [es]
          refine s_ift (b_of_c (c_notInD (f := eMk) (v := x) (xs := (model chs).1) enc_mk (by have := hr.un; have := hr.units; omega) (e_ixL hlast (i_var 2 rfl) (e_neg e_int)) (e_var 0 rfl))) (fun hb2 => ?_) fun hb2 => ?_
          · simp only [Bool.not_eq_true', decide_eq_false_iff_not] at hb2; exact absurd r1 hb2
          refine s_ift (k := false) (BD.as (b_pw (b_and (k := !isNon (eOM d.2.1)) (l := false) (b_of_c (c_notN (e_ixT (dd1 _) (e_var 5 rfl) e_int))) fun h0 => ?_)) (by rw [Bool.and_false])) (fun hb2 => by cases hb2) fun hb2 => ?_
          · obtain ⟨m, hm⟩ : ∃ m, d.2.1 = some m := by
              rw [isNon_om] at h0
              cases hdm : d.2.1 with
              | none => rw [hdm] at h0; cases h0
              | some m => exact ⟨m, rfl⟩
            obtain ⟨m1, m2⟩ := r2 m hm
            exact b_and1 (BD.as (b_of_c (c_ge (e_indexS 0 (f := eMk) (v := m) (as := (model chs).1) enc_mk (by have := hr.un; have := hr.units; omega) rfl m1 (ED.as (e_ixT (dd1 _) (e_var 5 rfl) e_int) (by rw [hm]; rfl))) (e_indexS 0 (f := eMk) (v := x) (as := (model chs).1) enc_mk (by have := hr.un; have := hr.units; omega) rfl r1 (e_ixL hlast (i_var 2 rfl) (e_neg e_int))))) (by rw [idx_mk, idx_mk]; simp; omega))
          refine s_set 4 nd_l_row_right (e_add (e_var 4 rfl) e_int) ?_
          exact s_nil (.same (.same (.ow (by rw [t1, List.append_assoc]) (.same (.sh (by rw [t2]; simp) (.drop .nil))))))
        · have hq := of_decide_eq_false hb
          obtain ⟨t1, t2⟩ := mksTo_f hd hq
          exact s_nil (.same (.same (.ow (by rw [t1]) (.same (.sh (by rw [t2]) (.drop .nil))))))
      · rw [mksTo_all]
        exact s_nil (.same (.same (.ow (by rw [allMks_take hch]) (.drop (.drop (.drop .nil))))))
    · rw [List.take_length]
      exact s_ret (e_of_c (c_eqI (e_lenL R.bt.len (e_var 0 rfl)) (e_lenL R.bt.len (e_own 2 rfl)))) (by show _ = _; rw [List.length_map, List.length_map, hpm.length_eq, decide_eq_true rfl])
theorem changes_lw (cs : List Int) {most : Int} (h0 : 0 ≤ most) (h : most < 900) : Lw (changes cs most) ∧ ((changes cs most).length : Int) ≤ most := by
  have I := changes_inv cs h
  refine ⟨I.ok.lw I.nd, ?_⟩
  have e : (changes cs most).length = (chN cs most).toNat := I.len
  rw [e]
  have : ((chN cs most).toNat : Int) ≤ most := by unfold chN; omega
  exact this
/-- what is held after k turns -/
def hsR (chs : List Ch) (ns : List Int) : Nat → List (List D) := nrg (fun k hs => hSt (turned chs (cell ns (k : Nat))) hs (turned chs (cell ns (k : Nat))).length) []
theorem c_law (R : PrL T K mg base) : CalG P w K mg base "law" ["_law_script"] 10 (spE T K fun ds d => ∃ ns : List Int, ds = [.scr ns] ∧ d = .bl true) :=
  calG_E R.p.f_law sc_law (fun _ _ _ _ _ _ us hl => match us, hl with | [_], _ => rfl) (by rintro _ _ ⟨ns, rfl, rfl⟩; rfl) (by decide) fun f cdv A outer s H E hr gd ds d ⟨ns, e1, e2⟩ => by
    subst e1 e2
    have ilw := wideD_il (x := .lst ((cutD ns (some 3) none).map D.int)) (cs := cutD ns (some 3) none) (cell ns 2) 12 (.inr rfl)
    generalize hch : changes (wide (cutD ns (some 3) none) (cell ns 2) 12) 60 = chs
    obtain ⟨lw, hl⟩ : Lw chs ∧ (chs.length : Int) ≤ 60 := by rw [← hch]; exact changes_lw _ (by decide) (by decide)
    have hl60 : chs.length ≤ 60 := by omega
    have hTl : ∀ c, Lw (turned chs c) ∧ (turned chs c).Perm chs ∧ (turned chs c).length ≤ 60 := fun c => ⟨turned_lw lw c, turned_perm lw c, by rw [(turned_perm lw c).length_eq]; exact hl60⟩
    have hsok : ∀ k, k ≤ 2 → HOkS (hsR chs ns k) := nrg_inv (fun _ s => HOkS s) ⟨by simp, by simp⟩ fun k s hk q => hSt_ok (hTl _).1 (by have := (hTl (cell ns (k : Nat))).2.2; omega) q _ (Nat.le_refl _)
    refine s_set 1 nd_law (e_of_l (l_call ((c_l_changes R.p).mono (by decide)) hr ⟨_, wide (cutD ns (some 3) none) (cell ns 2) 12, 60, by decide, by decide, ilw, rfl, congrArg (fun z => z.map eCh) hch.symm⟩ (a_two (e_call ((c_l_wide R.p).mono (by decide)) hr ⟨_, _, _, _, .inr rfl, by decide, by decide, rfl, rfl⟩ (a_cons (e_of_l (l_sliceIL (.inl rfl) (e_var 0 rfl) (p_some e_int) p_none)) (a_cons (e_call ((c_l_cell R.p).mono (by decide)) hr ⟨_, ns, 2, by decide, .inl rfl, rfl, rfl⟩ (a_two (e_var 0 rfl) e_int)) (a_one e_int)))) e_int))) ?_
    refine s_new 2 nd_law (l_lst (h := a_nil)) fun p2 => ?_
    refine s_new 3 nd_law (l_lst (h := a_nil)) fun p3 => ?_
    refine s_forR 4 (n := 2) (fun k => [some (.sh (.scr ns)), some (.sh (.lst (chs.map eCh))), some (.ow p2 (.lst ((List.range k).map fun i : Nat => eW (turned chs (cell ns (i : Nat)))))), some (.ow p3 (.lst ((hsR chs ns k).map hent))), none, none, none, none]) 8 R.p.bt.range e_int (pg_name nd_law rfl (.inl rfl)) (Wk.eq rfl) (fun _ => rfl) (by decide) (fun k hk => ?_) ?_
    · have hk2 : k < 2 := by omega
      obtain ⟨tlw, tpm, tlen⟩ := hTl (cell ns (k : Nat))
      have h0 := hsok k (by omega)
      have est : hsR chs ns (k + 1) = hSt (turned chs (cell ns (k : Nat))) (hsR chs ns k) (turned chs (cell ns (k : Nat))).length := rfl
      have erg : ((List.range (k + 1)).map fun i : Nat => eW (turned chs (cell ns (i : Nat)))) = ((List.range k).map fun i : Nat => eW (turned chs (cell ns (i : Nat)))) ++ [eW (turned chs (cell ns (k : Nat)))] := by rw [List.range_succ, List.map_append]; rfl
      rw [est, erg]
      generalize hsR chs ns k = h1 at h0
      generalize hrl : ((List.range k).map fun i : Nat => eW (turned chs (cell ns (i : Nat)))) = rl
      have rll : rl.length ≤ 2 := by rw [← hrl, List.length_map, List.length_range]; omega
      clear hrl
      refine s_newObj 5 R.p.wv ((c_init R.p).mono (by decide)) (hr.mono (by decide : 2 ≤ 9)) R.p.gW nd_law fun p5 => ?_
      refine s_forL 6 (as := turned chs (cell ns (k : Nat))) (f := eCh) (fun j => [some (.sh (.scr ns)), some (.sh (.lst (chs.map eCh))), some (.ow p2 (.lst rl)), some (.ow p3 (.lst ((hSt (turned chs (cell ns (k : Nat))) h1 j).map hent))), some (.sh (.int (k : Nat))), some (.ow p5 (eW ((turned chs (cell ns (k : Nat))).take j))), none, none]) 8 (e_of_l (l_call ((c_l_turned R.p).mono (by decide)) hr ⟨chs, cell ns (k : Nat), lw, by omega, rfl, rfl⟩ (a_two (e_var 1 rfl) (e_call ((c_l_cell R.p).mono (by decide)) hr ⟨_, ns, (k : Nat), by omega, .inl rfl, rfl, rfl⟩ (a_two (e_var 0 rfl) (e_var 4 rfl)))))) (pg_name nd_law rfl (.inl rfl)) (Wk.eq rfl) (fun _ => rfl) (by decide) (fun j ch hj => ?_) ?_
      · generalize turned chs (cell ns (k : Nat)) = L at tlw tpm tlen hj
        have hjl : j < L.length := (List.getElem?_eq_some_iff.mp hj).1
        have hin := List.mem_of_getElem? hj
        have et : L.take (j + 1) = L.take j ++ [ch] := by rw [List.take_add_one, hj]; rfl
        have ltk := tlw.take (j + 1)
        have hadd : addO (L.take j) ch = none := by rw [et] at ltk; exact ltk.addO
        have ok := hSt_ok tlw (by omega) h0 j (by omega)
        have ok2 := hSt_ok tlw (by omega) h0 (j + 1) (by omega)
        have st : hSt L h1 (j + 1) = hStep L j (hSt L h1 j) := rfl
        have tkl : (L.take j).length ≤ 60 := by rw [List.length_take]; omega
        refine s_set 7 nd_law (e_call ((c_l_copy R.p).ofN.mono (by decide)) hr ⟨ch, rfl, rfl⟩ (a_one (e_var 6 rfl))) ?_
        refine s_iftM (bm_or (bm_notN (em_meth 5 R.p.wv ((x_add R.p).mono (by decide)) hr rfl ⟨L.take j, ch, tlw.k (by omega) hin, fun c hc => (by have := (tlw.each c (List.mem_of_mem_take hc)).len; omega), by omega, rfl, rfl, by rw [hadd]; rfl⟩ (a_one (e_var 7 rfl)))) fun _ => (b_or1 (b_of_c (c_neD (u := ch) (v := ch) enc_ch hr.units (e_var 7 rfl) (e_var 6 rfl))))) (fun hb => ?_) fun hb => ?_
        · exact absurd hb (by rw [decide_eq_true rfl]; decide)
        have e5 : (D.obj (sdic eCh (kd (L.take j ++ [ch])))) = eW (L.take (j + 1)) := by rw [et]
        have eset : ∀ (d1 d2 : D) (h : d1 = d2) (Γ : Ev), Γ.set 5 (some (.ow p5 d1)) = Γ.set 5 (some (.ow p5 d2)) := fun d1 d2 h Γ => by rw [h]
        rw [eset _ _ e5]
        refine s_if2 (b_of_c (c_lt (e_lenL R.p.bt.len (e_own 3 rfl)) e_int)) (fun hb => ?_) (fun hb => ?_)
        · have hq : (hSt L h1 j).length < 60 := by rw [List.length_map] at hb; have := of_decide_eq_true hb; omega
          have eh : hSt L h1 (j + 1) = hSt L h1 j ++ newH (L.take (j + 1)) := by rw [st]; unfold hStep; rw [if_pos hq]
          refine s_callGA 5 3 ((c_l_hold R).mono (by decide)) hr gd rfl rfl ⟨L.take (j + 1), L.take (j + 1), hSt L h1 j, ltk, Lw.we ltk (by rw [List.length_take]; omega), by omega, rfl, rfl, rfl⟩ (by rw [← eh]; exact hs_pln ok2.ok) ?_
          exact s_nil (.same (.same (.same (.ow (by rw [eh]) (.same (.same (.drop (.drop .nil))))))))
        · have hq : ¬ (hSt L h1 j).length < 60 := by rw [List.length_map] at hb; have := of_decide_eq_false hb; omega
          exact s_nil (.same (.same (.same (.ow (by rw [st]; unfold hStep; rw [if_neg hq]) (.same (.same (.drop (.drop .nil))))))))
      · rw [List.take_length]
        refine s_rel (i := 5) rfl ?_
        refine s_append 2 rfl (by omega) (e_var 5 rfl) ?_
        exact s_nil (.same (.same (.same (.same (.drop (.drop (.same (.same .nil))))))))
    have e2 : Int.toNat 2 = 2 := rfl
    rw [e2]
    have h2 := hsok 2 (Nat.le_refl _)
    generalize hsR chs ns 2 = h1 at h2
    obtain ⟨lw0, pm0, ln0⟩ := hTl (cell ns ((0 : Nat) : Nat))
    obtain ⟨lw1, pm1, ln1⟩ := hTl (cell ns ((1 : Nat) : Nat))
    have er : ((List.range 2).map fun i : Nat => eW (turned chs (cell ns (i : Nat)))) = [eW (turned chs (cell ns ((0 : Nat) : Nat))), eW (turned chs (cell ns ((1 : Nat) : Nat)))] := rfl
    rw [er]
    generalize turned chs (cell ns ((0 : Nat) : Nat)) = L0 at lw0 pm0 ln0
    generalize turned chs (cell ns ((1 : Nat) : Nat)) = L1 at lw1 pm1 ln1
    have hW0 := Lw.weP lw pm0 (by omega)
    have hW1 := Lw.weP lw pm1 (by omega)
    have a0 : atI [eW L0, eW L1] 0 = some (eW L0) := atI_nat (Int.le_refl 0) rfl
    have a1 : atI [eW L0, eW L1] 1 = some (eW L1) := atI_nat (by decide) rfl
    refine s_ift (b_not (b_of_e' (e_call ((c_l_row_right R.p).mono (by decide)) hr ⟨chs, lw, by omega, rfl, rfl⟩ (a_two (e_of_l (l_meth0 R.p.wv ((c_row R).mono (by decide)) hr ⟨chs, L0, hW0, rfl, rfl⟩ (imm_mks _) (e_ixL a0 (i_var 2 rfl) e_int))) (e_var 1 rfl))))) (fun hb => by cases hb) fun hb => ?_
    refine s_ift (b_pw (b_or (b_of_c (c_neD (u := (model chs).1) (v := (model chs).1) (enc_list enc_mk) hr.units (e_of_l (l_meth0 R.p.wv ((c_row R).mono (by decide)) hr ⟨chs, L0, hW0, rfl, rfl⟩ (imm_mks _) (e_ixL a0 (i_var 2 rfl) e_int))) (e_of_l (l_meth0 R.p.wv ((c_row R).mono (by decide)) hr ⟨chs, L1, hW1, rfl, rfl⟩ (imm_mks _) (e_ixL a1 (i_var 2 rfl) e_int))))) fun h1 => (b_or1 (b_of_c (c_neD (u := toldOf (model chs)) (v := toldOf (model chs)) (enc_list enc_tl) hr.units (e_of_l (l_meth0 R.p.wv ((c_told R).mono (by decide)) hr ⟨chs, L0, hW0, rfl, rfl⟩ (immAll_map (fun _ => rfl) _) (e_ixL a0 (i_var 2 rfl) e_int))) (e_of_l (l_meth0 R.p.wv ((c_told R).mono (by decide)) hr ⟨chs, L1, hW1, rfl, rfl⟩ (immAll_map (fun _ => rfl) _) (e_ixL a1 (i_var 2 rfl) e_int)))))))) (fun hb => ?_) fun hb => ?_
    · exact absurd hb (by rw [decide_eq_true rfl, decide_eq_true rfl]; decide)
    exact s_ret (e_and (e_imm (e_callG ((c_l_held R).mono (by decide)) hr gd ⟨h1, by have := h2.l; omega, h2.ok, rfl, rfl⟩ (a_one (e_own 3 rfl)))) fun h3 => (e_and (e_call ((c_l_stands R).mono (by decide)) hr ⟨chs, L0, hW0, rfl, rfl⟩ (a_two (e_ixL a0 (i_var 2 rfl) e_int) (e_var 1 rfl))) fun h2 => (e_one (e_call ((c_l_stands R).mono (by decide)) hr ⟨chs, L1, hW1, rfl, rfl⟩ (a_two (e_ixL a1 (i_var 2 rfl) e_int) (e_var 1 rfl)))))) rfl
end
end KK

set_option maxHeartbeats 0
/-! The head by facts; the end. -/
namespace KK
open PySem PySem.Spec PyProof.Rows L2 DD
def hd_is_name : He.DefD := ⟨("is_name", none), "is_name", "is_name", defArgs st_is_name, defBody st_is_name, defScope st_is_name, [], []⟩
def hd_is_line : He.DefD := ⟨("is_line", none), "is_line", "is_line", defArgs st_is_line, defBody st_is_line, defScope st_is_line, [], []⟩
def hd_is_rising : He.DefD := ⟨("is_rising", none), "is_rising", "is_rising", defArgs st_is_rising, defBody st_is_rising, defScope st_is_rising, [], []⟩
def hd_is_deed : He.DefD := ⟨("is_deed", none), "is_deed", "is_deed", defArgs st_is_deed, defBody st_is_deed, defScope st_is_deed, [], []⟩
def hd_check : He.DefD := ⟨("check", none), "check", "check", defArgs st_check, defBody st_check, defScope st_check, [], []⟩
def hd_adds_of : He.DefD := ⟨("adds_of", none), "adds_of", "adds_of", defArgs st_adds_of, defBody st_adds_of, defScope st_adds_of, [], []⟩
def hd_copied : He.DefD := ⟨("copied", none), "copied", "copied", defArgs st_copied, defBody st_copied, defScope st_copied, [], []⟩
def hd_heights : He.DefD := ⟨("heights", none), "heights", "heights", defArgs st_heights, defBody st_heights, defScope st_heights, [], []⟩
def hd_ground_of : He.DefD := ⟨("ground_of", none), "ground_of", "ground_of", defArgs st_ground_of, defBody st_ground_of, defScope st_ground_of, [], []⟩
def hd_in_order : He.DefD := ⟨("in_order", none), "in_order", "in_order", defArgs st_in_order, defBody st_in_order, defScope st_in_order, [], []⟩
def hd_own_adds : He.DefD := ⟨("own_adds", none), "own_adds", "own_adds", defArgs st_own_adds, defBody st_own_adds, defScope st_own_adds, [], []⟩
def hd_done : He.DefD := ⟨("done", none), "done", "done", defArgs st_done, defBody st_done, defScope st_done, [], []⟩
def hd_l_cell : He.DefD := ⟨("_law_cell", none), "_law_cell", "_law_cell", defArgs st_l_cell, defBody st_l_cell, defScope st_l_cell, [], []⟩
def hd_l_mixed : He.DefD := ⟨("_law_mixed", none), "_law_mixed", "_law_mixed", defArgs st_l_mixed, defBody st_l_mixed, defScope st_l_mixed, [], []⟩
def hd_l_name : He.DefD := ⟨("_law_name", none), "_law_name", "_law_name", defArgs st_l_name, defBody st_l_name, defScope st_l_name, [], []⟩
def hd_l_line : He.DefD := ⟨("_law_line", none), "_law_line", "_law_line", defArgs st_l_line, defBody st_l_line, defScope st_l_line, [], []⟩
def hd_l_leans : He.DefD := ⟨("_law_leans", none), "_law_leans", "_law_leans", defArgs st_l_leans, defBody st_l_leans, defScope st_l_leans, [], []⟩
def hd_l_marks : He.DefD := ⟨("_law_marks", none), "_law_marks", "_law_marks", defArgs st_l_marks, defBody st_l_marks, defScope st_l_marks, [], []⟩
def hd_l_deeds : He.DefD := ⟨("_law_deeds", none), "_law_deeds", "_law_deeds", defArgs st_l_deeds, defBody st_l_deeds, defScope st_l_deeds, [], []⟩
def hd_l_changes : He.DefD := ⟨("_law_changes", none), "_law_changes", "_law_changes", defArgs st_l_changes, defBody st_l_changes, defScope st_l_changes, [], []⟩
def hd_l_copy : He.DefD := ⟨("_law_copy", none), "_law_copy", "_law_copy", defArgs st_l_copy, defBody st_l_copy, defScope st_l_copy, [], []⟩
def hd_l_turned : He.DefD := ⟨("_law_turned", none), "_law_turned", "_law_turned", defArgs st_l_turned, defBody st_l_turned, defScope st_l_turned, [], []⟩
def hd_l_heights : He.DefD := ⟨("_law_heights", none), "_law_heights", "_law_heights", defArgs st_l_heights, defBody st_l_heights, defScope st_l_heights, [], []⟩
def hd_l_model : He.DefD := ⟨("_law_model", none), "_law_model", "_law_model", defArgs st_l_model, defBody st_l_model, defScope st_l_model, [], []⟩
def hd_l_mark_like : He.DefD := ⟨("_law_mark_like", none), "_law_mark_like", "_law_mark_like", defArgs st_l_mark_like, defBody st_l_mark_like, defScope st_l_mark_like, [], []⟩
def hd_l_row_like : He.DefD := ⟨("_law_row_like", none), "_law_row_like", "_law_row_like", defArgs st_l_row_like, defBody st_l_row_like, defScope st_l_row_like, [], []⟩
def hd_l_told_like : He.DefD := ⟨("_law_told_like", none), "_law_told_like", "_law_told_like", defArgs st_l_told_like, defBody st_l_told_like, defScope st_l_told_like, [], []⟩
def hd_l_texts_like : He.DefD := ⟨("_law_texts_like", none), "_law_texts_like", "_law_texts_like", defArgs st_l_texts_like, defBody st_l_texts_like, defScope st_l_texts_like, [], []⟩
def hd_l_one_stands : He.DefD := ⟨("_law_one_stands", none), "_law_one_stands", "_law_one_stands", defArgs st_l_one_stands, defBody st_l_one_stands, defScope st_l_one_stands, [], []⟩
def hd_l_stands : He.DefD := ⟨("_law_stands", none), "_law_stands", "_law_stands", defArgs st_l_stands, defBody st_l_stands, defScope st_l_stands, [], []⟩
def hd_l_row_right : He.DefD := ⟨("_law_row_right", none), "_law_row_right", "_law_row_right", defArgs st_l_row_right, defBody st_l_row_right, defScope st_l_row_right, [], []⟩
def hd_l_wide : He.DefD := ⟨("_law_wide", none), "_law_wide", "_law_wide", defArgs st_l_wide, defBody st_l_wide, defScope st_l_wide, [], []⟩
def hd_l_hold : He.DefD := ⟨("_law_hold", none), "_law_hold", "_law_hold", defArgs st_l_hold, defBody st_l_hold, defScope st_l_hold, [], []⟩
def hd_l_held : He.DefD := ⟨("_law_held", none), "_law_held", "_law_held", defArgs st_l_held, defBody st_l_held, defScope st_l_held, [], []⟩
def hd_law : He.DefD := ⟨("law", none), "law", "law", defArgs st_law, defBody st_law, defScope st_law, [], []⟩
def hd_Weave___init__ : He.DefD := ⟨("Weave", some "__init__"), "__init__", "Weave.__init__", defArgs st_Weave___init__, defBody st_Weave___init__, defScope st_Weave___init__, [], []⟩
def hd_Weave_add : He.DefD := ⟨("Weave", some "add"), "add", "Weave.add", defArgs st_Weave_add, defBody st_Weave_add, defScope st_Weave_add, [], []⟩
def hd_Weave_need : He.DefD := ⟨("Weave", some "need"), "need", "Weave.need", defArgs st_Weave_need, defBody st_Weave_need, defScope st_Weave_need, [], []⟩
def hd_Weave_names : He.DefD := ⟨("Weave", some "names"), "names", "Weave.names", defArgs st_Weave_names, defBody st_Weave_names, defScope st_Weave_names, [], []⟩
def hd_Weave_change : He.DefD := ⟨("Weave", some "change"), "change", "Weave.change", defArgs st_Weave_change, defBody st_Weave_change, defScope st_Weave_change, [], []⟩
def hd_Weave_height : He.DefD := ⟨("Weave", some "height"), "height", "Weave.height", defArgs st_Weave_height, defBody st_Weave_height, defScope st_Weave_height, [], []⟩
def hd_Weave_row : He.DefD := ⟨("Weave", some "row"), "row", "Weave.row", defArgs st_Weave_row, defBody st_Weave_row, defScope st_Weave_row, [], []⟩
def hd_Weave_told : He.DefD := ⟨("Weave", some "told"), "told", "Weave.told", defArgs st_Weave_told, defBody st_Weave_told, defScope st_Weave_told, [], []⟩
def hd_Weave_text : He.DefD := ⟨("Weave", some "text"), "text", "Weave.text", defArgs st_Weave_text, defBody st_Weave_text, defScope st_Weave_text, [], []⟩
def hd_Weave_open_sets : He.DefD := ⟨("Weave", some "open_sets"), "open_sets", "Weave.open_sets", defArgs st_Weave_open_sets, defBody st_Weave_open_sets, defScope st_Weave_open_sets, [], []⟩
def hd_Weave_questions : He.DefD := ⟨("Weave", some "questions"), "questions", "Weave.questions", defArgs st_Weave_questions, defBody st_Weave_questions, defScope st_Weave_questions, [], []⟩
def hfn0 : List He.DefD := [hd_is_name, hd_is_line, hd_is_rising, hd_is_deed, hd_check, hd_adds_of, hd_copied, hd_heights, hd_ground_of, hd_in_order, hd_own_adds, hd_done, hd_l_cell, hd_l_mixed, hd_l_name, hd_l_line, hd_l_leans, hd_l_marks, hd_l_deeds, hd_l_changes, hd_l_copy, hd_l_turned, hd_l_heights, hd_l_model, hd_l_mark_like, hd_l_row_like, hd_l_told_like, hd_l_texts_like, hd_l_one_stands, hd_l_stands, hd_l_row_right, hd_l_wide, hd_l_hold, hd_l_held, hd_law]
def hfn1 : List He.DefD := [hd_Weave___init__, hd_Weave_add, hd_Weave_need, hd_Weave_names, hd_Weave_change, hd_Weave_height, hd_Weave_row, hd_Weave_told, hd_Weave_text, hd_Weave_open_sets, hd_Weave_questions]
def hfn : List He.DefD := hfn0 ++ hfn1
def hfa0 : List He.Fa := [.glo "is_name", .glo "is_line", .glo "is_rising", .glo "is_deed", .glo "check", .glo "adds_of", .glo "copied", .glo "heights", .glo "ground_of", .glo "in_order", .glo "own_adds", .glo "done", .glo "_law_cell", .glo "_law_mixed", .glo "_law_name", .glo "_law_line", .glo "_law_leans", .glo "_law_marks", .glo "_law_deeds", .glo "_law_changes", .glo "_law_copy", .glo "_law_turned", .glo "_law_heights", .glo "_law_model", .glo "_law_mark_like", .glo "_law_row_like", .glo "_law_told_like", .glo "_law_texts_like", .glo "_law_one_stands", .glo "_law_stands", .glo "_law_row_right", .glo "_law_wide", .glo "_law_hold", .glo "_law_held", .glo "law"]
def hfa1 : List He.Fa := [.free "len", .free "all", .free "any", .free "sorted", .free "range", .free "str", .free "int", .free "list", .free "dict", .free "set", .free "min", .free "max", .free "zip", .free "enumerate", .free "repr", .free "isinstance", .free "bool", .free "tuple", .str "SIGNS" "abcdefghijklmnopqrstuvwxyz0123456789", .glo "WORDS", .int "MOST_SIGNS" 12, .int "MOST_LINE" 200, .int "MOST_DEEDS" 20, .cls "Weave", .noat "Weave" "known", .mkr "Weave", .glo "Weave", .meth "Weave" "__init__", .meth "Weave" "add", .meth "Weave" "need", .meth "Weave" "names", .meth "Weave" "change", .meth "Weave" "height", .meth "Weave" "row", .meth "Weave" "told"]
def hfa2 : List He.Fa := [.meth "Weave" "text", .meth "Weave" "open_sets", .meth "Weave" "questions", .glo "WeaveError", .exc "WeaveError", .glo "BadChange", .exc "BadChange", .glo "NotLeaned", .exc "NotLeaned", .glo "Twice", .exc "Twice", .glo "Missing", .exc "Missing", .glo "NoLine", .exc "NoLine"]
def hfa : List He.Fa := hfa0 ++ hfa1 ++ hfa2
def txtV : Value → Option Str
  | .str z _ => some z
  | _ => none
def tupB (K : PySem.W.Frag) (x : Str) (xs : List Str) : Bool := match K.lookup (He.ga K x) with
  | some ⟨.type c, _, .seq its _, _⟩ => decide (c = "tuple") && (decide (its.toList.map txtV = xs.map some))
  | _ => false
theorem txt_vals : ∀ {us : List Value} {xs : List Str}, us.map txtV = xs.map some → Vals (xs.map V.str) us
  | [], [], _ => .nil
  | u :: us, x :: xs, h => by
    simp only [List.map_cons, List.cons.injEq] at h
    refine .cons ?_ (txt_vals h.2)
    cases u with
    | str z t =>
      have e : z = x := Option.some.inj h.1
      subst e
      exact ⟨t, rfl⟩
    | _ => cases h.1
  | [], _ :: _, h => by simp at h
  | _ :: _, [], h => by simp at h
theorem tup_ok {K : PySem.W.Frag} {x : Str} {xs : List Str} (h : tupB K x xs = true) (hl : xs.length ≤ 1000) (G : Hp) : SqT K G (He.ga K x) (xs.map V.str) := by
  unfold tupB at h
  cases q : K.lookup (He.ga K x) with
  | none => rw [q] at h; cases h
  | some o =>
    obtain ⟨oc, od, dt, osl⟩ := o
    rw [q] at h
    cases oc with
    | type c =>
      cases dt with
      | seq its n =>
        obtain ⟨h1, h2⟩ := Bool.and_eq_true_iff.mp h
        have e1 : c = "tuple" := of_decide_eq_true h1
        have e2 := of_decide_eq_true h2
        subst e1
        have hz : its.size = xs.length := by
          have := congrArg List.length e2
          simpa using this
        exact .inr ⟨_, its, n, q, rfl, rfl, by rw [sizeLine_eq]; omega, txt_vals e2⟩
      | _ => cases h
    | _ => cases dt <;> cases h
def htf : List He.Defn := [("in_order", none), ("_law_model", none)]
def hexT (K : PySem.W.Frag) : Bool := tupB K "WORDS" ["add", "cut", "set"]
def hex (K : PySem.W.Frag) : Bool := hexT K && decide ((htf.map fun d => (He.cT K d).2).Nodup)
def htT (K : PySem.W.Frag) : Tb := htf.map fun d => ((He.cT K d).2, d.1 ++ (".<locals>." : Str) ++ ("<lambda>" : Str))
abbrev hR : PySem.W.OpenRow := PySem.W.OpenLaw.row PySem.Challenge.rw_patchweave_k09_whole_any_order
abbrev hk : PySem.W.Hook := He.hookX 4 hfa hfn [] htf hex
def ob (s : PySem.W.SharedT) : He.AlX := He.obsX 4 hfa hfn [] htf hex (HandSHeadRun.getT s)
theorem ob_eq (s : PySem.W.SharedT) : ob s = hk.obs s.abs := He.obsX_eq (HandSHeadRun.getT_eq s)
def hloose0 : List PySem.Str := [("_wall" : PySem.Str), ("WeaveError" : PySem.Str), ("BadChange" : PySem.Str), ("NotLeaned" : PySem.Str), ("Twice" : PySem.Str), ("Missing" : PySem.Str), ("NoLine" : PySem.Str), ("SIGNS" : PySem.Str), ("WORDS" : PySem.Str), ("MOST_SIGNS" : PySem.Str), ("MOST_LINE" : PySem.Str), ("MOST_DEEDS" : PySem.Str), ("is_name" : PySem.Str), ("is_line" : PySem.Str), ("is_rising" : PySem.Str), ("is_deed" : PySem.Str), ("check" : PySem.Str), ("adds_of" : PySem.Str), ("copied" : PySem.Str), ("heights" : PySem.Str)]
def hloose1 : List PySem.Str := [("ground_of" : PySem.Str), ("in_order" : PySem.Str), ("own_adds" : PySem.Str), ("done" : PySem.Str), ("Weave" : PySem.Str), ("_law_cell" : PySem.Str), ("_law_mixed" : PySem.Str), ("_law_name" : PySem.Str), ("_law_line" : PySem.Str), ("_law_leans" : PySem.Str), ("_law_marks" : PySem.Str), ("_law_deeds" : PySem.Str), ("_law_changes" : PySem.Str), ("_law_copy" : PySem.Str), ("_law_turned" : PySem.Str), ("_law_heights" : PySem.Str), ("_law_model" : PySem.Str), ("_law_mark_like" : PySem.Str), ("_law_row_like" : PySem.Str), ("_law_told_like" : PySem.Str)]
def hloose2 : List PySem.Str := [("_law_texts_like" : PySem.Str), ("_law_one_stands" : PySem.Str), ("_law_stands" : PySem.Str), ("_law_row_right" : PySem.Str), ("_law_wide" : PySem.Str), ("_law_hold" : PySem.Str), ("_law_held" : PySem.Str)]
def hloose : List PySem.Str := hloose0 ++ hloose1 ++ hloose2
theorem hrun (w : World) : HandSHeadRun.RunEq hR (PySem.W.view hR.prog [52]) hk ob 4000 hloose w := by
  intro os
  kernel_rfl
theorem hpr {K : PySem.W.Frag} {h : Heap} {mg : Str → Option Value} {w : World} (X : K.In h) (G : h.Ns mainGlobals mg) (c : He.SaysX hfa hfn [] htf hex w h K) : Pr K mg := by
  have cd : He.SaysD hfa hfn K := congrArg (fun z : He.AlT => z.1) c.t
  have df : ∀ (i : Nat) (d : He.DefD), hfn[i]? = some d → ∃ fd, FunD K d.name d.qual d.params d.body d.scope (d.dvs K) (d.kws K) (He.fAd K d.at_) fd := fun i d e => cd.def_ i e
  refine {
    bt := {
      len := He.free_ok X G (cd.fact 35 (f := .free "len") rfl)
      all := He.free_ok X G (cd.fact 36 (f := .free "all") rfl)
      any := He.free_ok X G (cd.fact 37 (f := .free "any") rfl)
      sorted := He.free_ok X G (cd.fact 38 (f := .free "sorted") rfl)
      range := He.free_ok X G (cd.fact 39 (f := .free "range") rfl)
      str := He.free_ok X G (cd.fact 40 (f := .free "str") rfl)
      int := He.free_ok X G (cd.fact 41 (f := .free "int") rfl)
      list := He.free_ok X G (cd.fact 42 (f := .free "list") rfl)
      dict := He.free_ok X G (cd.fact 43 (f := .free "dict") rfl)
      set := He.free_ok X G (cd.fact 44 (f := .free "set") rfl)
      min := He.free_ok X G (cd.fact 45 (f := .free "min") rfl)
      max := He.free_ok X G (cd.fact 46 (f := .free "max") rfl)
      zip := He.free_ok X G (cd.fact 47 (f := .free "zip") rfl)
      enumerate := He.free_ok X G (cd.fact 48 (f := .free "enumerate") rfl)
      repr := He.free_ok X G (cd.fact 49 (f := .free "repr") rfl)
      isinstance := He.free_ok X G (cd.fact 50 (f := .free "isinstance") rfl)
      bool := He.free_ok X G (cd.fact 51 (f := .free "bool") rfl)
      tuple := He.free_ok X G (cd.fact 52 (f := .free "tuple") rfl)
    }
    f_is_name := ⟨by obtain ⟨fd, F⟩ := df 0 hd_is_name rfl; exact ⟨_, fd, He.glo_ok X G (cd.fact 0 (f := .glo "is_name") rfl), F⟩⟩
    f_is_line := ⟨by obtain ⟨fd, F⟩ := df 1 hd_is_line rfl; exact ⟨_, fd, He.glo_ok X G (cd.fact 1 (f := .glo "is_line") rfl), F⟩⟩
    f_is_rising := ⟨by obtain ⟨fd, F⟩ := df 2 hd_is_rising rfl; exact ⟨_, fd, He.glo_ok X G (cd.fact 2 (f := .glo "is_rising") rfl), F⟩⟩
    f_is_deed := ⟨by obtain ⟨fd, F⟩ := df 3 hd_is_deed rfl; exact ⟨_, fd, He.glo_ok X G (cd.fact 3 (f := .glo "is_deed") rfl), F⟩⟩
    f_check := ⟨by obtain ⟨fd, F⟩ := df 4 hd_check rfl; exact ⟨_, fd, He.glo_ok X G (cd.fact 4 (f := .glo "check") rfl), F⟩⟩
    f_adds_of := ⟨by obtain ⟨fd, F⟩ := df 5 hd_adds_of rfl; exact ⟨_, fd, He.glo_ok X G (cd.fact 5 (f := .glo "adds_of") rfl), F⟩⟩
    f_copied := ⟨by obtain ⟨fd, F⟩ := df 6 hd_copied rfl; exact ⟨_, fd, He.glo_ok X G (cd.fact 6 (f := .glo "copied") rfl), F⟩⟩
    f_heights := ⟨by obtain ⟨fd, F⟩ := df 7 hd_heights rfl; exact ⟨_, fd, He.glo_ok X G (cd.fact 7 (f := .glo "heights") rfl), F⟩⟩
    f_ground_of := ⟨by obtain ⟨fd, F⟩ := df 8 hd_ground_of rfl; exact ⟨_, fd, He.glo_ok X G (cd.fact 8 (f := .glo "ground_of") rfl), F⟩⟩
    f_in_order := ⟨by obtain ⟨fd, F⟩ := df 9 hd_in_order rfl; exact ⟨_, fd, He.glo_ok X G (cd.fact 9 (f := .glo "in_order") rfl), F⟩⟩
    f_own_adds := ⟨by obtain ⟨fd, F⟩ := df 10 hd_own_adds rfl; exact ⟨_, fd, He.glo_ok X G (cd.fact 10 (f := .glo "own_adds") rfl), F⟩⟩
    f_done := ⟨by obtain ⟨fd, F⟩ := df 11 hd_done rfl; exact ⟨_, fd, He.glo_ok X G (cd.fact 11 (f := .glo "done") rfl), F⟩⟩
    f_l_cell := ⟨by obtain ⟨fd, F⟩ := df 12 hd_l_cell rfl; exact ⟨_, fd, He.glo_ok X G (cd.fact 12 (f := .glo "_law_cell") rfl), F⟩⟩
    f_l_mixed := ⟨by obtain ⟨fd, F⟩ := df 13 hd_l_mixed rfl; exact ⟨_, fd, He.glo_ok X G (cd.fact 13 (f := .glo "_law_mixed") rfl), F⟩⟩
    f_l_name := ⟨by obtain ⟨fd, F⟩ := df 14 hd_l_name rfl; exact ⟨_, fd, He.glo_ok X G (cd.fact 14 (f := .glo "_law_name") rfl), F⟩⟩
    f_l_line := ⟨by obtain ⟨fd, F⟩ := df 15 hd_l_line rfl; exact ⟨_, fd, He.glo_ok X G (cd.fact 15 (f := .glo "_law_line") rfl), F⟩⟩
    f_l_leans := ⟨by obtain ⟨fd, F⟩ := df 16 hd_l_leans rfl; exact ⟨_, fd, He.glo_ok X G (cd.fact 16 (f := .glo "_law_leans") rfl), F⟩⟩
    f_l_marks := ⟨by obtain ⟨fd, F⟩ := df 17 hd_l_marks rfl; exact ⟨_, fd, He.glo_ok X G (cd.fact 17 (f := .glo "_law_marks") rfl), F⟩⟩
    f_l_deeds := ⟨by obtain ⟨fd, F⟩ := df 18 hd_l_deeds rfl; exact ⟨_, fd, He.glo_ok X G (cd.fact 18 (f := .glo "_law_deeds") rfl), F⟩⟩
    f_l_changes := ⟨by obtain ⟨fd, F⟩ := df 19 hd_l_changes rfl; exact ⟨_, fd, He.glo_ok X G (cd.fact 19 (f := .glo "_law_changes") rfl), F⟩⟩
    f_l_copy := ⟨by obtain ⟨fd, F⟩ := df 20 hd_l_copy rfl; exact ⟨_, fd, He.glo_ok X G (cd.fact 20 (f := .glo "_law_copy") rfl), F⟩⟩
    f_l_turned := ⟨by obtain ⟨fd, F⟩ := df 21 hd_l_turned rfl; exact ⟨_, fd, He.glo_ok X G (cd.fact 21 (f := .glo "_law_turned") rfl), F⟩⟩
    f_l_heights := ⟨by obtain ⟨fd, F⟩ := df 22 hd_l_heights rfl; exact ⟨_, fd, He.glo_ok X G (cd.fact 22 (f := .glo "_law_heights") rfl), F⟩⟩
    f_l_model := ⟨by obtain ⟨fd, F⟩ := df 23 hd_l_model rfl; exact ⟨_, fd, He.glo_ok X G (cd.fact 23 (f := .glo "_law_model") rfl), F⟩⟩
    f_l_mark_like := ⟨by obtain ⟨fd, F⟩ := df 24 hd_l_mark_like rfl; exact ⟨_, fd, He.glo_ok X G (cd.fact 24 (f := .glo "_law_mark_like") rfl), F⟩⟩
    f_l_row_like := ⟨by obtain ⟨fd, F⟩ := df 25 hd_l_row_like rfl; exact ⟨_, fd, He.glo_ok X G (cd.fact 25 (f := .glo "_law_row_like") rfl), F⟩⟩
    f_l_told_like := ⟨by obtain ⟨fd, F⟩ := df 26 hd_l_told_like rfl; exact ⟨_, fd, He.glo_ok X G (cd.fact 26 (f := .glo "_law_told_like") rfl), F⟩⟩
    f_l_texts_like := ⟨by obtain ⟨fd, F⟩ := df 27 hd_l_texts_like rfl; exact ⟨_, fd, He.glo_ok X G (cd.fact 27 (f := .glo "_law_texts_like") rfl), F⟩⟩
    f_l_one_stands := ⟨by obtain ⟨fd, F⟩ := df 28 hd_l_one_stands rfl; exact ⟨_, fd, He.glo_ok X G (cd.fact 28 (f := .glo "_law_one_stands") rfl), F⟩⟩
    f_l_stands := ⟨by obtain ⟨fd, F⟩ := df 29 hd_l_stands rfl; exact ⟨_, fd, He.glo_ok X G (cd.fact 29 (f := .glo "_law_stands") rfl), F⟩⟩
    f_l_row_right := ⟨by obtain ⟨fd, F⟩ := df 30 hd_l_row_right rfl; exact ⟨_, fd, He.glo_ok X G (cd.fact 30 (f := .glo "_law_row_right") rfl), F⟩⟩
    f_l_wide := ⟨by obtain ⟨fd, F⟩ := df 31 hd_l_wide rfl; exact ⟨_, fd, He.glo_ok X G (cd.fact 31 (f := .glo "_law_wide") rfl), F⟩⟩
    f_l_hold := ⟨by obtain ⟨fd, F⟩ := df 32 hd_l_hold rfl; exact ⟨_, fd, He.glo_ok X G (cd.fact 32 (f := .glo "_law_hold") rfl), F⟩⟩
    f_l_held := ⟨by obtain ⟨fd, F⟩ := df 33 hd_l_held rfl; exact ⟨_, fd, He.glo_ok X G (cd.fact 33 (f := .glo "_law_held") rfl), F⟩⟩
    f_law := ⟨by obtain ⟨fd, F⟩ := df 34 hd_law rfl; exact ⟨_, fd, He.glo_ok X G (cd.fact 34 (f := .glo "law") rfl), F⟩⟩
    k_SIGNS := He.str_ok X G (cd.fact 53 (f := .str "SIGNS" "abcdefghijklmnopqrstuvwxyz0123456789") rfl)
    k_WORDS := ⟨_, He.glo_ok X G (cd.fact 54 (f := .glo "WORDS") rfl), fun G => tup_ok (xs := ["add", "cut", "set"]) (Bool.and_eq_true_iff.mp c.more).1 (by decide) G⟩
    k_MOST_SIGNS := He.int_ok X G (cd.fact 55 (f := .int "MOST_SIGNS" 12) rfl)
    k_MOST_LINE := He.int_ok X G (cd.fact 56 (f := .int "MOST_LINE" 200) rfl)
    k_MOST_DEEDS := He.int_ok X G (cd.fact 57 (f := .int "MOST_DEEDS" 20) rfl)
    wv := ⟨He.cls_ok (cd.fact 58 (f := .cls "Weave") rfl), He.noat_ok (cd.fact 59 (f := .noat "Weave" "known") rfl), He.mkr_ok (cd.fact 60 (f := .mkr "Weave") rfl)⟩
    gW := He.glo_ok X G (cd.fact 61 (f := .glo "Weave") rfl)
    m_init := ⟨by obtain ⟨fd, F⟩ := df 35 hd_Weave___init__ rfl; exact ⟨_, fd, He.meth_ok (cd.fact 62 (f := .meth "Weave" "__init__") rfl), F⟩⟩
    m_add := ⟨by obtain ⟨fd, F⟩ := df 36 hd_Weave_add rfl; exact ⟨_, fd, He.meth_ok (cd.fact 63 (f := .meth "Weave" "add") rfl), F⟩⟩
    m_need := ⟨by obtain ⟨fd, F⟩ := df 37 hd_Weave_need rfl; exact ⟨_, fd, He.meth_ok (cd.fact 64 (f := .meth "Weave" "need") rfl), F⟩⟩
    m_names := ⟨by obtain ⟨fd, F⟩ := df 38 hd_Weave_names rfl; exact ⟨_, fd, He.meth_ok (cd.fact 65 (f := .meth "Weave" "names") rfl), F⟩⟩
    m_change := ⟨by obtain ⟨fd, F⟩ := df 39 hd_Weave_change rfl; exact ⟨_, fd, He.meth_ok (cd.fact 66 (f := .meth "Weave" "change") rfl), F⟩⟩
    m_height := ⟨by obtain ⟨fd, F⟩ := df 40 hd_Weave_height rfl; exact ⟨_, fd, He.meth_ok (cd.fact 67 (f := .meth "Weave" "height") rfl), F⟩⟩
    m_row := ⟨by obtain ⟨fd, F⟩ := df 41 hd_Weave_row rfl; exact ⟨_, fd, He.meth_ok (cd.fact 68 (f := .meth "Weave" "row") rfl), F⟩⟩
    m_told := ⟨by obtain ⟨fd, F⟩ := df 42 hd_Weave_told rfl; exact ⟨_, fd, He.meth_ok (cd.fact 69 (f := .meth "Weave" "told") rfl), F⟩⟩
    m_text := ⟨by obtain ⟨fd, F⟩ := df 43 hd_Weave_text rfl; exact ⟨_, fd, He.meth_ok (cd.fact 70 (f := .meth "Weave" "text") rfl), F⟩⟩
    m_open_sets := ⟨by obtain ⟨fd, F⟩ := df 44 hd_Weave_open_sets rfl; exact ⟨_, fd, He.meth_ok (cd.fact 71 (f := .meth "Weave" "open_sets") rfl), F⟩⟩
    m_questions := ⟨by obtain ⟨fd, F⟩ := df 45 hd_Weave_questions rfl; exact ⟨_, fd, He.meth_ok (cd.fact 72 (f := .meth "Weave" "questions") rfl), F⟩⟩
    x_WeaveError := by have h := He.exc_ok (cd.fact 74 (f := .exc "WeaveError") rfl); exact ⟨He.glo_ok X G (cd.fact 73 (f := .glo "WeaveError") rfl), h.1, h.2.1, h.2.2.1, h.2.2.2⟩
    x_BadChange := by have h := He.exc_ok (cd.fact 76 (f := .exc "BadChange") rfl); exact ⟨He.glo_ok X G (cd.fact 75 (f := .glo "BadChange") rfl), h.1, h.2.1, h.2.2.1, h.2.2.2⟩
    x_NotLeaned := by have h := He.exc_ok (cd.fact 78 (f := .exc "NotLeaned") rfl); exact ⟨He.glo_ok X G (cd.fact 77 (f := .glo "NotLeaned") rfl), h.1, h.2.1, h.2.2.1, h.2.2.2⟩
    x_Twice := by have h := He.exc_ok (cd.fact 80 (f := .exc "Twice") rfl); exact ⟨He.glo_ok X G (cd.fact 79 (f := .glo "Twice") rfl), h.1, h.2.1, h.2.2.1, h.2.2.2⟩
    x_Missing := by have h := He.exc_ok (cd.fact 82 (f := .exc "Missing") rfl); exact ⟨He.glo_ok X G (cd.fact 81 (f := .glo "Missing") rfl), h.1, h.2.1, h.2.2.1, h.2.2.2⟩
    x_NoLine := by have h := He.exc_ok (cd.fact 84 (f := .exc "NoLine") rfl); exact ⟨He.glo_ok X G (cd.fact 83 (f := .glo "NoLine") rfl), h.1, h.2.1, h.2.2.1, h.2.2.2⟩
  }
theorem nodup_inj {α β : Type} {f : α → β} : ∀ {l : List α} {a b : α}, (l.map f).Nodup → a ∈ l → b ∈ l → f a = f b → a = b
  | [], _, _, _, h, _, _ => nomatch h
  | c :: l, a, b, nd, ha, hb, e => by
    rw [List.map_cons, List.nodup_cons] at nd
    rcases List.mem_cons.mp ha with e1 | h1
    · rcases List.mem_cons.mp hb with e2 | h2
      · rw [e1, e2]
      · exact absurd (List.mem_map.mpr ⟨b, h2, by rw [← e, e1]⟩) nd.1
    · rcases List.mem_cons.mp hb with e2 | h2
      · exact absurd (List.mem_map.mpr ⟨a, h1, by rw [e, e2]⟩) nd.1
      · exact nodup_inj nd.2 h1 h2 e
theorem dfc {K : PySem.W.Frag} {h base : Heap} {mg : Str → Option Value} {w : World} (c : He.SaysX hfa hfn [] htf hex w h K) (tb : ∀ p ∈ htf.map (He.cT K), LamX.TabB base mg p.1 p.2) {x : Str} {st : Stmt} {fd : FuncData} (hm : (x, none) ∈ htf)
    (hg : mg x = some (.ref (He.fAd K (x, none)))) (F : FunD K x x (defArgs st) (defBody st) (defScope st) [] [] (He.fAd K (x, none)) fd) : DfC (htT K) K mg base x st := by
  obtain ⟨oc, od, dV, kV, doc, pm, an, cdv, ct, osl, efd, lk, hcd, _, _⟩ := id F.ex
  obtain ⟨cc, ec⟩ := He.codeIn_ref hcd
  subst ec
  have e2 : fd.code = .ref cc := by rw [efd]
  have e : He.codeOf K (x, none) = cc := He.codeOf_eq lk e2
  have tb1 := tb (He.cT K (x, none)) (List.mem_map.mpr ⟨_, hm, rfl⟩)
  have nd : (htf.map fun d => (He.cT K d).2).Nodup := of_decide_eq_true (Bool.and_eq_true_iff.mp c.more).2
  refine ⟨_, fd, cc, (He.cT K (x, none)).2, hg, F, e2, ?_, List.mem_map.mpr ⟨(x, none), hm, rfl⟩, fun p hp ep => ?_⟩
  · have e3 : (He.cT K (x, none)).1 = cc := e
    rw [← e3]
    exact tb1
  · obtain ⟨d, hd, rfl⟩ := List.mem_map.mp hp
    have := nodup_inj (f := fun d => (He.cT K d).2) nd hd hm ep
    rw [this]
theorem hprl {K : PySem.W.Frag} {h base : Heap} {mg : Str → Option Value} {w : World} (X : K.In h) (G : h.Ns mainGlobals mg) (c : He.SaysX hfa hfn [] htf hex w h K) (tb : ∀ p ∈ htf.map (He.cT K), LamX.TabB base mg p.1 p.2) : PrL (htT K) K mg base := by
  have cd : He.SaysD hfa hfn K := congrArg (fun z : He.AlT => z.1) c.t
  have df : ∀ (i : Nat) (d : He.DefD), hfn[i]? = some d → ∃ fd, FunD K d.name d.qual d.params d.body d.scope (d.dvs K) (d.kws K) (He.fAd K d.at_) fd := fun i d e => cd.def_ i e
  refine { p := hpr X G c, l_in_order := ?L0, l_l_model := ?L1 }
  case L0 => obtain ⟨fd, F⟩ := df 9 hd_in_order rfl; exact dfc c tb (by decide +kernel) (He.glo_ok X G (cd.fact 9 (f := .glo "in_order") rfl)) F
  case L1 => obtain ⟨fd, F⟩ := df 23 hd_l_model rfl; exact dfc c tb (by decide +kernel) (He.glo_ok X G (cd.fact 23 (f := .glo "_law_model") rfl)) F
abbrev spLaw (K : PySem.W.Frag) : Sp := spE (htT K) K fun ds d => ∃ ns : List Int, ds = [.scr ns] ∧ d = .bl true
theorem hlaw {P : Program} {w : World} {K : PySem.W.Frag} {h : Heap} {mg : Str → Option Value} {f : Addr} (X : K.In h) (G : h.Ns mainGlobals mg) (hfl : mg ("law" : Str) = some (.ref f)) (c : He.SaysX hfa hfn [] htf hex w h K) :
    ∃ fd : FuncData, (∀ (s : Shared) (v : Value), BindsTo s fd ⟨[v], []⟩ [("_law_script", v)]) ∧ ∀ base : Heap, K.In base → base.Ns mainGlobals mg → (∀ p ∈ htf.map (He.cT K), LamX.TabB base mg p.1 p.2) → FnG P w K mg base 10 f fd ["_law_script"] (spLaw K) := by
  have R := hpr X G c
  obtain ⟨f', fd, hm, F⟩ := R.f_law.ex
  have e := hfl.symm.trans hm
  cases e
  have b := FunD.bindsA (ps := ["_law_script"]) F fun _ _ _ _ _ _ us hl => match us, hl with | [_], _ => rfl
  refine ⟨fd, fun s v => b s [v] rfl, fun base _ _ tb => ?_⟩
  obtain ⟨f2, fd2, hm2, hk2, hb2, F2⟩ := (c_law (T := htT K) (P := P) (w := w) (base := base) (hprl X G c tb)).ex
  have e2 := hm.symm.trans hm2
  cases e2
  obtain ⟨_, oc, od, osl, lk⟩ := (DD.FunD.keepF F)
  obtain ⟨_, oc2, od2, osl2, lk2⟩ := hk2
  rw [lk] at lk2
  cases lk2
  exact F2
theorem slaw {K : PySem.W.Frag} {H : Hp} {a : Addr} {ns : List Int} (hT : ∀ p ∈ htf.map (He.cT K), H p.2 = some (.tbl #[])) (hS : SqL K H a (ns.map V.int)) : spLaw K [.ref a] H (fun v _ => v = .bl true) fun _ _ _ => False := by
  refine ⟨fun b => match H b with
    | some (.tbl _) => none
    | o => o, [.scr ns], .bl true, fun b o e => ?_, fun b ps e => ?_, .cons (.scr ns ?_) .nil, ⟨ns, rfl, rfl⟩, fun q hq => ?_, fun v H' _ _ da => by cases da; rfl⟩
  · dsimp only at e
    cases q : H b with
    | none => rw [q] at e; cases e
    | some u =>
      rw [q] at e
      cases u <;> first | exact e | cases e
  · dsimp only at e
    cases q : H b with
    | none => rw [q] at e; cases e
    | some u =>
      rw [q] at e
      cases u <;> cases e
  · rcases hS with (h | ⟨o, h⟩) | h
    · exact .inl (.inl (by dsimp only; rw [h]))
    · exact .inl (.inr ⟨o, by dsimp only; rw [h]⟩)
    · exact .inr h
  · obtain ⟨d, hd, rfl⟩ := List.mem_map.mp hq
    exact LamX.TabS.nil (hT (He.cT K d) (List.mem_map.mpr ⟨d, hd, rfl⟩))
end KK
open PySem PySem.W PySem.Calls PyProof.Rows
theorem PySem.Challenge.cw_patchweave_k09_whole_any_order_holds : PySem.Challenge.rw_patchweave_k09_whole_any_order.Holds := by
  w_on; o_law
  refine HandSHeadRun.head_any (r := OpenLaw.row PySem.Challenge.rw_patchweave_k09_whole_any_order) (q := view (OpenLaw.row PySem.Challenge.rw_patchweave_k09_whole_any_order).prog [52]) (H := KK.hk) (ob := KK.ob) (M := 4000) (loose := KK.hloose) (d := HandSHeadRun.topDef (OpenLaw.row PySem.Challenge.rw_patchweave_k09_whole_any_order).prog 52) (kwd := []) KK.ob_eq
    (by kernel_rfl) (fun s => by kernel_rfl) KK.hrun (by kernel_rfl) (by kernel_rfl) (by kernel_rfl) (by rfl) (by first | assumption | decide +kernel) (by decide +kernel) ⟨rfl, rfl, rfl, rfl, rfl, by decide +kernel⟩ ?hw ?hc
  case hw => w_witness2
  case hc =>
    refine DD.walk_ofG (l := PySem.Challenge.rw_patchweave_k09_whole_any_order) (n := 63) (k := 10) (x := "_law_script") rfl (by decide) (by kernel_rfl) ⟨rfl, by decide, by decide⟩ ?F
    intro w mg fa h Y G hmg0
    obtain ⟨K, KX, c⟩ := Y
    have hmg : mg ("law" : PySem.Str) = some (.ref fa) := by
      have e : (HandSHeadRun.topDef (OpenLaw.row PySem.Challenge.rw_patchweave_k09_whole_any_order).prog 52).name = ("law" : PySem.Str) := by kernel_rfl
      rw [← e]
      exact hmg0
    obtain ⟨fd, hb, hF⟩ := KK.hlaw (P := (PySem.Challenge.rw_patchweave_k09_whole_any_order).prog) (w := w) KX G hmg c
    refine ⟨K, KX, fd, KK.htf.map (He.cT K), KK.spLaw K, fun p hp => ?_, fun p hp => ?_, fun p hp => ?_, hb, fun H a ns hl hbits hT hS => KK.slaw hT hS, hF⟩
    · obtain ⟨d, hd, rfl⟩ := List.mem_map.mp hp
      exact c.empty d hd
    · obtain ⟨d, hd, rfl⟩ := List.mem_map.mp hp
      exact c.out d hd
    · obtain ⟨d, hd, rfl⟩ := List.mem_map.mp hp
      exact PySem.W.codeHd_of_K KX (c.hd d hd)
