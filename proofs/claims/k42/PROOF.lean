import PyProof.Rows.All
import Wide.All
import OpenK.AllK
import Wide.FinOn
import KE.KStateDown
import Lean
import HandS.ForMost
import HandS.ForExc
import HandS.Defaults
import HandS.Codes
import HandS.IsInst
import HandS.NoneIn
import HandS.TupAny
import HandS.TryOnly
import HandS.Flow
import HandS.Deep
import HandS.Head0
import HandS.Head1
import HandS.Head2
import HandS.HeadEnd
import HandS.HeadHook1
import HandS.HeadHook2
import HandS.Walk
import KE.KIntText
import HandS.StrMore
import HandS.RaiseMore
import HandS.TryMany
import HandS.ExcField
import HandS.ExcIs
import HandS.ExcInit
import HandS.ExcOwn
import PySem.Challenge.RW_sameasnew_k42_cut_on_schedule
set_option Elab.async false
set_option linter.all false
set_option maxRecDepth 100000
set_option maxHeartbeats 4000000
/-! A ledger over the abstract heap: what is owned, what is data. -/
namespace Lg
open PySem PySem.Spec PyProof.Rows L2

abbrev Ex (H H' : Hp) : Prop := ∀ a o, H a = some o → H' a = some o
theorem Ex.rfl {H : Hp} : Ex H H := fun _ _ h => h
theorem Ex.tr {H H1 H2 : Hp} (a : Ex H H1) (b : Ex H1 H2) : Ex H H2 := fun x o h => b x o (a x o h)
theorem Ex.none {H H' : Hp} (e : Ex H H') {a : Addr} (h : H' a = Option.none) : H a = Option.none := by
  cases q : H a with
  | none => rfl
  | some o => rw [e a o q] at h; cases h
theorem Ex.upd {F H : Hp} (e : Ex F H) {p : Addr} {o : HO} (h : F p = Option.none) : Ex F (upd H p o) := fun a u ha => by
  rw [upd_ne (ne_of_none ha h)]; exact e a u ha
theorem Ex.both {F H : Hp} (e : Ex F H) {p : Addr} {o : HO} : Ex (L2.upd F p o) (L2.upd H p o) := fun a u ha => by
  by_cases h : a = p
  · subst h; rw [upd_same] at ha ⊢; exact ha
  · rw [upd_ne h] at ha ⊢; exact e a u ha
theorem Ex.new {H : Hp} {p : Addr} {o : HO} (h : H p = Option.none) : Ex H (L2.upd H p o) := Ex.upd Ex.rfl h
theorem Ex.rd {H H' : Hp} {a : Addr} {u : HO} (e : Ex H H') (h : Rd H a u) : Rd H' a u := by
  rcases h with h | ⟨o, h⟩
  · exact Or.inl (e a _ h)
  · exact Or.inr ⟨o, e a _ h⟩
theorem Ex.sqT {K : PySem.W.Frag} {H H' : Hp} {a : Addr} {xs : List V} (e : Ex H H') (h : SqT K H a xs) : SqT K H' a xs := by
  rcases h with h | h
  · exact Or.inl (e.rd h)
  · exact Or.inr h
theorem Ex.sqL {K : PySem.W.Frag} {H H' : Hp} {a : Addr} {xs : List V} (e : Ex H H') (h : SqL K H a xs) : SqL K H' a xs := by
  rcases h with h | h
  · exact Or.inl (e.rd h)
  · exact Or.inr h

/-! ### data -/
mutual
inductive Dv (K : PySem.W.Frag) (F : Hp) : V → PyData → Prop
  | non : Dv K F .non .none
  | bl (b : Bool) : Dv K F (.bl b) (.bool b)
  | int (i : Int) : Dv K F (.int i) (.int i)
  | str (x : Str) : Dv K F (.str x) (.str x)
  | lst {a : Addr} {xs : List V} {ds : List PyData} : F a = some (.lst xs) → DvAll K F xs ds → Dv K F (.ref a) (.list ds)
  | tup {a : Addr} {xs : List V} {ds : List PyData} : SqT K F a xs → DvAll K F xs ds → Dv K F (.ref a) (.tuple ds)
inductive DvAll (K : PySem.W.Frag) (F : Hp) : List V → List PyData → Prop
  | nil : DvAll K F [] []
  | cons {v : V} {vs : List V} {d : PyData} {ds : List PyData} : Dv K F v d → DvAll K F vs ds → DvAll K F (v :: vs) (d :: ds)
end
section
variable {K : PySem.W.Frag} {F F' : Hp}
mutual
theorem Dv.mono (e : Ex F F') : ∀ (d : PyData) (v : V), Dv K F v d → Dv K F' v d
  | .none, _, h => by cases h; exact .non
  | .bool b, _, h => by cases h; exact .bl b
  | .int i, _, h => by cases h; exact .int i
  | .str x, _, h => by cases h; exact .str x
  | .list ds, _, h => by
    cases h with
    | lst hs ha => exact .lst (e _ _ hs) (DvAll.mono e ds _ ha)
  | .tuple ds, _, h => by
    cases h with
    | tup hs ha => exact .tup (e.sqT hs) (DvAll.mono e ds _ ha)
  | .dict _, _, h => by cases h
theorem DvAll.mono (e : Ex F F') : ∀ (ds : List PyData) (vs : List V), DvAll K F vs ds → DvAll K F' vs ds
  | [], _, h => by cases h; exact .nil
  | d :: ds, _, h => by
    cases h with
    | cons h1 h2 => exact .cons (Dv.mono e d _ h1) (DvAll.mono e ds _ h2)
end
mutual
theorem Dv.dp : ∀ (d : PyData) (v : V), Dv K F v d → Dp K F v d
  | .none, _, h => by cases h; exact .non
  | .bool b, _, h => by cases h; exact .bl b
  | .int i, _, h => by cases h; exact .int i
  | .str x, _, h => by cases h; exact .str x
  | .list ds, _, h => by
    cases h with
    | lst hs ha => exact .lst (SqL.of hs) (DvAll.dp ds _ ha)
  | .tuple ds, _, h => by
    cases h with
    | tup hs ha => exact .tup hs (DvAll.dp ds _ ha)
  | .dict _, _, h => by cases h
theorem DvAll.dp : ∀ (ds : List PyData) (vs : List V), DvAll K F vs ds → DpAll K F vs ds
  | [], _, h => by cases h; exact .nil
  | d :: ds, _, h => by
    cases h with
    | cons h1 h2 => exact .cons (Dv.dp d _ h1) (DvAll.dp ds _ h2)
end
theorem DvAll.len : ∀ {vs : List V} {ds : List PyData}, DvAll K F vs ds → vs.length = ds.length
  | _, [], h => by cases h; rfl
  | _, d :: ds, h => by
    cases h with
    | cons h1 h2 => simp [DvAll.len h2]
theorem DvAll.get : ∀ {vs : List V} {ds : List PyData} {i : Nat} {d : PyData}, DvAll K F vs ds → ds[i]? = some d → ∃ v, vs[i]? = some v ∧ Dv K F v d
  | _, [], i, d, h, e => by simp at e
  | _, d0 :: ds, 0, d, h, e => by
    cases h with
    | cons h1 h2 => simp at e; subst e; exact ⟨_, rfl, h1⟩
  | _, d0 :: ds, i + 1, d, h, e => by
    cases h with
    | cons h1 h2 => simp at e; obtain ⟨v, q, r⟩ := DvAll.get h2 e; exact ⟨v, by simpa using q, r⟩
theorem DvAll.get' : ∀ {vs : List V} {ds : List PyData} {i : Nat} {v : V}, DvAll K F vs ds → vs[i]? = some v → ∃ d, ds[i]? = some d ∧ Dv K F v d
  | _, [], i, d, h, e => by cases h; simp at e
  | _, d0 :: ds, 0, d, h, e => by
    cases h with
    | cons h1 h2 => simp at e; subst e; exact ⟨_, rfl, h1⟩
  | _, d0 :: ds, i + 1, d, h, e => by
    cases h with
    | cons h1 h2 => simp at e; obtain ⟨v, q, r⟩ := DvAll.get' h2 e; exact ⟨v, by simpa using q, r⟩
theorem DvAll.app : ∀ {vs ws : List V} {ds es : List PyData}, DvAll K F vs ds → DvAll K F ws es → DvAll K F (vs ++ ws) (ds ++ es)
  | _, _, [], _, h, h' => by cases h; exact h'
  | _, _, d :: ds, _, h, h' => by
    cases h with
    | cons h1 h2 => exact .cons h1 (DvAll.app h2 h')
theorem DvAll.take : ∀ {vs : List V} {ds : List PyData} (n : Nat), DvAll K F vs ds → DvAll K F (vs.take n) (ds.take n)
  | _, [], n, h => by cases h; simp; exact .nil
  | _, d :: ds, 0, h => by simp; exact .nil
  | _, d :: ds, n + 1, h => by
    cases h with
    | cons h1 h2 => exact .cons h1 (DvAll.take n h2)
theorem DvAll.drop : ∀ {vs : List V} {ds : List PyData} (n : Nat), DvAll K F vs ds → DvAll K F (vs.drop n) (ds.drop n)
  | _, [], n, h => by cases h; simp; exact .nil
  | _, d :: ds, 0, h => h
  | _, d :: ds, n + 1, h => by
    cases h with
    | cons h1 h2 => exact DvAll.drop n h2
theorem DvAll.set : ∀ {vs : List V} {ds : List PyData} {v : V} {d : PyData} (n : Nat), DvAll K F vs ds → Dv K F v d → DvAll K F (vs.set n v) (ds.set n d)
  | _, [], _, _, n, h, _ => by cases h; simp; exact .nil
  | _, d :: ds, _, _, 0, h, q => by
    cases h with
    | cons h1 h2 => exact .cons q h2
  | _, d :: ds, _, _, n + 1, h, q => by
    cases h with
    | cons h1 h2 => exact .cons h1 (DvAll.set n h2 q)
theorem DvAll.ints : ∀ (ns : List Int), DvAll K F (ns.map V.int) (ns.map PyData.int)
  | [] => .nil
  | n :: ns => .cons (.int n) (DvAll.ints ns)
theorem DvAll.ints_inv : ∀ {ns : List Int} {vs : List V}, DvAll K F vs (ns.map PyData.int) → vs = ns.map V.int
  | [], _, h => by cases h; rfl
  | n :: ns, _, h => by
    cases h with
    | cons h1 h2 => cases h1; simp [DvAll.ints_inv h2]
theorem DvAll.strs : ∀ (ns : List Str), DvAll K F (ns.map V.str) (ns.map PyData.str)
  | [] => .nil
  | n :: ns => .cons (.str n) (DvAll.strs ns)
theorem DvAll.strs_inv : ∀ {ns : List Str} {vs : List V}, DvAll K F vs (ns.map PyData.str) → vs = ns.map V.str
  | [], _, h => by cases h; rfl
  | n :: ns, _, h => by
    cases h with
    | cons h1 h2 => cases h1; simp [DvAll.strs_inv h2]
theorem DvAll.bls : ∀ (ns : List Bool), DvAll K F (ns.map V.bl) (ns.map PyData.bool)
  | [] => .nil
  | n :: ns => .cons (.bl n) (DvAll.bls ns)
theorem DvAll.bls_inv : ∀ {ns : List Bool} {vs : List V}, DvAll K F vs (ns.map PyData.bool) → vs = ns.map V.bl
  | [], _, h => by cases h; rfl
  | n :: ns, _, h => by
    cases h with
    | cons h1 h2 => cases h1; simp [DvAll.bls_inv h2]
theorem DvAll.rep {v : V} {d : PyData} (h : Dv K F v d) : ∀ n, DvAll K F (List.replicate n v) (List.replicate n d)
  | 0 => .nil
  | n + 1 => .cons h (DvAll.rep h n)
theorem DvAll.flat {vs : List V} {ds : List PyData} (h : DvAll K F vs ds) : ∀ n, DvAll K F (List.replicate n vs).flatten (List.replicate n ds).flatten
  | 0 => .nil
  | n + 1 => by
    rw [List.replicate_succ, List.replicate_succ, List.flatten_cons, List.flatten_cons]
    exact h.app (DvAll.flat h n)
end

/-! ### the ledger -/
structure Pr where
  p : Hp → HO → Prop
  mono : ∀ F F' o, Ex F F' → p F o → p F' o
def Pr.eq (o : HO) : Pr := ⟨fun _ x => x = o, fun _ _ _ _ h => h⟩
def Pr.ls (K : PySem.W.Frag) (ds : List PyData) : Pr := ⟨fun F x => ∃ xs, x = .lst xs ∧ DvAll K F xs ds, fun _ _ _ e ⟨xs, h, q⟩ => ⟨xs, h, DvAll.mono e _ _ q⟩⟩
def Pr.box (K : PySem.W.Frag) : Pr := ⟨fun F x => ∃ (d : Addr) (at_ : Int) (ns : List Int), x = .lst [.ref d, .int at_] ∧ 0 ≤ at_ ∧ F d = some (.lst (ns.map V.int)), fun _ _ _ e ⟨d, i, ns, h, q, r⟩ => ⟨d, i, ns, h, q, e _ _ r⟩⟩
/-- what stays true -/
structure Fr where
  p : Hp → Prop
  mono : ∀ F F', Ex F F' → p F → p F'
def Fr.seq (K : PySem.W.Frag) (a : Addr) (ns : List Int) : Fr := ⟨fun F => SqL K F a (ns.map V.int), fun _ _ e h => e.sqL h⟩
inductive Ent where
  | cell (a : Addr) (φ : Pr)
  | dat (v : V) (d : PyData)
  | fact (φ : Fr)
/-- owned: what stands there, a list of data, the law's box of draws -/
abbrev own (a : Addr) (o : HO) : Ent := .cell a (.eq o)
abbrev ls (K : PySem.W.Frag) (a : Addr) (ds : List PyData) : Ent := .cell a (.ls K ds)
abbrev bx (K : PySem.W.Frag) (a : Addr) : Ent := .cell a (.box K)
abbrev dat (v : V) (d : PyData) : Ent := .dat v d
def Ent.adr : Ent → Option Addr
  | .cell a _ => some a
  | .dat _ _ => none
  | .fact _ => none
def Ent.ok (K : PySem.W.Frag) (F H : Hp) : Ent → Prop
  | .cell a φ => F a = none ∧ ∃ o, H a = some o ∧ φ.p F o
  | .dat v d => Dv K F v d
  | .fact φ => φ.p F
structure St (K : PySem.W.Frag) (L : List Ent) (H : Hp) : Prop where
  ex : ∃ F, Ex F H ∧ ∀ e ∈ L, e.ok K F H
  nd : (L.filterMap Ent.adr).Nodup

/-- L' is L with e turned to e' -/
inductive Put : List Ent → Ent → Ent → List Ent → Prop
  | here {e e' : Ent} {L : List Ent} : Put (e :: L) e e' (e' :: L)
  | there {x e e' : Ent} {L L' : List Ent} : Put L e e' L' → Put (x :: L) e e' (x :: L')
/-- L is e beside L' -/
inductive Rem : List Ent → Ent → List Ent → Prop
  | here {e : Ent} {L : List Ent} : Rem (e :: L) e L
  | there {x e : Ent} {L L' : List Ent} : Rem L e L' → Rem (x :: L) e (x :: L')
inductive Pick : List Ent → List Ent → Prop
  | nil {L : List Ent} : Pick [] L
  | refl {L : List Ent} : Pick L L
  | drop {x : Ent} {L L' : List Ent} : Pick L' L → Pick L' (x :: L)
  | cons {e : Ent} {L L' L1 : List Ent} : Rem L e L1 → Pick L' L1 → Pick (e :: L') L
theorem Put.mem {L L' : List Ent} {e e' : Ent} (h : Put L e e' L') : e ∈ L := by
  induction h with
  | here => exact .head _
  | there _ ih => exact .tail _ ih
theorem Rem.perm {L L' : List Ent} {e : Ent} (h : Rem L e L') : L.Perm (e :: L') := by
  induction h with
  | here => exact .refl _
  | there _ ih => exact (List.Perm.cons _ ih).trans (List.Perm.swap _ _ _)
theorem Put.perm {L L' : List Ent} {e e' : Ent} (h : Put L e e' L') : ∃ R, L.Perm (e :: R) ∧ L'.Perm (e' :: R) := by
  induction h with
  | here => exact ⟨_, .refl _, .refl _⟩
  | @there x _ _ _ _ _ ih =>
    obtain ⟨R, h1, h2⟩ := ih
    exact ⟨x :: R, (List.Perm.cons _ h1).trans (List.Perm.swap _ _ _), (List.Perm.cons _ h2).trans (List.Perm.swap _ _ _)⟩
section
variable {K : PySem.W.Frag} {L L' : List Ent} {H : Hp} {a p : Addr} {φ ψ : Pr} {o : HO} {v : V} {d : PyData}
theorem St.perm (h : St K L H) (q : L.Perm L') : St K L' H := by
  obtain ⟨F, h1, h2⟩ := h.ex
  exact ⟨⟨F, h1, fun e he => h2 e (q.mem_iff.mpr he)⟩, (q.filterMap _).nodup_iff.mp h.nd⟩
theorem St.tail {e : Ent} (h : St K (e :: L) H) : St K L H := by
  obtain ⟨F, h1, h2⟩ := h.ex
  refine ⟨⟨F, h1, fun e he => h2 e (.tail _ he)⟩, ?_⟩
  have := h.nd
  cases e with
  | cell a φ => exact (List.nodup_cons.mp this).2
  | dat v d => exact this
  | fact φ => exact this
theorem St.pick (q : Pick L' L) : ∀ {A : List Ent}, St K (A ++ L) H → St K (A ++ L') H := by
  induction q with
  | @nil L => 
    intro A h
    rw [List.append_nil]
    obtain ⟨F, h1, h2⟩ := h.ex
    refine ⟨⟨F, h1, fun e he => h2 e (List.mem_append_left _ he)⟩, ?_⟩
    have := h.nd
    rw [List.filterMap_append] at this
    exact (List.nodup_append.mp this).1
  | refl => intro A h; exact h
  | @drop x L L' _ ih =>
    intro A h
    exact ih (h.perm (List.perm_middle)).tail
  | @cons e L L' L1 hr _ ih =>
    intro A h
    have h1 : St K (A ++ (e :: L1)) H := h.perm (List.Perm.append_left A hr.perm)
    have h2 : St K ((A ++ [e]) ++ L1) H := by rw [List.append_assoc]; exact h1
    have h3 := ih h2
    rw [List.append_assoc] at h3
    exact h3
theorem St.to (h : St K L H) (q : Pick L' L) : St K L' H := by
  have := St.pick (A := []) q h
  exact this
theorem St.put_to {e e' : Ent} (h : St K L H) (q : Put L e e' L') : ∃ R, St K (e :: R) H ∧ L'.Perm (e' :: R) := by
  obtain ⟨R, h1, h2⟩ := q.perm
  exact ⟨R, h.perm h1, h2⟩
theorem St.cell (h : St K L H) (m : Ent.cell a φ ∈ L) : ∃ F o, Ex F H ∧ F a = none ∧ H a = some o ∧ φ.p F o := by
  obtain ⟨F, h1, h2⟩ := h.ex
  obtain ⟨h3, o, h4, h5⟩ := h2 _ m
  exact ⟨F, o, h1, h3, h4, h5⟩
theorem St.own (h : St K L H) (m : Lg.own a o ∈ L) : H a = some o := by
  obtain ⟨F, x, _, _, h4, rfl⟩ := h.cell m
  exact h4
theorem St.ls (h : St K L H) {ds : List PyData} (m : Lg.ls K a ds ∈ L) : ∃ F xs, Ex F H ∧ H a = some (.lst xs) ∧ DvAll K F xs ds := by
  obtain ⟨F, x, h1, _, h4, xs, rfl, h5⟩ := h.cell m
  exact ⟨F, xs, h1, h4, h5⟩
/-- a new cell -/
theorem St.alloc (h : St K L H) (hp : H p = none) (q : ∀ F, Ex F H → (∀ e ∈ L, e.ok K F H) → φ.p F o) : St K (.cell p φ :: L) (upd H p o) := by
  obtain ⟨F, h1, h2⟩ := h.ex
  have hF : F p = none := h1.none hp
  refine ⟨⟨F, h1.upd hF, fun e he => ?_⟩, ?_⟩
  · cases he with
    | head => exact ⟨hF, o, upd_same, q F h1 h2⟩
    | tail _ he =>
      have := h2 e he
      cases e with
      | cell a φ =>
        obtain ⟨h3, o', h4, h5⟩ := this
        exact ⟨h3, o', by rw [upd_ne (ne_of_none h4 hp)]; exact h4, h5⟩
      | dat v d => exact this
      | fact φ => exact this
  · show (p :: L.filterMap Ent.adr).Nodup
    refine List.nodup_cons.mpr ⟨fun m => ?_, h.nd⟩
    obtain ⟨e, he, q⟩ := List.mem_filterMap.mp m
    cases e with
    | cell a φ =>
      cases q
      obtain ⟨_, o', h4, _⟩ := h2 _ he
      rw [hp] at h4; cases h4
    | dat v d => cases q
    | fact φ => cases q
/-- a cell is written -/
theorem St.write (h : St K (.cell a φ :: L) H) (q : ∀ F x, Ex F H → (∀ e ∈ Ent.cell a φ :: L, e.ok K F H) → H a = some x → φ.p F x → ψ.p F o) : St K (.cell a ψ :: L) (upd H a o) := by
  obtain ⟨F, h1, h2⟩ := h.ex
  obtain ⟨h3, x, h4, h5⟩ := h2 _ (.head _)
  refine ⟨⟨F, h1.upd h3, fun e he => ?_⟩, h.nd⟩
  cases he with
  | head => exact ⟨h3, o, upd_same, q F x h1 h2 h4 h5⟩
  | tail _ he =>
    have := h2 e (.tail _ he)
    cases e with
    | cell b φ' =>
      obtain ⟨h6, o', h7, h8⟩ := this
      have hne : b ≠ a := fun z => by
        have hn := h.nd
        have hn' : (a :: L.filterMap Ent.adr).Nodup := hn
        exact (List.nodup_cons.mp hn').1 (List.mem_filterMap.mpr ⟨_, he, by rw [z]; rfl⟩)
      exact ⟨h6, o', by rw [upd_ne hne]; exact h7, h8⟩
    | dat v d => exact this
    | fact φ => exact this
theorem St.writeP (h : St K L H) (m : Put L (.cell a φ) (.cell a ψ) L') (q : ∀ F x, Ex F H → (∀ e ∈ L, e.ok K F H) → H a = some x → φ.p F x → ψ.p F o) : St K L' (upd H a o) := by
  obtain ⟨R, h1, h2⟩ := m.perm
  exact ((h.perm h1).write (ψ := ψ) (o := o) fun F x e hd hx hφ => q F x e (fun u m => hd u (h1.mem_iff.mp m)) hx hφ).perm h2.symm
/-- a cell within, its word kept -/
theorem St.turn (h : St K L H) (m : Ent.cell a φ ∈ L) (q : ∀ F x, Ex F H → H a = some x → φ.p F x → φ.p F o) : St K L (upd H a o) := by
  obtain ⟨A, B, rfl⟩ := List.append_of_mem m
  have p1 : (A ++ .cell a φ :: B).Perm (.cell a φ :: (A ++ B)) := List.perm_middle
  exact ((h.perm p1).write fun F x e _ => q F x e).perm p1.symm
/-- a new frozen object -/
theorem St.fresh (h : St K L H) (hp : H p = none) (q : ∀ F, F p = none → Ex F H → (∀ e ∈ L, e.ok K F H) → Dv K (upd F p o) v d) : St K (.dat v d :: L) (upd H p o) := by
  obtain ⟨F, h1, h2⟩ := h.ex
  have hF : F p = none := h1.none hp
  refine ⟨⟨upd F p o, h1.both, fun e he => ?_⟩, h.nd⟩
  cases he with
  | head => exact q F hF h1 h2
  | tail _ he =>
    have := h2 e he
    cases e with
    | cell a φ =>
      obtain ⟨h3, o', h4, h5⟩ := this
      have hne : a ≠ p := ne_of_none h4 hp
      exact ⟨by rw [upd_ne hne]; exact h3, o', by rw [upd_ne hne]; exact h4, φ.mono _ _ _ (Ex.new hF) h5⟩
    | dat v d => exact Dv.mono (Ex.new hF) _ _ this
    | fact φ => exact φ.mono _ _ (Ex.new hF) this
/-- an owned list becomes data -/
theorem St.freeze {ds : List PyData} (h : St K (.cell a (.ls K ds) :: L) H) : St K (.dat (.ref a) (.list ds) :: L) H := by
  obtain ⟨F, h1, h2⟩ := h.ex
  obtain ⟨h3, x, h4, xs, rfl, h5⟩ := h2 _ (.head _)
  refine ⟨⟨upd F a (.lst xs), fun b o hb => ?_, fun e he => ?_⟩, h.tail.nd⟩
  · by_cases z : b = a
    · subst z; rw [upd_same] at hb; rw [h4]; exact hb
    · rw [upd_ne z] at hb; exact h1 _ _ hb
  · cases he with
    | head => exact .lst upd_same (DvAll.mono (Ex.new h3) _ _ h5)
    | tail _ he =>
      have := h2 e (.tail _ he)
      cases e with
      | cell b φ' =>
        obtain ⟨h6, o', h7, h8⟩ := this
        have hne : b ≠ a := fun z => by
          have hn := h.nd
          have hn' : (a :: L.filterMap Ent.adr).Nodup := hn
          exact (List.nodup_cons.mp hn').1 (List.mem_filterMap.mpr ⟨_, he, by rw [z]; rfl⟩)
        exact ⟨by rw [upd_ne hne]; exact h6, o', h7, φ'.mono _ _ _ (Ex.new h3) h8⟩
      | dat v d => exact Dv.mono (Ex.new h3) _ _ this
      | fact φ => exact φ.mono _ _ (Ex.new h3) this
/-- an owned thing told otherwise -/
theorem St.data (h : St K L H) (m : Put L (.cell a φ) (.cell a ψ) L') (q : ∀ F x, Ex F H → (∀ e ∈ L, e.ok K F H) → H a = some x → φ.p F x → ψ.p F x) : St K L' H := by
  obtain ⟨R, h1, h2⟩ := m.perm
  have h' := h.perm h1
  obtain ⟨F, e1, e2⟩ := h'.ex
  obtain ⟨h3, x, h4, h5⟩ := e2 _ (.head _)
  refine St.perm (L := .cell a ψ :: R) ⟨⟨F, e1, fun e he => ?_⟩, h'.nd⟩ h2.symm
  cases he with
  | head => exact ⟨h3, x, h4, q F x e1 (fun u m => e2 _ (h1.mem_iff.mp m)) h4 h5⟩
  | tail _ he => exact e2 e (.tail _ he)
/-- one more thing known as data -/
theorem St.know (h : St K L H) (q : ∀ F, Ex F H → (∀ e ∈ L, e.ok K F H) → Dv K F v d) : St K (.dat v d :: L) H := by
  obtain ⟨F, h1, h2⟩ := h.ex
  refine ⟨⟨F, h1, fun e he => ?_⟩, h.nd⟩
  cases he with
  | head => exact q F h1 h2
  | tail _ he => exact h2 e he
end

/-- v is d, as L says -/
inductive Is (L : List Ent) : V → PyData → Prop
  | non : Is L .non .none
  | bl {b : Bool} : Is L (.bl b) (.bool b)
  | int {i : Int} : Is L (.int i) (.int i)
  | str {x : Str} : Is L (.str x) (.str x)
  | dat {v : V} {d : PyData} : Ent.dat v d ∈ L → Is L v d
inductive IsAll (L : List Ent) : List V → List PyData → Prop
  | nil : IsAll L [] []
  | cons {v : V} {d : PyData} {vs : List V} {ds : List PyData} : Is L v d → IsAll L vs ds → IsAll L (v :: vs) (d :: ds)
section
variable {K : PySem.W.Frag} {L L' : List Ent} {H F : Hp} {v : V} {d : PyData}
theorem Is.dv (h : Is L v d) (q : ∀ e ∈ L, e.ok K F H) : Dv K F v d := by
  cases h with
  | non => exact .non
  | bl => exact .bl _
  | int => exact .int _
  | str => exact .str _
  | dat m => exact q _ m
theorem IsAll.dv (q : ∀ e ∈ L, e.ok K F H) : ∀ {vs : List V} {ds : List PyData}, IsAll L vs ds → DvAll K F vs ds
  | _, _, .nil => .nil
  | _, _, .cons h t => .cons (h.dv q) (IsAll.dv q t)
theorem Is.more (s : ∀ e ∈ L, e ∈ L') (h : Is L v d) : Is L' v d := by
  cases h with
  | non => exact .non
  | bl => exact .bl
  | int => exact .int
  | str => exact .str
  | dat m => exact .dat (s _ m)
theorem Is.cons {e : Ent} (h : Is L v d) : Is (e :: L) v d := h.more fun _ m => .tail _ m
theorem IsAll.more (s : ∀ e ∈ L, e ∈ L') : ∀ {vs : List V} {ds : List PyData}, IsAll L vs ds → IsAll L' vs ds
  | _, _, .nil => .nil
  | _, _, .cons h t => .cons (h.more s) (IsAll.more s t)
theorem St.is_of (h : St K L H) (q : Is L v d) : ∃ F, Ex F H ∧ Dv K F v d := by
  obtain ⟨F, h1, h2⟩ := h.ex
  exact ⟨F, h1, q.dv h2⟩
theorem St.dp (h : St K L H) (q : Is L v d) : Dp K H v d := by
  obtain ⟨F, h1, h2⟩ := h.is_of q
  exact Dv.dp _ _ (Dv.mono h1 _ _ h2)
theorem St.learn (h : St K L H) (q : Is L v d) : St K (.dat v d :: L) H := h.know fun F _ hd => q.dv hd
theorem St.mono_mem (h : St K L H) (s : ∀ e ∈ L', e ∈ L) (n : (L'.filterMap Ent.adr).Nodup) : St K L' H := by
  obtain ⟨F, h1, h2⟩ := h.ex
  exact ⟨⟨F, h1, fun e he => h2 e (s e he)⟩, n⟩
/-- a frozen tuple, a frozen list: its parts -/
theorem St.tup_parts (h : St K L H) {a : Addr} {ds : List PyData} (q : Is L (.ref a) (.tuple ds)) : ∃ xs : List V, SqT K H a xs ∧ xs.length = ds.length ∧ ∀ (i : Nat) (d : PyData), ds[i]? = some d → ∃ v, xs[i]? = some v ∧ St K (.dat v d :: L) H := by
  obtain ⟨F, h1, h2⟩ := h.ex
  have := q.dv h2
  cases this with
  | tup hs ha =>
    refine ⟨_, h1.sqT hs, ha.len, fun i d e => ?_⟩
    obtain ⟨v, h3, h4⟩ := ha.get e
    refine ⟨v, h3, ⟨⟨F, h1, fun e he => ?_⟩, h.nd⟩⟩
    cases he with
    | head => exact h4
    | tail _ he => exact h2 e he
end
end Lg

/-! The operators by one relation each, and how each is answered over the ledger. -/
namespace Lg
open PySem PySem.Spec PyProof.Rows L2

/-! ### relations -/
def rAddI : R2 := rI0 fun i j => .int (i + j)
def rAddS : R2 := fun x y H Q => ∃ i j, x = .str i ∧ y = .str j ∧ i.length + j.length ≤ sizeLine ∧ Q (.str (i ++ j)) H
def rPlus (K : PySem.W.Frag) : R2 := fun x y H Q => rAddI x y H Q ∨ (rAddS x y H Q ∨ (rCat x y H Q ∨ rCatA K x y H Q))
def rMinus : R2 := rI0 fun i j => .int (i - j)
def rMulI : R2 := rI CMul fun i j => .int (i * j)
def repL (l : List Nat) (n : Nat) : List Nat := (List.replicate n l).flatten
def rRepS : R2 := fun x y H Q => ∃ (z : Str) (k : Int), x = .str z ∧ y = .int k ∧ 0 ≤ k ∧ k ≤ 100000 ∧ z.length ≤ 100 ∧ Q (.str ⟨(repL z.cps.toList k.toNat).toArray⟩) H
def rTimes : R2 := fun x y H Q => rMulI x y H Q ∨ (rRep x y H Q ∨ rRepS x y H Q)
def rFdiv : R2 := rI CDiv fun i j => .int (i / j)
def rMod : R2 := rI (fun _ j => 0 < j) fun i j => .int (i % j)
def rAnd : R2 := rI0 fun i j => .int (Builtin.bitAnd i j)
def rLt : R2 := rI0 fun i j => .bl (decide (i < j))
def rLe : R2 := rI0 fun i j => .bl (decide (i ≤ j))
def rGt : R2 := rI0 fun i j => .bl (decide (j < i))
def rGe : R2 := rI0 fun i j => .bl (decide (j ≤ i))
def rEqX (K : PySem.W.Frag) : R2 := fun x y H Q => rEq x y H Q ∨ rEqD K x y H Q
def rNeX (K : PySem.W.Frag) : R2 := fun x y H Q => rNe x y H Q ∨ rNeD K x y H Q
def rInSign (neg : Bool) : R2 := fun x y H Q => ∃ (c : Nat) (z : Str), x = .str ⟨#[c]⟩ ∧ y = .str z ∧ Q (.bl (if neg then !decide (c ∈ z.cps.toList) else decide (c ∈ z.cps.toList))) H
def rInX (K : PySem.W.Frag) (neg : Bool) : R2 := fun x y H Q => rIn K neg x y H Q ∨ rInSign neg x y H Q
def rIsNo : R2 := fun x y H Q => y = .non ∧ Q (.bl (decide (x = .non))) H
def rNotNo : R2 := fun x y H Q => y = .non ∧ Q (.bl (!decide (x = .non))) H
def rLenX (K : PySem.W.Frag) : List V → Hp → VK → Prop := fun xs H Q => ∃ x n, xs = [x] ∧ LenV K x H n ∧ Q (.int n) H
def rIntX : List V → Hp → VK → Prop := fun xs H Q => (∃ i, xs = [.int i] ∧ Q (.int i) H) ∨ ∃ k, xs = [.bl k] ∧ Q (.int (if k then 1 else 0)) H
def rOrd : List V → Hp → VK → Prop := fun xs H Q => ∃ x, xs = [.str x] ∧ x.length = 1 ∧ Q (.int (x.cps.getD 0 0 : Nat)) H
def rListOf (K : PySem.W.Frag) : List V → Hp → VK → Prop := fun xs H Q => ∃ p ys, xs = [.ref p] ∧ (SqL K H p ys ∨ SqT K H p ys) ∧ ∀ l, H l = none → Q (.ref l) (upd H l (.lst ys))
def rTupOf (K : PySem.W.Frag) : List V → Hp → VK → Prop := fun xs H Q => ∃ p ys, xs = [.ref p] ∧ ((SqL K H p ys ∧ ∀ l, H l = none → Q (.ref l) (upd H l (.tup ys))) ∨ (SqT K H p ys ∧ Q (.ref p) H))
def trV : V → Bool
  | .int i => i != 0
  | .bl b => b
  | _ => false
def flatIB : V → Bool
  | .int _ => true
  | .bl _ => true
  | _ => false
def rAnyX (K : PySem.W.Frag) : List V → Hp → VK → Prop := fun vs H Q => ∃ (a : Addr) (xs : List V), vs = [V.ref a] ∧ SqL K H a xs ∧ xs.all flatIB = true ∧ Q (.bl (xs.any trV)) H
def rAllX (K : PySem.W.Frag) : List V → Hp → VK → Prop := fun vs H Q => ∃ (a : Addr) (xs : List V), vs = [V.ref a] ∧ SqL K H a xs ∧ xs.all flatIB = true ∧ Q (.bl (xs.all trV)) H
def rSlX (K : PySem.W.Frag) : V → Option Int → Option Int → Hp → VK → Prop := fun x lo hi H Q => rSlL K x lo hi H Q ∨ (rSlS x lo hi H Q ∨ rSlA K x lo hi H Q)
def rJoin (K : PySem.W.Frag) : V → List V → Hp → VK → Prop := fun x xs H Q => ∃ a p, ∃ ys : List Str, x = .str a ∧ xs = [.ref p] ∧ (SqL K H p (ys.map V.str) ∨ SqT K H p (ys.map V.str)) ∧ (ys.map (·.length)).sum + ys.length * a.length ≤ 16777216 ∧ Q (.str (Txt.join a ys)) H
def tTruX (K : PySem.W.Frag) (ta : TE) : TT := fun σ H Q => ta σ H fun x H' => ∃ k, TruV K x H' k ∧ Q k H'

section
variable {X : Cx}
theorem o_plus : OpR X (binaryOp .Add) (rPlus X.K) := OpR.or op_add (OpR.or op_add_str (OpR.or op_cat op_catA))
theorem o_minus : OpR X (binaryOp .Sub) rMinus := op_sub
theorem mulok_of {z : Str} {k : Int} (h0 : 0 ≤ k) (h1 : k ≤ 100000) (h2 : z.length ≤ 100) : MulOk z k := by
  refine ⟨?_, fun h _ => ?_, fun h _ => ?_⟩
  · rw [Bool.or_eq_false_iff]
    exact ⟨decide_eq_false (by omega), decide_eq_false (by omega)⟩
  · have hk : 0 < k := by omega
    intro q
    have h3 : (9223372036854775807 : Int) / 100000 ≤ (2 ^ 63 - 1) / k := by
      rw [show ((2 : Int) ^ 63 - 1) = 9223372036854775807 by decide]
      refine (Int.le_ediv_iff_mul_le hk).mpr ?_
      have : (9223372036854775807 : Int) / 100000 = 92233720368547 := by decide
      rw [this]
      omega
    have : (9223372036854775807 : Int) / 100000 = 92233720368547 := by decide
    omega
  · unfold Builtin.Str.tooLong
    have h4 : z.length * k.toNat ≤ 100 * 100000 := Nat.mul_le_mul h2 (by omega)
    have := sizeLine_eq
    simp
    omega
theorem rep_fold (a : Array Nat) : ∀ (n : Nat) (b : Array Nat), (List.replicate n a).foldl (· ++ ·) b = (b.toList ++ repL a.toList n).toArray
  | 0, b => by simp [repL]
  | n + 1, b => by
    rw [List.replicate_succ, List.foldl_cons, rep_fold a n]
    simp [repL, List.replicate_succ]
theorem repL_nil (n : Nat) : repL [] n = [] := by simp [repL]
theorem mul_txt {z : Str} {k : Int} (h0 : 0 ≤ k) : Txt.mul z k = ⟨(repL z.cps.toList k.toNat).toArray⟩ := by
  unfold Txt.mul
  by_cases h1 : k < 1
  · rw [if_pos h1]
    have : k = 0 := by omega
    subst this
    rfl
  · rw [if_neg h1]
    by_cases h2 : (k == 1 || z.length == 0) = true
    · rw [if_pos h2]
      rw [Bool.or_eq_true] at h2
      rcases h2 with h2 | h2
      · have e : k = 1 := by simpa using h2
        subst e
        show z = ⟨([z.cps.toList].flatten).toArray⟩
        simp
      · have e : z.cps.size = 0 := by simpa [PySem.Str.length] using h2
        have e2 : z.cps.toList = [] := by
          have : z.cps.toList.length = 0 := by simpa using e
          exact List.length_eq_zero_iff.mp this
        rw [e2, repL_nil]
        have e3 : z.cps = #[] := by
          rw [← Array.toList_inj, e2]
        cases z
        simp at e3
        rw [e3]
    · rw [if_neg h2, rep_fold]
      simp
theorem op_repS : OpR X (binaryOp .Mult) rRepS := by
  intro pins s σ H x y v u Q I rx ry h
  obtain ⟨z, k, rfl, rfl, h0, h1, h2, q⟩ := h
  obtain ⟨t, rfl⟩ := rx
  obtain ⟨t', rfl⟩ := ry
  refine SB.mul (mulok_of h0 h1 h2) fun t2 tk => ?_
  rw [mul_txt h0]
  exact ⟨.str _, H, I.tok _, ⟨_, rfl⟩, q⟩
theorem o_times : OpR X (binaryOp .Mult) rTimes := OpR.or op_mul (OpR.or op_rep op_repS)
theorem o_fdiv : OpR X (binaryOp .FloorDiv) rFdiv := op_fdiv
theorem o_mod : OpR X (binaryOp .Mod) rMod := op_mod
theorem o_and : OpR X (binaryOp .BitAnd) rAnd := op_and
theorem o_lt : OpR X (compareOp .Lt) rLt := op_lt
theorem o_le : OpR X (compareOp .LtE) rLe := op_le
theorem o_gt : OpR X (compareOp .Gt) rGt := op_gt
theorem o_ge : OpR X (compareOp .GtE) rGe := op_ge
theorem o_eq (hu : X.A.units + 64 < cLine) : OpR X (compareOp .Eq) (rEqX X.K) := OpR.or op_eq (op_eqD hu)
theorem o_ne (hu : X.A.units + 64 < cLine) : OpR X (compareOp .NotEq) (rNeX X.K) := OpR.or op_ne (op_neD hu)
theorem o_in : OpR X (compareOp .In) (rInX X.K false) := OpR.or op_in_seq op_in_sign
theorem o_notin : OpR X (compareOp .NotIn) (rInX X.K true) := OpR.or op_notIn_seq op_notIn_sign
theorem o_is : OpR X (compareOp .Is) rIsNo := op_isN
theorem o_isnot : OpR X (compareOp .IsNot) rNotNo := op_notN
theorem c_len : CallR X (.builtin "len") (rLenX X.K) := call_len
theorem c_int : CallR X (.type "int") rIntX := call_int1
theorem c_ord : CallR X (.builtin "ord") rOrd := call_ord
theorem c_list : CallR X (.type "list") (rListOf X.K) := call_list_of
theorem c_tuple : CallR X (.type "tuple") (rTupOf X.K) := call_tuple_of
theorem truth_ib {prog : Program} {w : World} {A : Around} {xs : List V} {its : List Value} (r : Vals xs its) (h : xs.all flatIB = true) :
    TruthOf prog w A (fun i v => its.toArray[i]? = some v) (fun i => (xs.map trV).getD i false) := fun i v s Q E hv hq => by
  have hv' : its[i]? = some v := by simpa using hv
  have hi : i < its.length := (List.getElem?_eq_some_iff.mp hv').1
  have hi' : i < xs.length := by rw [r.length]; exact hi
  obtain ⟨u, hu, ru⟩ := r.get (i := i) (x := xs[i]) (by simp [hi'])
  rw [hv'] at hu
  cases hu
  have hg : (xs.map trV).getD i false = trV xs[i] := by simp [List.getD_eq_getElem?_getD, hi']
  have hq' : Q ((xs.map trV).getD i false) s := hq
  rw [hg] at hq'
  have hf : flatIB xs[i] = true := List.all_eq_true.mp h _ (List.getElem_mem hi')
  revert ru hq' hf
  generalize xs[i] = x
  intro ru hq' hf
  cases x with
  | int j =>
    obtain ⟨t, rfl⟩ := ru
    exact truthy_int hq'
  | bl b =>
    cases (show v = Value.bool b from ru)
    exact wpAny_truthy_bool hq'
  | _ => cases hf
theorem c_any (hc : X.calm = true) : CallR X (.builtin "any") (rAnyX X.K) := by
  intro pins s σ H vs us Q I r h
  obtain ⟨a, xs, rfl, hs, hf, q⟩ := h
  obtain ⟨its, rv, hl, _⟩ := I.list hs
  rw [Vals.ref1 r]
  refine call_any_walk (iter_any hl.isList fun s₂ e2 st hne => ?_)
  subst e2
  refine ⟨_, _, _, _, _, _, _, rfl, Walks.list (A := X.A.in1) (I.ok.hd hc) _ a hne its.toArray, st, truth_ib rv hf, fun h' tk hk => ?_⟩
  refine ⟨.bl _, H, I.kept fun b o eo => hk b o (fun hmem => ?_) (Heap.get?_push_of_some _ eo), ?_, q⟩
  · rcases List.mem_cons.mp hmem with e1 | hmem
    · exact absurd (e1 ▸ Heap.lt_size eo) (Nat.lt_irrefl _)
    · cases hmem
  · show Value.bool _ = Value.bool _
    have := any_range (xs.map trV)
    rw [List.length_map] at this
    rw [List.size_toArray, ← rv.length, this, List.any_map]
    rfl
theorem c_all (hc : X.calm = true) : CallR X (.builtin "all") (rAllX X.K) := by
  intro pins s σ H vs us Q I r h
  obtain ⟨a, xs, rfl, hs, hf, q⟩ := h
  obtain ⟨its, rv, hl, _⟩ := I.list hs
  rw [Vals.ref1 r]
  refine call_all_walk (iter_any hl.isList fun s₂ e2 st hne => ?_)
  subst e2
  refine ⟨_, _, _, _, _, _, _, rfl, Walks.list (A := X.A.in1) (I.ok.hd hc) _ a hne its.toArray, st, truth_ib rv hf, fun h' tk hk => ?_⟩
  refine ⟨.bl _, H, I.kept fun b o eo => hk b o (fun hmem => ?_) (Heap.get?_push_of_some _ eo), ?_, q⟩
  · rcases List.mem_cons.mp hmem with e1 | hmem
    · exact absurd (e1 ▸ Heap.lt_size eo) (Nat.lt_irrefl _)
    · cases hmem
  · show Value.bool _ = Value.bool _
    have := all_range (xs.map trV)
    rw [List.length_map] at this
    rw [List.size_toArray, ← rv.length, this, List.all_map]
    rfl
theorem c_isi : CallR X (.builtin "isinstance") (rIsi X.K) := call_isi
theorem sl_any : SlR X (rSlX X.K) := SlR.or sl_list (SlR.or sl_str sl_tupA)
theorem m_join : MtR X "str.join" (rJoin X.K) := mt_join
theorem pt_tru {a : Expr} {ta : TE} (ha : PE X a ta) (hs : ∀ whole, isTrue a X.env whole = (do let v ← whole; standAt a.pos; holding [v] (truthy v)) := by intro _; rfl) : PT X a (tTruX X.K ta) := pt_truth ha hs
end
end Lg

/-! The steps. -/
namespace Lg
open PySem PySem.Spec PyProof.Rows L2

inductive SetAt : L2.St → Nat → V → L2.St → Prop
  | here {x : Option V} {r : L2.St} {v : V} : SetAt (x :: r) 0 v (some v :: r)
  | there {x : Option V} {r r' : L2.St} {n : Nat} {v : V} : SetAt r n v r' → SetAt (x :: r) (n + 1) v (x :: r')
theorem SetAt.eq {σ σ' : L2.St} {i : Nat} {v : V} (h : SetAt σ i v σ') : σ.set i (some v) = σ' := by
  induction h with
  | here => rfl
  | there _ ih => show _ :: _ = _; rw [ih]
inductive GetAt : L2.St → Nat → V → Prop
  | here {r : L2.St} {v : V} : GetAt (some v :: r) 0 v
  | there {x : Option V} {r : L2.St} {n : Nat} {v : V} : GetAt r n v → GetAt (x :: r) (n + 1) v
theorem GetAt.eq {σ : L2.St} {i : Nat} {v : V} (h : GetAt σ i v) : σ[i]? = some (some v) := by
  induction h with
  | here => rfl
  | there _ ih => simpa using ih

/-- a list that L tells as data, owned or frozen; a list or a tuple -/
inductive LsIn (K : PySem.W.Frag) (L : List Ent) (a : Addr) (ds : List PyData) : Prop
  | own (h : Lg.ls K a ds ∈ L)
  | dat (h : Lg.dat (.ref a) (.list ds) ∈ L)
inductive See (K : PySem.W.Frag) (L : List Ent) : V → PyData → Prop
  | is {v : V} {d : PyData} (h : Is L v d) : See K L v d
  | own {a : Addr} {ds : List PyData} (h : Lg.ls K a ds ∈ L) : See K L (.ref a) (.list ds)
section
variable {K : PySem.W.Frag} {L L' : List Ent} {H F : Hp} {a p : Addr} {ds es : List PyData} {d e : PyData} {v : V}
theorem LsIn.ok (h : LsIn K L a ds) (e : Ex F H) (q : ∀ e ∈ L, e.ok K F H) : ∃ xs, H a = some (.lst xs) ∧ DvAll K F xs ds := by
  cases h with
  | own m =>
    obtain ⟨_, x, h1, xs, rfl, h2⟩ := q _ m
    exact ⟨xs, h1, h2⟩
  | dat m =>
    have h1 : Dv K F (.ref a) (.list ds) := q _ m
    cases h1 with
    | lst h2 h3 => exact ⟨_, e _ _ h2, h3⟩
theorem LsIn.more (h : LsIn K L a ds) (s : ∀ e ∈ L, e ∈ L') : LsIn K L' a ds := by
  cases h with
  | own m => exact .own (s _ m)
  | dat m => exact .dat (s _ m)
theorem LsIn.cons {e : Ent} (h : LsIn K L a ds) : LsIn K (e :: L) a ds := h.more fun _ m => .tail _ m
theorem St.lsin (hS : St K L H) (h : LsIn K L a ds) : ∃ F xs, Ex F H ∧ (∀ e ∈ L, e.ok K F H) ∧ H a = some (.lst xs) ∧ DvAll K F xs ds := by
  obtain ⟨F, h1, h2⟩ := hS.ex
  obtain ⟨xs, h3, h4⟩ := h.ok h1 h2
  exact ⟨F, xs, h1, h2, h3, h4⟩
theorem See.dp (hS : St K L H) (h : See K L v d) : Dp K H v d := by
  cases h with
  | is h => exact hS.dp h
  | own m =>
    obtain ⟨F, xs, h1, _, h3, h4⟩ := hS.lsin (.own m)
    exact .lst (SqL.of h3) (DpAll.of (DvAll.mono h1 _ _ h4))
where DpAll.of {xs : List V} {ds : List PyData} (h : DvAll K H xs ds) : DpAll K H xs ds := DvAll.dp _ _ h
theorem St.lenl (hS : St K L H) (h : LsIn K L a ds) : ∃ xs, H a = some (.lst xs) ∧ xs.length = ds.length := by
  obtain ⟨F, xs, _, _, h3, h4⟩ := hS.lsin h
  exact ⟨xs, h3, h4.len⟩
/-- the value of a scalar -/
theorem St.int_of {i : Int} (h : St K (.dat v (.int i) :: L) H) : v = .int i := by
  obtain ⟨F, _, h2⟩ := h.ex
  have : Dv K F v (.int i) := h2 _ (.head _)
  cases this; rfl
theorem St.str_of {x : Str} (h : St K (.dat v (.str x) :: L) H) : v = .str x := by
  obtain ⟨F, _, h2⟩ := h.ex
  have : Dv K F v (.str x) := h2 _ (.head _)
  cases this; rfl
theorem St.bl_of {b : Bool} (h : St K (.dat v (.bool b) :: L) H) : v = .bl b := by
  obtain ⟨F, _, h2⟩ := h.ex
  have : Dv K F v (.bool b) := h2 _ (.head _)
  cases this; rfl
theorem St.non_of (h : St K (.dat v .none :: L) H) : v = .non := by
  obtain ⟨F, _, h2⟩ := h.ex
  have : Dv K F v .none := h2 _ (.head _)
  cases this; rfl
theorem St.tup_of (h : St K (.dat v (.tuple ds) :: L) H) : ∃ a, v = .ref a := by
  obtain ⟨F, _, h2⟩ := h.ex
  have : Dv K F v (.tuple ds) := h2 _ (.head _)
  cases this; exact ⟨_, rfl⟩
theorem St.lst_of (h : St K (.dat v (.list ds) :: L) H) : ∃ a, v = .ref a := by
  obtain ⟨F, _, h2⟩ := h.ex
  have : Dv K F v (.list ds) := h2 _ (.head _)
  cases this; exact ⟨_, rfl⟩
end

/-! ### readings -/
def NewL (vs : List V) (H : Hp) (Q : VK) : Prop := vs.length ≤ sizeLine ∧ ∀ p, H p = none → Q (.ref p) (upd H p (.lst vs))
def NewT (vs : List V) (H : Hp) (Q : VK) : Prop := vs.length ≤ sizeLine ∧ ∀ p, H p = none → Q (.ref p) (upd H p (.tup vs))
def TyThen (K : PySem.W.Frag) (T : String) (x : V) (H : Hp) (P : Prop) : Prop := tyV K T x H ∧ P
def ChainK (b : Bool) (tc : TE) (r : R2) (y : V) (σ : L2.St) (H : Hp) (Q : VK) : Prop := if b = true then tc σ H fun w H4 => r y w H4 Q else Q (.bl false) H
section
variable {K : PySem.W.Frag} {L L' : List Ent} {H : Hp} {σ σ' : L2.St} {D : Ends} {Q : VK} {E : XK} {ta tb tc te : TE} {tt tu : TT} {t u : TS} {g : TG} {i j : Int} {x y v : V} {b c : Bool} {a p : Addr} {ds es : List PyData} {d e : PyData} {n : Nat}
theorem w_seq (h : t { D with nx := u D } σ H) : tSeq t u D σ H := h
theorem w_cut0 (h : t { D with nx := u D } σ H) : C8.tCut t u D σ H := ⟨u D, h, fun _ _ q => q⟩
theorem w_cut (Mid : L2.St → Hp → Prop) (h : t { D with nx := Mid } σ H) (k : ∀ σ' H', Mid σ' H' → u D σ' H') : C8.tCut t u D σ H := ⟨Mid, h, k⟩
theorem w_asg (h : te σ H fun x H1 => g x σ H1 D.nx) : tAsg te g D σ H := h
theorem w_name {R : L2.St → Hp → Prop} (q : SetAt σ n v σ') (h : R σ' H) : gName n v σ H R := by
  show R (σ.set n (some v)) H
  rw [q.eq]; exact h
theorem w_var (q : GetAt σ n v) (h : Q v H) : tVar n σ H Q := ⟨v, q.eq, h⟩
theorem w_c (h : Q v H) : tC v σ H Q := h
theorem w_op {r : R2} (h : ta σ H fun x H1 => tb σ H1 fun y H2 => r x y H2 Q) : tOp r ta tb σ H Q := h
theorem w_un {r : V → Hp → VK → Prop} (h : ta σ H fun x H1 => r x H1 Q) : tUn r ta σ H Q := h
theorem w_nil {R : List V → Hp → Prop} (h : R [] H) : tNil σ H R := h
theorem w_cons {tr : TA} {R : List V → Hp → Prop} (h : ta σ H fun x H1 => tr σ H1 fun xs H2 => R (x :: xs) H2) : tCons ta tr σ H R := h
theorem w_call {sp : Sp} {tr : TA} (h : tr σ H fun vs H1 => sp vs H1 Q E) : tCall sp [] E tr σ H Q := by
  show tr σ H fun vs H1 => sp (vs ++ []) H1 Q E
  simpa using h
theorem w_cb {r : List V → Hp → VK → Prop} {tr : TA} (h : tr σ H fun vs H1 => r vs H1 Q) : tCB r tr σ H Q := h
theorem w_tup {tr : TA} (h : tr σ H fun xs H1 => NewT xs H1 Q) : tTup tr σ H Q := h
theorem w_lst {tr : TA} (h : tr σ H fun xs H1 => NewL xs H1 Q) : tLst tr σ H Q := h
theorem w_bm {T : String} {r : V → List V → Hp → VK → Prop} {tr : TA} (h : ta σ H fun x H1 => TyThen K T x H1 (tr σ H1 fun xs H2 => r x xs H2 Q)) : tBM K T r ta tr σ H Q := h
theorem w_bm0 {T : String} {r : V → List V → Hp → VK → Prop} (h : ta σ H fun x H1 => TyThen K T x H1 (r x [] H1 Q)) : tBM0 K T r ta σ H Q := h
theorem w_sl {r : V → Option Int → Option Int → Hp → VK → Prop} {tl th : TO} (h : te σ H fun x H1 => tl σ H1 fun l H2 => th σ H2 fun u H3 => r x l u H3 Q) : tSl r te tl th σ H Q := h
theorem w_nopart {R : Option Int → Hp → Prop} (h : R none H) : tNoPart σ H R := h
theorem w_part {R : Option Int → Hp → Prop} (h : te σ H fun x H1 => ∃ i, x = .int i ∧ R (some i) H1) : tPart te σ H R := h
theorem w_isint {G : Int → Prop} (h : G i) : ∃ k, V.int i = .int k ∧ G k := ⟨i, rfl, h⟩
theorem w_test {R : Bool → Hp → Prop} (h : te σ H fun x H' => ∃ k, x = .bl k ∧ R k H') : tTest te σ H R := h
theorem w_tB {R : Bool → Hp → Prop} (h : te σ H fun x H' => ∃ k, x = .bl k ∧ R k H') : tB te σ H R := h
theorem w_isbl {R : Bool → Hp → Prop} (h : R b H) : ∃ k, V.bl b = .bl k ∧ R k H := ⟨b, rfl, h⟩
theorem w_isbl' {G : Bool → Prop} (h : G b) : ∃ k, V.bl b = .bl k ∧ G k := ⟨b, rfl, h⟩
theorem w_and {R : Bool → Hp → Prop} (h : tt σ H fun c H1 => if c = true then tu σ H1 R else R false H1) : tAnd tt tu σ H R := h
theorem w_or {R : Bool → Hp → Prop} (h : tt σ H fun c H1 => if c = true then R true H1 else tu σ H1 R) : tOr tt tu σ H R := h
theorem w_not {R : Bool → Hp → Prop} (h : tt σ H fun c H1 => R (!c) H1) : tNot tt σ H R := h
/-- both tests leave the heap -/
theorem w_andP {R : Bool → Hp → Prop} (h1 : ∀ R' : Bool → Hp → Prop, R' b H → tt σ H R') (h2 : b = true → ∀ R' : Bool → Hp → Prop, R' c H → tu σ H R') (h : R (b && c) H) : tAnd tt tu σ H R := by
  refine h1 _ ?_
  cases b with
  | true => exact h2 rfl _ h
  | false => exact h
theorem w_orP {R : Bool → Hp → Prop} (h1 : ∀ R' : Bool → Hp → Prop, R' b H → tt σ H R') (h2 : b = false → ∀ R' : Bool → Hp → Prop, R' c H → tu σ H R') (h : R (b || c) H) : tOr tt tu σ H R := by
  refine h1 _ ?_
  cases b with
  | true => exact h
  | false => exact h2 rfl _ h
theorem w_ifexp (h : tt σ H fun c H1 => if c = true then ta σ H1 Q else tb σ H1 Q) : tIf tt ta tb σ H Q := h
theorem w_andV (h : ta σ H fun x H1 => ∃ c, x = .bl c ∧ if c = true then tb σ H1 Q else Q (.bl false) H1) : tAndV ta tb σ H Q := h
theorem w_orV (h : ta σ H fun x H1 => ∃ c, x = .bl c ∧ if c = true then Q (.bl true) H1 else tb σ H1 Q) : tOrV ta tb σ H Q := h
theorem w_andVP (h1 : ∀ R' : VK, R' (.bl b) H → ta σ H R') (h2 : b = true → ∀ R' : VK, R' (.bl c) H → tb σ H R') (h : Q (.bl (b && c)) H) : tAndV ta tb σ H Q := by
  refine h1 _ ⟨b, rfl, ?_⟩
  cases b with
  | true => exact h2 rfl _ h
  | false => exact h
theorem w_orVP (h1 : ∀ R' : VK, R' (.bl b) H → ta σ H R') (h2 : b = false → ∀ R' : VK, R' (.bl c) H → tb σ H R') (h : Q (.bl (b || c)) H) : tOrV ta tb σ H Q := by
  refine h1 _ ⟨b, rfl, ?_⟩
  cases b with
  | true => exact h
  | false => exact h2 rfl _ h
theorem w_notV (h : ta σ H fun x H1 => ∃ c, x = .bl c ∧ Q (.bl (!c)) H1) : tNotV ta σ H Q := h
theorem w_tru {R : Bool → Hp → Prop} (h : ta σ H fun x H' => ∃ k, TruV K x H' k ∧ R k H') : tTruX K ta σ H R := h
theorem w_truI {R : Bool → Hp → Prop} (h : R (i != 0) H) : ∃ k, TruV K (.int i) H k ∧ R k H := ⟨_, rfl, h⟩
theorem w_truB {R : Bool → Hp → Prop} (h : R b H) : ∃ k, TruV K (.bl b) H k ∧ R k H := ⟨_, rfl, h⟩
theorem w_ifs (h : tt σ H fun b H1 => if b = true then t D σ H1 else u D σ H1) : tIfS tt t u D σ H := h
theorem w_next (h : D.nx σ H) : tNext D σ H := h
theorem w_break (h : D.bk σ H) : tBreak D σ H := h
theorem w_cont (h : D.ct σ H) : tCont D σ H := h
theorem w_ret (h : te σ H D.rt) : tRet te D σ H := h
theorem w_retn (h : D.rt .non H) : tRetN D σ H := h
theorem w_drop (h : te σ H fun _ H1 => D.nx σ H1) : tDrop te D σ H := h
theorem w_sub {to ti : TE} {ts : TSet} {R : L2.St → Hp → Prop} (h : to σ H fun o H1 => ti σ H1 fun i H2 => ts o i v H2 fun H3 => R σ H3) : gSub to ti ts v σ H R := h
theorem w_gnil {R : L2.St → Hp → Prop} (h : R σ H) : gNil [] σ H R := ⟨rfl, h⟩
theorem w_gcons {tg : TG} {tu : TGs} {r : List V} {R : L2.St → Hp → Prop} (h : tg v σ H fun σ' H' => tu r σ' H' R) : gCons tg tu (v :: r) σ H R := ⟨v, r, rfl, h⟩
/-! branches -/
theorem w_ite {A B : Prop} (h1 : b = true → A) (h2 : b = false → B) : if b = true then A else B := by
  cases b with
  | true => exact h1 rfl
  | false => exact h2 rfl
theorem w_ifd {P A B : Prop} [Decidable P] (h1 : P → A) (h2 : ¬ P → B) : if decide P = true then A else B := by
  by_cases h : P
  · rw [if_pos (decide_eq_true h)]; exact h1 h
  · rw [if_neg (by simp [h])]; exact h2 h
theorem w_ifnd {P A B : Prop} [Decidable P] (h1 : ¬ P → A) (h2 : P → B) : if (!decide P) = true then A else B := by
  by_cases h : P
  · rw [if_neg (by simp [h])]; exact h2 h
  · rw [if_pos (by simp [h])]; exact h1 h
theorem w_ifT {A B : Prop} (h : A) : if true = true then A else B := by rw [if_pos rfl]; exact h
theorem w_ifF {A B : Prop} (h : B) : if false = true then A else B := by rw [if_neg Bool.false_ne_true]; exact h
theorem w_ifp {P A B : Prop} [Decidable P] (hp : P) (h : A) : if decide P = true then A else B := by rw [if_pos (decide_eq_true hp)]; exact h
theorem w_ifq {P A B : Prop} [Decidable P] (hp : ¬ P) (h : B) : if decide P = true then A else B := by rw [if_neg (by simp [hp])]; exact h
theorem w_bt {A B : Prop} (hb : b = true) (h : A) : if b = true then A else B := by rw [if_pos hb]; exact h
theorem w_bf {A B : Prop} (hb : b = false) (h : B) : if b = true then A else B := by rw [if_neg (by simp [hb])]; exact h
/-! ints -/
theorem w_add (h : Q (.int (i + j)) H) : rPlus K (.int i) (.int j) H Q := .inl ⟨i, j, rfl, rfl, h⟩
theorem w_sub2 (h : Q (.int (i - j)) H) : rMinus (.int i) (.int j) H Q := ⟨i, j, rfl, rfl, h⟩
theorem w_mulL (hi : -(2 ^ 64) < i ∧ i < 2 ^ 64) (h : Q (.int (i * j)) H) : rTimes (.int i) (.int j) H Q := .inl ⟨i, j, rfl, rfl, .inl hi, h⟩
theorem w_mulR (hi : -(2 ^ 64) < j ∧ j < 2 ^ 64) (h : Q (.int (i * j)) H) : rTimes (.int i) (.int j) H Q := .inl ⟨i, j, rfl, rfl, .inr hi, h⟩
theorem w_mod (hj : 0 < j) (h : Q (.int (i % j)) H) : rMod (.int i) (.int j) H Q := ⟨i, j, rfl, rfl, hj, h⟩
theorem w_fdiv (hj : 0 < j ∧ j < 1073741824) (h : Q (.int (i / j)) H) : rFdiv (.int i) (.int j) H Q := ⟨i, j, rfl, rfl, hj, h⟩
theorem w_band (h : Q (.int (Builtin.bitAnd i j)) H) : rAnd (.int i) (.int j) H Q := ⟨i, j, rfl, rfl, h⟩
theorem w_lt (h : Q (.bl (decide (i < j))) H) : rLt (.int i) (.int j) H Q := ⟨i, j, rfl, rfl, h⟩
theorem w_le (h : Q (.bl (decide (i ≤ j))) H) : rLe (.int i) (.int j) H Q := ⟨i, j, rfl, rfl, h⟩
theorem w_gt (h : Q (.bl (decide (j < i))) H) : rGt (.int i) (.int j) H Q := ⟨i, j, rfl, rfl, h⟩
theorem w_ge (h : Q (.bl (decide (j ≤ i))) H) : rGe (.int i) (.int j) H Q := ⟨i, j, rfl, rfl, h⟩
theorem dI (i j : Int) : decide (V.int i = V.int j) = decide (i = j) := by by_cases h : i = j <;> simp [h]
theorem dS (i j : Str) : decide (V.str i = V.str j) = decide (i = j) := by by_cases h : i = j <;> simp [h]
theorem w_eqI (h : Q (.bl (decide (i = j))) H) : rEqX K (.int i) (.int j) H Q := .inl ⟨rfl, by rw [dI]; exact h⟩
theorem w_neI (h : Q (.bl (!decide (i = j))) H) : rNeX K (.int i) (.int j) H Q := .inl ⟨rfl, by rw [dI]; exact h⟩
theorem w_eqS {i j : Str} (h : Q (.bl (decide (i = j))) H) : rEqX K (.str i) (.str j) H Q := .inl ⟨rfl, by rw [dS]; exact h⟩
theorem w_neS {i j : Str} (h : Q (.bl (!decide (i = j))) H) : rNeX K (.str i) (.str j) H Q := .inl ⟨rfl, by rw [dS]; exact h⟩
theorem w_is (h : Q (.bl (decide (x = .non))) H) : rIsNo x .non H Q := ⟨rfl, h⟩
theorem w_isnot (h : Q (.bl (!decide (x = .non))) H) : rNotNo x .non H Q := ⟨rfl, h⟩
theorem w_isN (h : Q (.bl true) H) : rIsNo .non .non H Q := ⟨rfl, h⟩
theorem w_isR (h : Q (.bl false) H) : rIsNo (.ref a) .non H Q := ⟨rfl, h⟩
theorem w_isI (h : Q (.bl false) H) : rIsNo (.int i) .non H Q := ⟨rfl, h⟩
theorem w_isS {z : Str} (h : Q (.bl false) H) : rIsNo (.str z) .non H Q := ⟨rfl, h⟩
theorem w_nsN (h : Q (.bl false) H) : rNotNo .non .non H Q := ⟨rfl, h⟩
theorem w_nsR (h : Q (.bl true) H) : rNotNo (.ref a) .non H Q := ⟨rfl, h⟩
theorem w_nsI (h : Q (.bl true) H) : rNotNo (.int i) .non H Q := ⟨rfl, h⟩
theorem w_nsS {z : Str} (h : Q (.bl true) H) : rNotNo (.str z) .non H Q := ⟨rfl, h⟩
theorem w_int (h : Q (.int i) H) : rIntX [.int i] H Q := .inl ⟨i, rfl, h⟩
theorem w_intb (h : Q (.int (if b then 1 else 0)) H) : rIntX [.bl b] H Q := .inr ⟨b, rfl, h⟩
theorem w_chainLe (hc : ∀ R' : VK, R' (.int j) H → tc σ H R') (h : Q (.bl (b && decide (i ≤ j))) H) : ChainK b tc rLe (.int i) σ H Q := by
  unfold ChainK
  cases b with
  | true => rw [if_pos rfl]; exact hc _ ⟨i, j, rfl, rfl, h⟩
  | false => rw [if_neg Bool.false_ne_true]; exact h
theorem w_chainLt (hc : ∀ R' : VK, R' (.int j) H → tc σ H R') (h : Q (.bl (b && decide (i < j))) H) : ChainK b tc rLt (.int i) σ H Q := by
  unfold ChainK
  cases b with
  | true => rw [if_pos rfl]; exact hc _ ⟨i, j, rfl, rfl, h⟩
  | false => rw [if_neg Bool.false_ne_true]; exact h
theorem w_chain {r r' : R2} (h : ta σ H fun x H1 => tb σ H1 fun y H2 => r x y H2 fun z H3 => ∃ k, z = .bl k ∧ ChainK k tc r' y σ H3 Q) : tChain r r' ta tb tc σ H Q := h
/-! texts -/
theorem w_addS {y z : Str} (hl : y.length + z.length ≤ 100000) (h : Q (.str (y ++ z)) H) : rPlus K (.str y) (.str z) H Q := .inr (.inl ⟨y, z, rfl, rfl, Nat.le_trans hl (by decide), h⟩)
theorem w_repS {z : Str} (h0 : 0 ≤ i) (h1 : i ≤ 100000) (h2 : z.length ≤ 100) (h : Q (.str ⟨(repL z.cps.toList i.toNat).toArray⟩) H) : rTimes (.str z) (.int i) H Q := .inr (.inr ⟨z, i, rfl, rfl, h0, h1, h2, h⟩)
theorem w_lenS {z : Str} (hl : z.length ≤ 100000) (h : Q (.int z.length) H) : rLenX K [.str z] H Q := ⟨.str z, z.length, rfl, ⟨Nat.le_trans hl (by decide), rfl⟩, h⟩
theorem w_ord {z : Str} (hz : z.length = 1) (h : Q (.int (z.cps.getD 0 0 : Nat)) H) : rOrd [.str z] H Q := ⟨z, rfl, hz, h⟩
theorem w_ord1 {k : Nat} (h : Q (.int (k : Int)) H) : rOrd [.str ⟨#[k]⟩] H Q := ⟨_, rfl, rfl, h⟩
theorem w_ixS {z : Str} {k : Nat} (hl : z.length ≤ 100000) (hk : i = (k : Int)) {c : Nat} (hc : z.cps.toList[k]? = some c) (h : Q (.str ⟨#[c]⟩) H) : rIx K (.str z) (.int i) H Q :=
  .inr (.inr ⟨z, i, c, rfl, rfl, Nat.le_trans hl (by decide), by rw [hk]; exact atI_nat hc, h⟩)
theorem w_slS {z : Str} {lo hi : Option Int} (hl : z.length ≤ 100000) (h : Q (.str (cutS z lo hi)) H) : rSlX K (.str z) lo hi H Q := .inr (.inl ⟨z, rfl, Nat.le_trans hl (by decide), h⟩)
theorem w_tyS {z : Str} {P : Prop} (h : P) : TyThen K "str" (.str z) H P := ⟨rfl, h⟩
theorem w_inSg {k : Nat} {z : Str} (h : Q (.bl (decide (k ∈ z.cps.toList))) H) : rInX K false (.str ⟨#[k]⟩) (.str z) H Q := .inr ⟨k, z, rfl, rfl, h⟩
theorem w_ninSg {k : Nat} {z : Str} (h : Q (.bl (!decide (k ∈ z.cps.toList))) H) : rInX K true (.str ⟨#[k]⟩) (.str z) H Q := .inr ⟨k, z, rfl, rfl, h⟩
/-! lists -/
theorem w_newL {vs : List V} (hS : St K L H) (hv : IsAll L vs ds) (hn : vs.length ≤ 1000) (h : ∀ p H', St K (Lg.ls K p ds :: L) H' → Q (.ref p) H') : NewL vs H Q :=
  ⟨Nat.le_trans hn (by decide), fun p hp => h p _ (hS.alloc hp fun F _ q => ⟨vs, rfl, hv.dv q⟩)⟩
theorem w_newLr {vs : List V} (hS : St K L H) (hn : vs.length ≤ 1000) (h : ∀ p H', St K (Lg.own p (.lst vs) :: L) H' → Q (.ref p) H') : NewL vs H Q :=
  ⟨Nat.le_trans hn (by decide), fun p hp => h p _ (hS.alloc hp fun F _ q => rfl)⟩
theorem w_newT {vs : List V} (hS : St K L H) (hv : IsAll L vs ds) (hn : vs.length ≤ 1000) (h : ∀ p H', St K (Lg.dat (.ref p) (.tuple ds) :: L) H' → Q (.ref p) H') : NewT vs H Q :=
  ⟨Nat.le_trans hn (by decide), fun p hp => h p _ (hS.fresh hp fun F hF _ q => .tup (SqT.of upd_same) (DvAll.mono (Ex.new hF) _ _ (hv.dv q)))⟩
theorem w_newTr {vs : List V} (hS : St K L H) (hn : vs.length ≤ 1000) (h : ∀ p H', St K (Lg.own p (.tup vs) :: L) H' → Q (.ref p) H') : NewT vs H Q :=
  ⟨Nat.le_trans hn (by decide), fun p hp => h p _ (hS.alloc hp fun F _ q => rfl)⟩
theorem w_tyL {P : Prop} (hS : St K L H) (hl : LsIn K L a ds) (h : P) : TyThen K "list" (.ref a) H P := by
  obtain ⟨F, xs, _, _, h3, _⟩ := hS.lsin hl
  exact ⟨.inl ⟨rfl, _, SqL.of h3⟩, h⟩
theorem w_app (hS : St K L H) (hp : Put L (Lg.ls K a ds) (Lg.ls K a (ds ++ [d])) L') (hv : Is L v d) (hn : ds.length ≤ 100000) (h : ∀ H', St K L' H' → Q .non H') : rAppend (.ref a) [v] H Q := by
  obtain ⟨F, xs, h1, h2, h3, h4⟩ := hS.lsin (.own hp.mem)
  refine ⟨a, xs, v, rfl, rfl, h3, ?_, h _ (hS.writeP hp fun F' x e q hx hφ => ?_)⟩
  · rw [h4.len]; exact Nat.lt_of_le_of_lt hn (by decide)
  · obtain ⟨ys, rfl, hys⟩ := hφ
    rw [h3] at hx
    cases hx
    exact ⟨_, rfl, hys.app (.cons (hv.dv q) .nil)⟩
theorem w_pop (hS : St K L H) (hp : Put L (Lg.ls K a (ds ++ [d])) (Lg.ls K a ds) L') (h : ∀ v H', St K (.dat v d :: L') H' → Q v H') : rPop (.ref a) [] H Q := by
  obtain ⟨F, xs, h1, h2, h3, h4⟩ := hS.lsin (.own hp.mem)
  have hlen := h4.len
  obtain ⟨v, hv, hd⟩ := h4.get (i := ds.length) (d := d) (by simp)
  have hxs : xs.length - 1 = ds.length := by rw [hlen]; simp
  refine ⟨a, xs, v, rfl, rfl, h3, by rw [hxs]; exact hv, h _ _ ?_⟩
  have hS' := hS.know (v := v) (d := d) fun F' e q => by
    obtain ⟨ys, h5, h6⟩ := LsIn.ok (.own hp.mem) e q
    rw [h3] at h5
    cases h5
    obtain ⟨v', hv', hd'⟩ := h6.get (i := ds.length) (d := d) (by simp)
    rw [hv] at hv'
    cases hv'
    exact hd'
  refine hS'.writeP (.there hp) fun F' x e q hx hφ => ?_
  obtain ⟨ys, rfl, hys⟩ := hφ
  rw [h3] at hx
  cases hx
  refine ⟨_, rfl, ?_⟩
  have := hys.take ds.length
  rw [List.take_left] at this
  rw [List.dropLast_eq_take, hxs]
  exact this
theorem w_setL {k : Nat} (hS : St K L H) (hp : Put L (Lg.ls K a ds) (Lg.ls K a (ds.set k d)) L') (hv : Is L v d) (hk : i = (k : Int)) (hn : k < ds.length) {R : Hp → Prop} (h : ∀ H', St K L' H' → R H') : rSetL (.ref a) (.int i) v H R := by
  obtain ⟨F, xs, h1, h2, h3, h4⟩ := hS.lsin (.own hp.mem)
  refine ⟨a, xs, i, k, rfl, rfl, h3, ?_, h _ (hS.writeP hp fun F' x e q hx hφ => ?_)⟩
  · rw [hk]
    unfold ixN
    rw [if_pos (by omega), if_pos (by rw [h4.len]; omega)]
    simp
  · obtain ⟨ys, rfl, hys⟩ := hφ
    rw [h3] at hx
    cases hx
    exact ⟨_, rfl, hys.set _ (hv.dv q)⟩
theorem w_lenL (hS : St K L H) (hl : LsIn K L a ds) (h : Q (.int ds.length) H) : rLenX K [.ref a] H Q := by
  obtain ⟨F, xs, h1, h2, h3, h4⟩ := hS.lsin hl
  exact ⟨.ref a, ds.length, rfl, .inl ⟨xs, SqL.of h3, h4.len.symm⟩, h⟩
theorem w_lenT (hS : St K L H) (hl : Is L (.ref a) (.tuple ds)) (h : Q (.int ds.length) H) : rLenX K [.ref a] H Q := by
  obtain ⟨xs, h1, h2, _⟩ := hS.tup_parts hl
  exact ⟨.ref a, ds.length, rfl, .inr ⟨xs, h1, h2.symm⟩, h⟩
theorem St.item (hS : St K L H) (hl : LsIn K L a ds) {k : Nat} (hd : ds[k]? = some d) : ∃ xs v, H a = some (.lst xs) ∧ xs[k]? = some v ∧ xs.length = ds.length ∧ St K (.dat v d :: L) H := by
  obtain ⟨F, xs, h1, h2, h3, h4⟩ := hS.lsin hl
  obtain ⟨v, h5, h6⟩ := h4.get hd
  refine ⟨xs, v, h3, h5, h4.len, hS.know fun F' e q => ?_⟩
  obtain ⟨ys, h7, h8⟩ := hl.ok e q
  rw [h3] at h7
  cases h7
  obtain ⟨v', h9, h10⟩ := h8.get hd
  rw [h5] at h9
  cases h9
  exact h10
theorem w_ixL {k : Nat} (hS : St K L H) (hl : LsIn K L a ds) (hk : i = (k : Int)) (hd : ds[k]? = some d) (h : ∀ v, St K (.dat v d :: L) H → Q v H) : rIx K (.ref a) (.int i) H Q := by
  obtain ⟨xs, v, h3, h5, _, h6⟩ := hS.item hl hd
  exact .inl ⟨a, xs, i, v, rfl, rfl, SqL.of h3, by rw [hk]; exact at_of rfl h5, h v h6⟩
theorem w_ixLi {k : Nat} {m : Int} (hS : St K L H) (hl : LsIn K L a ds) (hk : i = (k : Int)) (hd : ds[k]? = some (.int m)) (h : Q (.int m) H) : rIx K (.ref a) (.int i) H Q :=
  w_ixL hS hl hk hd fun v h6 => by rw [h6.int_of]; exact h
theorem w_ixLs {k : Nat} {m : Str} (hS : St K L H) (hl : LsIn K L a ds) (hk : i = (k : Int)) (hd : ds[k]? = some (.str m)) (h : Q (.str m) H) : rIx K (.ref a) (.int i) H Q :=
  w_ixL hS hl hk hd fun v h6 => by rw [h6.str_of]; exact h
theorem w_ixT {k : Nat} (hS : St K L H) (hl : Is L (.ref a) (.tuple ds)) (hk : i = (k : Int)) (hd : ds[k]? = some d) (h : ∀ v, St K (.dat v d :: L) H → Q v H) : rIx K (.ref a) (.int i) H Q := by
  obtain ⟨xs, h1, h2, h3⟩ := hS.tup_parts hl
  obtain ⟨v, h4, h5⟩ := h3 _ _ hd
  exact .inr (.inl ⟨a, xs, i, v, rfl, rfl, h1, by rw [hk]; exact at_of rfl h4, h v h5⟩)
theorem w_ixTi {k : Nat} {m : Int} (hS : St K L H) (hl : Is L (.ref a) (.tuple ds)) (hk : i = (k : Int)) (hd : ds[k]? = some (.int m)) (h : Q (.int m) H) : rIx K (.ref a) (.int i) H Q :=
  w_ixT hS hl hk hd fun v h6 => by rw [h6.int_of]; exact h
theorem w_ixTs {k : Nat} {m : Str} (hS : St K L H) (hl : Is L (.ref a) (.tuple ds)) (hk : i = (k : Int)) (hd : ds[k]? = some (.str m)) (h : Q (.str m) H) : rIx K (.ref a) (.int i) H Q :=
  w_ixT hS hl hk hd fun v h6 => by rw [h6.str_of]; exact h
theorem w_plusL (hS : St K L H) (h1 : LsIn K L a ds) (h2 : LsIn K L p es) (hn : ds.length + es.length ≤ 100000) (h : ∀ q H', St K (Lg.ls K q (ds ++ es) :: L) H' → Q (.ref q) H') : rPlus K (.ref a) (.ref p) H Q := by
  obtain ⟨F, xs, g1, g2, g3, g4⟩ := hS.lsin h1
  obtain ⟨ys, g5, g6⟩ := h2.ok g1 g2
  refine .inr (.inr (.inl ⟨a, p, xs, ys, rfl, rfl, g3, g5, ?_, fun q hq => h q _ (hS.alloc hq fun F' e w => ?_)⟩))
  · rw [g4.len, g6.len]; exact Nat.le_trans hn (by decide)
  · obtain ⟨xs', k1, k2⟩ := h1.ok e w
    obtain ⟨ys', k3, k4⟩ := h2.ok e w
    rw [g3] at k1; cases k1
    rw [g5] at k3; cases k3
    exact ⟨_, rfl, k2.app k4⟩
theorem w_repLs (hS : St K L H) (h1 : LsIn K L a ds) (h0 : i ≤ 100000) (h0' : -100000 ≤ i) (hn : ds.length * i.toNat ≤ 100000) (h : ∀ q H', St K (Lg.ls K q (List.replicate i.toNat ds).flatten :: L) H' → Q (.ref q) H') : rTimes (.ref a) (.int i) H Q := by
  obtain ⟨F, xs, g1, g2, g3, g4⟩ := hS.lsin h1
  refine .inr (.inl ⟨a, i, xs, rfl, rfl, g3, by omega, by omega, ?_, fun q hq => h q _ (hS.alloc hq fun F' e w => ?_)⟩)
  · rw [g4.len]; exact Nat.le_trans hn (by decide)
  · obtain ⟨xs', k1, k2⟩ := h1.ok e w
    rw [g3] at k1; cases k1
    exact ⟨_, rfl, k2.flat _⟩
def cutD (ds : List PyData) (lo hi : Option Int) : List PyData := (ds.drop (HT.sIx ds.length 0 lo)).take (HT.sIx ds.length ds.length hi - HT.sIx ds.length 0 lo)
theorem w_slL {lo hi : Option Int} (hS : St K L H) (h1 : LsIn K L a ds) (h : ∀ q H', St K (Lg.ls K q (cutD ds lo hi) :: L) H' → Q (.ref q) H') : rSlX K (.ref a) lo hi H Q := by
  obtain ⟨F, xs, g1, g2, g3, g4⟩ := hS.lsin h1
  refine .inl ⟨a, xs, rfl, SqL.of g3, fun q hq => h q _ (hS.alloc hq fun F' e w => ?_)⟩
  obtain ⟨xs', k1, k2⟩ := h1.ok e w
  rw [g3] at k1; cases k1
  refine ⟨_, rfl, ?_⟩
  unfold cutV cutD
  rw [g4.len]
  exact (k2.drop _).take _
theorem w_listL (hS : St K L H) (h1 : LsIn K L a ds) (h : ∀ q H', St K (Lg.ls K q ds :: L) H' → Q (.ref q) H') : rListOf K [.ref a] H Q := by
  obtain ⟨F, xs, g1, g2, g3, g4⟩ := hS.lsin h1
  refine ⟨a, xs, rfl, .inl (SqL.of g3), fun q hq => h q _ (hS.alloc hq fun F' e w => ?_)⟩
  obtain ⟨xs', k1, k2⟩ := h1.ok e w
  rw [g3] at k1; cases k1
  exact ⟨_, rfl, k2⟩
theorem w_tupL (hS : St K L H) (h1 : LsIn K L a ds) (h : ∀ q H', St K (Lg.dat (.ref q) (.tuple ds) :: L) H' → Q (.ref q) H') : rTupOf K [.ref a] H Q := by
  obtain ⟨F, xs, g1, g2, g3, g4⟩ := hS.lsin h1
  refine ⟨a, xs, rfl, .inl ⟨SqL.of g3, fun q hq => h q _ (hS.fresh hq fun F' hF' e w => ?_)⟩⟩
  obtain ⟨xs', k1, k2⟩ := h1.ok e w
  rw [g3] at k1; cases k1
  exact .tup (SqT.of upd_same) (DvAll.mono (Ex.new hF') _ _ k2)
theorem w_eqD (hS : St K L H) (h1 : See K L x d) (h2 : See K L y e) (s1 : SeqAt.shaped d = true) (s2 : SeqAt.shaped e = true) (h : Q (.bl (PyData.eqv d e)) H) : rEqX K x y H Q :=
  .inr ⟨d, e, h1.dp hS, h2.dp hS, s1, s2, h⟩
theorem w_neD (hS : St K L H) (h1 : See K L x d) (h2 : See K L y e) (s1 : SeqAt.shaped d = true) (s2 : SeqAt.shaped e = true) (h : Q (.bl (!PyData.eqv d e)) H) : rNeX K x y H Q :=
  .inr ⟨d, e, h1.dp hS, h2.dp hS, s1, s2, h⟩
theorem shaped_self (s1 : SeqAt.shaped d = true) : PyData.eqv d d = true := SeqAt.eqv_refl d (SeqAt.canLay_of_shaped s1)
theorem w_eq1 (hS : St K L H) (h1 : See K L x d) (h2 : See K L y d) (s1 : SeqAt.shaped d = true) (h : Q (.bl true) H) : rEqX K x y H Q :=
  w_eqD hS h1 h2 s1 s1 (by rw [shaped_self s1]; exact h)
theorem w_ne1 (hS : St K L H) (h1 : See K L x d) (h2 : See K L y d) (s1 : SeqAt.shaped d = true) (h : Q (.bl false) H) : rNeX K x y H Q :=
  w_neD hS h1 h2 s1 s1 (by rw [shaped_self s1]; exact h)
theorem ints_ib (ns : List Int) : (ns.map V.int).all flatIB = true := by simp [flatIB]
theorem bls_ib (ns : List Bool) : (ns.map V.bl).all flatIB = true := by simp [flatIB]
theorem w_anyB {bs : List Bool} (hS : St K L H) (h1 : LsIn K L a (bs.map PyData.bool)) (h : Q (.bl (bs.any id)) H) : rAnyX K [.ref a] H Q := by
  obtain ⟨F, xs, g1, g2, g3, g4⟩ := hS.lsin h1
  have e := g4.bls_inv
  subst e
  refine ⟨a, _, rfl, SqL.of g3, bls_ib bs, ?_⟩
  have : (bs.map V.bl).any trV = bs.any id := by rw [List.any_map]; rfl
  rw [this]; exact h
theorem w_allB {bs : List Bool} (hS : St K L H) (h1 : LsIn K L a (bs.map PyData.bool)) (h : Q (.bl (bs.all id)) H) : rAllX K [.ref a] H Q := by
  obtain ⟨F, xs, g1, g2, g3, g4⟩ := hS.lsin h1
  have e := g4.bls_inv
  subst e
  refine ⟨a, _, rfl, SqL.of g3, bls_ib bs, ?_⟩
  have : (bs.map V.bl).all trV = bs.all id := by rw [List.all_map]; rfl
  rw [this]; exact h
theorem w_anyI {ns : List Int} (hS : St K L H) (h1 : LsIn K L a (ns.map PyData.int)) (h : Q (.bl (ns.any (· != 0))) H) : rAnyX K [.ref a] H Q := by
  obtain ⟨F, xs, g1, g2, g3, g4⟩ := hS.lsin h1
  have e := g4.ints_inv
  subst e
  refine ⟨a, _, rfl, SqL.of g3, ints_ib ns, ?_⟩
  have : (ns.map V.int).any trV = ns.any (· != 0) := by rw [List.any_map]; rfl
  rw [this]; exact h
theorem w_join {z : Str} {ys : List Str} (hS : St K L H) (h1 : LsIn K L a (ys.map PyData.str)) (hn : (ys.map (·.length)).sum + ys.length * z.length ≤ 100000) (h : Q (.str (Txt.join z ys)) H) : rJoin K (.str z) [.ref a] H Q := by
  obtain ⟨F, xs, g1, g2, g3, g4⟩ := hS.lsin h1
  exact ⟨z, a, ys, rfl, rfl, .inl (by rw [← g4.strs_inv]; exact SqL.of g3), Nat.le_trans hn (by decide), h⟩
/-! isinstance -/
theorem w_isi {T U : String} (hT : TyX K H x (.type T)) (hk : kitB T U = some b) (h : Q (.bl b) H) : rIsi K [x, .ty U] H Q := ⟨x, .ty U, .type T, .type U, b, rfl, .ty U, hT, kit_ty hk, h⟩
theorem w_isiL {U : String} (hS : St K L H) (hl : LsIn K L a ds) (hk : kitB "list" U = some b) (h : Q (.bl b) H) : rIsi K [.ref a, .ty U] H Q := by
  obtain ⟨F, xs, _, _, h3, _⟩ := hS.lsin hl
  exact w_isi (.base (.lst h3)) hk h
theorem w_isiI {U : String} (hk : kitB "int" U = some b) (h : Q (.bl b) H) : rIsi K [.int i, .ty U] H Q := w_isi (.base (.int i)) hk h
theorem w_isiS {z : Str} {U : String} (hk : kitB "str" U = some b) (h : Q (.bl b) H) : rIsi K [.str z, .ty U] H Q := w_isi (.base (.str z)) hk h
theorem w_isiN {U : String} (hk : kitB "NoneType" U = some b) (h : Q (.bl b) H) : rIsi K [.non, .ty U] H Q := w_isi (.base .non) hk h
theorem w_isiT {U : String} (hS : St K L H) (hl : Is L (.ref a) (.tuple ds)) (hk : kitB "tuple" U = some b) (h : Q (.bl b) H) : rIsi K [.ref a, .ty U] H Q := by
  obtain ⟨xs, h1, h2, _⟩ := hS.tup_parts hl
  rcases h1 with (h1 | ⟨o, h1⟩) | ⟨o, its, n, h1, hc, _⟩
  · exact w_isi (.base (.tup h1)) hk h
  · exact w_isi (.fTuple h1) hk h
  · exact w_isi (.kTuple h1 hc) hk h
end
end Lg

/-! Loops, comprehensions, the draws. -/
namespace Lg
open PySem PySem.Spec PyProof.Rows L2

def iAny (K : PySem.W.Frag) (tl : TE) : TI := fun σ H R => iList K tl σ H R ∨ (iTup K tl σ H R ∨ iStr tl σ H R)
def gUnp (K : PySem.W.Frag) (n : Nat) (t : TGs) : TG := fun v σ H Q => gTup K n t v σ H Q ∨ gUnl K n t v σ H Q
section
variable {X : Cx}
theorem PI.or {tg iter : Expr} {w1 w2 : TI} (h1 : PI X tg iter w1) (h2 : PI X tg iter w2) : PI X tg iter (fun σ H R => w1 σ H R ∨ w2 σ H R) :=
  ⟨fun pins s σ H R I h => h.elim (fun q => h1.run pins s σ H R I q) fun q => h2.run pins s σ H R I q⟩
theorem pi_any {tg l : Expr} {tl : TE} (hl : PE X l tl) : PI X tg l (iAny X.K tl) := PI.or (pi_list hl) (PI.or (pi_tup hl) (pi_str hl))
theorem PG.or {target : Expr} {t u : TG} (h1 : PG X target t) (h2 : PG X target u) : PG X target (fun v σ H Q => t v σ H Q ∨ u v σ H Q) :=
  ⟨fun pins s σ H v w Q I r h => h.elim (fun q => h1.run pins s σ H v w Q I r q) fun q => h2.run pins s σ H v w Q I r q⟩
theorem pg_unp {es : List Expr} {k : Nat} {t : TGs} {n : Nat} {pos : Pos} (hc : X.calm = true) (h : PGs X es t)
    (hn : (assignEach es X.env).length = n := by rfl) (hst : (assignEach es X.env).findIdx? (·.1) = none := by rfl) : PG X (.Tuple es k pos) (gUnp X.K n t) := PG.or (pg_tup hc h hn hst) (pg_unl hc h hn hst)
end

def Rng1 (vs : List V) (H1 : Hp) (R : It → Hp → Prop) : Prop := ∃ j : Int, vs = [.int j] ∧ -(2 ^ 62) ≤ j ∧ j < 2 ^ 62 ∧ R (Itr 0 j.toNat) H1
def Rng2 (vs : List V) (H1 : Hp) (R : It → Hp → Prop) : Prop := ∃ i j : Int, vs = [.int i, .int j] ∧ (-(2 ^ 62) ≤ i ∧ i < 2 ^ 62 ∧ -(2 ^ 62) ≤ j ∧ j < 2 ^ 62) ∧ R (Itr i (j - i).toNat) H1
def Rng3 (vs : List V) (H1 : Hp) (R : It → Hp → Prop) : Prop := ∃ (i j c : Int) (n : Nat), vs = [.int i, .int j, .int c] ∧ RgC i j c n ∧ R (Itc i c n) H1
def Enu (K : PySem.W.Frag) (vs : List V) (H1 : Hp) (R : It → Hp → Prop) : Prop := ∃ a xs, vs = [.ref a] ∧ SqL K H1 a xs ∧ R (Ite K a) H1
def AnyL (K : PySem.W.Frag) (x : V) (H1 : Hp) (R : It → Hp → Prop) : Prop := ∃ a, x = .ref a ∧ (∃ xs, SqL K H1 a xs) ∧ R (Itl K a) H1
def AnyT (K : PySem.W.Frag) (x : V) (H1 : Hp) (R : It → Hp → Prop) : Prop := ∃ a, x = .ref a ∧ (∃ xs, SqT K H1 a xs) ∧ R (Itt K a) H1
def AnyS (v : V) (H1 : Hp) (R : It → Hp → Prop) : Prop := ∃ x, v = .str x ∧ R (Its x) H1
def AnyV (K : PySem.W.Frag) (v : V) (H1 : Hp) (R : It → Hp → Prop) : Prop := AnyL K v H1 R ∨ (AnyT K v H1 R ∨ AnyS v H1 R)
def ForW (J : It) (g : TG) (tb : TS) (D : Ends) (σ : L2.St) (H1 : Hp) : Prop := ∃ W : Nat → Nat → L2.St → Hp → Prop, (∃ m, W 0 m σ H1) ∧ ∀ i m σ H, W i m σ H →
  (J.stop i H ∧ D.nx σ H) ∨ (J.go i H ∧ ∃ N : L2.St → Hp → Prop, (∀ σ' H', N σ' H' → ∃ m', m' < m ∧ W (i + 1) m' σ' H') ∧ ∀ x H', J.yld i H x H' → g x σ H' fun σ2 H2 => tb { D with nx := N, ct := N, bk := D.nx } σ2 H2)
def LcW (J : It) (g : TG) (tt : TT) (te : TE) (vs : List Nat) (σ : L2.St) (H1 : Hp) (Q : VK) : Prop := ∀ D, H1 D = none → ∃ W : Nat → Nat → Hp → Prop, (∃ m, W 0 m (upd H1 D (.lst []))) ∧ ∀ i m H, W i m H →
  (J.stop i H ∧ Q (.ref D) H) ∨ (J.go i H ∧ ∃ Nx : Hp → Prop, (∀ H', Nx H' → ∃ m', m' < m ∧ W (i + 1) m' H') ∧ ∀ x H', J.yld i H x H' → g x (wipe σ vs) H' fun σ2 H2 => wipe σ2 vs = wipe σ vs ∧ tt σ2 H2 fun b H3 =>
    if b = true then te σ2 H3 fun y H4 => ∃ acc, H4 D = some (.lst acc) ∧ acc.length < sizeLine ∧ Nx (upd H4 D (.lst (acc ++ [y]))) else Nx H3)
section
variable {K : PySem.W.Frag} {L L' : List Ent} {H : Hp} {σ σ' : L2.St} {D : Ends} {Q : VK} {E : XK} {ta tb tc te tl : TE} {tt tu : TT} {t u tbody : TS} {g : TG} {i j : Int} {x y v : V} {b c : Bool} {a p : Addr} {ds es : List PyData} {d e : PyData} {n : Nat} {vs : List Nat} {wi : TI}
theorem w_for (h : wi σ H fun J H1 => ForW J g tbody D σ H1) : tFor wi g tbody D σ H := h
theorem w_lc (h : wi σ H fun J H1 => LcW J g tt te vs σ H1 Q) : tLc wi g tt te vs σ H Q := h
/-! the walked thing -/
theorem w_anyL1 {R : It → Hp → Prop} (h : tl σ H fun x H1 => AnyL K x H1 R) : iAny K tl σ H R := .inl h
theorem w_anyT1 {R : It → Hp → Prop} (h : tl σ H fun x H1 => AnyT K x H1 R) : iAny K tl σ H R := .inr (.inl h)
theorem w_anyS1 {R : It → Hp → Prop} (h : tl σ H fun v H1 => AnyS v H1 R) : iAny K tl σ H R := .inr (.inr h)
theorem w_anyVar {n : Nat} {R : It → Hp → Prop} (q : GetAt σ n v) (h : AnyV K v H R) : iAny K (tVar n) σ H R := by
  rcases h with h | h | h
  · exact .inl ⟨v, q.eq, h⟩
  · exact .inr (.inl ⟨v, q.eq, h⟩)
  · exact .inr (.inr ⟨v, q.eq, h⟩)
theorem w_anyC {R : It → Hp → Prop} (h : AnyV K v H R) : iAny K (tC v) σ H R := h
theorem w_vS {z : Str} {R : It → Hp → Prop} (h : R (Its z) H) : AnyV K (.str z) H R := .inr (.inr ⟨z, rfl, h⟩)
theorem w_vL {R : It → Hp → Prop} (hS : St K L H) (hl : LsIn K L a ds) (h : R (Itl K a) H) : AnyV K (.ref a) H R := by
  obtain ⟨F, xs, _, _, h3, _⟩ := hS.lsin hl
  exact .inl ⟨a, rfl, ⟨xs, SqL.of h3⟩, h⟩
theorem w_vT {R : It → Hp → Prop} (hS : St K L H) (hl : Is L (.ref a) (.tuple ds)) (h : R (Itt K a) H) : AnyV K (.ref a) H R := by
  obtain ⟨xs, h1, _⟩ := hS.tup_parts hl
  exact .inr (.inl ⟨a, rfl, ⟨xs, h1⟩, h⟩)
theorem w_itL {R : It → Hp → Prop} (hS : St K L H) (hl : LsIn K L a ds) (h : R (Itl K a) H) : AnyL K (.ref a) H R := by
  obtain ⟨F, xs, _, _, h3, _⟩ := hS.lsin hl
  exact ⟨a, rfl, ⟨xs, SqL.of h3⟩, h⟩
theorem w_itT {R : It → Hp → Prop} (hS : St K L H) (hl : Is L (.ref a) (.tuple ds)) (h : R (Itt K a) H) : AnyT K (.ref a) H R := by
  obtain ⟨xs, h1, _⟩ := hS.tup_parts hl
  exact ⟨a, rfl, ⟨xs, h1⟩, h⟩
theorem w_itS {R : It → Hp → Prop} {z : Str} (h : R (Its z) H) : AnyS (.str z) H R := ⟨z, rfl, h⟩
theorem w_rng1 {ta : TA} {R : It → Hp → Prop} (h : ta σ H fun vs H1 => Rng1 vs H1 R) : iRng1 ta σ H R := h
theorem w_rng2 {ta : TA} {R : It → Hp → Prop} (h : ta σ H fun vs H1 => Rng2 vs H1 R) : iRng2 ta σ H R := h
theorem w_rng3 {ta : TA} {R : It → Hp → Prop} (h : ta σ H fun vs H1 => Rng3 vs H1 R) : iRng3 ta σ H R := h
theorem w_itR1 {R : It → Hp → Prop} (hj : -100000 ≤ j ∧ j ≤ 100000000) (h : R (Itr 0 j.toNat) H) : Rng1 [.int j] H R := ⟨j, rfl, by omega, by omega, h⟩
theorem w_itR2 {R : It → Hp → Prop} (hi : -100000 ≤ i ∧ i ≤ 100000000) (hj : -100000 ≤ j ∧ j ≤ 100000000) (h : R (Itr i (j - i).toNat) H) : Rng2 [.int i, .int j] H R :=
  ⟨i, j, rfl, by omega, h⟩
theorem w_itR3 {R : It → Hp → Prop} {k : Int} {n : Nat} (hc : RgC i j k n) (h : R (Itc i k n) H) : Rng3 [.int i, .int j, .int k] H R := ⟨i, j, k, n, rfl, hc, h⟩
theorem w_enum {ta : TA} {R : It → Hp → Prop} (h : ta σ H fun vs H1 => Enu K vs H1 R) : iEnum K ta σ H R := h
theorem w_itE {R : It → Hp → Prop} (hS : St K L H) (hl : LsIn K L a ds) (h : R (Ite K a) H) : Enu K [.ref a] H R := by
  obtain ⟨F, xs, _, _, h3, _⟩ := hS.lsin hl
  exact ⟨a, xs, rfl, SqL.of h3, h⟩
/-! for -/
theorem w_forL (I : Nat → L2.St → Hp → Prop) (h0 : I 0 σ H) (hI : ∀ i σ H, i ≤ ds.length → I i σ H → ∃ L, St K L H ∧ LsIn K L a ds)
    (hs : ∀ i d v σ H, ds[i]? = some d → I i σ H → (∀ L, St K L H → LsIn K L a ds → St K (.dat v d :: L) H) → g v σ H fun σ2 H2 => tbody { D with nx := I (i + 1), ct := I (i + 1), bk := D.nx } σ2 H2)
    (hd : ∀ σ H, I ds.length σ H → D.nx σ H) : ForW (Itl K a) g tbody D σ H := by
  refine ⟨fun i m σ H => m = ds.length - i ∧ i ≤ ds.length ∧ I i σ H, ⟨ds.length, by simp, Nat.zero_le _, h0⟩, ?_⟩
  rintro i m σ H ⟨rfl, hi, p⟩
  obtain ⟨L, hS, hl⟩ := hI i σ H hi p
  by_cases hlt : i < ds.length
  · obtain ⟨xs, v, h3, h5, hlen, h6⟩ := hS.item hl (k := i) (d := ds[i]) (by simp [hlt])
    refine .inr ⟨⟨xs, v, SqL.of h3, h5⟩, I (i + 1), fun σ' H' p' => ⟨ds.length - (i + 1), by omega, rfl, hlt, p'⟩, fun x H' y => ?_⟩
    obtain ⟨rfl, y⟩ := y
    have hx : xs[i]? = some x := y xs (SqL.of h3)
    have hxv : v = x := by rw [h5] at hx; exact Option.some.inj hx
    subst hxv
    refine hs i ds[i] v σ H' (by simp [hlt]) p fun L2 hS2 hl2 => ?_
    obtain ⟨xs2, v2, k3, k5, _, k6⟩ := hS2.item hl2 (k := i) (d := ds[i]) (by simp [hlt])
    rw [h3] at k3
    cases k3
    rw [h5] at k5
    cases k5
    exact k6
  · have e : i = ds.length := by omega
    subst e
    obtain ⟨xs, h3, h4⟩ := hS.lenl hl
    exact .inl ⟨⟨xs, SqL.of h3, Nat.le_of_eq h4⟩, hd σ H p⟩
theorem w_forT {xs : List V} (hx : xs.length = ds.length) (I : Nat → L2.St → Hp → Prop) (h0 : I 0 σ H) (hI : ∀ i σ H, i ≤ ds.length → I i σ H → SqT K H a xs)
    (hs : ∀ i d v σ H, ds[i]? = some d → xs[i]? = some v → I i σ H → g v σ H fun σ2 H2 => tbody { D with nx := I (i + 1), ct := I (i + 1), bk := D.nx } σ2 H2)
    (hd : ∀ σ H, I ds.length σ H → D.nx σ H) : ForW (Itt K a) g tbody D σ H := by
  refine for_tup (xs := xs) I h0 (fun i σ H hi p => hI i σ H (by omega) p) (fun i x σ H hv p => ?_) (fun σ H p => hd σ H (by rw [← hx]; exact p))
  have hlt : i < ds.length := by
    rw [← hx]
    exact (List.getElem?_eq_some_iff.mp hv).1
  exact hs i ds[i] x σ H (by simp [hlt]) hv p
theorem w_forR {lo : Int} {n : Nat} (I : Nat → L2.St → Hp → Prop) (h0 : I 0 σ H)
    (hs : ∀ i σ H, i < n → I i σ H → g (.int (lo + i)) σ H fun σ2 H2 => tbody { D with nx := I (i + 1), ct := I (i + 1), bk := D.nx } σ2 H2) (hd : ∀ σ H, I n σ H → D.nx σ H) : ForW (Itr lo n) g tbody D σ H :=
  for_range I h0 hs hd
theorem w_forS {z : Str} (I : Nat → L2.St → Hp → Prop) (h0 : I 0 σ H)
    (hs : ∀ i c σ H, z.cps.toList[i]? = some c → I i σ H → g (.str ⟨#[c]⟩) σ H fun σ2 H2 => tbody { D with nx := I (i + 1), ct := I (i + 1), bk := D.nx } σ2 H2) (hd : ∀ σ H, I z.cps.toList.length σ H → D.nx σ H) : ForW (Its z) g tbody D σ H := by
  refine for_it walk_str I h0 (fun _ _ _ _ _ => trivial) (fun i x σ H H' hi p y => ?_) (fun σ H p => hd σ H (by simpa using p))
  obtain ⟨rfl, c, hc, rfl⟩ := y
  exact hs i c σ H' (by simpa using hc) p
/-! comprehensions without tests -/
theorem lc_mk {J : It} {N : Nat} (R : Nat → PyData → Prop) (hN : N ≤ 100000) (hS : St K L H)
    (hgo : ∀ i H es q, i < N → St K (.cell q (.ls K es) :: L) H → J.go i H) (hst : ∀ H es q, St K (.cell q (.ls K es) :: L) H → J.stop N H)
    (hs : ∀ i q es H x H', i < N → es.length = i → St K (.cell q (.ls K es) :: L) H → J.yld i H x H' → ∀ Z : VK, (∀ y e H3, R i e → St K (.dat y e :: .cell q (.ls K es) :: L) H3 → Z y H3) → g x (wipe σ vs) H' fun σ2 H2 => wipe σ2 vs = wipe σ vs ∧ te σ2 H2 Z)
    (h : ∀ q es H', es.length = N → (∀ i e, es[i]? = some e → R i e) → St K (.cell q (.ls K es) :: L) H' → Q (.ref q) H') : LcW J g tYes te vs σ H Q := by
  intro q hq
  refine ⟨fun i m H => m = N - i ∧ i ≤ N ∧ ∃ es, es.length = i ∧ (∀ j e, es[j]? = some e → R j e) ∧ St K (.cell q (.ls K es) :: L) H, ⟨N, by simp, Nat.zero_le _, [], rfl, fun j e z => by simp at z, hS.alloc hq fun F _ _ => ⟨[], rfl, .nil⟩⟩, ?_⟩
  rintro i m H ⟨rfl, hi, es, hlen, hR, hS1⟩
  by_cases hlt : i < N
  · refine .inr ⟨hgo i H es q hlt hS1, fun H' => i + 1 ≤ N ∧ ∃ es, es.length = i + 1 ∧ (∀ j e, es[j]? = some e → R j e) ∧ St K (.cell q (.ls K es) :: L) H', fun H' w => ⟨N - (i + 1), by omega, rfl, w⟩, fun x H' y => ?_⟩
    refine hs i q es H x H' hlt hlen hS1 y _ fun y e H3 hRe hS3 => ?_
    obtain ⟨F, xs, h1, h2, h3, h4⟩ := hS3.lsin (.own (.tail _ (.head _)))
    refine ⟨xs, h3, ?_, by omega, es ++ [e], by simp [hlen], fun j e' he => ?_, ?_⟩
    · rw [h4.len, hlen]
      exact Nat.lt_of_lt_of_le (Nat.lt_of_lt_of_le hlt hN) (by decide)
    · by_cases hj : j < es.length
      · rw [List.getElem?_append_left hj] at he
        exact hR j e' he
      · rw [List.getElem?_append_right (by omega)] at he
        have hj0 : j - es.length = 0 := by
          cases hz : j - es.length with
          | zero => rfl
          | succ n => rw [hz] at he; simp at he
        rw [hj0] at he
        have : j = i := by omega
        subst this
        simp at he
        subst he
        exact hRe
    · have hS4 := hS3.writeP (o := .lst (xs ++ [y])) (ψ := .ls K (es ++ [e])) (.there .here) fun F' x e' q hx hφ => ?_
      · exact hS4.tail
      · obtain ⟨ys, rfl, hys⟩ := hφ
        rw [h3] at hx
        cases hx
        exact ⟨_, rfl, hys.app (.cons (q _ (.head _)) .nil)⟩
  · have e : i = N := by omega
    subst e
    exact .inl ⟨hst H es q hS1, h q es H hlen hR hS1⟩
theorem w_lcL {R : Nat → PyData → Prop} (hS : St K L H) (hl : LsIn K L a ds) (hn : ds.length ≤ 100000)
    (hs : ∀ i d q es v H, ds[i]? = some d → es.length = i → St K (.dat v d :: .cell q (.ls K es) :: L) H → ∀ Z : VK, (∀ y e H3, R i e → St K (.dat y e :: .cell q (.ls K es) :: L) H3 → Z y H3) → g v (wipe σ vs) H fun σ2 H2 => wipe σ2 vs = wipe σ vs ∧ te σ2 H2 Z)
    (h : ∀ q es H', es.length = ds.length → (∀ i e, es[i]? = some e → R i e) → St K (.cell q (.ls K es) :: L) H' → Q (.ref q) H') : LcW (Itl K a) g tYes te vs σ H Q := by
  refine lc_mk R hn hS (fun i H es q hi h1 => ?_) (fun H es q h1 => ?_) (fun i q es H x H' hi hlen h1 y Z hZ => ?_) h
  · obtain ⟨xs, v, h3, h5, _, _⟩ := h1.item hl.cons (k := i) (d := ds[i]) (by simp [hi])
    exact ⟨xs, v, SqL.of h3, h5⟩
  · obtain ⟨xs, h3, h4⟩ := h1.lenl hl.cons
    exact ⟨xs, SqL.of h3, Nat.le_of_eq h4⟩
  · obtain ⟨rfl, y⟩ := y
    obtain ⟨xs, v, h3, h5, _, h6⟩ := h1.item hl.cons (k := i) (d := ds[i]) (by simp [hi])
    have hx := y xs (SqL.of h3)
    rw [h5] at hx
    have hvx := Option.some.inj hx
    subst hvx
    exact hs i ds[i] q es _ H' (by simp [hi]) hlen h6 Z hZ
theorem w_lcR {lo : Int} {n : Nat} {R : Nat → PyData → Prop} (hS : St K L H) (hn : n ≤ 100000)
    (hs : ∀ i q es H, i < n → es.length = i → St K (.cell q (.ls K es) :: L) H → ∀ Z : VK, (∀ y e H3, R i e → St K (.dat y e :: .cell q (.ls K es) :: L) H3 → Z y H3) → g (.int (lo + i)) (wipe σ vs) H fun σ2 H2 => wipe σ2 vs = wipe σ vs ∧ te σ2 H2 Z)
    (h : ∀ q es H', es.length = n → (∀ i e, es[i]? = some e → R i e) → St K (.cell q (.ls K es) :: L) H' → Q (.ref q) H') : LcW (Itr lo n) g tYes te vs σ H Q := by
  refine lc_mk R hn hS (fun i H es q hi h1 => hi) (fun H es q h1 => Nat.le_refl _) (fun i q es H x H' hi hlen h1 y Z hZ => ?_) h
  obtain ⟨rfl, rfl⟩ := y
  exact hs i q es H' hi hlen h1 Z hZ
theorem w_lcR3 {lo c : Int} {n : Nat} {R : Nat → PyData → Prop} (hS : St K L H) (hn : n ≤ 100000)
    (hs : ∀ i q es H, i < n → es.length = i → St K (.cell q (.ls K es) :: L) H → ∀ Z : VK, (∀ y e H3, R i e → St K (.dat y e :: .cell q (.ls K es) :: L) H3 → Z y H3) → g (.int (lo + (i : Nat) * c)) (wipe σ vs) H fun σ2 H2 => wipe σ2 vs = wipe σ vs ∧ te σ2 H2 Z)
    (h : ∀ q es H', es.length = n → (∀ i e, es[i]? = some e → R i e) → St K (.cell q (.ls K es) :: L) H' → Q (.ref q) H') : LcW (Itc lo c n) g tYes te vs σ H Q := by
  refine lc_mk R hn hS (fun i H es q hi h1 => hi) (fun H es q h1 => Nat.le_refl _) (fun i q es H x H' hi hlen h1 y Z hZ => ?_) h
  obtain ⟨rfl, rfl⟩ := y
  exact hs i q es H' hi hlen h1 Z hZ
theorem w_lcS {z : Str} {R : Nat → PyData → Prop} (hS : St K L H) (hn : z.length ≤ 100000)
    (hs : ∀ i k q es H, z.cps.toList[i]? = some k → es.length = i → St K (.cell q (.ls K es) :: L) H → ∀ Z : VK, (∀ y e H3, R i e → St K (.dat y e :: .cell q (.ls K es) :: L) H3 → Z y H3) → g (.str ⟨#[k]⟩) (wipe σ vs) H fun σ2 H2 => wipe σ2 vs = wipe σ vs ∧ te σ2 H2 Z)
    (h : ∀ q es H', es.length = z.cps.toList.length → (∀ i e, es[i]? = some e → R i e) → St K (.cell q (.ls K es) :: L) H' → Q (.ref q) H') : LcW (Its z) g tYes te vs σ H Q := by
  refine lc_mk (N := z.cps.size) R hn hS (fun i H es q hi h1 => hi) (fun H es q h1 => Nat.le_refl _) (fun i q es H x H' hi hlen h1 y Z hZ => ?_) (fun q es H' h1 => h q es H' (by simpa using h1))
  obtain ⟨rfl, k, hk, rfl⟩ := y
  exact hs i k q es H' (by simpa using hk) hlen h1 Z hZ
/-- enumerate: the pair is a new tuple -/
theorem w_lcE {R : Nat → PyData → Prop} (hS : St K L H) (hl : LsIn K L a ds) (hn : ds.length ≤ 100000)
    (hs : ∀ i d q es T H, ds[i]? = some d → es.length = i → St K (.dat (.ref T) (.tuple [.int (i : Nat), d]) :: .cell q (.ls K es) :: L) H → ∀ Z : VK, (∀ y e H3, R i e → St K (.dat y e :: .cell q (.ls K es) :: L) H3 → Z y H3) → g (.ref T) (wipe σ vs) H fun σ2 H2 => wipe σ2 vs = wipe σ vs ∧ te σ2 H2 Z)
    (h : ∀ q es H', es.length = ds.length → (∀ i e, es[i]? = some e → R i e) → St K (.cell q (.ls K es) :: L) H' → Q (.ref q) H') : LcW (Ite K a) g tYes te vs σ H Q := by
  refine lc_mk R hn hS (fun i H es q hi h1 => ?_) (fun H es q h1 => ?_) (fun i q es H x H' hi hlen h1 y Z hZ => ?_) h
  · obtain ⟨xs, v, h3, h5, _, _⟩ := h1.item hl.cons (k := i) (d := ds[i]) (by simp [hi])
    exact ⟨xs, v, SqL.of h3, h5⟩
  · obtain ⟨xs, h3, h4⟩ := h1.lenl hl.cons
    exact ⟨xs, SqL.of h3, Nat.le_of_eq h4⟩
  · obtain ⟨T, x', rfl, hT, rfl, y⟩ := y
    obtain ⟨xs, v, h3, h5, _, h6⟩ := h1.item hl.cons (k := i) (d := ds[i]) (by simp [hi])
    have hx := y xs (SqL.of h3)
    rw [h5] at hx
    have hvx := Option.some.inj hx
    subst hvx
    have h7 := h6.fresh (o := .tup [.int (i : Nat), v]) (v := .ref T) (d := .tuple [.int (i : Nat), ds[i]]) hT fun F hF e q => .tup (SqT.of upd_same) (.cons (.int _) (.cons (Dv.mono (Ex.new hF) _ _ (q _ (.head _))) .nil))
    exact hs i ds[i] q es T _ (by simp [hi]) hlen (h7.to (.cons .here (.cons (.there .here) (.drop .refl)))) Z hZ
/-- targets that unpack -/
theorem zip_ok {F : Hp} : ∀ {xs : List V} {ds : List PyData}, DvAll K F xs ds → ∀ e ∈ List.zipWith Ent.dat xs ds, e.ok K F H
  | _, [], h, e, he => by cases h; cases he
  | _, d :: ds, h, e, he => by
    cases h with
    | cons h1 h2 =>
      rw [List.zipWith_cons_cons] at he
      cases he with
      | head => exact h1
      | tail _ he => exact zip_ok h2 e he
theorem zip_adr : ∀ {xs : List V} {ds : List PyData}, (List.zipWith Ent.dat xs ds ++ L).filterMap Ent.adr = L.filterMap Ent.adr
  | [], _ => rfl
  | _ :: _, [] => rfl
  | x :: xs, d :: ds => zip_adr (xs := xs) (ds := ds)
theorem St.zip {F : Hp} {xs : List V} (hS : St K L H) (h1 : Ex F H) (h2 : ∀ e ∈ L, e.ok K F H) (h3 : DvAll K F xs ds) : St K (List.zipWith Ent.dat xs ds ++ L) H :=
  ⟨⟨F, h1, fun e he => by
    rcases List.mem_append.mp he with he | he
    · exact zip_ok h3 e he
    · exact h2 e he⟩, by rw [zip_adr]; exact hS.nd⟩
theorem St.tup_all (hS : St K L H) (hl : Is L (.ref a) (.tuple ds)) : ∃ xs, SqT K H a xs ∧ xs.length = ds.length ∧ St K (List.zipWith Ent.dat xs ds ++ L) H := by
  obtain ⟨F, h1, h2⟩ := hS.ex
  have := hl.dv h2
  cases this with
  | tup g1 g2 => exact ⟨_, h1.sqT g1, g2.len, hS.zip h1 h2 g2⟩
theorem St.lst_all (hS : St K L H) (hl : LsIn K L a ds) : ∃ xs, H a = some (.lst xs) ∧ xs.length = ds.length ∧ St K (List.zipWith Ent.dat xs ds ++ L) H := by
  obtain ⟨F, xs, h1, h2, h3, h4⟩ := hS.lsin hl
  exact ⟨xs, h3, h4.len, hS.zip h1 h2 h4⟩
theorem w_unpT {tgs : TGs} {R : L2.St → Hp → Prop} (hS : St K L H) (hl : Is L (.ref a) (.tuple ds)) (hn : ds.length = n) (h : ∀ xs, xs.length = ds.length → St K (List.zipWith Ent.dat xs ds ++ L) H → tgs xs σ H R) : gUnp K n tgs (.ref a) σ H R := by
  obtain ⟨xs, h1, h2, h3⟩ := hS.tup_all hl
  exact .inl ⟨a, xs, rfl, h1, by rw [h2, hn], h xs h2 h3⟩
theorem w_unpL {tgs : TGs} {R : L2.St → Hp → Prop} (hS : St K L H) (hl : LsIn K L a ds) (hn : ds.length = n) (h : ∀ xs, xs.length = ds.length → St K (List.zipWith Ent.dat xs ds ++ L) H → tgs xs σ H R) : gUnp K n tgs (.ref a) σ H R := by
  obtain ⟨xs, h1, h2, h3⟩ := hS.lst_all hl
  exact .inr ⟨a, xs, rfl, SqL.of h1, by rw [h2, hn], h xs h2 h3⟩
theorem w_unpT2 {tgs : TGs} {d1 d2 : PyData} {R : L2.St → Hp → Prop} (hS : St K L H) (hl : Is L (.ref a) (.tuple [d1, d2])) (h : ∀ v1 v2, St K (.dat v1 d1 :: .dat v2 d2 :: L) H → tgs [v1, v2] σ H R) : gUnp K 2 tgs (.ref a) σ H R :=
  w_unpT hS hl rfl fun xs hx h3 => match xs, hx, h3 with
    | [_, _], _, h3 => h _ _ h3
theorem w_unpT3 {tgs : TGs} {d1 d2 d3 : PyData} {R : L2.St → Hp → Prop} (hS : St K L H) (hl : Is L (.ref a) (.tuple [d1, d2, d3])) (h : ∀ v1 v2 v3, St K (.dat v1 d1 :: .dat v2 d2 :: .dat v3 d3 :: L) H → tgs [v1, v2, v3] σ H R) : gUnp K 3 tgs (.ref a) σ H R :=
  w_unpT hS hl rfl fun xs hx h3 => match xs, hx, h3 with
    | [_, _, _], _, h3 => h _ _ _ h3

/-! ### the draws of a law -/
def spDraw (K : PySem.W.Frag) : Sp := fun vs H Q _ => ∃ (L : List Ent) (b : Addr) (m : Int), vs = [.ref b, .int m] ∧ St K L H ∧ bx K b ∈ L ∧ 0 < m ∧ ∀ k H', 0 ≤ k → k < m → St K L H' → Q (.int k) H'
theorem w_draw {m : Int} {E : XK} (hS : St K L H) (hb : bx K a ∈ L) (hm : 0 < m) (h : ∀ k H', 0 ≤ k → k < m → St K L H' → Q (.int k) H') : spDraw K [.ref a, .int m] H Q E := ⟨L, a, m, rfl, hS, hb, hm, h⟩
end
end Lg

/-! A law's own cell, digits, draw. -/
namespace Lg
open PySem PySem.Spec PyProof.Rows L2
local macro_rules | `(tactic| walk_at "ar") => `(tactic| first | omega | (simp; done) | (simp; omega) | (simp only [S_len]; omega))
local macro_rules | `(tactic| walk_at "gt") => `(tactic| repeat (first | exact GetAt.here | apply GetAt.there))
local macro_rules | `(tactic| walk_at "st") => `(tactic| repeat (first | exact SetAt.here | apply SetAt.there))
local macro_rules | `(tactic| walk_at "mem") => `(tactic| first | assumption | exact List.mem_cons_self | (apply List.mem_cons_of_mem; walk_at "mem"))
local macro_rules | `(tactic| walk_at "put") => `(tactic| repeat (first | exact Put.here | apply Put.there))
local macro_rules | `(tactic| walk_at "rem") => `(tactic| repeat (first | exact Rem.here | apply Rem.there))
local macro_rules | `(tactic| walk_at "pick") => `(tactic| first | exact Pick.refl | exact Pick.cons (by walk_at "rem") (by walk_at "pick") | (apply Pick.drop; walk_at "pick") | exact Pick.nil)
local macro_rules | `(tactic| walk_at "is") => `(tactic| first | exact Is.int | exact Is.str | exact Is.bl | exact Is.non | assumption | exact Is.dat (by walk_at "mem") | (apply Is.cons; walk_at "is"))
local macro_rules | `(tactic| walk_at "isall") => `(tactic| first | exact IsAll.nil | exact IsAll.cons (by walk_at "is") (by walk_at "isall"))
local macro_rules | `(tactic| walk_at "lsin") => `(tactic| first | assumption | exact LsIn.own (by walk_at "mem") | exact LsIn.dat (by walk_at "mem") | (apply LsIn.cons; walk_at "lsin"))
local macro_rules | `(tactic| walk_at "see") => `(tactic| first | exact See.own (by walk_at "mem") | exact See.is (by walk_at "is"))
local macro_rules | `(tactic| walk_at "w1") => `(tactic| first
  | (with_reducible apply Lg.w_seq)
  | (with_reducible apply Lg.w_asg)
  | ((with_reducible show gName _ _ _ _ _); (with_reducible refine Lg.w_name (by walk_at "st") ?_))
  | ((with_reducible show tVar _ _ _ _); (with_reducible refine Lg.w_var (by walk_at "gt") ?_))
  | (with_reducible apply Lg.w_c)
  | (with_reducible apply Lg.w_op)
  | (with_reducible apply Lg.w_un)
  | (with_reducible apply Lg.w_nil)
  | (with_reducible apply Lg.w_cons)
  | (with_reducible apply Lg.w_call)
  | (with_reducible apply Lg.w_cb)
  | (with_reducible apply Lg.w_tup)
  | (with_reducible apply Lg.w_lst)
  | (with_reducible apply Lg.w_bm)
  | (with_reducible apply Lg.w_bm0)
  | (with_reducible apply Lg.w_sl)
  | (with_reducible apply Lg.w_nopart)
  | (with_reducible apply Lg.w_part)
  | (with_reducible apply Lg.w_isint)
  | (with_reducible apply Lg.w_test)
  | (with_reducible apply Lg.w_tB)
  | (with_reducible apply Lg.w_isbl')
  | (with_reducible apply Lg.w_not)
  | (with_reducible apply Lg.w_tru)
  | (with_reducible apply Lg.w_truI)
  | (with_reducible apply Lg.w_truB)
  | (with_reducible apply Lg.w_ifs)
  | (with_reducible apply Lg.w_next)
  | (with_reducible apply Lg.w_break)
  | (with_reducible apply Lg.w_cont)
  | (with_reducible apply Lg.w_ret)
  | (with_reducible apply Lg.w_retn)
  | (with_reducible apply Lg.w_drop)
  | (with_reducible apply Lg.w_sub)
  | (with_reducible apply Lg.w_gnil)
  | (with_reducible apply Lg.w_gcons)
  | (with_reducible apply Lg.w_ifT)
  | (with_reducible apply Lg.w_ifF)
  | (with_reducible apply Lg.w_add)
  | (with_reducible apply Lg.w_sub2)
  | ((with_reducible show rTimes (V.int _) (V.int _) _ _); (with_reducible refine Lg.w_mulR (by omega) ?_))
  | ((with_reducible show rTimes (V.int _) (V.int _) _ _); (with_reducible refine Lg.w_mulL (by omega) ?_))
  | ((with_reducible show rMod (V.int _) (V.int _) _ _); (with_reducible refine Lg.w_mod (by first | decide | omega) ?_))
  | ((with_reducible show rFdiv (V.int _) (V.int _) _ _); (with_reducible refine Lg.w_fdiv (by first | decide | omega) ?_))
  | (with_reducible apply Lg.w_band)
  | (with_reducible apply Lg.w_lt)
  | (with_reducible apply Lg.w_le)
  | (with_reducible apply Lg.w_gt)
  | (with_reducible apply Lg.w_ge)
  | (with_reducible apply Lg.w_eqI)
  | (with_reducible apply Lg.w_neI)
  | (with_reducible apply Lg.w_eqS)
  | (with_reducible apply Lg.w_neS)
  | (with_reducible apply Lg.w_isN)
  | (with_reducible apply Lg.w_isR)
  | (with_reducible apply Lg.w_isI)
  | (with_reducible apply Lg.w_isS)
  | (with_reducible apply Lg.w_nsN)
  | (with_reducible apply Lg.w_nsR)
  | (with_reducible apply Lg.w_nsI)
  | (with_reducible apply Lg.w_nsS)
  | (with_reducible apply Lg.w_int)
  | (with_reducible apply Lg.w_intb)
  | (with_reducible apply Lg.w_ord1)
  | (with_reducible apply Lg.w_tyS)
  | (with_reducible apply Lg.w_inSg)
  | (with_reducible apply Lg.w_ninSg)
  | ((with_reducible show NewL _ _ _); (with_reducible refine Lg.w_newL (by assumption) (by walk_at "isall") (by simp) ?_); (intro p' H' hS'))
  | ((with_reducible show NewT _ _ _); (with_reducible refine Lg.w_newT (by assumption) (by walk_at "isall") (by simp) ?_); (intro p' H' hS'))
  | ((with_reducible show TyThen _ _ (V.ref _) _ _); (with_reducible refine Lg.w_tyL (by assumption) (by walk_at "lsin") ?_))
  | ((with_reducible show rLenX _ [V.ref _] _ _); (with_reducible refine Lg.w_lenL (by assumption) (by walk_at "lsin") ?_))
  | ((with_reducible show rLenX _ [V.ref _] _ _); (with_reducible refine Lg.w_lenT (by assumption) (by walk_at "is") ?_))
  | ((with_reducible show spDraw _ _ _ _ _); (with_reducible refine Lg.w_draw (by assumption) (by walk_at "mem") (by first | decide | omega) ?_); (intro k' H' hk0' hk1' hS'))
  | ((with_reducible show rSlX _ (V.ref _) _ _ _ _); (with_reducible refine Lg.w_slL (by assumption) (by walk_at "lsin") ?_); (intro p' H' hS'))
  | ((with_reducible show rListOf _ [V.ref _] _ _); (with_reducible refine Lg.w_listL (by assumption) (by walk_at "lsin") ?_); (intro p' H' hS'))
  | (with_reducible apply Lg.w_for)
  | (with_reducible apply Lg.w_lc)
  | ((with_reducible show iAny _ (tVar _) _ _ _); (with_reducible refine Lg.w_anyVar (by walk_at "gt") ?_))
  | (with_reducible apply Lg.w_anyC)
  | (with_reducible apply Lg.w_vS)
  | (with_reducible apply Lg.w_itS)
  | ((with_reducible show AnyV _ (V.ref _) _ _); (with_reducible refine Lg.w_vL (by assumption) (by walk_at "lsin") ?_))
  | ((with_reducible show AnyL _ (V.ref _) _ _); (with_reducible refine Lg.w_itL (by assumption) (by walk_at "lsin") ?_))
  | ((with_reducible show AnyV _ (V.ref _) _ _); (with_reducible refine Lg.w_vT (by assumption) (by walk_at "is") ?_))
  | ((with_reducible show AnyT _ (V.ref _) _ _); (with_reducible refine Lg.w_itT (by assumption) (by walk_at "is") ?_))
  | ((with_reducible show Enu _ [V.ref _] _ _); (with_reducible refine Lg.w_itE (by assumption) (by walk_at "lsin") ?_))
  | ((with_reducible show rPlus _ (V.ref _) (V.ref _) _ _); (with_reducible refine Lg.w_plusL (by assumption) (by walk_at "lsin") (by walk_at "lsin") (by walk_at "ar") ?_); (intro p' H' hS'))
  | ((with_reducible show rTimes (V.ref _) (V.int _) _ _); (with_reducible refine Lg.w_repLs (by assumption) (by walk_at "lsin") (by walk_at "ar") (by walk_at "ar") (by walk_at "ar") ?_); (intro p' H' hS'))
  | ((with_reducible show rLenX _ [V.str _] _ _); (with_reducible refine Lg.w_lenS (by walk_at "ar") ?_))
  | ((with_reducible show rSlX _ (V.str _) _ _ _ _); (with_reducible refine Lg.w_slS (by walk_at "ar") ?_))
  | (with_reducible apply Lg.w_rng1)
  | (with_reducible apply Lg.w_rng2)
  | (with_reducible apply Lg.w_rng3)
  | (with_reducible apply Lg.w_enum)
  | ((with_reducible show Rng1 _ _ _); (with_reducible refine Lg.w_itR1 (by omega) ?_))
  | ((with_reducible show Rng2 _ _ _); (with_reducible refine Lg.w_itR2 (by omega) (by omega) ?_))
  | (with_reducible apply Lg.w_ifexp)
  | (with_reducible apply Lg.w_chain)
  | ((with_reducible show ChainK _ _ _ _ _ _ _); (with_reducible refine Lg.w_chainLe (by (intro R' hR'; walk_at "w"; exact hR')) ?_))
  | ((with_reducible show ChainK _ _ _ _ _ _ _); (with_reducible refine Lg.w_chainLt (by (intro R' hR'; walk_at "w"; exact hR')) ?_))
  | ((with_reducible show tAnd _ _ _ _ _); (with_reducible refine Lg.w_andP (by (intro R' hR'; walk_at "w"; exact hR')) (by (intro hb' R' hR'; walk_at "w"; exact hR')) ?_))
  | ((with_reducible show tOr _ _ _ _ _); (with_reducible refine Lg.w_orP (by (intro R' hR'; walk_at "w"; exact hR')) (by (intro hb' R' hR'; walk_at "w"; exact hR')) ?_))
  | ((with_reducible show tAndV _ _ _ _ _); (with_reducible refine Lg.w_andVP (by (intro R' hR'; walk_at "w"; exact hR')) (by (intro hb' R' hR'; walk_at "w"; exact hR')) ?_))
  | ((with_reducible show tOrV _ _ _ _ _); (with_reducible refine Lg.w_orVP (by (intro R' hR'; walk_at "w"; exact hR')) (by (intro hb' R' hR'; walk_at "w"; exact hR')) ?_))
  | (with_reducible apply Lg.w_notV))
local macro_rules | `(tactic| walk_at "w") => `(tactic| repeat (walk_at "w1"))
section
variable {K : PySem.W.Frag}
def t_cell (K : PySem.W.Frag) : TS :=
    (tSeq (tIfS (tTest (tOp rLt (tVar 1) (tCB (rLenX K) (tCons (tVar 0) tNil)))) (tRet (tOp (rIx K) (tVar 0) (tVar 1))) tNext)
    (tRet (tC (.int 0))))
def t_digits (K : PySem.W.Frag) (sp_l_cell : Sp) : TS :=
    (tSeq (tAsg (tLst tNil) (gName 3))
    (tSeq (tFor (iRng2 (tCons (tVar 1) (tCons (tVar 2) tNil))) (gName 4) (tSeq (tAsg (tCall sp_l_cell [] C8.E0 (tCons (tVar 0) (tCons (tVar 4) tNil))) (gName 5))
    (C8.tCut (tIfS (tTest (tOp rLt (tVar 5) (tC (.int 0)))) (tAsg (tOp rMinus (tC (.int 1)) (tOp rTimes (tC (.int 2)) (tVar 5))) (gName 5)) tNext)
    (tIfS (tTest (tOp rGe (tVar 5) (tC (.int 1000000000000000000)))) (tFor (iRng1 (tCons (tC (.int 60)) tNil)) (gName 6) (tIfS (tTest (tOp rGt (tVar 5) (tC (.int 0)))) (tSeq (tDrop (tBM K "list" rAppend (tVar 3) (tCons (tOp rMod (tCB (rIntX) (tCons (tVar 5) tNil)) (tC (.int 1000))) tNil)))
    (tAsg (tOp rFdiv (tVar 5) (tC (.int 1000))) (gName 5))) tNext)) (tSeq (tAsg (tOp rMod (tCB (rIntX) (tCons (tOp (rPlus K) (tOp (rPlus K) (tOp rTimes (tVar 5) (tC (.int 40692))) (tOp rTimes (tVar 4) (tC (.int 52774)))) (tC (.int 17))) tNil)) (tC (.int 2147483399))) (gName 7))
    (tFor (iRng1 (tCons (tC (.int 12)) tNil)) (gName 6) (tSeq (tAsg (tOp rMod (tCB (rIntX) (tCons (tOp (rPlus K) (tOp (rPlus K) (tOp rTimes (tVar 7) (tC (.int 40014))) (tOp rTimes (tC (.int 5)) (tVar 6))) (tC (.int 3))) tNil)) (tC (.int 2147483563))) (gName 7))
    (tDrop (tBM K "list" rAppend (tVar 3) (tCons (tOp rMod (tCB (rIntX) (tCons (tOp rFdiv (tVar 7) (tC (.int 1009))) tNil)) (tC (.int 1000))) tNil))))))))))
    (tRet (tVar 3))))
def t_draw (K : PySem.W.Frag) : TS :=
    (tSeq (tAsg (tOp (rIx K) (tVar 0) (tC (.int 1))) (gName 2))
    (tSeq (tAsg (tOp (rPlus K) (tVar 2) (tC (.int 1))) (gSub (tVar 0) (tC (.int 1)) rSetL))
    (tSeq (tIfS (tTest (tOp rLt (tVar 2) (tCB (rLenX K) (tCons (tOp (rIx K) (tVar 0) (tC (.int 0))) tNil)))) (tRet (tOp rMod (tCB (rIntX) (tCons (tOp (rIx K) (tOp (rIx K) (tVar 0) (tC (.int 0))) (tVar 2)) tNil)) (tVar 1))) tNext)
    (tRet (tOp rMod (tCB (rIntX) (tCons (tOp (rPlus K) (tOp rTimes (tVar 2) (tC (.int 7))) (tC (.int 3))) tNil)) (tVar 1))))))
/-- some int -/
def spCell (K : PySem.W.Frag) : Sp := fun vs H Q _ => ∃ (a : Addr) (ns : List Int) (k : Int), vs = [.ref a, .int k] ∧ SqL K H a (ns.map V.int) ∧ 0 ≤ k ∧ ∀ n, Q (.int n) H
theorem p_cell (vs : List V) (H : Hp) (Q : VK) (E : XK) (h : spCell K vs H Q E) : vs.length = 2 ∧ t_cell K { nx := fun _ H' => Q .non H', rt := Q } (start ["_law_script", "_law_k"] vs) H := by
  obtain ⟨a, ns, k, rfl, hS, hk, hQ⟩ := h
  refine ⟨rfl, ?_⟩
  unfold t_cell
  show tSeq _ _ _ [some (.ref a), some (.int k)] H
  walk_at "w"
  refine ⟨.ref a, ns.length, rfl, .inl ⟨_, hS, by simp⟩, ?_⟩
  walk_at "w"
  refine w_ifd (fun h => ?_) (fun h => ?_)
  · walk_at "w"
    obtain ⟨j, rfl⟩ := Int.eq_ofNat_of_zero_le hk
    have hj : j < ns.length := by omega
    exact .inl ⟨a, _, _, .int ns[j], rfl, rfl, hS, atI_nat (by simp [hj]), hQ _⟩
  · walk_at "w"
    exact hQ 0
/-- some list of ints -/
def spDigits (K : PySem.W.Frag) : Sp := fun vs H Q _ => ∃ (L : List Ent) (a : Addr) (ns : List Int) (i j : Int), vs = [.ref a, .int i, .int j] ∧ St K L H ∧ Ent.fact (.seq K a ns) ∈ L ∧ 0 ≤ i ∧ i ≤ 100 ∧ -100 ≤ j ∧ j ≤ 100 ∧
  ∀ (p : Addr) (ms : List Int) (H' : Hp), St K (Lg.ls K p (ms.map PyData.int) :: L) H' → Q (.ref p) H'
theorem St.fact_of {L : List Ent} {H : Hp} {φ : Fr} (h : St K L H) (m : Ent.fact φ ∈ L) : φ.p H := by
  obtain ⟨F, h1, h2⟩ := h.ex
  exact φ.mono _ _ h1 (h2 _ m)
theorem p_digits (vs : List V) (H : Hp) (Q : VK) (E : XK) (h : spDigits K vs H Q E) :
    vs.length = 3 ∧ t_digits K (spCell K) { nx := fun _ H' => Q .non H', rt := Q } (start ["_law_script", "_law_first", "_law_last", "_law_digits_here", "_law_k", "_law_cell_here", "_law_turn", "_law_seed"] vs) H := by
  obtain ⟨L, a, ns, i, j, rfl, hS, hm, hi0, hi1, hj0, hj1, hQ⟩ := h
  refine ⟨rfl, ?_⟩
  unfold t_digits
  show tSeq _ _ _ [some (.ref a), some (.int i), some (.int j), none, none, none, none, none] H
  walk_at "w"
  rename_i p H1 hS1
  refine w_forR (fun n σ H' => ∃ (ms : List Int) (v4 v5 v6 v7 : Option V), σ = [some (.ref a), some (.int i), some (.int j), some (.ref p), v4, v5, v6, v7] ∧ St K (Lg.ls K p (ms.map PyData.int) :: L) H' ∧ ms.length ≤ 60 * n) ?_ ?_ ?_
  · exact ⟨[], _, _, _, _, rfl, hS1, by simp⟩
  · rintro n σ H' hn ⟨ms, v4, v5, v6, v7, rfl, hS1, hl⟩
    walk_at "w"
    refine ⟨a, ns, i + n, rfl, (hS1.tail).fact_of hm, by omega, fun c => ?_⟩
    walk_at "w"
    refine w_cut (fun σ H2 => ∃ (c : Int), σ = [some (.ref a), some (.int i), some (.int j), some (.ref p), some (.int (i + n)), some (.int c), v6, v7] ∧ H2 = H') ?_ ?_
    · walk_at "w"
      refine w_ifd (fun h => ?_) (fun h => ?_)
      · walk_at "w"
        exact ⟨_, rfl, rfl⟩
      · walk_at "w"
        exact ⟨_, rfl, rfl⟩
    · rintro σ H2 ⟨c, rfl, rfl⟩
      walk_at "w"
      refine w_ifd (fun h => ?_) (fun h => ?_)
      · walk_at "w"
        refine w_forR (fun m σ H' => ∃ (ms : List Int) (c : Int) (v6 : Option V), σ = [some (.ref a), some (.int i), some (.int j), some (.ref p), some (.int (i + n)), some (.int c), v6, v7] ∧ St K (Lg.ls K p (ms.map PyData.int) :: L) H' ∧ ms.length ≤ 60 * n + m) ?_ ?_ ?_
        · exact ⟨ms, c, _, rfl, hS1, by omega⟩
        · rintro m σ H' hm' ⟨ms, c, v6, rfl, hS1, hl⟩
          replace hm' : m < 60 := hm'
          walk_at "w"
          refine w_ifd (fun h => ?_) (fun h => ?_)
          · walk_at "w"
            refine w_app hS1 .here (d := .int (c % 1000)) .int (by simp; omega) fun H2 hS2 => ?_
            walk_at "w"
            exact ⟨ms ++ [c % 1000], _, _, rfl, by simpa using hS2, by simp; omega⟩
          · walk_at "w"
            exact ⟨ms, c, _, rfl, hS1, by omega⟩
        · rintro σ H' ⟨ms, c, v6, rfl, hS1, hl⟩
          replace hl : ms.length ≤ 60 * n + 60 := hl
          exact ⟨ms, _, _, _, _, rfl, hS1, by omega⟩
      · walk_at "w"
        refine w_forR (fun m σ H' => ∃ (ms : List Int) (c : Int) (v5 v6 : Option V), σ = [some (.ref a), some (.int i), some (.int j), some (.ref p), some (.int (i + n)), v5, v6, some (.int c)] ∧ St K (Lg.ls K p (ms.map PyData.int) :: L) H' ∧ ms.length ≤ 60 * n + m) ?_ ?_ ?_
        · exact ⟨ms, _, _, _, rfl, hS1, by omega⟩
        · rintro m σ H' hm' ⟨ms, c, v5, v6, rfl, hS1, hl⟩
          replace hm' : m < 12 := hm'
          walk_at "w"
          refine w_app hS1 .here (d := .int _) .int (by simp; omega) fun H2 hS2 => ?_
          walk_at "w"
          exact ⟨ms ++ [_], _, _, _, rfl, by simpa using hS2, by simp; omega⟩
        · rintro σ H' ⟨ms, c, v5, v6, rfl, hS1, hl⟩
          replace hl : ms.length ≤ 60 * n + 12 := hl
          exact ⟨ms, _, _, _, _, rfl, hS1, by omega⟩
  · rintro σ H' ⟨ms, v4, v5, v6, v7, rfl, hS1, hl⟩
    walk_at "w"
    exact hQ p ms H' hS1
theorem p_draw (vs : List V) (H : Hp) (Q : VK) (E : XK) (h : spDraw K vs H Q E) : vs.length = 2 ∧ t_draw K { nx := fun _ H' => Q .non H', rt := Q } (start ["_law_box", "_law_many", "_law_at"] vs) H := by
  obtain ⟨L, b, m, rfl, hS, hb, hm, hQ⟩ := h
  refine ⟨rfl, ?_⟩
  unfold t_draw
  show tSeq _ _ _ [some (.ref b), some (.int m), none] H
  obtain ⟨F, o, h1, h2, h3, d, at_, ns, rfl, h4, h5⟩ := hS.cell hb
  have hd : H d = some (.lst (ns.map V.int)) := h1 _ _ h5
  have hne : d ≠ b := fun z => by rw [z, h2] at h5; cases h5
  walk_at "w"
  refine .inl ⟨b, _, 1, .int at_, rfl, rfl, SqL.of h3, rfl, ?_⟩
  walk_at "w"
  refine ⟨b, _, 1, 1, rfl, rfl, h3, rfl, ?_⟩
  have hS2 : St K L (upd H b (.lst [.ref d, .int (at_ + 1)])) := hS.turn hb fun F' x e hx hφ => by
    obtain ⟨d', at', ns', rfl, q1, q2⟩ := hφ
    rw [h3] at hx
    cases hx
    exact ⟨_, _, _, rfl, by omega, q2⟩
  show tSeq _ _ _ _ (upd H b (.lst [.ref d, .int (at_ + 1)]))
  have hd2 : (upd H b (.lst [.ref d, .int (at_ + 1)])) d = some (.lst (ns.map V.int)) := by rw [upd_ne hne]; exact hd
  have hb2 : (upd H b (.lst [.ref d, .int (at_ + 1)])) b = some (.lst [.ref d, .int (at_ + 1)]) := upd_same
  revert hS2 hd2 hb2
  generalize upd H b (.lst [.ref d, .int (at_ + 1)]) = H2
  intro hS2 hd2 hb2
  walk_at "w"
  refine .inl ⟨b, _, 0, .ref d, rfl, rfl, SqL.of hb2, rfl, ?_⟩
  walk_at "w"
  refine ⟨.ref d, ns.length, rfl, .inl ⟨_, SqL.of hd2, by simp⟩, ?_⟩
  walk_at "w"
  refine w_ifd (fun h => ?_) (fun h => ?_)
  · walk_at "w"
    refine .inl ⟨b, _, 0, .ref d, rfl, rfl, SqL.of hb2, rfl, ?_⟩
    walk_at "w"
    obtain ⟨j, rfl⟩ := Int.eq_ofNat_of_zero_le h4
    have hj : j < ns.length := by omega
    refine .inl ⟨d, _, _, .int ns[j], rfl, rfl, SqL.of hd2, atI_nat (by simp [hj]), ?_⟩
    walk_at "w"
    exact hQ _ _ (Int.emod_nonneg _ (by omega)) (Int.emod_lt_of_pos _ hm) hS2
  · walk_at "w"
    exact hQ _ _ (Int.emod_nonneg _ (by omega)) (Int.emod_lt_of_pos _ hm) hS2
/-- [digits, 0]: the box -/
theorem w_newBox {L : List Ent} {H : Hp} {a : Addr} {ms : List Int} {Q : VK} (hS : St K (Lg.ls K a (ms.map PyData.int) :: L) H) (h : ∀ p H', St K (bx K p :: L) H' → Q (.ref p) H') : NewL [.ref a, .int 0] H Q := by
  refine ⟨by show 2 ≤ sizeLine; decide, fun p hp => h p _ ?_⟩
  have h1 := (hS.freeze).alloc (φ := .box K) (o := .lst [.ref a, .int 0]) hp fun F e q => by
    have h2 : Dv K F (.ref a) (.list (ms.map PyData.int)) := q _ (.head _)
    cases h2 with
    | lst g1 g2 => exact ⟨a, 0, ms, rfl, Int.le_refl _, by rw [← g2.ints_inv]; exact g1⟩
  exact h1.to (.cons .here (.drop .refl))
end
end Lg

/-! Texts as lists of codes; data that fits. -/
namespace Lg
open PySem PySem.Spec PyProof.Rows L2
abbrev S (l : List Nat) : Str := ⟨l.toArray⟩
theorem S_tl (l : List Nat) : (S l).cps.toList = l := rfl
theorem S_len (l : List Nat) : (S l).length = l.length := by simp [S, Str.length]
theorem S_app (a b : List Nat) : S a ++ S b = S (a ++ b) := SX.S_cat a b
theorem S_one (c : Nat) : (⟨#[c]⟩ : Str) = S [c] := rfl
theorem S_nil : ("" : Str) = S [] := by decide +kernel
theorem S_inj {a b : List Nat} (h : S a = S b) : a = b := congrArg (fun x : Str => x.cps.toList) h
theorem S_of (x : Str) : x = S x.cps.toList := by cases x; simp [S]
theorem sIx_nat' (n d k : Nat) (z : Int) (h : z = (k : Int)) : HT.sIx n d (some z) = min k n := by rw [h, HT.sIx_nat]
theorem cut_gen {α : Type} (l : List α) (a b : Nat) : (l.drop (min a l.length)).take (min b l.length - min a l.length) = (l.drop a).take (b - a) := by
  by_cases h : a ≤ l.length
  · rw [Nat.min_eq_left h]
    by_cases h2 : b ≤ l.length
    · rw [Nat.min_eq_left h2]
    · have h3 : l.length ≤ b := by omega
      rw [Nat.min_eq_right h3, List.take_of_length_le (l := l.drop a) (i := b - a) (by rw [List.length_drop]; omega), List.take_of_length_le (by rw [List.length_drop]; omega)]
  · have h3 : l.length ≤ a := by omega
    rw [Nat.min_eq_right h3, List.drop_of_length_le (Nat.le_refl _), List.drop_of_length_le h3]
    simp
theorem cutS_nn {l : List Nat} {i j : Int} {a b : Nat} (hi : i = (a : Int)) (hj : j = (b : Int)) : cutS (S l) (some i) (some j) = S ((l.drop a).take (b - a)) := by
  unfold cutS
  rw [S_len, sIx_nat' _ _ a _ hi, sIx_nat' _ _ b _ hj]
  show S ((l.drop (min a l.length)).take (min b l.length - min a l.length)) = S _
  rw [cut_gen]
theorem cutD_nn {ds : List PyData} {i j : Int} {a b : Nat} (hi : i = (a : Int)) (hj : j = (b : Int)) : cutD ds (some i) (some j) = (ds.drop a).take (b - a) := by
  unfold cutD
  rw [sIx_nat' _ _ a _ hi, sIx_nat' _ _ b _ hj, cut_gen]
theorem cutD_no {ds : List PyData} {j : Int} {b : Nat} (hj : j = (b : Int)) : cutD ds none (some j) = ds.take b := by
  unfold cutD
  rw [sIx_nat' _ _ b _ hj, HT.sIx_none]
  have := cut_gen ds 0 b
  simpa using this
theorem cutD_on {ds : List PyData} {i : Int} {a : Nat} (hi : i = (a : Int)) : cutD ds (some i) none = ds.drop a := by
  unfold cutD
  rw [sIx_nat' _ _ a _ hi, HT.sIx_none]
  by_cases h : a ≤ ds.length
  · rw [Nat.min_eq_left h, List.take_of_length_le (by rw [List.length_drop]; omega)]
  · have h3 : ds.length ≤ a := by omega
    rw [Nat.min_eq_right h3, List.drop_of_length_le (Nat.le_refl _), List.drop_of_length_le h3]
    simp
theorem cutD_all {ds : List PyData} : cutD ds none none = ds := by
  unfold cutD
  simp [HT.sIx_none]
theorem rgc_24 {n : Nat} (hn : n ≤ 100000) : RgC 0 (n : Int) 24 ((n + 23) / 24) := by
  refine ⟨by decide, by decide, ?_, ?_⟩
  · unfold Builtin.Range.small Builtin.Range.rangeSize Builtin.Range.rangeFitsLong
    simp
    omega
  · unfold Builtin.Range.rangeSize
    rw [if_pos (by decide)]
    by_cases h : (0 : Int) < n
    · rw [if_pos h]; omega
    · rw [if_neg h]; omega
/-! data of a depth -/
def Fit (n : Nat) (d : PyData) : Prop := d.canLay0 = true ∧ d.depth ≤ n
theorem Fit.shaped {n : Nat} {d : PyData} (h : Fit n d) (hn : n ≤ 64 := by decide) : SeqAt.shaped d = true := by
  show (d.canLay0 && decide (d.depth ≤ 64)) = true
  rw [h.1, Bool.true_and]
  exact decide_eq_true (Nat.le_trans h.2 hn)
theorem Fit.mono {n m : Nat} {d : PyData} (h : Fit n d) (hm : n ≤ m) : Fit m d := ⟨h.1, Nat.le_trans h.2 hm⟩
theorem fit_int (n : Nat) (i : Int) : Fit n (.int i) := ⟨by simp [PyData.canLay0], by simp [PyData.depth]⟩
theorem fit_bool (n : Nat) (i : Bool) : Fit n (.bool i) := ⟨by simp [PyData.canLay0], by simp [PyData.depth]⟩
theorem fit_none (n : Nat) : Fit n .none := ⟨by simp [PyData.canLay0], by simp [PyData.depth]⟩
/-- all codes below 1114112 -/
def Asc (l : List Nat) : Prop := ∀ c ∈ l, c < 1114112
theorem fit_str (n : Nat) {l : List Nat} (h : Asc l) : Fit n (.str (S l)) := by
  refine ⟨?_, by simp [PyData.depth]⟩
  simp only [PyData.canLay0, PyData.strOk]
  rw [← Array.all_toList, List.all_eq_true]
  intro c hc
  exact decide_eq_true (h c hc)
theorem layAll {ds : List PyData} {n : Nat} (h : ∀ d ∈ ds, Fit n d) : PyData.canLayAll0 ds = true ∧ PyData.depthAll ds ≤ n := by
  induction ds with
  | nil => exact ⟨by simp [PyData.canLayAll0], by simp [PyData.depthAll]⟩
  | cons d ds ih =>
    obtain ⟨h1, h2⟩ := ih fun d hd => h d (.tail _ hd)
    obtain ⟨h3, h4⟩ := h d (.head _)
    exact ⟨by simp [PyData.canLayAll0, h1, h3], by simp [PyData.depthAll]; omega⟩
theorem fit_list {n : Nat} {ds : List PyData} (h : ∀ d ∈ ds, Fit n d) : Fit (n + 1) (.list ds) := by
  obtain ⟨h1, h2⟩ := layAll h
  exact ⟨by simp only [PyData.canLay0]; exact h1, by simp only [PyData.depth]; omega⟩
theorem fit_tuple {n : Nat} {ds : List PyData} (h : ∀ d ∈ ds, Fit n d) : Fit (n + 1) (.tuple ds) := by
  obtain ⟨h1, h2⟩ := layAll h
  exact ⟨by simp only [PyData.canLay0]; exact h1, by simp only [PyData.depth]; omega⟩
theorem fit_ints (n : Nat) (ns : List Int) : Fit (n + 1) (.list (ns.map PyData.int)) := fit_list fun d hd => by
  obtain ⟨i, _, rfl⟩ := List.mem_map.mp hd
  exact fit_int n i
theorem Asc.drop {l : List Nat} (h : Asc l) (n : Nat) : Asc (l.drop n) := fun c hc => h c (List.mem_of_mem_drop hc)
theorem Asc.take {l : List Nat} (h : Asc l) (n : Nat) : Asc (l.take n) := fun c hc => h c (List.mem_of_mem_take hc)
theorem Asc.app {l m : List Nat} (h : Asc l) (h' : Asc m) : Asc (l ++ m) := fun c hc => (List.mem_append.mp hc).elim (h c) (h' c)
theorem Asc.rep {l : List Nat} (h : Asc l) (n : Nat) : Asc (repL l n) := fun c hc => by
  unfold repL at hc
  obtain ⟨a, ha, hc⟩ := List.mem_flatten.mp hc
  rw [List.eq_of_mem_replicate ha] at hc
  exact h c hc
theorem repL_len (l : List Nat) (n : Nat) : (repL l n).length = n * l.length := by simp [repL]
theorem repD_one (d : PyData) : ∀ n, (List.replicate n [d]).flatten = List.replicate n d
  | 0 => rfl
  | n + 1 => by rw [List.replicate_succ, List.flatten_cons, repD_one d n]; rfl
theorem rep_ints (i : Int) (n : Nat) : List.replicate n (PyData.int i) = (List.replicate n i).map PyData.int := by simp
theorem joinL_one : ∀ l : List Nat, TL.joinL [] (l.map fun c => [c]) = l
  | [] => rfl
  | [_] => rfl
  | c :: d :: l => by
    have := joinL_one (d :: l)
    show [c] ++ ([] ++ TL.joinL [] ((d :: l).map fun c => [c])) = _
    rw [this]; rfl
theorem join_one (l : List Nat) : Txt.join (S []) (l.map fun c => S [c]) = S l := by
  have := SX.join_S [] (l.map fun c => [c])
  rw [joinL_one, List.map_map] at this
  exact this
/-- a list is its items by place -/
theorem list_by {ds : List PyData} {n : Nat} {f : Nat → PyData} (hl : ds.length = n) (h : ∀ (i : Nat) (e : PyData), ds[i]? = some e → e = f i) : ds = (List.range n).map f := by
  apply List.ext_getElem?
  intro i
  by_cases hi : i < n
  · have h1 : ds[i]? = some ds[i] := by simp [hl, hi]
    rw [h1, h i _ h1]
    simp [hi]
  · rw [List.getElem?_eq_none (by omega), List.getElem?_eq_none (by simp; omega)]
section
variable {K : PySem.W.Frag} {L : List Ent} {H : Hp} {σ : L2.St} {Q : VK} {a : Addr} {i : Int} {n : Nat}
theorem w_ixN {ns : List Int} (hS : St K L H) (hl : LsIn K L a (ns.map PyData.int)) (h0 : 0 ≤ i) (h1 : i < ns.length) (h : Q (.int (ns.getD i.toNat 0)) H) : rIx K (.ref a) (.int i) H Q := by
  have hk : i.toNat < ns.length := by omega
  exact w_ixLi (k := i.toNat) hS hl (by omega) (by simp [List.getD_eq_getElem?_getD, hk]) h
theorem w_ixSg {l : List Nat} {c : Nat} (hl : l.length ≤ 100000) (h0 : 0 ≤ i) (hc : l[i.toNat]? = some c) (h : Q (.str (S [c])) H) : rIx K (.str (S l)) (.int i) H Q :=
  w_ixS (k := i.toNat) (by rw [S_len]; exact hl) (by omega) (by simpa using hc) h
theorem w_unpLi {ns : List Int} {tgs : TGs} {R : L2.St → Hp → Prop} (hS : St K L H) (hl : LsIn K L a (ns.map PyData.int)) (hn : ns.length = n) (h : tgs (ns.map V.int) σ H R) : gUnp K n tgs (.ref a) σ H R := by
  obtain ⟨F, xs, h1, h2, h3, h4⟩ := hS.lsin hl
  have e := h4.ints_inv
  subst e
  exact .inr ⟨a, _, rfl, SqL.of h3, by simpa using hn, h⟩
theorem w_addSS {y z : List Nat} (hl : y.length + z.length ≤ 100000) (h : Q (.str (S (y ++ z))) H) : rPlus K (.str (S y)) (.str (S z)) H Q :=
  w_addS (by rw [S_len, S_len]; exact hl) (by rw [S_app]; exact h)
theorem w_repSS {z : List Nat} (h0 : 0 ≤ i) (h1 : i ≤ 100000) (h2 : z.length ≤ 100) (h : Q (.str (S (repL z i.toNat))) H) : rTimes (.str (S z)) (.int i) H Q :=
  w_repS h0 h1 (by rw [S_len]; exact h2) h
theorem w_lenSS {l : List Nat} (hl : l.length ≤ 100000) (h : Q (.int l.length) H) : rLenX K [.str (S l)] H Q := w_lenS (by rw [S_len]; exact hl) (by rw [S_len]; exact h)
theorem w_eqSS {x y : List Nat} (h : Q (.bl (decide (x = y))) H) : rEqX K (.str (S x)) (.str (S y)) H Q := w_eqS (by
  have : decide (S x = S y) = decide (x = y) := by
    by_cases e : x = y
    · simp [e]
    · rw [decide_eq_false e, decide_eq_false (fun q => e (S_inj q))]
  rw [this]; exact h)
theorem w_joinSS {z : List Nat} {ys : List (List Nat)} (hS : St K L H) (h1 : LsIn K L a (ys.map fun y => PyData.str (S y))) (hn : (ys.map (·.length)).sum + ys.length * z.length ≤ 100000) (h : Q (.str (S (TL.joinL z ys))) H) : rJoin K (.str (S z)) [.ref a] H Q := by
  refine w_join (ys := ys.map S) hS (by simpa [Function.comp_def] using h1) ?_ ?_
  · rw [S_len]
    simpa [Function.comp_def, S_len] using hn
  · rw [SX.join_S]; exact h
theorem kit_ll : kitB "list" "list" = some true := by decide +kernel
theorem kit_tt : kitB "tuple" "tuple" = some true := by decide +kernel
theorem kit_ii : kitB "int" "int" = some true := by decide +kernel
theorem kit_si : kitB "str" "int" = some false := by decide +kernel
theorem kit_ss : kitB "str" "str" = some true := by decide +kernel
theorem kit_is : kitB "int" "str" = some false := by decide +kernel
theorem w_isLL {ds : List PyData} (hS : St K L H) (hl : LsIn K L a ds) (h : Q (.bl true) H) : rIsi K [.ref a, .ty "list"] H Q := w_isiL hS hl kit_ll h
theorem w_isTT {ds : List PyData} (hS : St K L H) (hl : Is L (.ref a) (.tuple ds)) (h : Q (.bl true) H) : rIsi K [.ref a, .ty "tuple"] H Q := w_isiT hS hl kit_tt h
theorem w_isII (h : Q (.bl true) H) : rIsi K [.int i, .ty "int"] H Q := w_isiI kit_ii h
theorem w_isSI {z : Str} (h : Q (.bl false) H) : rIsi K [.str z, .ty "int"] H Q := w_isiS kit_si h
theorem w_isSS {z : Str} (h : Q (.bl true) H) : rIsi K [.str z, .ty "str"] H Q := w_isiS kit_ss h
theorem w_isIS (h : Q (.bl false) H) : rIsi K [.int i, .ty "str"] H Q := w_isiI kit_is h
/-- some int item, with a property of all -/
theorem w_ixLP {ds : List PyData} {P : Int → Prop} (hS : St K L H) (hl : LsIn K L a ds) (h0 : 0 ≤ i) (h1 : i < ds.length) (hP : ∀ d ∈ ds, ∃ m, d = .int m ∧ P m) (h : ∀ m, P m → Q (.int m) H) : rIx K (.ref a) (.int i) H Q := by
  have hk : i.toNat < ds.length := by omega
  obtain ⟨m, hm, hp⟩ := hP ds[i.toNat] (List.getElem_mem hk)
  exact w_ixLi (k := i.toNat) hS hl (by omega) (by rw [List.getElem?_eq_getElem hk, hm]) (h m hp)
/-- the law begins -/
theorem St.begin {ns : List Int} (hO : Only H) (hs : SqL K H a (ns.map V.int)) : St K [Ent.fact (.seq K a ns)] H := by
  refine ⟨⟨H, Ex.rfl, fun e he => ?_⟩, List.nodup_nil⟩
  cases he with
  | head => exact hs
  | tail _ he => cases he
end
end Lg

/-! Raw lists that are owned, lists of owned lists, comprehensions with a test, truth values compared. -/
namespace Lg
open PySem PySem.Spec PyProof.Rows L2
section
variable {K : PySem.W.Frag} {L L' : List Ent} {H : Hp} {σ : L2.St} {Q : VK} {a b : Addr} {i : Int} {k : Nat} {v : V} {xs : List V} {tt : TT} {te : TE} {g : TG} {vs : List Nat}
theorem w_appR (hS : St K L H) (hp : Put L (Lg.own a (.lst xs)) (Lg.own a (.lst (xs ++ [v]))) L') (hn : xs.length ≤ 100000) (h : ∀ H', St K L' H' → Q .non H') : rAppend (.ref a) [v] H Q := by
  have h3 := hS.own hp.mem
  exact ⟨a, xs, v, rfl, rfl, h3, Nat.lt_of_le_of_lt hn (by decide), h _ (hS.writeP hp fun _ _ _ _ _ _ => rfl)⟩
theorem w_tyR {P : Prop} (hS : St K L H) (hm : Lg.own a (.lst xs) ∈ L) (h : P) : TyThen K "list" (.ref a) H P := ⟨.inl ⟨rfl, _, SqL.of (hS.own hm)⟩, h⟩
theorem w_ixR (hS : St K L H) (hm : Lg.own a (.lst xs) ∈ L) (hk : i = (k : Int)) (hx : xs[k]? = some v) (h : Q v H) : rIx K (.ref a) (.int i) H Q :=
  .inl ⟨a, xs, i, v, rfl, rfl, SqL.of (hS.own hm), by rw [hk]; exact at_of rfl hx, h⟩
theorem w_lenR (hS : St K L H) (hm : Lg.own a (.lst xs) ∈ L) (h : Q (.int xs.length) H) : rLenX K [.ref a] H Q :=
  ⟨.ref a, xs.length, rfl, .inl ⟨xs, SqL.of (hS.own hm), rfl⟩, h⟩
theorem w_setLi {ns : List Int} {m : Int} (hS : St K L H) (hp : Put L (Lg.ls K a (ns.map PyData.int)) (Lg.ls K a ((ns.set i.toNat m).map PyData.int)) L') (h0 : 0 ≤ i) (hn : i < ns.length) {R : Hp → Prop} (h : ∀ H', St K L' H' → R H') : rSetL (.ref a) (.int i) (.int m) H R :=
  w_setL (k := i.toNat) (d := .int m) hS (by rw [List.map_set] at hp; exact hp) .int (by omega) (by simp; omega) h
theorem w_setRaw {j : Nat} (hS : St K L H) (hp : Put L (Lg.own a (.lst xs)) (Lg.own a (.lst (xs.set j v))) L') (hj : i = (j : Int)) (hn : j < xs.length) {R : Hp → Prop} (h : ∀ H', St K L' H' → R H') : rSetL (.ref a) (.int i) v H R := by
  refine ⟨a, xs, i, j, rfl, rfl, hS.own hp.mem, ?_, h _ (hS.writeP hp fun _ _ _ _ _ _ => rfl)⟩
  rw [hj]
  unfold ixN
  rw [if_pos (by omega), if_pos (by omega)]
  simp
theorem dB (x y : Bool) : decide (V.bl x = V.bl y) = decide (x = y) := by cases x <;> cases y <;> decide
theorem w_eqB {x y : Bool} (h : Q (.bl (decide (x = y))) H) : rEqX K (.bl x) (.bl y) H Q := .inl ⟨rfl, by rw [dB]; exact h⟩
theorem w_neB {x y : Bool} (h : Q (.bl (!decide (x = y))) H) : rNeX K (.bl x) (.bl y) H Q := .inl ⟨rfl, by rw [dB]; exact h⟩
theorem See.ls {ds : List PyData} (h : LsIn K L a ds) : See K L (.ref a) (.list ds) := by
  cases h with
  | own m => exact .own m
  | dat m => exact .is (.dat m)
theorem St.raw0 (h : St K (Lg.ls K a [] :: L) H) : St K (Lg.own a (.lst []) :: L) H := h.data .here fun F x _ _ _ hφ => by
  obtain ⟨xs, rfl, hx⟩ := hφ
  have := hx.len
  cases xs with
  | nil => rfl
  | cons x xs => simp at this
/-- owned lists of ints, side by side -/
def lsL (K : PySem.W.Frag) (bs : List Addr) (ds : List (List Int)) : List Ent := List.zipWith (fun b (d : List Int) => Lg.ls K b (d.map PyData.int)) bs ds
theorem St.dropA : ∀ {A : List Ent}, St K (A ++ L) H → St K L H
  | [], h => h
  | _ :: _, h => St.dropA (St.tail h)
theorem St.pickL {bs : List Addr} {ds : List (List Int)} {d : List Int} (h : St K (lsL K bs ds ++ L) H) (hb : bs[k]? = some b) (hd : ds[k]? = some d) : St K (Lg.ls K b (d.map PyData.int) :: L) H := by
  have he : (lsL K bs ds)[k]? = some (Lg.ls K b (d.map PyData.int)) := by
    unfold lsL
    rw [List.getElem?_zipWith, hb, hd]
  obtain ⟨hk, e⟩ := List.getElem?_eq_some_iff.mp he
  have h1 : lsL K bs ds = (lsL K bs ds).take k ++ Lg.ls K b (d.map PyData.int) :: (lsL K bs ds).drop (k + 1) := by
    rw [← e, List.getElem_cons_drop, List.take_append_drop]
  rw [h1, List.append_assoc] at h
  have h2 := h.dropA
  have h3 : St K ((lsL K bs ds).drop (k + 1) ++ (Lg.ls K b (d.map PyData.int) :: L)) H := h2.perm (by
    rw [List.cons_append]
    exact List.perm_middle.symm)
  exact h3.dropA
theorem lsL_snoc {bs : List Addr} {ds : List (List Int)} {d : List Int} (h : bs.length = ds.length) : lsL K (bs ++ [b]) (ds ++ [d]) = lsL K bs ds ++ [Lg.ls K b (d.map PyData.int)] := by
  unfold lsL
  rw [List.zipWith_append h]
  rfl
/-- [x for x in ints if test] -/
theorem w_lcFI {ns : List Int} (p : Int → Bool) (hS : St K L H) (hl : LsIn K L a (ns.map PyData.int)) (hn : ns.length ≤ 100000)
    (hs : ∀ (n : Int) (H : Hp) (Z1 : VK) (Z2 : Hp → Prop), (p n = true → Z1 (.int n) H) → (p n = false → Z2 H) → g (.int n) (wipe σ vs) H fun σ2 H2 => wipe σ2 vs = wipe σ vs ∧ tt σ2 H2 fun b H3 => if b = true then te σ2 H3 Z1 else Z2 H3)
    (h : ∀ q H', St K (.cell q (.ls K ((ns.filter p).map PyData.int)) :: L) H' → Q (.ref q) H') : LcW (Itl K a) g tt te vs σ H Q := by
  intro q hq
  refine ⟨fun i m H => m = ns.length - i ∧ i ≤ ns.length ∧ St K (.cell q (.ls K (((ns.take i).filter p).map PyData.int)) :: L) H, ⟨ns.length, by simp, Nat.zero_le _, hS.alloc hq fun F _ _ => ⟨[], rfl, .nil⟩⟩, ?_⟩
  rintro i m H ⟨rfl, hi, hS1⟩
  by_cases hlt : i < ns.length
  · obtain ⟨xs, v, h3, h5, _, h6⟩ := hS1.item hl.cons (k := i) (d := .int ns[i]) (by simp [hlt])
    obtain rfl := h6.int_of
    refine .inr ⟨⟨xs, .int ns[i], SqL.of h3, h5⟩, fun H' => i + 1 ≤ ns.length ∧ St K (.cell q (.ls K (((ns.take (i + 1)).filter p).map PyData.int)) :: L) H', fun H' w => ⟨ns.length - (i + 1), by omega, rfl, w⟩, fun x H' y => ?_⟩
    obtain ⟨rfl, y⟩ := y
    have hx := y xs (SqL.of h3)
    rw [h5] at hx
    have hvx := Option.some.inj hx
    subst hvx
    have e : ns.take (i + 1) = ns.take i ++ [ns[i]] := by rw [List.take_add_one]; simp [hlt]
    refine hs ns[i] H' _ _ (fun hp => ?_) fun hp => ?_
    · obtain ⟨F, ys, h1, h2, h7, h8⟩ := hS1.lsin (.own (.head _))
      refine ⟨ys, h7, ?_, by omega, ?_⟩
      · rw [h8.len]
        refine Nat.lt_of_le_of_lt ?_ (show 100000 < sizeLine by decide)
        rw [List.length_map]
        exact Nat.le_trans (List.length_filter_le _ _) (by simp; omega)
      · refine hS1.writeP (.here) fun F' x e2 q2 hx hφ => ?_
        obtain ⟨zs, rfl, hzs⟩ := hφ
        rw [h7] at hx
        cases hx
        refine ⟨_, rfl, ?_⟩
        rw [e, List.filter_append, List.map_append]
        have : [ns[i]].filter p = [ns[i]] := by simp [hp]
        rw [this]
        exact hzs.app (.cons (.int _) .nil)
    · refine ⟨by omega, ?_⟩
      rw [e, List.filter_append]
      have : [ns[i]].filter p = [] := by simp [hp]
      rw [this, List.append_nil]
      exact hS1
  · have e : i = ns.length := by omega
    subst e
    rw [List.take_length] at hS1
    obtain ⟨xs, h3, h4⟩ := hS1.lenl hl.cons
    exact .inl ⟨⟨xs, SqL.of h3, by rw [h4]; simp⟩, h q H hS1⟩
end
end Lg

/-! repr of data. HandS' promise of a def says nothing of the objects that are just being shown (Around.guards); here it does: FnG, its call, its end. -/
namespace Lg
open PySem PySem.Spec PyProof.Rows L2
/-- a def's promise where nothing is being shown -/
structure FnG (P : Program) (w : World) (K : PySem.W.Frag) (mg : Str → Option Value) (base : Heap) (CX : CXT) (k : Nat) (f : Addr) (fd : FuncData) (ps : List Str) (sp : Sp) : Prop where
  len : ∀ vs H Q E, sp vs H Q E → vs.length = ps.length
  run : ∀ (A : Around) (outer : List Env) (s : Shared) (H : Hp) (args : Args) (us : List Value) (vs : List V) (Q : VK) (E : XK), Room k A → A.guards = some [] → Env0 P w K mg base A outer s H → BindsTo s fd args (ps.zip us) → Vals vs us → sp vs H Q E →
    codeAny (model P w) A (.call (.ref f) args) (CR CX outer P w H s Q E) s
section
variable {P : Program} {w : World} {K : PySem.W.Frag} {mg : Str → Option Value} {base : Heap} {x qual : Str} {params : Arguments} {body : List Stmt} {scope : Scope} {dvs : List V} {kws : List (Str × V)} {f : Addr} {fd : FuncData}
theorem deeper_guards {A : Around} {env : Env} (h : A.guards = some []) : (A.deeper env).guards = some [] := h
theorem okG {CX : CXT} {N ps : List Str} {k : Nat} {sp : Sp} (F : FunD K x qual params body scope dvs kws f fd) (S : FnScope N ps scope) (len : ∀ vs H Q E, sp vs H Q E → vs.length = ps.length)
    (hbody : ∀ (cdv : Value) (A : Around) (outer : List Env) (s : Shared) (H : Hp) (vs : List V) (Q : VK) (E : XK), Room k (A.deeper (envOfC qual scope s.heap.objs.size f cdv)) → (A.deeper (envOfC qual scope s.heap.objs.size f cdv)).guards = some [] → sp vs H Q E →
      ∃ t, PSs (cxOf CX P w K mg base N qual scope f cdv A outer s H E) body t ∧ t { nx := fun _ H' => Q .non H', rt := Q } (start N vs) H) : FnG P w K mg base CX (k + 1) f fd ps sp := by
  obtain ⟨oc, od, dV, kV, doc, pm, an, cdv, ct, osl, rfl, lk, hcd, _, _⟩ := F.ex
  constructor
  · exact len
  intro A outer s H args us vs Q E room still e0 bind rel prom
  have known : K.In s.heap := e0.mod.kin.keeps fun b o e => (e0.bs b o e).1
  have kinds : ∀ y ∈ ps.zip us, scope.names.lookup y.1 = some .local ∨ (scope.names.lookup y.1 = some .cell ∧ ((cellsFrom (s.heap.objs.size + 1) scope.names []).lookup y.1).isSome = true) := by
    intro y hy
    rcases S.par y.1 (List.of_mem_zip hy).1 with q | q
    · exact .inl q
    · exact .inr ⟨q, PySem.W.cellsFrom_some _ _ _ (.inl q)⟩
  refine codeAny_call_function room.depth (known _ _ lk) rfl S.co S.gen rfl (PySem.W.codeRec_of known hcd) (bind _ _ _ _ ?_)
  refine wpAny_newFunctionEnv_cells S.kind kinds fun env he s1 ic => ?_
  subst he
  refine ⟨(e0.mod.nolimit.keeps fun b o e => (e0.bs b o e).1).keeps ic.toInCall.keep, codeAny_func ?_⟩
  obtain ⟨t, ht, hq⟩ := hbody cdv A outer s H vs Q E (room.deeper _) still prom
  refine wpAny_mono (ht.run [] s1 (start N vs) H _ (inv_start S room.hd e0 (len _ _ _ _ prom) rel ic) hq) (fun fl s' hs => ?_) fun e s' hs => hs
  cases fl with
  | ret u =>
    obtain ⟨v, _, H', J, rv, q⟩ := hs
    exact ⟨v, H', J.os, J.bare, J.base, J.hok, rv, q⟩
  | next =>
    obtain ⟨_, H', J, q⟩ := hs
    exact ⟨V.non, H', J.os, J.bare, J.base, J.hok, rfl, q⟩
  | brk => exact hs.elim fun _ h => h.elim fun _ h => h.2.elim
  | cont => exact hs.elim fun _ h => h.elim fun _ h => h.2.elim
/-- a def that may be called where nothing is being shown -/
structure CalG (P : Program) (w : World) (K : PySem.W.Frag) (mg : Str → Option Value) (base : Heap) (k : Nat) (x : Str) (sp : Sp) (dvs : List V) : Prop where
  ex : ∃ (f : Addr) (fd : FuncData) (ps : List Str) (ds : List Value), FnG P w K mg base C8.CX0 k f fd ps sp ∧ mg x = some (.ref f) ∧ PySem.W.keepIn K (.ref f) = true ∧ Binds K fd ps ds ∧ Vals dvs ds
end
section
variable {X : Cx} {k j : Nat} {x : Str} {sp : Sp} {dvs : List V} {p pos : Pos} {e : Expr} {es : List Expr} {t : TA}
theorem pe_cG (c : CalG X.prog X.w X.K X.mg X.base k x sp dvs) (hr : Room j X.A) (hs : X.A.guards = some []) (hk : k ≤ j) (hg : Gl X x) (ha : PA X (e :: es) t)
    (hdb : (x == ("__debug__" : Str)) = false := by decide) (he : starEach (e :: es) X.env = (false, eval e X.env) :: starEach es X.env := by rfl) (hpl : (backTo pos (starEach es X.env)).any (·.1) = false := by rfl) :
    PE X (.Call (.Name x p) (e :: es) [] pos) (tCall sp dvs C8.E0 t) := by
  obtain ⟨f, fd, ps, ds, F, hm, kp, b, d⟩ := c.ex
  refine ⟨fun pins s σ H Q I h => ?_⟩
  refine wpAny_Call_Name_kw (ld_glob I hg hm ?_ hdb)
  refine PySem.W.callWith_K (h₀ := X.base) I.ok.mod.kin kp (thn (ha.run pos pins s σ H _ I h) fun us s1 ⟨vs, H1, I1, r, q⟩ => ⟨I1.kIn, ?_⟩) he hpl
  have r2 : Vals (vs ++ dvs) (us ++ ds) := r.append d
  have hl : (us ++ ds).length = ps.length := by rw [← r2.length]; exact F.len _ _ _ _ q
  refine wpAny_call (codeAny_mono (F.run X.A X.stack s1 H1 ⟨us, []⟩ (us ++ ds) (vs ++ dvs) Q C8.E0 (hr.mono hk) hs I1.env0 (b s1 us I1.kIn hl) r2 q) fun r s' hq => ?_)
  cases r with
  | error e => exact False.elim hq
  | ok fl =>
    cases fl with
    | ret u => exact I1.after hq
    | next => exact False.elim hq
    | brk => exact False.elim hq
    | cont => exact False.elim hq
end
/-- the law's call -/
theorem law_callG {P : Program} {w : World} {K : PySem.W.Frag} {mg mb : Str → Option Value} {CX : CXT} {k : Nat} {fa a : Addr} {fd : FuncData} {x : Str} {sp : Sp} {s₁ : Shared} {vs : List Value} {ns : List Int}
    (KX : K.In s₁.heap) (hns : s₁.heap.Ns mainGlobals mg) (hb : s₁.heap.Ns builtinsNs mb) (hbb : ∀ x : Str, x ≠ "__name__" → mb x = bootBuiltins x) (hlim : s₁.heap.NoLimit) (hg : s₁.gens = #[])
    (ha : s₁.heap.get? a = some { cls := .type "list", data := .seq vs.toArray }) (hi : IntsAre vs ns) (hl : ns.length ≤ sizeLine) (hr : Room k callerA)
    (F : ∀ base : Heap, K.In base → base.Ns mainGlobals mg → FnG P w K mg base CX k fa fd [x] sp) (hbind : ∀ (s : Shared) (u : Value), BindsTo s fd ⟨[u], []⟩ [(x, u)])
    (hsp : ∀ H : Hp, Only H → SqL K H a (ns.map V.int) → sp [.ref a] H (fun v _ => v = .bl true) fun _ _ _ => False)
    (hCX : ∀ H e s', CX [] H s₁ (fun _ _ _ => False) e s' → False) :
    codeAny (model P w) callerA (.call (.ref fa) ⟨[.ref a], []⟩) (fun r s' => r = .ok (.ret (.bool true)) ∧ OldK s₁.heap s'.heap ∧ s'.os = s₁.os ∧ AllBare s'.gens) s₁ := by
  have rv := vals_ints hi
  have main : ∀ H : Hp, Only H → SqL K H a (ns.map V.int) → HOk P w H s₁.heap → (∀ b, b ≠ a → H b = none) → (H a ≠ none → K.lookup a = none) →
      codeAny (model P w) callerA (.call (.ref fa) ⟨[.ref a], []⟩) (fun r s' => r = .ok (.ret (.bool true)) ∧ OldK s₁.heap s'.heap ∧ s'.os = s₁.os ∧ AllBare s'.gens) s₁ := by
    intro H hO hS hok one off
    have plain : ∀ {b : Addr} {o : Obj}, s₁.heap.get? b = some o → (∀ n, o.data ≠ .seq vs.toArray n) → H b = none := fun {b o} e hd => by
      by_cases q : b = a
      · subst q
        rw [ha] at e
        cases e
        exact absurd rfl (hd _)
      · exact one b q
    have ns' : ∀ {b : Addr} {m : Str → Option Value}, s₁.heap.Ns b m → (hidT s₁.heap H).Ns b m := fun {b m} ⟨o, es, ep, e, d, r⟩ => ⟨o, es, ep, hidT_get e (plain e fun n z => by rw [d] at z; cases z), d, r⟩
    have known : K.In (hidT s₁.heap H) := fun b o e => hidT_get (KX b o e) (by
      by_cases q : b = a
      · subst q
        cases z : H b with
        | none => rfl
        | some u => rw [off (by rw [z]; simp)] at e; cases e
      · exact one b q)
    have e0 : Env0 P w K mg (hidT s₁.heap H) callerA [] s₁ H := by
      refine ⟨rfl, ⟨known, ns' hns, ⟨mb, ns' hb, hbb⟩, ?_⟩, fun b o e => of_hidT e, Nat.le_of_eq (hidT_size _ _), trivial, fun b hb => absurd (show b ∈ ([] : List Addr) from hb) (by simp), hok, .of_eq hg⟩
      obtain ⟨mc, h1, h2⟩ := hlim
      exact ⟨mc, ns' h1, h2⟩
    refine codeAny_mono ((F _ known (ns' hns)).run callerA [] s₁ H ⟨[.ref a], []⟩ [.ref a] [.ref a] _ _ hr rfl e0 (hbind s₁ (.ref a)) (.cons rfl .nil) (hsp H hO hS)) fun r s' h => ?_
    match r, h with
    | .error e, h => exact (hCX H e s' h).elim
    | .ok .next, h => exact False.elim h
    | .ok .brk, h => exact False.elim h
    | .ok .cont, h => exact False.elim h
    | .ok (.ret u), h =>
      obtain ⟨v, H', os, bare, un, hok', r', q⟩ := h
      obtain rfl : v = .bl true := q
      obtain rfl : u = Value.bool true := r'
      refine ⟨rfl, OldK.of_keep fun b o e => ?_, os, bare⟩
      rcases hO b with z | ⟨ob, xs, z⟩
      · exact un.keep b o e z (by intro z; exact absurd (show b ∈ ([] : List Addr) from z) (by simp)) (by simp)
      · have e1 := (hok b _ z).1
        have e2 := (hok' b _ (un.frzs b ob _ z)).1
        rw [e] at e1
        cases e1
        exact e2
  cases hk : K.lookup a with
  | some o =>
    have e := KX a o hk
    rw [ha] at e
    cases e
    exact main (fun _ => none) (fun _ => .inl rfl) (.inr ⟨_, vs.toArray, _, hk, rfl, rfl, rfl, by rw [List.size_toArray, hi.length]; exact hl, by simpa using rv⟩) (fun b u z => by have z' : (none : Option HO) = some u := z; cases z') (fun _ _ => rfl) fun z => absurd rfl z
  | none =>
    have at_a : (if a = a then some (HO.frz { cls := .type "list", data := .seq vs.toArray } (.lst (ns.map V.int))) else none) = some (HO.frz { cls := .type "list", data := .seq vs.toArray } (.lst (ns.map V.int))) := if_pos rfl
    refine main (fun b => if b = a then some (.frz { cls := .type "list", data := .seq vs.toArray } (.lst (ns.map V.int))) else none) (fun b => ?_) (.inl (.inr ⟨_, at_a⟩)) (fun b u z => ?_) (fun b q => if_neg q) fun _ => hk
    · by_cases hb : b = a
      · exact .inr ⟨_, _, if_pos hb⟩
      · exact .inl (if_neg hb)
    · by_cases hb : b = a
      · subst hb
        have z' := at_a.symm.trans z
        cases z'
        exact ⟨ha, by rw [List.length_map]; exact hl, vs, _, rv, ha⟩
      · have z' := (if_neg hb).symm.trans z
        cases z'
/-- the end of a law whose defs show data -/
theorem walk_ofG {l : PySem.W.OpenLaw} {n k : Nat} {q : Program} {loose : List Str} {XP : (Str → Option Value) → Heap → Prop} {YP : World → Heap → Prop} {d : DefRec} {CX : CXT} {x : Str}
    (hn : l.most = some n) (hn2 : n ≤ sizeLine) (hdf : d.params.defaults = []) (hr : Room k callerA)
    (F : ∀ (w : World) (mg : Str → Option Value) (fa : Addr) (h : Heap), YP w h → h.Ns mainGlobals mg → mg d.name = some (.ref fa) →
      ∃ (K : PySem.W.Frag) (fd : FuncData) (sp : Sp), K.In h ∧ (∀ (s : Shared) (u : Value), BindsTo s fd ⟨[u], []⟩ [(x, u)]) ∧
        (∀ (H : Hp) (a : Addr) (ns : List Int), ns.length ≤ n → Only H → SqL K H a (ns.map V.int) → sp [.ref a] H (fun v _ => v = .bl true) fun _ _ _ => False) ∧
        ∀ base : Heap, K.In base → base.Ns mainGlobals mg → FnG l.prog w K mg base CX k fa fd [x] sp)
    (hCX : ∀ (H : Hp) (s : Shared) (e : Value) (s' : Shared), CX [] H s (fun _ _ _ => False) e s' → False) :
    PySem.W.WalkO q loose XP YP l.row.toRowW d [] (fun f vs => PySem.call f vs) := by
  refine Att.attach_call hn hdf fun w s₀ s₁ mg mb fa o pm cd doc a vs ns G Y ho hd hcd hmg hobj hints hlen hg => ?_
  obtain ⟨K, fd, sp, KX, hb, hsp, hF⟩ := F w mg fa _ Y G.T.g hmg
  exact law_callG KX G.T.g G.T.b G.T.builtins G.T.nolimit hg hobj hints (Nat.le_trans hlen hn2) hr hF hb (fun H hO hS => hsp H a ns hlen hO hS) fun H e s' => hCX H s₁ e s'
/-! ### repr -/
/-- what may be shown: no dict, ints short -/
structure Shw (n w : Nat) (d : PyData) : Prop where
  lay : d.canLay0 = true
  dep : d.depth ≤ n
  wgt : d.weight ≤ w
  ish : d.intsShort 13 = true
  shw : d.showable = true
theorem Shw.fits {n w : Nat} {d : PyData} (h : Shw n w d) (hn : n ≤ 60) (hw : w ≤ 1048576) : d.shown.length ≤ sizeLine := by
  refine PyData.shown_fits_of_layable0 (B := 13) (by decide) (by decide) ?_ h.ish
  have h1 := h.dep
  have h2 := h.wgt
  unfold PyData.layable0
  rw [h.lay, decide_eq_true (by omega), decide_eq_true (by omega)]
  rfl
theorem Shw.shaped {n w : Nat} {d : PyData} (h : Shw n w d) (hn : n ≤ 60) : SeqAt.shaped d = true := Fit.shaped (n := 60) ⟨h.lay, Nat.le_trans h.dep hn⟩
def rReprX (K : PySem.W.Frag) : List V → Hp → VK → Prop := fun xs H Q => ∃ (v : V) (d : PyData) (n w : Nat), xs = [v] ∧ Dp K H v d ∧ Shw n w d ∧ n ≤ 60 ∧ w ≤ 1048576 ∧ Q (.str d.shown) H
theorem c_repr {X : Cx} (hu : X.A.units + 64 < cLine) (hs : X.A.guards = some []) : CallR X (.builtin "repr") (rReprX X.K) := by
  intro pins s σ H xs us Q I r h
  obtain ⟨v, d, n, w, rfl, hd, sh, hn, hw, q⟩ := h
  obtain ⟨u, rfl, ru⟩ := vals1 r
  obtain ⟨as, rd⟩ := Dp.reads I d v u hd ru
  have hsz := sh.fits hn hw
  have hnd : d.hasDict = false := PyData.hasDict_of_canLay d sh.lay
  have hsw := sh.shw
  cases rd with
  | none => exact PySem.P.repr_of_none ⟨.str _, H, I.tok _, ⟨_, rfl⟩, by simpa only [PyData.shown] using q⟩
  | bool b => exact PySem.P.repr_of_bool ⟨.str _, H, I.tok _, ⟨_, rfl⟩, by simpa only [PyData.shown] using q⟩
  | int i t => exact PySem.P.repr_of_int (by simpa [PyData.showable] using hsw) ⟨.str _, H, I.tok _, ⟨_, rfl⟩, by simpa only [PyData.shown] using q⟩
  | str x t => exact PySem.P.repr_of_str ⟨.str _, H, I.tok _, ⟨_, rfl⟩, by simpa only [PyData.shown] using q⟩ (by simpa only [PyData.shown] using hsz)
  | list h1 h2 h3 h4 =>
    have hdp := sh.dep
    exact repr_of_reads' (.list h1 h2 h3 h4) hsw (PyData.noDict_hsm hnd) hs (by omega) (fun _ _ e => e) (fun h' u tk hk => ⟨.str _, H, I.kept hk, ⟨_, rfl⟩, q⟩) hsz
  | tuple h1 h2 h3 h4 =>
    have hdp := sh.dep
    exact repr_of_reads' (.tuple h1 h2 h3 h4) hsw (PyData.noDict_hsm hnd) hs (by omega) (fun _ _ e => e) (fun h' u tk hk => ⟨.str _, H, I.kept hk, ⟨_, rfl⟩, q⟩) hsz
  | dict => simp [PyData.hasDict] at hnd
section
variable {K : PySem.W.Frag} {L : List Ent} {H : Hp} {Q : VK} {v : V} {d : PyData}
theorem w_repr {n w : Nat} (hS : St K L H) (hv : See K L v d) (sh : Shw n w d) (hn : n ≤ 60) (hw : w ≤ 1048576) (h : Q (.str d.shown) H) : rReprX K [v] H Q := ⟨v, d, n, w, rfl, hv.dp hS, sh, hn, hw, h⟩
theorem log2_le {m k : Nat} (h : m < 2 ^ k) : m.log2 + 1 ≤ k + 1 := by
  refine Nat.succ_le_succ ?_
  rcases Nat.eq_zero_or_pos m with h0 | h0
  · rw [h0]
    exact Nat.le_trans (Nat.le_of_eq (show Nat.log2 0 = 0 by decide +kernel)) (Nat.zero_le _)
  · exact Nat.le_of_lt ((Nat.log2_lt (Nat.pos_iff_ne_zero.mp h0)).mpr h)
theorem sh_int (n : Nat) {w : Nat} {i : Int} (h : i.natAbs < 10 ^ 12) (hw : 42 ≤ w) : Shw n w (.int i) := by
  have h2 : i.natAbs < 2 ^ 40 := Nat.lt_of_lt_of_le h (by decide)
  have h3 := log2_le h2
  refine ⟨by simp [PyData.canLay0], by simp [PyData.depth], ?_, ?_, ?_⟩
  · unfold PyData.weight
    split
    · omega
    · omega
  · unfold PyData.intsShort
    exact decide_eq_true (PyData.shown_int_le h)
  · unfold PyData.showable
    exact decide_eq_true (by omega)
theorem sh_bool (n w : Nat) (b : Bool) : Shw n w (.bool b) := ⟨by simp [PyData.canLay0], by simp [PyData.depth], by simp [PyData.weight], by simp [PyData.intsShort], by simp [PyData.showable]⟩
theorem sh_none (n w : Nat) : Shw n w .none := ⟨by simp [PyData.canLay0], by simp [PyData.depth], by simp [PyData.weight], by simp [PyData.intsShort], by simp [PyData.showable]⟩
theorem sh_str (n : Nat) {w : Nat} {l : List Nat} (h : Asc l) (hw : l.length ≤ w) : Shw n w (.str (S l)) := ⟨(fit_str n h).1, by simp [PyData.depth], by simpa [PyData.weight, S] using hw, by simp [PyData.intsShort], by simp [PyData.showable]⟩
theorem sh_all {n w : Nat} : ∀ {ds : List PyData}, (∀ d ∈ ds, Shw n w d) → PyData.canLayAll0 ds = true ∧ PyData.depthAll ds ≤ n ∧ PyData.weightAll ds ≤ ds.length * (w + 1) ∧ PyData.intsShortAll 13 ds = true ∧ PyData.showableAll ds = true
  | [], _ => by simp [PyData.canLayAll0, PyData.depthAll, PyData.weightAll, PyData.intsShortAll, PyData.showableAll]
  | d :: ds, h => by
    obtain ⟨h1, h2, h3, h4, h5⟩ := sh_all fun e he => h e (.tail _ he)
    obtain ⟨g1, g2, g3, g4, g5⟩ := h d (.head _)
    simp only [PyData.canLayAll0, PyData.depthAll, PyData.weightAll, PyData.intsShortAll, PyData.showableAll, g1, h1, g4, h4, g5, h5, List.length_cons, Nat.add_mul, Bool.and_self]
    refine ⟨trivial, by omega, by omega, trivial, trivial⟩
theorem sh_list {n w m : Nat} {ds : List PyData} (h : ∀ d ∈ ds, Shw n w d) (hm : ds.length * (w + 1) ≤ m) : Shw (n + 1) m (.list ds) := by
  obtain ⟨h1, h2, h3, h4, h5⟩ := sh_all h
  exact ⟨by simpa [PyData.canLay0] using h1, by simp only [PyData.depth]; omega, by simp only [PyData.weight]; omega, by simpa [PyData.intsShort] using h4, by simpa [PyData.showable] using h5⟩
theorem sh_tuple {n w m : Nat} {ds : List PyData} (h : ∀ d ∈ ds, Shw n w d) (hm : ds.length * (w + 1) ≤ m) : Shw (n + 1) m (.tuple ds) := by
  obtain ⟨h1, h2, h3, h4, h5⟩ := sh_all h
  exact ⟨by simpa [PyData.canLay0] using h1, by simp only [PyData.depth]; omega, by simp only [PyData.weight]; omega, by simpa [PyData.intsShort] using h4, by simpa [PyData.showable] using h5⟩
theorem Shw.mono {n w n' w' : Nat} (h : Shw n w d) (hn : n ≤ n') (hw : w ≤ w') : Shw n' w' d := ⟨h.lay, Nat.le_trans h.dep hn, Nat.le_trans h.wgt hw, h.ish, h.shw⟩
end
end Lg

/-! Texts of numbers, find, while, membership in a tuple of flat things, the head with one more Bool. -/
namespace Lg
open PySem PySem.Spec PyProof.Rows L2 PySem.NumText
/-! ### the head: one more Bool of what is written -/
abbrev AlB : Type := He.AlD × Bool
def obsB (n : Nat) (fa : List He.Fa) (fn : List He.DefD) (ex : PySem.W.Frag → Bool) (g : Addr → Option Obj) : AlB := (He.obsDG n fa fn g, ex (He.frG g (He.asD g n)))
def hookB (n : Nat) (fa : List He.Fa) (fn : List He.DefD) (ex : PySem.W.Frag → Bool) : PySem.W.Hook where
  α := AlB
  obs := fun s => obsB n fa fn ex s.heap.get?
  val := fun _ => (He.valD fn, true)
  says := fun _ h => ∃ K : PySem.W.Frag, K.In h ∧ He.SaysD fa fn K ∧ ex K = true
  of := fun _ _ e => ⟨_, He.frG_in, congrArg (fun z : AlB => z.1) e, congrArg (fun z : AlB => z.2) e⟩
  keeps := fun _ _ _ ⟨K, hK, c⟩ k => ⟨K, PySem.W.Frag.In.keeps hK k, c⟩
theorem obsB_eq {n : Nat} {fa : List He.Fa} {fn : List He.DefD} {ex : PySem.W.Frag → Bool} {g : Addr → Option Obj} {s : Shared} (h : ∀ a, g a = s.heap.get? a) : obsB n fa fn ex g = (hookB n fa fn ex).obs s := by
  have e : g = s.heap.get? := funext h
  rw [e] <;> rfl
/-! ### relations -/
def rIntY : List V → Hp → VK → Prop := fun xs H Q => rIntX xs H Q ∨ ∃ a n, xs = [.str a] ∧ PySem.intText? a = some n ∧ a.length ≤ 640 ∧ Q (.int n) H
def rStrX : List V → Hp → VK → Prop := fun xs H Q => (∃ i, xs = [.int i] ∧ i.natAbs.log2 < 1920 ∧ Q (.str (Str.ofString (toString i))) H) ∨ ∃ a, xs = [.str a] ∧ Q (.str a) H
def rFind3 : V → List V → Hp → VK → Prop := fun x xs H Q => ∃ (a b : Str) (i : Int), x = .str a ∧ xs = [.str b, .int i] ∧ Q (.int (Txt.find3 a b i)) H
def rMax2 : List V → Hp → VK → Prop := fun xs H Q => ∃ i j, xs = [.int i, .int j] ∧ Q (.int (if j > i then j else i)) H
def rMin2 : List V → Hp → VK → Prop := fun xs H Q => ∃ i j, xs = [.int i, .int j] ∧ Q (.int (if j < i then j else i)) H
section
variable {X : Cx}
theorem c_int2 : CallR X (.type "int") rIntY := by
  intro pins s σ H xs us Q I r h
  rcases h with h | h
  · exact c_int pins s σ H xs us Q I r h
  · exact call_int_str pins s σ H xs us Q I r h
theorem c_str : CallR X (.type "str") rStrX := by
  intro pins s σ H xs us Q I r h
  rcases h with h | h
  · exact call_str_int pins s σ H xs us Q I r h
  · exact SkE.call_str_str pins s σ H xs us Q I r h
theorem m_find3 : MtR X "str.find" rFind3 := mt_find3
end
section
variable {K : PySem.W.Frag} {L L' : List Ent} {H : Hp} {σ : L2.St} {Q : VK} {a b : Addr} {i : Int} {k : Nat} {v : V} {d : PyData} {ds : List PyData}
theorem w_intI2 (h : Q (.int i) H) : rIntY [.int i] H Q := .inl (w_int h)
theorem w_intT {l : List Nat} {n : Int} (hn : PySem.intText? (S l) = some n) (hl : l.length ≤ 640) (h : Q (.int n) H) : rIntY [.str (S l)] H Q := .inr ⟨_, n, rfl, hn, by rw [S_len]; exact hl, h⟩
/-- the digits of a number -/
def dg (n : Nat) : List Nat := (Nat.toDigits 10 n).map Char.toNat
theorem dg_text (n : Nat) : Str.ofString (toString ((n : Nat) : Int)) = S (dg n) := by
  rw [S_of (Str.ofString (toString ((n : Nat) : Int)))]
  congr 1
  exact PySem.W.KIN.signs_num n
theorem w_strI {n : Nat} (hi : i = (n : Int)) (hn : n < 10 ^ 12) (h : Q (.str (S (dg n))) H) : rStrX [.int i] H Q := by
  refine .inl ⟨i, rfl, ?_, ?_⟩
  · have h2 : i.natAbs < 2 ^ 40 := by
      have : (10 : Nat) ^ 12 ≤ 2 ^ 40 := by decide
      omega
    have := log2_le h2
    omega
  · rw [hi, dg_text]
    exact h
theorem w_strS {z : Str} (h : Q (.str z) H) : rStrX [.str z] H Q := .inr ⟨z, rfl, h⟩
theorem dg_len {n k : Nat} (hk : 1 ≤ k) (hn : n < 10 ^ k) : (dg n).length ≤ k := by
  unfold dg
  rw [List.length_map]
  exact digits10_le hk hn
theorem dg_pos (n : Nat) : 1 ≤ (dg n).length := by
  unfold dg
  rw [List.length_map]
  exact tDigits_len_ge 10 n
theorem dg_ge {n k : Nat} (hn : 10 ^ k ≤ n) : k + 1 ≤ (dg n).length := by
  unfold dg
  rw [List.length_map]
  exact digits10_ge hn
theorem dg_val (n : Nat) : digitsVal (dg n) = n := PySem.W.KIN.val_back n
theorem dg_digits (n : Nat) : AllDigits (dg n) := by
  intro c hc
  obtain ⟨ch, hch, e⟩ := List.mem_map.mp hc
  rw [← e]
  have h := Nat.isDigit_of_mem_toDigits (b := 10) (by decide) (by decide) hch
  have h2 : ch.val ≥ '0'.val ∧ ch.val ≤ '9'.val := by
    simpa [Char.isDigit] using h
  exact ⟨h2.1, h2.2⟩
theorem digitsVal_le : ∀ (cs : List Nat) (acc : Nat), AllDigits cs → cs.foldl (fun acc c => acc * 10 + (c - 48)) acc < (acc + 1) * 10 ^ cs.length
  | [], acc, _ => by simp
  | c :: cs, acc, h => by
    have h1 := digitsVal_le cs (acc * 10 + (c - 48)) fun d hd => h d (.tail _ hd)
    have h2 := h c (.head _)
    refine Nat.lt_of_lt_of_le h1 ?_
    rw [List.length_cons, Nat.pow_succ, Nat.mul_comm (10 ^ cs.length) 10, ← Nat.mul_assoc]
    exact Nat.mul_le_mul_right _ (by omega)
/-- no zero ahead, but of zero -/
theorem dg_head {n : Nat} (h : (dg n).head? = some 48) : (dg n).length = 1 := by
  cases hd : dg n with
  | nil => rw [hd] at h; cases h
  | cons c cs =>
    rw [hd] at h
    have hc : c = 48 := Option.some.inj h
    have h1 := dg_digits n
    rw [hd] at h1
    have h2 := dg_val n
    rw [hd] at h2
    unfold digitsVal at h2
    rw [List.foldl_cons, hc] at h2
    have h3 := digitsVal_le cs 0 fun d hd => h1 d (.tail _ hd)
    have h4 : n < 10 ^ cs.length := by
      rw [← h2]
      simpa using h3
    have h5 : (dg n).length = cs.length + 1 := by rw [hd]; rfl
    rw [← hd, h5]
    by_cases h0 : cs.length = 0
    · omega
    · have := dg_len (n := n) (k := cs.length) (by omega) h4
      omega
theorem int_dg {n : Nat} (hn : n < 10 ^ 10) : PySem.intText? (S (dg n)) = some (n : Int) := by
  rw [← dg_text]
  exact PySem.W.KIN.num_reads (by omega) (by omega)
/-! ### find -/
/-- the place of the first c in l, from i on -/
theorem find_none {l : List Nat} {c k : Nat} (h : c ∉ l.drop k) (hk : k ≤ l.length) : Txt.find3 (S l) (S [c]) (k : Int) = -1 := by
  rcases StrLaws.find3_spec (S l) c (k : Int) with ⟨e, _⟩ | ⟨m, e, h1, h2, h3, _⟩
  · exact e
  · exfalso
    rw [S_len] at h2
    have hf : fromIndex (S l).length (k : Int) = k := by
      unfold fromIndex
      rw [S_len, if_neg (by omega)]
      omega
    rw [hf] at h1
    refine h ?_
    have h4 : l[m]? = some c := by
      have : (S l).cps.getD m 0 = c := h3
      have h5 : l[m]? = some l[m] := List.getElem?_eq_getElem h2
      rw [h5]
      congr 1
      rw [← this]
      simp [S, Array.getD, h2]
    refine List.mem_of_getElem? (i := m - k) ?_
    rw [List.getElem?_drop, show k + (m - k) = m by omega, h4]
theorem find_some {l r : List Nat} {c k m : Nat} (h : l.drop k = r) (hm : r[m]? = some c) (hn : c ∉ r.take m) (hk : k ≤ l.length) : Txt.find3 (S l) (S [c]) (k : Int) = ((k + m : Nat) : Int) := by
  have hml : m < r.length := (List.getElem?_eq_some_iff.mp hm).1
  have hrl : r.length = l.length - k := by rw [← h, List.length_drop]
  have hf : fromIndex (S l).length (k : Int) = k := by
    unfold fromIndex
    rw [S_len, if_neg (by omega)]
    omega
  have hget : ∀ j, j < l.length → (S l).cps.getD j 0 = l.getD j 0 := fun j hj => by simp [S, Array.getD, hj, List.getD_eq_getElem?_getD]
  have hr : ∀ j, r[j]? = l[k + j]? := fun j => by rw [← h, List.getElem?_drop]
  rcases StrLaws.find3_spec (S l) c (k : Int) with ⟨e, h1⟩ | ⟨q, e, h1, h2, h3, h4⟩
  · exfalso
    refine h1 (k + m) (by rw [hf]; omega) (by rw [S_len]; omega) ?_
    rw [hget _ (by omega), List.getD_eq_getElem?_getD, ← hr, hm]
    rfl
  · rw [e]
    rw [hf] at h1 h4
    rw [S_len] at h2
    have h5 : ¬ k + m < q := fun z => by
      refine h4 (k + m) (by omega) z ?_
      rw [hget _ (by omega), List.getD_eq_getElem?_getD, ← hr, hm]
      rfl
    have h6 : ¬ q < k + m := fun z => by
      refine hn ?_
      refine List.mem_of_getElem? (i := q - k) ?_
      rw [List.getElem?_take_of_lt (by omega), hr, show k + (q - k) = q by omega]
      have : l.getD q 0 = c := by rw [← hget _ h2]; exact h3
      rw [← this, List.getD_eq_getElem?_getD, List.getElem?_eq_getElem h2]
      rfl
    congr 1
    omega
theorem w_find3 {l : List Nat} {c : Nat} (h : Q (.int (Txt.find3 (S l) (S [c]) i)) H) : rFind3 (.str (S l)) [.str (S [c]), .int i] H Q := ⟨_, _, i, rfl, rfl, h⟩
/-! ### flat things -/
def dV : V → PyData
  | .int i => .int i
  | .str z => .str z
  | .bl b => .bool b
  | _ => .none
theorem dv_flat {F : Hp} : ∀ {x v : V}, flatV x = true → Dv K F v (dV x) → v = x
  | .int i, _, _, h => by cases h; rfl
  | .str i, _, _, h => by cases h; rfl
  | .bl i, _, _, h => by cases h; rfl
  | .non, _, _, h => by cases h; rfl
theorem dvs_flat {F : Hp} : ∀ {xs vs : List V}, xs.all flatV = true → DvAll K F vs (xs.map dV) → vs = xs
  | [], _, _, h => by cases h; rfl
  | x :: xs, _, f, h => by
    rw [List.all_cons, Bool.and_eq_true] at f
    cases h with
    | cons h1 h2 => rw [dv_flat f.1 h1, dvs_flat f.2 h2]
theorem St.flatT {xs : List V} (hS : St K L H) (hl : Is L (.ref a) (.tuple (xs.map dV))) (hf : xs.all flatV = true) : SqT K H a xs := by
  obtain ⟨F, h1, h2⟩ := hS.ex
  have := hl.dv h2
  cases this with
  | tup hs ha =>
    have e := dvs_flat hf ha
    rw [← e]
    exact h1.sqT hs
theorem w_inT {xs : List V} {x : V} {neg : Bool} (hS : St K L H) (hl : Is L (.ref a) (.tuple (xs.map dV))) (hx : flatV x = true) (hf : xs.all flatV = true) (h : Q (.bl (if neg then !inV x xs else inV x xs)) H) : rInX K neg x (.ref a) H Q :=
  .inl ⟨a, xs, rfl, .inr (hS.flatT hl hf), hx, hf, h⟩
def sV (ys : List (List Nat)) : List V := ys.map fun y => V.str (S y)
theorem inV_s (l : List Nat) : ∀ ys : List (List Nat), inV (.str (S l)) (sV ys) = decide (l ∈ ys)
  | [] => rfl
  | y :: ys => by
    show (eqV (.str (S y)) (.str (S l)) || inV (.str (S l)) (sV ys)) = _
    rw [inV_s l ys]
    show ((S y == S l) || decide (l ∈ ys)) = _
    rw [show (S y == S l) = decide (l = y) from by
      by_cases h : l = y
      · subst h
        simp
      · rw [decide_eq_false h, beq_eq_false_iff_ne]
        exact fun z => h (S_inj z).symm]
    rw [← Bool.decide_or]
    exact decide_eq_decide.mpr List.mem_cons.symm
theorem sV_flat (ys : List (List Nat)) : (sV ys).all flatV = true := by simp [sV, flatV]
theorem sV_dV (ys : List (List Nat)) : (sV ys).map dV = ys.map fun y => PyData.str (S y) := by simp [sV, dV]
theorem w_inTS {l : List Nat} {ys : List (List Nat)} (hS : St K L H) (hl : Is L (.ref a) (.tuple (ys.map fun y => PyData.str (S y)))) (h : Q (.bl (decide (l ∈ ys))) H) : rInX K false (.str (S l)) (.ref a) H Q :=
  w_inT (xs := sV ys) hS (by rw [sV_dV]; exact hl) rfl (sV_flat ys) (by rw [inV_s]; exact h)
theorem w_ninTS {l : List Nat} {ys : List (List Nat)} (hS : St K L H) (hl : Is L (.ref a) (.tuple (ys.map fun y => PyData.str (S y)))) (h : Q (.bl (!decide (l ∈ ys))) H) : rInX K true (.str (S l)) (.ref a) H Q :=
  w_inT (xs := sV ys) hS (by rw [sV_dV]; exact hl) rfl (sV_flat ys) (by rw [inV_s]; exact h)
/-- a tuple that stands in the written part -/
theorem dvs_of : ∀ {F : Hp} (ys : List (List Nat)), DvAll K F (sV ys) (ys.map fun y => PyData.str (S y))
  | _, [] => .nil
  | _, y :: ys => .cons (.str _) (dvs_of ys)
theorem St.tupK {ys : List (List Nat)} (hS : St K L H) (h : ∀ H, SqT K H a (sV ys)) : St K (.dat (.ref a) (.tuple (ys.map fun y => PyData.str (S y))) :: L) H := hS.know fun F _ _ => .tup (h F) (dvs_of ys)
/-! ### while -/
def WB (P : L2.St → Hp → Prop) (μ : L2.St → Nat) (m : Nat) (tb : TS) (D : Ends) (σ : L2.St) (b : Bool) (H1 : Hp) : Prop :=
  if b = true then ∃ N : L2.St → Hp → Prop, (∀ σ' H', N σ' H' → ∃ m', m' < m ∧ (m' = μ σ' ∧ P σ' H')) ∧ tb { D with nx := N, ct := N, bk := D.nx } σ H1 else D.nx σ H1
theorem w_wb {P : L2.St → Hp → Prop} {μ : L2.St → Nat} {m : Nat} {tb : TS} {D : Ends} {c : Bool} (h1 : c = true → tb { D with nx := fun σ' H' => μ σ' < m ∧ P σ' H', ct := fun σ' H' => μ σ' < m ∧ P σ' H', bk := D.nx } σ H) (h2 : c = false → D.nx σ H) : WB P μ m tb D σ c H := by
  unfold WB
  cases c with
  | true => exact ⟨_, fun σ' H' q => ⟨_, q.1, rfl, q.2⟩, h1 rfl⟩
  | false => exact h2 rfl
theorem w_while {c : TT} {tb : TS} {D : Ends} (P : L2.St → Hp → Prop) (μ : L2.St → Nat) (h0 : P σ H) (hs : ∀ σ H, P σ H → c σ H fun b H1 => WB P μ (μ σ) tb D σ b H1) : tWhile c tb D σ H := by
  refine ⟨fun m σ H => m = μ σ ∧ P σ H, ⟨_, rfl, h0⟩, ?_⟩
  rintro m σ H ⟨rfl, p⟩
  exact hs σ H p
end
end Lg

/-! Texts as lists of signs: membership; what is alike; small laws of lists. -/
namespace Lg
open PySem PySem.Spec PyProof.Rows L2 PySem.NumText
section
variable {K : PySem.W.Frag} {L L' : List Ent} {H : Hp} {σ : L2.St} {Q : VK} {a b : Addr} {i : Int} {k : Nat} {v : V} {d : PyData} {ds : List PyData}
theorem w_neg (h : Q (.int (-i)) H) : rU (fun i => .int (-i)) (.int i) H Q := ⟨i, rfl, h⟩
theorem w_inSS {c : Nat} {z : List Nat} (h : Q (.bl (decide (c ∈ z))) H) : rInX K false (.str (S [c])) (.str (S z)) H Q := w_inSg h
theorem w_ninSS {c : Nat} {z : List Nat} (h : Q (.bl (!decide (c ∈ z))) H) : rInX K true (.str (S [c])) (.str (S z)) H Q := w_ninSg h
theorem w_inSS' {c : Nat} {z : List Nat} (h : Q (.bl (decide (c ∈ z))) H) : rInX K false (.str ⟨#[c]⟩) (.str (S z)) H Q := w_inSg h
theorem w_neSS {x y : List Nat} (h : Q (.bl (!decide (x = y))) H) : rNeX K (.str (S x)) (.str (S y)) H Q := w_neS (by
  rw [show decide (S x = S y) = decide (x = y) from decide_eq_decide.mpr ⟨S_inj, fun e => by rw [e]⟩]
  exact h)
def Fr.tupf (K : PySem.W.Frag) (a : Addr) (xs : List V) (ds : List PyData) : Fr := ⟨fun F => SqT K F a xs ∧ DvAll K F xs ds, fun _ _ e h => ⟨e.sqT h.1, DvAll.mono e _ _ h.2⟩⟩
theorem St.tupF (hS : St K L H) (hl : Is L (.ref a) (.tuple ds)) : ∃ xs, SqT K H a xs ∧ St K (.fact (Fr.tupf K a xs ds) :: L) H := by
  obtain ⟨F, h1, h2⟩ := hS.ex
  have := hl.dv h2
  cases this with
  | tup hs ha =>
    refine ⟨_, h1.sqT hs, ⟨F, h1, fun e he => ?_⟩, hS.nd⟩
    cases he with
    | head => exact ⟨hs, ha⟩
    | tail _ he => exact h2 e he
theorem w_listT (hS : St K L H) (hl : Is L (.ref a) (.tuple ds)) (h : ∀ q H', St K (Lg.ls K q ds :: L) H' → Q (.ref q) H') : rListOf K [.ref a] H Q := by
  obtain ⟨xs, h1, hS'⟩ := hS.tupF hl
  refine ⟨a, xs, rfl, .inr h1, fun q hq => ?_⟩
  have h3 := hS'.alloc hq (φ := .ls K ds) (o := .lst xs) (fun F' _ w => ⟨xs, rfl, (w _ (.head _)).2⟩)
  exact h q _ (h3.to (.cons .here (.drop .refl)))
/-- an index that is drawn, into a list of texts -/
theorem w_ixLSP {P : List Nat → Prop} (hS : St K L H) (hl : LsIn K L a ds) (h0 : 0 ≤ i) (h1 : i < ds.length) (hP : ∀ d ∈ ds, ∃ m, d = .str (S m) ∧ P m) (h : ∀ m, P m → Q (.str (S m)) H) : rIx K (.ref a) (.int i) H Q := by
  have hk : i.toNat < ds.length := by omega
  obtain ⟨m, hm, hp⟩ := hP ds[i.toNat] (List.getElem_mem hk)
  exact w_ixLs (k := i.toNat) hS hl (by omega) (by rw [List.getElem?_eq_getElem hk, hm]) (h m hp)
/-- .. into a list of anything -/
theorem w_ixLD {P : PyData → Prop} (hS : St K L H) (hl : LsIn K L a ds) (h0 : 0 ≤ i) (h1 : i < ds.length) (hP : ∀ d ∈ ds, P d) (h : ∀ v d, P d → St K (.dat v d :: L) H → Q v H) : rIx K (.ref a) (.int i) H Q := by
  have hk : i.toNat < ds.length := by omega
  exact w_ixL (k := i.toNat) hS hl (by omega) (List.getElem?_eq_getElem hk) fun v hS2 => h v _ (hP _ (List.getElem_mem hk)) hS2
end
theorem takeWhile_take {α : Type} {p : α → Bool} : ∀ {r : List α} {m : Nat}, (∀ x ∈ r.take m, p x = true) → (∀ x, r[m]? = some x → p x = false) → r.takeWhile p = r.take m
  | [], m, _, _ => by simp
  | x :: r, 0, _, h => by
    have := h x rfl
    simp [this]
  | x :: r, m + 1, h1, h2 => by
    have hx := h1 x (by simp)
    rw [List.takeWhile_cons, if_pos hx, List.take_succ_cons, takeWhile_take (m := m) (fun y hy => h1 y (by rw [List.take_succ_cons]; exact .tail _ hy)) (fun y hy => h2 y (by simpa using hy))]
theorem takeWhile_app {α : Type} {p : α → Bool} {l x : List α} (h1 : ∀ c ∈ l, p c = true) (h2 : ∀ c, x.head? = some c → p c = false) : (l ++ x).takeWhile p = l := by
  rw [takeWhile_take (m := l.length), List.take_left]
  · rw [List.take_left]
    exact h1
  · intro c hc
    rw [List.getElem?_append_right (Nat.le_refl _), Nat.sub_self] at hc
    exact h2 c (by rw [List.head?_eq_getElem?]; exact hc)
end Lg

/-! try with several clauses, each with a name or without; methods that may raise. -/
namespace Lg
open PySem PySem.Spec PyProof.Rows L2
/-- a clause: the class, the slot of its name if it has one, its suite -/
structure Cl where
  c : Value
  i : Option Nat
  ts : Addr → Value → Option Addr → TS
def Cl.at_ (k : Cl) (a : Addr) (σ : L2.St) : L2.St := match k.i with
  | none => σ
  | some i => σ.set i (some (.ref a))
def Cl.off (k : Cl) (σ : L2.St) : L2.St := match k.i with
  | none => σ
  | some i => σ.set i none
def Cl.ends (k : Cl) (D : Ends) : Ends := { nx := fun σ H => D.nx (k.off σ) H, rt := D.rt, bk := fun σ H => D.bk (k.off σ) H, ct := fun σ H => D.ct (k.off σ) H }
/-- what a row of clauses wishes of an exception of the body -/
def wMix (K : PySem.W.Frag) (Wout : WX) (D : Ends) : List Cl → WX
  | [] => Wout
  | k :: r => fun cls d σ H => ∃ b, PySem.W.exmOne K cls k.c = some b ∧ (b = true → ∀ a, H a = none → k.ts a cls d (k.ends D) (k.at_ a σ) H) ∧ (b = false → wMix K Wout D r cls d σ H)
inductive HdsM (X : Cx) : List ExceptHandler → List Cl → Prop
  | nil : HdsM X [] []
  | bare {x : Str} {c : Value} {ts : Addr → Value → Option Addr → TS} {b₀ : Stmt} {suite : List Stmt} {np pos' : Pos} {hds : List ExceptHandler} {l : List Cl} (hc : Names X x c)
      (hsu : ∀ (a : Addr) (oe : Obj) (cls : Value) (d : Option Addr) (pn : List (Addr × Obj)), Zc cls d oe → (∃ vs, oe.data = .fields vs) → PSs (X.suite a ((a, oe) :: pn)) (b₀ :: suite) (ts a cls d)) (r : HdsM X hds l) :
      HdsM X (.ExceptHandler (some (.Name x np)) none (b₀ :: suite) pos' :: hds) (⟨c, none, ts⟩ :: l)
  | as {x n : Str} {i : Nat} {c : Value} {ts : Addr → Value → Option Addr → TS} {b₀ : Stmt} {suite : List Stmt} {np pos' : Pos} {hds : List ExceptHandler} {l : List Cl} (hi : X.N[i]? = some n) (hln : X.env.kindOf n = some .local) (hc : Names X x c)
      (hsu : ∀ (a : Addr) (oe : Obj) (cls : Value) (d : Option Addr) (pn : List (Addr × Obj)), Zc cls d oe → (∃ vs, oe.data = .fields vs) → PSs (X.suite a ((a, oe) :: pn)) (b₀ :: suite) (ts a cls d)) (r : HdsM X hds l) :
      HdsM X (.ExceptHandler (some (.Name x np)) (some n) (b₀ :: suite) pos' :: hds) (⟨c, some i, ts⟩ :: l)
section
variable {X : Cx} {body : List Stmt} {h₀ : ExceptHandler} {hds : List ExceptHandler} {l : List Cl} {pos : Pos} {tb : WX → TS} {Wout : WX}
theorem ps_try_mix (hs : X.stack = X.env :: X.outer) (hf : X.env.frame = some X.env.locals) (hN : X.N.Nodup) (tk : Takes X Wout)
    (hb : ∀ (W : WX) (pn : List (Addr × Obj)) (xe : Value → Shared → Prop), Takes (X.tr pn xe) W → PassesOwn (model X.prog X.w) X.A X.env xe → PSs (X.tr pn xe) body (tb W))
    (hh : HdsM X (h₀ :: hds) l) : PS X (.Try body (h₀ :: hds) [] [] pos) (fun D σ H => tb (wMix X.K Wout D l) D σ H) := by
  refine ⟨fun pins s σ H D I h => ?_⟩
  have ok := I.ok
  have fr : X.A.frames = some (X.env :: X.outer) := by rw [ok.frames, hs]
  have run := (hb (wMix X.K Wout D l) (X.pn ++ pins) (fun e s₁ => wpAny (model X.prog X.w) X.A (noteFrame e X.env) (fun _ s₂ => wpAny (model X.prog X.w) X.A (setFlight e none) (fun _ s₃ =>
    wpAny (model X.prog X.w) X.A (handleBy e X.env (h₀ :: hds)) (SP X pins D) X.xe s₃) X.xe s₂) X.xe s₁) (fun u s' xx => ?_) PassesOwn.looking).run [] s σ H D (I.toTry _) h
  · refine wpAny_Try_except (wpAny_mono run (fun f s1 hsp => ?_) fun e s1 he => he)
    match f, hsp with
    | .next, ⟨σ', H', J', q⟩ => exact wpAny_execs_nil ⟨σ', H', J'.ofTry ok, q⟩
    | .brk, ⟨σ', H', J', q⟩ => exact ⟨σ', H', J'.ofTry ok, q⟩
    | .cont, ⟨σ', H', J', q⟩ => exact ⟨σ', H', J'.ofTry ok, q⟩
    | .ret u, ⟨v, σ', H', J', r, q⟩ => exact ⟨v, σ', H', J'.ofTry ok, r, q⟩
  -- the exception lands here
  obtain ⟨a, B, sI, pins', σ', H', cls, d, rfl, J', nb, up, sky, na, os, ag, w⟩ := xx
  have J : Inv X pins σ' H' sI := J'.ofTry ok
  have sky' : Sky B (X.env :: X.outer) a (Zc cls d) X.env.locals s'.heap := by rw [← hs]; exact sky
  show wpAny (model X.prog X.w) X.A (noteFrame (.ref a) X.env) _ _ _
  refine Sky.land Zc.steady fr hf sky' fun h3 fl3 up3 => ?_
  have J3 : Inv X pins σ' H' { s' with heap := h3 } := J.landed nb fl3.1 (up.trans up3) os ag
  obtain ⟨oe3, vs3, he3, hz3, hd3⟩ := fl3.there
  have off : a ∉ frs (X.env :: X.outer) := fun hm => by
    obtain ⟨_, o', e', hnf⟩ := fl3.2.2.1.mem hm
    rw [he3] at e'
    cases e'
    exact hnf _ hd3
  have nL : a ≠ X.env.locals := fun z => off (List.mem_filterMap.mpr ⟨X.env, List.mem_cons_self, by rw [hf, z]⟩)
  have nF : a ∉ X.fs := fun hm => by
    obtain ⟨e, he, q⟩ := List.mem_filterMap.mp hm
    exact off (List.mem_filterMap.mpr ⟨e, List.mem_cons_of_mem _ he, q⟩)
  have S3 := J3.suite he3 hd3 na nL nF
  have LT : PySem.W.Looks (model X.prog X.w) h3 (typeOf (.ref a)) cls := fun A Q E s k q => wpAny_typeOf_ref (k _ _ he3) (by rw [hz3.1]; exact q)
  have test : ∀ {x : Str} {c : Value} {np : Pos}, Names X x c → ∀ {Q : Value → Shared → Prop} {E : Value → Shared → Prop}, Q c { s' with heap := h3 } → wpAny (model X.prog X.w) (X.A.mark (some (.ref a))) (eval (.Name x np) X.env) Q E { s' with heap := h3 } := fun {x c np} hc {Q E} q => by
    obtain ⟨hg, hdbg, hm | ⟨hm, hv, hnn⟩⟩ := hc
    · exact ld_glob (X := X.suite a ((a, oe3) :: (X.pn ++ pins))) S3 hg hm q hdbg
    · exact ld_blt (X := X.suite a ((a, oe3) :: (X.pn ++ pins))) S3 hg hm hv q hnn hdbg
  have go : ∀ {hds' : List ExceptHandler} {l' : List Cl}, HdsM X hds' l' → wMix X.K Wout D l' cls d σ' H' → wpAny (model X.prog X.w) X.A (handleBy (.ref a) X.env hds') (SP X pins D) X.xe { s' with heap := h3 } := by
    intro hds' l' hk
    induction hk with
    | nil =>
      intro w
      refine wpAny_handleBy_nil ?_
      obtain ⟨k1, k2, k3, oe, vs, T, oT, ts', he, hz, hd, h1, hr⟩ := id fl3
      unfold PySem.passOn
      refine wpAny_bind (wpAny_field he hd h1 ?_)
      rw [if_neg (show ¬ ((Value.ref T == Value.none) = true) from by simp)]
      have fin : wpAny (model X.prog X.w) X.A (setFlight (.ref a) X.env.frame) (fun _ s4 => wpAny (model X.prog X.w) X.A (throw (.ref a) : Sem Flow) (SP X pins D) X.xe s4) X.xe { s' with heap := h3 } := by
        rw [hf]
        refine HandSPX.setFlight_upZ fl3 fun h4 hh4 up4 => wpAny_throw (tk _ _ ?_)
        exact ⟨a, B, sI, pins, σ', H', cls, d, rfl, J, nb, (up.trans up3).trans up4, .inr (.inr (by rw [hs]; exact hh4)), na, os, ag, w⟩
      first
        | exact wpAny_bind (wpAny_pure (wpAny_bind fin))
        | exact wpAny_bind fin
    | @bare x c ts b₀ suite np pos' hds2 l2 hc hsu r ih =>
      rintro ⟨b, hb1, hyes, hno⟩
      refine wpAny_handleBy_cons (codeAny_handlers_test ?_) (by intro q; cases q)
      refine test hc ((PySem.W.exm_one (M := model X.prog X.w) (J3.kIn) LT hb1).here ?_)
      cases b with
      | false => exact ih (hno rfl)
      | true =>
        refine codeAny_handlers_suite ?_
        refine HandSPX.lands_againZ fl3 fun h4 fl4 up4 => ?_
        have J4 : Inv X pins σ' H' { s' with heap := h4 } := J.landed nb fl4.1 ((up.trans up3).trans up4) os ag
        obtain ⟨oe4, vs4, he4, hz4, hd4⟩ := fl4.there
        refine wpAny_mono ((hsu a oe4 cls d (X.pn ++ pins) hz4 ⟨_, hd4⟩).run [] _ _ H' _ (J4.suite he4 hd4 na nL nF) (hyes rfl a na)) (fun f s6 hsp => ?_) fun _ _ z => False.elim z
        match f, hsp with
        | .next, ⟨σ6, H6, S6, q6⟩ => exact ⟨_, _, S6.unsuite ok, q6⟩
        | .brk, ⟨σ6, H6, S6, q6⟩ => exact ⟨_, _, S6.unsuite ok, q6⟩
        | .cont, ⟨σ6, H6, S6, q6⟩ => exact ⟨_, _, S6.unsuite ok, q6⟩
        | .ret u, ⟨v6, σ6, H6, S6, r6, q6⟩ => exact ⟨_, _, _, S6.unsuite ok, r6, q6⟩
    | @as x n i c ts b₀ suite np pos' hds2 l2 hi hln hc hsu r ih =>
      rintro ⟨b, hb1, hyes, hno⟩
      refine wpAny_handleBy_cons (codeAny_handlers_test ?_) (by intro q; cases q)
      refine test hc ((PySem.W.exm_one (M := model X.prog X.w) (J3.kIn) LT hb1).here ?_)
      cases b with
      | false => exact ih (hno rfl)
      | true =>
        refine codeAny_handlers_suite_as ?_
        refine HandSPX.lands_againZ fl3 fun h4 fl4 up4 => ?_
        have J4 : Inv X pins σ' H' { s' with heap := h4 } := J.landed nb fl4.1 ((up.trans up3).trans up4) os ag
        obtain ⟨oe4, vs4, he4, hz4, hd4⟩ := fl4.there
        refine store_ok (X := X.suite a ((a, oe4) :: (X.pn ++ pins))) (v := .ref a) (J4.suite he4 hd4 na nL nF) hN hi (.inl hln) rfl (fun s5 S5 => ?_) (.inr hln)
        refine wpAny_mono ((hsu a oe4 cls d (X.pn ++ pins) hz4 ⟨_, hd4⟩).run [] s5 _ H' _ S5 (hyes rfl a na)) (fun f s6 hsp => ?_) fun _ _ z => False.elim z
        have gone : ∀ {σ6 : L2.St} {H6 : Hp} {Q : Shared → Prop}, Inv (X.suite a ((a, oe4) :: (X.pn ++ pins))) [] σ6 H6 s6 → (∀ s7, Inv X pins (σ6.set i none) H6 s7 → Q s7) →
            wpAny (model X.prog X.w) X.A (do bindName X.env n .none; unbindBehindTheSuite X.env n pos') (fun _ s7 => Q s7) X.xe s6 := fun {σ6 H6 Q} S6 hq => gone_ok (S6.unsuite ok) hN hi hln hq
        match f, hsp with
        | .next, ⟨σ6, H6, S6, q6⟩ => exact gone S6 fun s7 J7 => ⟨_, _, J7, q6⟩
        | .brk, ⟨σ6, H6, S6, q6⟩ => exact gone S6 fun s7 J7 => ⟨_, _, J7, q6⟩
        | .cont, ⟨σ6, H6, S6, q6⟩ => exact gone S6 fun s7 J7 => ⟨_, _, J7, q6⟩
        | .ret u, ⟨v6, σ6, H6, S6, r6, q6⟩ => exact gone S6 fun s7 J7 => ⟨_, _, _, J7, r6, q6⟩
  exact go hh w
end
/-! ### methods that may raise -/
def tMethS (C : Addr) (m : Str) (sp : Sp) (E : L2.St → XK) (ta : TE) (t : TA) : TE := fun σ H Q => ta σ H fun x H1 => ∃ a dx fs, x = .ref a ∧ H1 a = some (.ins C dx fs) ∧ fs.lookup m = none ∧ t σ H1 fun vs H2 => sp (x :: vs) H2 Q (E σ)
section
variable {X : Cx} {CX : CXT} {k : Nat} {f C : Addr} {fd : FuncData} {ps : List Str} {sp : Sp} {E : L2.St → XK} {x m : Str} {p pos apos : Pos} {e o : Expr} {es : List Expr} {ta : TE} {t : TA}
theorem pe_methS {pl : Sem Bool} (he : PE X o ta) (c : Cls X.K C) (hm : Meth X.K C m f) (F : FnOk X.prog X.w X.K X.mg X.base CX k f fd ps sp) (hr : Room k X.A) (hb : Binds X.K fd ps []) (hx : ∀ σ, PassesAt CX X σ (E σ)) (ha : PA X (e :: es) t)
    (hst : starEach (e :: es) X.env = (false, eval e X.env) :: starEach es X.env := by rfl) (hpl : (backTo pos (starEach es X.env)).any (·.1) = false := by rfl)
    (ht : eval (.Call (.Attribute o m apos) (e :: es) [] pos) X.env = (do
      let ov ← eval o X.env
      standAt apos.atName
      let (f, first) ← holding [ov] (getMethod ov m pl)
      callWith pos f first (backTo pos (starEach (e :: es) X.env)) (backToKw pos (keywordEach [] X.env))) := by rfl) :
    PE X (.Call (.Attribute o m apos) (e :: es) [] pos) (tMethS C m sp E ta t) := by
  refine ⟨fun pins s σ H Q I h => ?_⟩
  refine PySem.W.methodCall_KW (pl := pl) (thn (he.run pins s σ H _ I h) fun u s1 ⟨x, H1, I1, rx, a, dx, fs, ex, ea, l, q⟩ => ?_) ht
  subst ex
  obtain rfl : u = Value.ref a := rx
  refine getmeth_ok I1 ea c hm l ?_
  refine PySem.W.callWith_K (first := [.ref a]) (h₀ := X.base) I.ok.mod.kin hm.kp (thn (ha.run pos pins s1 σ H1 _ I1 q) fun us s2 ⟨vs, H2, I2, r, q2⟩ => ⟨I2.kIn, ?_⟩) hst hpl
  exact run_fnS (us := .ref a :: us) (vs := .ref a :: vs) F hr hb (hx σ) I2 (.cons rfl r) q2
theorem pe_methS0 {pl : Sem Bool} (he : PE X o ta) (c : Cls X.K C) (hm : Meth X.K C m f) (F : FnOk X.prog X.w X.K X.mg X.base CX k f fd ps sp) (hr : Room k X.A) (hb : Binds X.K fd ps []) (hx : ∀ σ, PassesAt CX X σ (E σ))
    (ht : eval (.Call (.Attribute o m apos) [] [] pos) X.env = (do
      let ov ← eval o X.env
      standAt apos.atName
      let (f, first) ← holding [ov] (getMethod ov m pl)
      callWith pos f first (backTo pos (starEach [] X.env)) (backToKw pos (keywordEach [] X.env))) := by rfl) :
    PE X (.Call (.Attribute o m apos) [] [] pos) (tMethS C m sp E ta tNil) := by
  refine ⟨fun pins s σ H Q I h => ?_⟩
  refine PySem.W.methodCall_KW (pl := pl) (thn (he.run pins s σ H _ I h) fun u s1 ⟨x, H1, I1, rx, a, dx, fs, ex, ea, l, q⟩ => ?_) ht
  subst ex
  obtain rfl : u = Value.ref a := rx
  refine getmeth_ok I1 ea c hm l ?_
  exact PySem.W.callWith_K0 (first := [.ref a]) I1.kIn hm.kp (run_fnS (us := [.ref a]) (vs := [.ref a]) F hr hb (hx σ) I1 (.cons rfl .nil) q)
/-- C(e, ..), its __init__ may raise -/
def tMakeS (C : Addr) (sp : Sp) (E : L2.St → XK) (t : TA) : TE := fun σ H Q => t σ H fun vs H1 => ∀ x dx, H1 x = none → H1 dx = none → dx ≠ x →
  sp (.ref x :: vs) (upd (upd H1 dx (.own x)) x (.ins C dx [])) (fun v H2 => v = .non ∧ Q (.ref x) H2) (E σ)
theorem pe_makeS (M : Mk X.K C f) (F : FnOk X.prog X.w X.K X.mg X.base CX k f fd ps sp) (hr : Room (k + 1) X.A) (hg : Gl X x) (hm : X.mg x = some (.ref C)) (hb : Binds X.K fd ps []) (hx : ∀ σ, PassesAt CX X σ (E σ))
    (ha : PA X (e :: es) t) (hdb : (x == ("__debug__" : Str)) = false := by decide) (he : starEach (e :: es) X.env = (false, eval e X.env) :: starEach es X.env := by rfl) (hpl : (backTo pos (starEach es X.env)).any (·.1) = false := by rfl) :
    PE X (.Call (.Name x p) (e :: es) [] pos) (tMakeS C sp E t) := by
  refine ⟨fun pins s σ H Q I h => ?_⟩
  refine wpAny_Call_Name_kw (ld_glob I hg hm ?_ hdb)
  refine PySem.W.callWith_K (h₀ := X.base) I.ok.mod.kin M.kp (thn (ha.run pos pins s σ H _ I h) fun us s1 ⟨vs, H1, I1, r, q⟩ => ⟨I1.kIn, ?_⟩) he hpl
  have hq := q (s1.heap.objs.size + 1) s1.heap.objs.size (I1.hok.fresh (Nat.le_succ _)) (I1.hok.fresh (Nat.le_refl _)) (Nat.ne_of_lt (Nat.lt_succ_self _))
  have I2 := Inv.made (C := C) I1
  have r2 : Vals (V.ref (s1.heap.objs.size + 1) :: vs) (Value.ref (s1.heap.objs.size + 1) :: us) := .cons rfl r
  have hl : (Value.ref (s1.heap.objs.size + 1) :: us).length = ps.length := by
    rw [← r2.length]
    exact F.len _ _ _ _ hq
  refine wpAny_call (make_map (f := f) I1.kIn M.makes M.init (beq_iff_eq.mp M.fn) (codeAny_mono (F.run _ X.stack _ _ ⟨Value.ref (s1.heap.objs.size + 1) :: us, []⟩ (Value.ref (s1.heap.objs.size + 1) :: us) _ _ (E σ) (hr.make C us [])
    (I2.env0.make C us []) (by have b2 := hb _ (Value.ref (s1.heap.objs.size + 1) :: us) I2.kIn (by rw [List.append_nil]; exact hl); rw [List.append_nil] at b2; exact b2) r2 hq) fun r s' hq' => ?_))
  match r, hq' with
  | .error e, hq' => exact hx σ pins _ _ e s' I2 hq'
  | .ok (.ret u), hq' =>
    obtain ⟨v, H', I3, rv, ev, q3⟩ := I2.after hq'
    subst ev
    exact ⟨rv, ⟨V.ref (s1.heap.objs.size + 1), H', I3, rfl, q3⟩⟩
  | .ok .next, hq' => exact False.elim hq'
  | .ok .brk, hq' => exact False.elim hq'
  | .ok .cont, hq' => exact False.elim hq'
end
end Lg

/-! Own exceptions over ValueError in the ledger: made with an own __init__, raised, caught, their field read; objects of own classes. -/
namespace Lg
open PySem PySem.Spec PyProof.Rows L2
/-- what is written of an own exception class with an __init__ -/
def oexB (K : PySem.W.Frag) (C : Addr) : Bool := (match K.lookup C with
  | some ⟨.type "type", _, .cls cd, sl⟩ => (match cd.mro, sl.toList with
    | .ref C' :: bm, [_, _, _, _, some (.builtin n), _] => C' == C && (n == "ValueError.__new__" && (!cd.hasDel && (cd.hasDict && PySem.HandSPX.refsVE bm)))
    | _, _ => false)
  | _ => false) && (decide (PySem.W.findIn K (.ref C) "__setattr__" = some (some (.builtin "object.__setattr__"))) && (decide (PySem.W.subIn K (.ref C) (.type "BaseException") = some true) &&
    (decide (PySem.W.typeIn K (.ref C) = some (.type "type")) && PySem.W.keepIn K (.ref C))))
theorem oexB_ok {K : PySem.W.Frag} {C : Addr} (h : oexB K C = true) : OexC K C := by
  unfold oexB at h
  simp only [Bool.and_eq_true, decide_eq_true_eq] at h
  obtain ⟨q, h1, h2, h3, h4⟩ := h
  refine ⟨?_, h1, h2, h3, h4⟩
  split at q
  · rename_i dd cd sl ho
    split at q
    · rename_i C' bm k0 k1 k2 k3 n k5 hm hs
      simp only [Bool.and_eq_true, beq_iff_eq, Bool.not_eq_true'] at q
      obtain ⟨rfl, rfl, hdel, hdc, hr⟩ := q
      obtain ⟨nm, bs, mro, ns, qn, hd, sn, sub, ab, col, del⟩ := cd
      dsimp only at hm hdel hdc
      subst hm hdel hdc
      have hsl : sl = #[k0, k1, k2, k3, some (.builtin "ValueError.__new__"), k5] := by
        obtain ⟨l⟩ := sl
        simp only at hs
        rw [hs]
      subst hsl
      exact ⟨nm, qn, ns, bs, bm, sn, sub, ab, col, dd, k0, k1, k2, k3, k5, ho, hr⟩
    · cases q
  · cases q
section
variable {K : PySem.W.Frag} {L L' : List Ent} {H : Hp} {σ : L2.St} {Q : VK} {a b d C : Addr} {i : Int} {k : Nat} {v : V} {o : HO} {f : Str}
/-- a cell is given up -/
theorem St.del (h : St K (Lg.own a o :: L) H) : St K L (L2.del H a) := by
  obtain ⟨F, h1, h2⟩ := h.ex
  have hFa : F a = none := (h2 _ (.head _)).1
  have nd := h.nd
  have hn : ∀ e ∈ L, e.adr ≠ some a := fun e he q => by
    have : a ∈ L.filterMap Ent.adr := List.mem_filterMap.mpr ⟨e, he, q⟩
    exact (List.nodup_cons.mp (show (a :: L.filterMap Ent.adr).Nodup from nd)).1 this
  refine ⟨⟨F, fun x u hx => ?_, fun e he => ?_⟩, (List.nodup_cons.mp (show (a :: L.filterMap Ent.adr).Nodup from nd)).2⟩
  · have : x ≠ a := fun z => by rw [z, hFa] at hx; cases hx
    rw [L2.del_ne this]
    exact h1 x u hx
  · have he2 := h2 e (.tail _ he)
    cases e with
    | cell c φ =>
      obtain ⟨h3, o', h4, h5⟩ := he2
      have : c ≠ a := fun z => hn _ he (by rw [z]; rfl)
      exact ⟨h3, o', by rw [L2.del_ne this]; exact h4, h5⟩
    | dat v d => exact he2
    | fact φ => exact he2
/-- the promise of such an __init__ that stores its one argument -/
def spExI (K : PySem.W.Frag) (C : Addr) (f : Str) : Sp := fun vs H Q _ => ∃ (L : List Ent) (a : Addr) (v : V), vs = [.ref a, v] ∧ OexC K C ∧ PySem.W.findIn K (.ref C) f = some none ∧ St K (Lg.own a (exo a C none) :: L) H ∧
  ∀ d H', H d = none → St K (Lg.own d (exd d [(f, v)]) :: Lg.own a (exo a C (some d)) :: L) H' → Q .non H'
theorem p_exi {nx : L2.St → Hp → Prop} {rt : VK} (vs : List V) (h : spExI K C f vs H Q (fun _ _ _ => False)) (hnx : ∀ σ H', Q .non H' → nx σ H') : vs.length = 2 ∧ tOst K f (tVar 0) (tVar 1) { nx := nx, rt := rt } (vs.map some) H := by
  obtain ⟨L, a, v, rfl, hC, hno, hS, hQ⟩ := h
  refine ⟨rfl, v, rfl, .ref a, rfl, a, C, rfl, hC, hno, .inl ⟨hS.own (.head _), fun dx hdx hne => hnx _ _ (hQ dx _ hdx ?_)⟩⟩
  have h1 := hS.alloc hdx (φ := .eq (exd dx [(f, v)])) (o := exd dx [(f, v)]) (fun _ _ _ => rfl)
  have h2 := h1.writeP (φ := .eq (exo a C none)) (ψ := .eq (exo a C (some dx))) (o := exo a C (some dx)) (.there .here) (fun _ _ _ _ _ _ => rfl)
  exact h2
/-- C(e) is made -/
theorem w_mkO {ta : TA} {R : XK} (hS : St K L H) (hC : OexC K C) (hno : PySem.W.findIn K (.ref C) f = some none) (ht : ∀ R : List V → Hp → Prop, R [v] H → ta σ H R) (h : ∀ d H', St K (Lg.own d (.xd [(f, v)]) :: L) H' → R (.ref C) (some d) H') : tMkO C (spExI K C f) [] ta σ H R := by
  refine ht _ ⟨by simp, fun a ha => ⟨L, a, v, by simp, hC, hno, ?_, fun d H' hd hS' => ⟨rfl, d, [(f, v)], ?_, ?_, ?_, ?_⟩⟩⟩
  · exact hS.alloc ha (φ := .eq (exo a C none)) (o := exo a C none) (fun _ _ _ => rfl)
  · exact hS'.own (.tail _ (.head _))
  · exact hS'.own (.head _)
  · by_cases q : d = a
    · rw [q, upd_same] at hd
      cases hd
    · rw [upd_ne q] at hd
      exact hd
  · have h1 : St K (Lg.own a (exo a C (some d)) :: Lg.own d (exd d [(f, v)]) :: L) H' := hS'.perm (List.Perm.swap _ _ _)
    have h2 := h1.del
    exact h d _ (h2.writeP (φ := .eq (exd d [(f, v)])) (ψ := .eq (.xd [(f, v)])) (o := .xd [(f, v)]) .here (fun _ _ _ _ _ _ => rfl))
/-- e.f in a suite -/
theorem w_xf {cls : Value} {fs : List (Str × V)} {te : TE} {x : V} (hS : St K L H) (hm : Lg.own d (.xd fs) ∈ L) (hl : fs.lookup f = some v) (ht : ∀ R : VK, R (.ref a) H → te σ H R) (h : Q v H) : tXf a (.ref C) (some d) C f te σ H Q :=
  ht _ ⟨rfl, rfl, d, fs, v, rfl, hS.own hm, hl, h⟩
end
end Lg

/-! Defs, methods, makers that may raise, as constants of the module; raise; what a suite asks of its exception. -/
namespace Lg
open PySem PySem.Spec PyProof.Rows L2
section
variable {P : Program} {w : World} {K : PySem.W.Frag} {mg : Str → Option Value} {base : Heap}
structure CalX (P : Program) (w : World) (K : PySem.W.Frag) (mg : Str → Option Value) (base : Heap) (k : Nat) (x : Str) (sp : Sp) : Prop where
  ex : ∃ (f : Addr) (fd : FuncData) (ps : List Str), FnOk P w K mg base (L2.CX P w) k f fd ps sp ∧ mg x = some (.ref f) ∧ PySem.W.keepIn K (.ref f) = true ∧ Binds K fd ps []
structure MetX (P : Program) (w : World) (K : PySem.W.Frag) (mg : Str → Option Value) (base : Heap) (k : Nat) (C : Addr) (m : Str) (sp : Sp) : Prop where
  ex : ∃ (f : Addr) (fd : FuncData) (ps : List Str), Cls K C ∧ Meth K C m f ∧ FnOk P w K mg base (L2.CX P w) k f fd ps sp ∧ Binds K fd ps []
structure MakX (P : Program) (w : World) (K : PySem.W.Frag) (mg : Str → Option Value) (base : Heap) (k : Nat) (x : Str) (C : Addr) (sp : Sp) : Prop where
  ex : ∃ (f : Addr) (fd : FuncData) (ps : List Str), Mk K C f ∧ FnOk P w K mg base (L2.CX P w) k f fd ps sp ∧ mg x = some (.ref C) ∧ Binds K fd ps []
/-- an own exception whose __init__ stores its argument in f -/
structure Oex (P : Program) (w : World) (K : PySem.W.Frag) (mg : Str → Option Value) (base : Heap) (k : Nat) (x : Str) (C : Addr) (f : Str) : Prop where
  cls : OexC K C
  no : PySem.W.findIn K (.ref C) f = some none
  ex : ∃ (fI : Addr) (fd : FuncData) (ps : List Str), PySem.W.findIn K (.ref C) "__init__" = some (some (.ref fI)) ∧ PySem.W.typeIn K (.ref fI) = some (.type "function") ∧ FnOk P w K mg base C8.CX0 k fI fd ps (spExI K C f) ∧ mg x = some (.ref C) ∧ Binds K fd ps []
/-- an own exception without an __init__ -/
structure Bex (K : PySem.W.Frag) (mg : Str → Option Value) (x : Str) (C : Addr) : Prop where
  q : PySem.W.excIn K C He.veBase "ValueError.__new__" = true
  g : mg x = some (.ref C)
  k : PySem.W.keepIn K (.ref C) = true
  b : PySem.W.subIn K (.ref C) (.type "BaseException") = some true
  t : PySem.W.typeIn K (.ref C) = some (.type "type")
end
def tRaiseO (C : Addr) (sp : Sp) (W : WX) (ta : TA) : TS := fun _ σ H => tMkO C sp [] ta σ H fun cls d H' => W cls d σ H'
def tRaiseB (C : Addr) (W : WX) : TS := fun _ σ H => W (.ref C) none σ H
section
variable {X : Cx} {k j : Nat} {C : Addr} {x m f : Str} {sp : Sp} {W : WX} {p pos apos pos2 : Pos} {e o : Expr} {es : List Expr} {ta : TE} {t : TA}
theorem pe_cX (c : CalX X.prog X.w X.K X.mg X.base k x sp) (hr : Room j X.A) (hk : k ≤ j) (tk : Takes X W) (hg : Gl X x) (ha : PA X (e :: es) t)
    (hdb : (x == ("__debug__" : Str)) = false := by decide) (he : starEach (e :: es) X.env = (false, eval e X.env) :: starEach es X.env := by rfl) (hpl : (backTo pos (starEach es X.env)).any (·.1) = false := by rfl) :
    PE X (.Call (.Name x p) (e :: es) [] pos) (tCallS sp (WE W) t) := by
  obtain ⟨f, fd, ps, F, hm, kp, b⟩ := c.ex
  exact pe_callS F (hr.mono hk) hg hm kp b (fun σ => passAt tk σ) ha hdb he hpl
theorem pe_kX (c : MakX X.prog X.w X.K X.mg X.base k x C sp) (hr : Room j X.A) (hk : k + 1 ≤ j) (tk : Takes X W) (hg : Gl X x) (ha : PA X (e :: es) t)
    (hdb : (x == ("__debug__" : Str)) = false := by decide) (he : starEach (e :: es) X.env = (false, eval e X.env) :: starEach es X.env := by rfl) (hpl : (backTo pos (starEach es X.env)).any (·.1) = false := by rfl) :
    PE X (.Call (.Name x p) (e :: es) [] pos) (tMakeS C sp (WE W) t) := by
  obtain ⟨f, fd, ps, M, F, hm, b⟩ := c.ex
  exact pe_makeS M F (hr.mono hk) hg hm b (fun σ => passAt tk σ) ha hdb he hpl
theorem pe_mX {pl : Sem Bool} (c : MetX X.prog X.w X.K X.mg X.base k C m sp) (hr : Room j X.A) (hk : k ≤ j) (tk : Takes X W) (he : PE X o ta) (ha : PA X (e :: es) t)
    (hst : starEach (e :: es) X.env = (false, eval e X.env) :: starEach es X.env := by rfl) (hpl : (backTo pos (starEach es X.env)).any (·.1) = false := by rfl)
    (ht : eval (.Call (.Attribute o m apos) (e :: es) [] pos) X.env = (do
      let ov ← eval o X.env
      standAt apos.atName
      let (f, first) ← holding [ov] (getMethod ov m pl)
      callWith pos f first (backTo pos (starEach (e :: es) X.env)) (backToKw pos (keywordEach [] X.env))) := by rfl) :
    PE X (.Call (.Attribute o m apos) (e :: es) [] pos) (tMethS C m sp (WE W) ta t) := by
  obtain ⟨f, fd, ps, hc, hm, F, b⟩ := c.ex
  exact pe_methS (pl := pl) he hc hm F (hr.mono hk) b (fun σ => passAt tk σ) ha hst hpl ht
theorem pe_mX0 {pl : Sem Bool} (c : MetX X.prog X.w X.K X.mg X.base k C m sp) (hr : Room j X.A) (hk : k ≤ j) (tk : Takes X W) (he : PE X o ta)
    (ht : eval (.Call (.Attribute o m apos) [] [] pos) X.env = (do
      let ov ← eval o X.env
      standAt apos.atName
      let (f, first) ← holding [ov] (getMethod ov m pl)
      callWith pos f first (backTo pos (starEach [] X.env)) (backToKw pos (keywordEach [] X.env))) := by rfl) :
    PE X (.Call (.Attribute o m apos) [] [] pos) (tMethS C m sp (WE W) ta tNil) := by
  obtain ⟨f, fd, ps, hc, hm, F, b⟩ := c.ex
  exact pe_methS0 (pl := pl) he hc hm F (hr.mono hk) b (fun σ => passAt tk σ) ht
theorem ps_rO (c : Oex X.prog X.w X.K X.mg X.base k x C f) (hc : X.calm = true) (hr : Room j X.A) (hk : k + 1 ≤ j) (tk : Takes X W) (hg : Gl X x) (ha : PA X (e :: es) t)
    (hdb : (x == ("__debug__" : Str)) = false := by decide) (he : starEach (e :: es) X.env = (false, eval e X.env) :: starEach es X.env := by rfl) (hpl : (backTo pos (starEach es X.env)).any (·.1) = false := by rfl) :
    PS X (.Raise (some (.Call (.Name x p) (e :: es) [] pos)) none pos2) (tRaiseO C (spExI X.K C f) W t) := by
  obtain ⟨fI, fd, ps, iC, tI, F, hm, b⟩ := c.ex
  exact ps_raise hc tk (pmk_oex c.cls iC tI F (hr.mono hk) b .nil C8.pass0 hg hm ha hdb he hpl)
theorem ps_rB {jj : Nat} {p2 : Pos} (c : Bex X.K X.mg x C) (hc : X.calm = true) (tk : Takes X W) (hg : Gl X x) (hdb : (x == ("__debug__" : Str)) = false := by decide) :
    PS X (.Raise (some (.Call (.Name x p) [.Constant (.str m) jj p2] [] pos)) none pos2) (tRaiseB C W) := ps_raise hc tk (pmk_own PySem.F.excBase_ValueError c.q c.g c.k (raises_own c.b c.t) hg hdb)
theorem c_max2 {X : Cx} (hc : X.calm = true) : CallR X (.builtin "max") rMax2 := call_max2 hc
theorem c_min2 {X : Cx} (hc : X.calm = true) : CallR X (.builtin "min") rMin2 := call_min2 hc
/-- try: what the body reads, W being what the clauses wish -/
def tTry (tb : WX → TS) (K : PySem.W.Frag) (Wout : WX) (l : List Cl) : TS := fun D σ H => tb (wMix K Wout D l) D σ H
theorem takesF {X : Cx} : Takes X (fun _ _ _ _ => False) := takes_none5
/-! a suite -/
/-- e.f: the exception is of the class at C, its dict at d -/
theorem pe_xfC {a : Addr} {oe : Obj} {cls : Value} {d : Option Addr} {pn : List (Addr × Obj)} {e : Expr} {te : TE} {n : Str} (T : xfB X.K C = true) (hno : PySem.W.findIn X.K (.ref C) n = some none)
    (hz : Zc cls d oe) (hf : ∃ vs, oe.data = .fields vs) (he : PE (X.suite a ((a, oe) :: pn)) e te) (hb : attributeBase e n X.env (eval e X.env) = eval e X.env := by rfl) :
    PE (X.suite a ((a, oe) :: pn)) (.Attribute e n pos) (tXf a cls d C n te) := pe_xf (xfB_ok T) hno hz hf he hb
/-- isinstance(e, c), the exception being of the class at D, without a dict -/
def tIsE (K : PySem.W.Frag) (D a : Addr) (cls : Value) (d : Option Addr) (t : TA) : TE := fun σ H Q => cls = .ref D ∧ d = none ∧ tCB (rIsE K D a) t σ H Q
theorem pe_isE {a D : Addr} {oe : Obj} {cls : Value} {d : Option Addr} {pn : List (Addr × Obj)} {e : Expr} {es : List Expr} {t : TA} (C : ExcC X.K D) (hz : Zc cls d oe) (hf : ∃ vs, oe.data = .fields vs) (hg : Gl X "isinstance") (hm : X.mg "isinstance" = none)
    (ha : PA (X.suite a ((a, oe) :: pn)) (e :: es) t) (he : starEach (e :: es) X.env = (false, eval e X.env) :: starEach es X.env := by rfl) (hpl : (backTo pos (starEach es X.env)).any (·.1) = false := by rfl) :
    PE (X.suite a ((a, oe) :: pn)) (.Call (.Name "isinstance" p) (e :: es) [] pos) (tIsE X.K D a cls d t) := by
  refine ⟨fun pins s σ H Q I h => ?_⟩
  obtain ⟨rfl, rfl, h⟩ := h
  exact (pe_callB (X := X.suite a ((a, oe) :: pn)) (call_isE C hz hf) hg hm (by decide +kernel) ha (by decide) (by decide) he hpl).run pins s σ H Q I h
def excB (K : PySem.W.Frag) (D : Addr) : Bool := decide (PySem.W.findIn K (.ref D) "__getattribute__" = some (some (.builtin "BaseException.__getattribute__"))) && (decide (PySem.W.findIn K (.ref D) "__getattr__" = some none) && (decide (PySem.W.subIn K (.ref D) (.type "BaseException") = some true) &&
  (PySem.W.hasDictIn K D && (decide (PySem.W.findIn K (.ref D) "__class__" = some (some (.builtin "object.__class__"))) && (decide (PySem.W.specialIn K (.builtin "object.__class__") "__get__" = some (some (.builtin "getset_descriptor.__get__"))) &&
  (decide (PySem.W.takesIn K (.builtin "object.__class__") = some true) && decide (PySem.W.mroIn K D (.type "object") = some true)))))))
theorem excB_ok {K : PySem.W.Frag} {D : Addr} (h : excB K D = true) : ExcC K D := by
  unfold excB at h
  simp only [Bool.and_eq_true, decide_eq_true_eq] at h
  obtain ⟨h1, h2, h3, h4, h5, h6, h7, h8⟩ := h
  exact ⟨h1, h2, h3, h4, h5, h6, h7, h8⟩
end
end Lg

/-! Tuples cut and joined, list.pop, fields of objects, makers, methods, raise and try in the ledger. -/
namespace Lg
open PySem PySem.Spec PyProof.Rows L2
section
variable {K : PySem.W.Frag} {L L' : List Ent} {H : Hp} {σ : L2.St} {Q : VK} {a b C dx : Addr} {i : Int} {k : Nat} {v x : V} {d : PyData} {ds es : List PyData} {fs : List (Str × V)} {f m : Str} {ta tv : TE} {t : TA} {D : Ends} {sp : Sp}
theorem w_plusT (hS : St K L H) (h1 : Is L (.ref a) (.tuple ds)) (h2 : Is L (.ref b) (.tuple es)) (hn : ds.length + es.length ≤ 100000) (h : ∀ v H', St K (Lg.dat v (.tuple (ds ++ es)) :: L) H' → Q v H') : rPlus K (.ref a) (.ref b) H Q := by
  obtain ⟨xs, ha, hS1⟩ := hS.tupF h1
  obtain ⟨ys, hb, hS2⟩ := hS1.tupF h2.cons
  obtain ⟨F0, _, hF0⟩ := hS2.ex
  have l1 : xs.length = ds.length := (hF0 _ (.tail _ (.head _))).2.len
  have l2 : ys.length = es.length := (hF0 _ (.head _)).2.len
  refine .inr (.inr (.inr ⟨a, b, xs, ys, rfl, rfl, ha, hb, ?_, fun e => ?_, fun _ e => ?_, fun _ _ p hp => ?_⟩))
  · rw [l1, l2]; exact Nat.le_trans hn (by decide)
  · have : ds = [] := List.length_eq_zero_iff.mp (by rw [← l1, e]; rfl)
    rw [this] at h
    exact h _ _ (hS.learn h2)
  · have : es = [] := List.length_eq_zero_iff.mp (by rw [← l2, e]; rfl)
    rw [this, List.append_nil] at h
    exact h _ _ (hS.learn h1)
  · have h3 := hS2.fresh hp (d := .tuple (ds ++ es)) (v := .ref p) (o := .tup (xs ++ ys)) (fun F hF _ q => .tup (SqT.of upd_same) (DvAll.mono (Ex.new hF) _ _ (DvAll.app (q _ (.tail _ (.head _))).2 (q _ (.head _)).2)))
    exact h _ _ (h3.to (.cons .here (.drop (.drop .refl))))
theorem w_slT {lo hi : Option Int} (hS : St K L H) (h1 : Is L (.ref a) (.tuple ds)) (h : ∀ v H', St K (Lg.dat v (.tuple (cutD ds lo hi)) :: L) H' → Q v H') : rSlX K (.ref a) lo hi H Q := by
  obtain ⟨xs, ha, hS1⟩ := hS.tupF h1
  obtain ⟨F0, _, hF0⟩ := hS1.ex
  have l1 : xs.length = ds.length := (hF0 _ (.head _)).2.len
  refine .inr (.inr ⟨a, xs, rfl, ha, fun e => ?_, fun _ p hp => ?_⟩)
  · have e2 : cutD ds lo hi = ds := by
      unfold cutD
      rw [← l1, e.1, e.2, List.drop_zero, Nat.sub_zero, l1, List.take_length]
    rw [e2] at h
    exact h _ _ (hS.learn h1)
  · have h3 := hS1.fresh hp (d := .tuple (cutD ds lo hi)) (v := .ref p) (o := .tup (cutV xs lo hi)) (fun F hF _ q => .tup (SqT.of upd_same) (DvAll.mono (Ex.new hF) _ _ (by
      have q2 := (q _ (.head _)).2
      unfold cutV cutD
      rw [l1]
      exact (q2.drop _).take _)))
    exact h _ _ (h3.to (.cons .here (.drop .refl)))
theorem w_tupT (hS : St K L H) (h1 : Is L (.ref a) (.tuple ds)) (h : Q (.ref a) H) : rTupOf K [.ref a] H Q := by
  obtain ⟨xs, ha, _⟩ := hS.tupF h1
  exact ⟨a, xs, rfl, .inr ⟨ha, h⟩⟩
theorem St.tf {xs : List V} (hS : St K L H) (hm : Ent.fact (Fr.tupf K a xs ds) ∈ L) : SqT K H a xs ∧ xs.length = ds.length ∧ ∀ (i : Nat) (d : PyData) (v : V), ds[i]? = some d → xs[i]? = some v → St K (.dat v d :: L) H := by
  obtain ⟨F, h1, h2⟩ := hS.ex
  have h3 := h2 _ hm
  refine ⟨h1.sqT h3.1, h3.2.len, fun i d v hd hv => ?_⟩
  obtain ⟨u, hu, hdv⟩ := h3.2.get hd
  rw [hv] at hu
  cases hu
  refine ⟨⟨F, h1, fun e he => ?_⟩, hS.nd⟩
  cases he with
  | head => exact hdv
  | tail _ he => exact h2 e he
/-- a comprehension over a tuple (St.tupF ahead) -/
theorem w_lcT {R : Nat → PyData → Prop} {xs : List V} {g : TG} {te : TE} {vs : List Nat} (hS : St K L H) (hm : Ent.fact (Fr.tupf K a xs ds) ∈ L) (hn : ds.length ≤ 100000)
    (hs : ∀ i d q es v H, ds[i]? = some d → es.length = i → St K (.dat v d :: .cell q (.ls K es) :: L) H → ∀ Z : VK, (∀ y e H3, R i e → St K (.dat y e :: .cell q (.ls K es) :: L) H3 → Z y H3) → g v (wipe σ vs) H fun σ2 H2 => wipe σ2 vs = wipe σ vs ∧ te σ2 H2 Z)
    (h : ∀ q es H', es.length = ds.length → (∀ i e, es[i]? = some e → R i e) → St K (.cell q (.ls K es) :: L) H' → Q (.ref q) H') : LcW (Itt K a) g tYes te vs σ H Q := by
  have hl := (hS.tf hm).2.1
  refine lc_mk R hn hS (fun i H es q hi h1 => ?_) (fun H es q h1 => ?_) (fun i q es H x H' hi hlen h1 y Z hZ => ?_) h
  · exact ⟨xs, xs[i]'(by omega), (h1.tf (.tail _ hm)).1, List.getElem?_eq_getElem (by omega)⟩
  · exact ⟨xs, (h1.tf (.tail _ hm)).1, Nat.le_of_eq hl⟩
  · obtain ⟨rfl, y⟩ := y
    obtain ⟨s1, _, s3⟩ := h1.tf (.tail _ hm)
    exact hs i ds[i] q es _ H' (by simp [hi]) hlen (s3 i ds[i] x (by simp [hi]) (y xs s1)) Z hZ
/-! objects -/
theorem w_fldE (h : ta σ H fun x H1 => ∃ a C dx fs v, x = .ref a ∧ H1 a = some (.ins C dx fs) ∧ Cls K C ∧ NoAttr K C f ∧ fs.lookup f = some v ∧ Q v H1) : tFld K ta f σ H Q := h
theorem w_fld {R : V → Prop} (hS : St K L H) (hm : Lg.own a (.ins C dx fs) ∈ L) (hC : Cls K C) (hn : NoAttr K C f) (hl : fs.lookup f = some v) (h : R v) : ∃ a' C dx fs v, (V.ref a) = .ref a' ∧ H a' = some (.ins C dx fs) ∧ Cls K C ∧ NoAttr K C f ∧ fs.lookup f = some v ∧ R v :=
  ⟨a, C, dx, fs, v, rfl, hS.own hm, hC, hn, hl, h⟩
theorem len_put {g : Str} {y : V} {gs : List (Str × V)} {n : Nat} (h : gs.length ≤ n) : (putF g y gs).length ≤ n + 1 := Nat.le_trans (length_putF _ _ _) (by omega)
theorem w_sfldE (h : tv σ H fun y H1 => ta σ H1 fun x H2 => ∃ a C dx fs, x = .ref a ∧ H2 a = some (.ins C dx fs) ∧ Cls K C ∧ NoAttr K C f ∧ fs.length < 1000 ∧ D.nx σ (upd H2 a (.ins C dx (putF f y fs)))) : sFld K ta tv f D σ H := h
theorem w_sfld {R : Hp → Prop} (hS : St K L H) (hp : Put L (Lg.own a (.ins C dx fs)) (Lg.own a (.ins C dx (putF f v fs))) L') (hC : Cls K C) (hn : NoAttr K C f) (hl : fs.length < 1000) (h : ∀ H', St K L' H' → R H') :
    ∃ a' C dx fs, (V.ref a) = .ref a' ∧ H a' = some (.ins C dx fs) ∧ Cls K C ∧ NoAttr K C f ∧ fs.length < 1000 ∧ R (upd H a' (.ins C dx (putF f v fs))) :=
  ⟨a, C, dx, fs, rfl, hS.own hp.mem, hC, hn, hl, h _ (hS.writeP hp fun _ _ _ _ _ _ => rfl)⟩
theorem w_makeE {E : XK} (h : t σ H fun vs H1 => ∀ x dx, H1 x = none → H1 dx = none → dx ≠ x → sp (.ref x :: (vs ++ [])) (upd (upd H1 dx (.own x)) x (.ins C dx [])) (fun v H2 => v = .non ∧ Q (.ref x) H2) E) : tMake C sp [] E t σ H Q := h
/-- a new object's place -/
theorem St.born (hS : St K L H) (hx : H a = none) (hd : H dx = none) (hne : dx ≠ a) : St K (Lg.own a (.ins C dx []) :: Lg.own dx (.own a) :: L) (upd (upd H dx (.own a)) a (.ins C dx [])) := by
  have h1 := hS.alloc hd (φ := .eq (.own a)) (o := .own a) (fun _ _ _ => rfl)
  exact h1.alloc (by rw [upd_ne (Ne.symm hne)]; exact hx) (φ := .eq (.ins C dx [])) (o := .ins C dx []) (fun _ _ _ => rfl)
theorem w_methE {E : XK} (h : ta σ H fun x H1 => ∃ a dx fs, x = .ref a ∧ H1 a = some (.ins C dx fs) ∧ fs.lookup m = none ∧ t σ H1 fun vs H2 => sp (x :: (vs ++ [])) H2 Q E) : tMeth C m sp [] E ta t σ H Q := h
theorem w_meth {R : Prop} (hS : St K L H) (hm : Lg.own a (.ins C dx fs) ∈ L) (hl : fs.lookup m = none) (h : R) : ∃ a' dx fs, (V.ref a) = .ref a' ∧ H a' = some (.ins C dx fs) ∧ fs.lookup m = none ∧ R := ⟨a, dx, fs, rfl, hS.own hm, hl, h⟩
theorem w_methSE {E : L2.St → XK} (h : ta σ H fun x H1 => ∃ a dx fs, x = .ref a ∧ H1 a = some (.ins C dx fs) ∧ fs.lookup m = none ∧ t σ H1 fun vs H2 => sp (x :: vs) H2 Q (E σ)) : tMethS C m sp E ta t σ H Q := h
theorem w_callS {E : L2.St → XK} (h : t σ H fun vs H1 => sp vs H1 Q (E σ)) : tCallS sp E t σ H Q := h
theorem w_raiseO {W : WX} (h : tMkO C sp [] t σ H fun cls d H' => W cls d σ H') : tRaiseO C sp W t D σ H := h
theorem w_raiseB {W : WX} (h : W (.ref C) none σ H) : tRaiseB C W D σ H := h
theorem w_try {tb : WX → TS} {Wout : WX} {l : List Cl} (h : tb (wMix K Wout D l) D σ H) : tTry tb K Wout l D σ H := h
/-- the last of a list of data -/
theorem w_popL (hS : St K L H) (hp : Put L (Lg.ls K a (ds ++ [d])) (Lg.ls K a ds) L') (h : ∀ v H', St K (Lg.dat v d :: L') H' → Q v H') : rPop (.ref a) [] H Q := by
  obtain ⟨xs, v, h3, h5, h4, h6⟩ := hS.item (.own hp.mem) (k := ds.length) (d := d) (by simp)
  have hlen : xs.length = ds.length + 1 := by rw [h4]; simp
  refine ⟨a, xs, v, rfl, rfl, h3, by rw [hlen]; exact h5, h _ _ ?_⟩
  refine h6.writeP (.there hp) fun F x e q hx hφ => ?_
  obtain ⟨zs, rfl, hzs⟩ := hφ
  rw [h3] at hx
  cases hx
  refine ⟨_, rfl, ?_⟩
  have h7 := hzs.take ds.length
  rw [List.take_left] at h7
  rw [List.dropLast_eq_take, hlen]
  exact h7
end
end Lg

/-! x in (a, b, ..), items of any form. -/
namespace Lg
open PySem PySem.Spec PyProof.Rows L2
def rInT (K : PySem.W.Frag) (neg : Bool) : R2 := fun x y H Q => ∃ d ds, Dp K H x d ∧ Dp K H y (.tuple ds) ∧ SeqAt.shaped d = true ∧ SeqAt.shaped (.tuple ds) = true ∧ Q (.bl (if neg then !(ds.any fun z => PyData.eqv z d) else ds.any fun z => PyData.eqv z d)) H
theorem units65 {k : Nat} {A : Around} (hr : Room k A) : A.units + 66 < cLine := by
  have := hr.un
  omega
theorem shaped_depth {d : PyData} (h : SeqAt.shaped d = true) : d.depth ≤ 64 := by
  unfold SeqAt.shaped at h
  simp only [Bool.and_eq_true, decide_eq_true_eq] at h
  exact h.2
section
variable {X : Cx}
theorem o_inT (hu : X.A.units + 66 < cLine) : OpR X (compareOp .In) (rInT X.K false) := by
  intro pins s σ H x y v u Q I rx ry h
  obtain ⟨d, ds, hd, he, sd, se, q⟩ := h
  obtain ⟨as, r1⟩ := Dp.reads I d x v hd rx
  obtain ⟨bs, r2⟩ := Dp.reads I (.tuple ds) y u he ry
  have := shaped_depth sd
  exact SeqAt.in_tuple_reads r2 r1 (SeqAt.canLay_of_shaped se) (SeqAt.canLay_of_shaped sd) (by omega) ⟨.bl _, H, I, rfl, q⟩
theorem o_notinT (hu : X.A.units + 66 < cLine) : OpR X (compareOp .NotIn) (rInT X.K true) := by
  intro pins s σ H x y v u Q I rx ry h
  obtain ⟨d, ds, hd, he, sd, se, q⟩ := h
  obtain ⟨as, r1⟩ := Dp.reads I d x v hd rx
  obtain ⟨bs, r2⟩ := Dp.reads I (.tuple ds) y u he ry
  have := shaped_depth sd
  exact SeqAt.notIn_tuple_reads r2 r1 (SeqAt.canLay_of_shaped se) (SeqAt.canLay_of_shaped sd) (by omega) ⟨.bl _, H, I, rfl, q⟩
end
section
variable {K : PySem.W.Frag} {L : List Ent} {H : Hp} {Q : VK} {a : Addr} {x : V} {d : PyData} {ds : List PyData} {neg : Bool}
theorem w_inD (hS : St K L H) (hx : See K L x d) (hy : Is L (.ref a) (.tuple ds)) (s1 : SeqAt.shaped d = true) (s2 : SeqAt.shaped (.tuple ds) = true) (h : Q (.bl (if neg then !(ds.any fun z => PyData.eqv z d) else ds.any fun z => PyData.eqv z d)) H) : rInT K neg x (.ref a) H Q :=
  ⟨d, ds, hx.dp hS, hS.dp hy, s1, s2, h⟩
end
end Lg

/-! for over enumerate; lists of lists -/
namespace Lg
open PySem PySem.Spec PyProof.Rows L2
section
variable {K : PySem.W.Frag} {L L' : List Ent} {H : Hp} {Q : VK} {a : Addr} {ds : List PyData} {g : TG} {tbody : TS} {D : Ends} {σ : L2.St}
theorem w_forE (I : Nat → L2.St → Hp → Prop) (h0 : I 0 σ H) (hI : ∀ i σ H, i ≤ ds.length → I i σ H → ∃ L, St K L H ∧ LsIn K L a ds)
    (hs : ∀ i d T σ H H', ds[i]? = some d → I i σ H → (∀ L, St K L H → LsIn K L a ds → St K (.dat (.ref T) (.tuple [.int (i : Nat), d]) :: L) H') → g (.ref T) σ H' fun σ2 H2 => tbody { D with nx := I (i + 1), ct := I (i + 1), bk := D.nx } σ2 H2)
    (hd : ∀ σ H, I ds.length σ H → D.nx σ H) : ForW (Ite K a) g tbody D σ H := by
  refine ⟨fun i m σ H => m = ds.length - i ∧ i ≤ ds.length ∧ I i σ H, ⟨ds.length, by simp, Nat.zero_le _, h0⟩, ?_⟩
  rintro i m σ H ⟨rfl, hi, p⟩
  obtain ⟨L, hS, hl⟩ := hI i σ H hi p
  by_cases hlt : i < ds.length
  · obtain ⟨xs, v, h3, h5, hlen, h6⟩ := hS.item hl (k := i) (d := ds[i]) (by simp [hlt])
    refine .inr ⟨⟨xs, v, SqL.of h3, h5⟩, I (i + 1), fun σ' H' p' => ⟨ds.length - (i + 1), by omega, rfl, hlt, p'⟩, fun x H' y => ?_⟩
    obtain ⟨T, x', rfl, hT, rfl, y⟩ := y
    have hx : xs[i]? = some x' := y xs (SqL.of h3)
    have hxv : v = x' := by rw [h5] at hx; exact Option.some.inj hx
    subst hxv
    refine hs i ds[i] T σ H _ (by simp [hlt]) p fun L2 hS2 hl2 => ?_
    obtain ⟨xs2, v2, k3, k5, _, k6⟩ := hS2.item hl2 (k := i) (d := ds[i]) (by simp [hlt])
    rw [h3] at k3
    cases k3
    rw [h5] at k5
    cases k5
    have h7 := k6.fresh (o := .tup [.int (i : Nat), v]) (v := .ref T) (d := .tuple [.int (i : Nat), ds[i]]) hT fun F hF e q => .tup (SqT.of upd_same) (.cons (.int _) (.cons (Dv.mono (Ex.new hF) _ _ (q _ (.head _))) .nil))
    exact h7.to (.cons .here (.drop .refl))
  · have e : i = ds.length := by omega
    subst e
    obtain ⟨xs, h3, h4⟩ := hS.lenl hl
    exact .inl ⟨⟨xs, SqL.of h3, Nat.le_of_eq h4⟩, hd σ H p⟩
end
end Lg

/-! ### the text by places, names by slots, readings, derivations (printed by tools/gen2.py) -/
namespace K42
open PySem PySem.Spec PyProof.Rows L2 Lg
def top (i : Nat) : Stmt := PySem.Challenge.pw_sameasnew_k42_cut_on_schedule.main.body.getD i (.Pass ⟨0, 0, 0, 0⟩)
def mth (i j : Nat) : Stmt := match top i with
  | .ClassDef (body := b) .. => b.getD j (.Pass ⟨0, 0, 0, 0⟩)
  | _ => .Pass ⟨0, 0, 0, 0⟩
structure G (K : PySem.W.Frag) (mg : Str → Option Value) : Prop where
  b_len : mg "len" = none
  c_BLOCK : ∃ u, mg "BLOCK" = some u ∧ RelV (.int 32) u
  k_OutOfRange : mg "OutOfRange" = some (.ref (He.ga K "OutOfRange"))
  b_range : mg "range" = none
  b_int : mg "int" = none
  xf_OutOfRange : xfB K (He.ga K "OutOfRange") = true
  xn_OutOfRange : PySem.W.findIn K (.ref (He.ga K "OutOfRange")) "name" = some none
  k_PowerCut : mg "PowerCut" = some (.ref (He.ga K "PowerCut"))
  isE_PowerCut : ExcC K (He.ga K "PowerCut")
  b_isinstance : mg "isinstance" = none
  c_ModuleError : ∃ u, mg "ModuleError" = some u ∧ RelV (.ref (He.ga K "ModuleError")) u
  c_OutOfRange : ∃ u, mg "OutOfRange" = some u ∧ RelV (.ref (He.ga K "OutOfRange")) u
  b_list : mg "list" = none
  b_min : mg "min" = none
  k_Disk : mg "Disk" = some (.ref (He.ga K "Disk"))
  c_BLOCKS_LEAST : ∃ u, mg "BLOCKS_LEAST" = some u ∧ RelV (.int 8) u
  c_BLOCKS_MOST : ∃ u, mg "BLOCKS_MOST" = some u ∧ RelV (.int 400) u
  b_enumerate : mg "enumerate" = none
  x_PowerCut : Bex K mg "PowerCut" (He.ga K "PowerCut")
  c_COUNT_MOST : ∃ u, mg "COUNT_MOST" = some u ∧ RelV (.int 100000) u
  cls_Disk : Cls K (He.ga K "Disk")
  mkr_Disk : Mk K (He.ga K "Disk") (He.ma K (He.ga K "Disk") "__init__")
  me_Disk_check_at : Meth K (He.ga K "Disk") "_check_at" (He.ma K (He.ga K "Disk") "_check_at")
  me_Disk_read : Meth K (He.ga K "Disk") "read" (He.ma K (He.ga K "Disk") "read")
  me_Disk_cut : Meth K (He.ga K "Disk") "_cut" (He.ma K (He.ga K "Disk") "_cut")
  me_Disk_spend : Meth K (He.ga K "Disk") "_spend" (He.ma K (He.ga K "Disk") "_spend")
  me_Disk_write : Meth K (He.ga K "Disk") "write" (He.ma K (He.ga K "Disk") "write")
  me_Disk_flush : Meth K (He.ga K "Disk") "flush" (He.ma K (He.ga K "Disk") "flush")
  me_Disk_pending_count : Meth K (He.ga K "Disk") "pending_count" (He.ma K (He.ga K "Disk") "pending_count")
  me_Disk_cut_count : Meth K (He.ga K "Disk") "cut_count" (He.ma K (He.ga K "Disk") "cut_count")
  me_Disk_cut_power : Meth K (He.ga K "Disk") "cut_power" (He.ma K (He.ga K "Disk") "cut_power")
  me_Disk_schedule_cut : Meth K (He.ga K "Disk") "schedule_cut" (He.ma K (He.ga K "Disk") "schedule_cut")
  mi_OutOfRange : Meth K (He.ga K "OutOfRange") "__init__" (He.ma K (He.ga K "OutOfRange") "__init__")
  dummy : True
/-- what is written of the classes -/
structure CF (K : PySem.W.Frag) : Prop where
  cls_Disk : Cls K (He.ga K "Disk")
  na_Disk_torn : NoAttr K (He.ga K "Disk") "_torn"
  na_Disk_left : NoAttr K (He.ga K "Disk") "_left"
  na_Disk_cuts : NoAttr K (He.ga K "Disk") "_cuts"
  na_Disk_pending : NoAttr K (He.ga K "Disk") "_pending"
  na_Disk_blocks : NoAttr K (He.ga K "Disk") "_blocks"
  ox_OutOfRange : OexC K (He.ga K "OutOfRange")
  xn_OutOfRange : PySem.W.findIn K (.ref (He.ga K "OutOfRange")) "name" = some none
  em_OutOfRange_OutOfRange : PySem.W.exmOne K (.ref (He.ga K "OutOfRange")) (.ref (He.ga K "OutOfRange")) = some true
  em_OutOfRange_PowerCut : PySem.W.exmOne K (.ref (He.ga K "OutOfRange")) (.ref (He.ga K "PowerCut")) = some false
  em_PowerCut_OutOfRange : PySem.W.exmOne K (.ref (He.ga K "PowerCut")) (.ref (He.ga K "OutOfRange")) = some false
  em_PowerCut_PowerCut : PySem.W.exmOne K (.ref (He.ga K "PowerCut")) (.ref (He.ga K "PowerCut")) = some true
  kit_PowerCut_ModuleError : PySem.W.kitOne K (.ref (He.ga K "PowerCut")) (.ref (He.ga K "ModuleError")) = some true
  kit_PowerCut_OutOfRange : PySem.W.kitOne K (.ref (He.ga K "PowerCut")) (.ref (He.ga K "OutOfRange")) = some false
  dummy : True
section
variable {P : Program} {w : World} {K : PySem.W.Frag} {mg : Str → Option Value} {base : Heap}
abbrev s_is_block : Stmt := top 10
abbrev N_is_block : List Str := ["block", "byte"]
theorem sc_is_block : FnScope N_is_block ["block"] (defScope s_is_block) := ⟨rfl, rfl, rfl, by decide +kernel, rfl, by decide +kernel, by decide +kernel⟩
def t_is_block (K : PySem.W.Frag) : TS :=
    (tSeq (tIfS (tTest (tOp (rNeX K) (tCB (rLenX K) (tCons (tVar 0) tNil)) (tC (.int 32)))) (tRet (tC (.bl false))) tNext)
    (tSeq (tFor (iAny K (tVar 0)) (gName 1) (tIfS (tNot (tTest (tChain rLe rLe (tC (.int 0)) (tVar 1) (tC (.int 255))))) (tRet (tC (.bl false))) tNext))
    (tRet (tC (.bl true)))))
theorem d_is_block (g : G K mg) {f : Addr} {cdv : Value} {A : Around} {outer : List Env} {s : Shared} {H : Hp} {E : XK} (hr : Room 0 (A.deeper (envOfC "_is_block" (defScope s_is_block) s.heap.objs.size f cdv))) :
    PSs (cxOf CX0 P w K mg base N_is_block "_is_block" (defScope s_is_block) f cdv A outer s H E).nox (defBody s_is_block) (t_is_block K) := by
  unfold t_is_block
  exact
    (pss_cons (ps_if (pt_cmpR (o_ne hr.units) (pe_callB c_len (by rfl) g.b_len (by decide +kernel) (pa_cons (pv 0) pa_nil)) (C8.pe_gc rfl g.c_BLOCK) (nomark _)) (pss_one (ps_ret pe_bl)) pss_nil)
    (pss_cons (ps_for PassesOwn.never rfl (pi_any (pv 0)) (pg_name (i := 1) sc_is_block.nd rfl (by first | exact Or.inl rfl | exact Or.inr rfl)) (pss_one (ps_if (pt_not (pt_chain o_le o_le pe_int (pv 1) pe_int)) (pss_one (ps_ret pe_bl)) pss_nil)))
    (pss_one (ps_ret pe_bl))))
theorem ok_is_block (g : G K mg) {sp : Sp} (F : ∃ fd, FunD K "_is_block" "_is_block" (defArgs s_is_block) (defBody s_is_block) (defScope s_is_block) [] [] (He.ga K "_is_block") fd) (m : mg "_is_block" = some (.ref (He.ga K "_is_block")))
    (hsp : ∀ vs H Q E, sp vs H Q E → vs.length = 1 ∧ t_is_block K { nx := fun _ H' => Q .non H', rt := Q } (start N_is_block vs) H) : C8.Cal P w K mg base 1 "_is_block" sp [] := by
  obtain ⟨fd, F⟩ := F
  exact ⟨_, fd, ["block"], [], FunD.ok F sc_is_block (fun vs H Q E h => (hsp vs H Q E h).1) (fun cdv A outer s H vs Q E hr h => ⟨_, PSs.nox (d_is_block g hr), (hsp vs H Q E h).2⟩), m, F.kp, (F.bindsN fun _ _ _ _ _ _ us hl => match us, hl with | [_], _ => rfl), .nil⟩
abbrev s_check_torn : Stmt := top 11
abbrev N_check_torn : List Str := ["torn", "count"]
theorem sc_check_torn : FnScope N_check_torn ["torn"] (defScope s_check_torn) := ⟨rfl, rfl, rfl, by decide +kernel, rfl, by decide +kernel, by decide +kernel⟩
def t_check_torn (K : PySem.W.Frag) (E : XK) : TS :=
    (tFor (iAny K (tVar 0)) (gName 1) (tIfS (tNot (tTest (tChain rLe rLe (tC (.int 0)) (tVar 1) (tC (.int 32))))) (tRaiseO (He.ga K "OutOfRange") (spExI K (He.ga K "OutOfRange") "name") (fun cls d _ H => E cls d H) (tCons (tC (.str "torn")) tNil)) tNext))
theorem d_check_torn (g : G K mg) (c_OutOfRange : Oex P w K mg base 1 "OutOfRange" (He.ga K "OutOfRange") "name") {f : Addr} {cdv : Value} {A : Around} {outer : List Env} {s : Shared} {H : Hp} {E : XK} (hr : Room 2 (A.deeper (envOfC "_check_torn" (defScope s_check_torn) s.heap.objs.size f cdv))) :
    PSs (cxOf (L2.CX P w) P w K mg base N_check_torn "_check_torn" (defScope s_check_torn) f cdv A outer s H E) (defBody s_check_torn) (t_check_torn K E) := by
  unfold t_check_torn
  exact
    (pss_one (ps_for (passes_of rfl) rfl (pi_any (pv 0)) (pg_name (i := 1) sc_check_torn.nd rfl (by first | exact Or.inl rfl | exact Or.inr rfl)) (pss_one (ps_if (pt_not (pt_chain o_le o_le pe_int (pv 1) (C8.pe_gc rfl g.c_BLOCK))) (pss_one (ps_rO c_OutOfRange rfl hr (by decide) (takes_of rfl rfl rfl rfl) rfl (pa_cons pe_str pa_nil))) pss_nil))))
theorem ok_check_torn (g : G K mg) (c_OutOfRange : Oex P w K mg base 1 "OutOfRange" (He.ga K "OutOfRange") "name") {sp : Sp} (F : ∃ fd, FunD K "_check_torn" "_check_torn" (defArgs s_check_torn) (defBody s_check_torn) (defScope s_check_torn) [] [] (He.ga K "_check_torn") fd) (m : mg "_check_torn" = some (.ref (He.ga K "_check_torn")))
    (hsp : ∀ vs H Q E, sp vs H Q E → vs.length = 1 ∧ t_check_torn K E { nx := fun _ H' => Q .non H', rt := Q } (start N_check_torn vs) H) : CalX P w K mg base 3 "_check_torn" sp := by
  obtain ⟨fd, F⟩ := F
  exact ⟨_, fd, ["torn"], FunD.ok F sc_check_torn (fun vs H Q E h => (hsp vs H Q E h).1) (fun cdv A outer s H vs Q E hr h => ⟨_, d_check_torn g c_OutOfRange hr, (hsp vs H Q E h).2⟩), m, F.kp, (F.bindsN fun _ _ _ _ _ _ us hl => match us, hl with | [_], _ => rfl)⟩
abbrev s_l_cell : Stmt := top 14
abbrev N_l_cell : List Str := ["_law_script", "_law_k"]
theorem sc_l_cell : FnScope N_l_cell ["_law_script", "_law_k"] (defScope s_l_cell) := ⟨rfl, rfl, rfl, by decide +kernel, rfl, by decide +kernel, by decide +kernel⟩
def t_l_cell (K : PySem.W.Frag) : TS :=
    (tSeq (tIfS (tTest (tOp rLt (tVar 1) (tCB (rLenX K) (tCons (tVar 0) tNil)))) (tRet (tOp (rIx K) (tVar 0) (tVar 1))) tNext)
    (tRet (tC (.int 0))))
theorem d_l_cell (g : G K mg) {f : Addr} {cdv : Value} {A : Around} {outer : List Env} {s : Shared} {H : Hp} {E : XK} (hr : Room 0 (A.deeper (envOfC "_law_cell" (defScope s_l_cell) s.heap.objs.size f cdv))) :
    PSs (cxOf CX0 P w K mg base N_l_cell "_law_cell" (defScope s_l_cell) f cdv A outer s H E).nox (defBody s_l_cell) (t_l_cell K) := by
  unfold t_l_cell
  exact
    (pss_cons (ps_if (pt_cmpR o_lt (pv 1) (pe_callB c_len (by rfl) g.b_len (by decide +kernel) (pa_cons (pv 0) pa_nil)) (nomark _)) (pss_one (ps_ret (pe_ix ix_seq (pv 0) (pv 1) (fun _ _ => rfl)))) pss_nil)
    (pss_one (ps_ret pe_int)))
theorem ok_l_cell (g : G K mg) {sp : Sp} (F : ∃ fd, FunD K "_law_cell" "_law_cell" (defArgs s_l_cell) (defBody s_l_cell) (defScope s_l_cell) [] [] (He.ga K "_law_cell") fd) (m : mg "_law_cell" = some (.ref (He.ga K "_law_cell")))
    (hsp : ∀ vs H Q E, sp vs H Q E → vs.length = 2 ∧ t_l_cell K { nx := fun _ H' => Q .non H', rt := Q } (start N_l_cell vs) H) : C8.Cal P w K mg base 1 "_law_cell" sp [] := by
  obtain ⟨fd, F⟩ := F
  exact ⟨_, fd, ["_law_script", "_law_k"], [], FunD.ok F sc_l_cell (fun vs H Q E h => (hsp vs H Q E h).1) (fun cdv A outer s H vs Q E hr h => ⟨_, PSs.nox (d_l_cell g hr), (hsp vs H Q E h).2⟩), m, F.kp, (F.bindsN fun _ _ _ _ _ _ us hl => match us, hl with | [_, _], _ => rfl), .nil⟩
abbrev s_l_digits : Stmt := top 15
abbrev N_l_digits : List Str := ["_law_script", "_law_first", "_law_last", "_law_digits_here", "_law_k", "_law_cell_here", "_law_turn", "_law_seed"]
theorem sc_l_digits : FnScope N_l_digits ["_law_script", "_law_first", "_law_last"] (defScope s_l_digits) := ⟨rfl, rfl, rfl, by decide +kernel, rfl, by decide +kernel, by decide +kernel⟩
def t_l_digits (K : PySem.W.Frag) (sp_l_cell : Sp) : TS :=
    (tSeq (tAsg (tLst tNil) (gName 3))
    (tSeq (tFor (iRng2 (tCons (tVar 1) (tCons (tVar 2) tNil))) (gName 4) (tSeq (tAsg (tCall sp_l_cell [] C8.E0 (tCons (tVar 0) (tCons (tVar 4) tNil))) (gName 5))
    (C8.tCut (tIfS (tTest (tOp rLt (tVar 5) (tC (.int 0)))) (tAsg (tOp rMinus (tC (.int 1)) (tOp rTimes (tC (.int 2)) (tVar 5))) (gName 5)) tNext)
    (tIfS (tTest (tOp rGe (tVar 5) (tC (.int 1000000000000000000)))) (tFor (iRng1 (tCons (tC (.int 60)) tNil)) (gName 6) (tIfS (tTest (tOp rGt (tVar 5) (tC (.int 0)))) (tSeq (tDrop (tBM K "list" rAppend (tVar 3) (tCons (tOp rMod (tCB (rIntX) (tCons (tVar 5) tNil)) (tC (.int 1000))) tNil)))
    (tAsg (tOp rFdiv (tVar 5) (tC (.int 1000))) (gName 5))) tNext)) (tSeq (tAsg (tOp rMod (tCB (rIntX) (tCons (tOp (rPlus K) (tOp (rPlus K) (tOp rTimes (tVar 5) (tC (.int 40692))) (tOp rTimes (tVar 4) (tC (.int 52774)))) (tC (.int 17))) tNil)) (tC (.int 2147483399))) (gName 7))
    (tFor (iRng1 (tCons (tC (.int 12)) tNil)) (gName 6) (tSeq (tAsg (tOp rMod (tCB (rIntX) (tCons (tOp (rPlus K) (tOp (rPlus K) (tOp rTimes (tVar 7) (tC (.int 40014))) (tOp rTimes (tC (.int 5)) (tVar 6))) (tC (.int 3))) tNil)) (tC (.int 2147483563))) (gName 7))
    (tDrop (tBM K "list" rAppend (tVar 3) (tCons (tOp rMod (tCB (rIntX) (tCons (tOp rFdiv (tVar 7) (tC (.int 1009))) tNil)) (tC (.int 1000))) tNil))))))))))
    (tRet (tVar 3))))
theorem d_l_digits (g : G K mg) {sp_l_cell : Sp} (c_l_cell : C8.Cal P w K mg base 1 "_law_cell" sp_l_cell []) {f : Addr} {cdv : Value} {A : Around} {outer : List Env} {s : Shared} {H : Hp} {E : XK} (hr : Room 1 (A.deeper (envOfC "_law_digits" (defScope s_l_digits) s.heap.objs.size f cdv))) :
    PSs (cxOf CX0 P w K mg base N_l_digits "_law_digits" (defScope s_l_digits) f cdv A outer s H E).nox (defBody s_l_digits) (t_l_digits K sp_l_cell) := by
  unfold t_l_digits
  exact
    (pss_cons (ps_set (i := 3) sc_l_digits.nd rfl (by first | exact Or.inl rfl | exact Or.inr rfl) (pe_lst pa_nil))
    (pss_cons (ps_for PassesOwn.never rfl (pi_range2 rfl g.b_range (pa_cons (pv 1) (pa_cons (pv 2) pa_nil))) (pg_name (i := 4) sc_l_digits.nd rfl (by first | exact Or.inl rfl | exact Or.inr rfl)) (pss_cons (ps_set (i := 5) sc_l_digits.nd rfl (by first | exact Or.inl rfl | exact Or.inr rfl) (C8.pe_c c_l_cell hr (by decide) rfl (pa_cons (pv 0) (pa_cons (pv 4) pa_nil))))
    (C8.pss_cut (ps_if (pt_cmpR o_lt (pv 5) pe_int (nomark _)) (pss_one (ps_set (i := 5) sc_l_digits.nd rfl (by first | exact Or.inl rfl | exact Or.inr rfl) (pe_op o_minus pe_int (pe_op o_times pe_int (pv 5))))) pss_nil)
    (pss_one (ps_if (pt_cmpR o_ge (pv 5) pe_int (nomark _)) (pss_one (ps_for PassesOwn.never rfl (pi_range1 rfl g.b_range (pa_cons pe_int pa_nil)) (pg_name (i := 6) sc_l_digits.nd rfl (by first | exact Or.inl rfl | exact Or.inr rfl)) (pss_one (ps_if (pt_cmpR o_gt (pv 5) pe_int (nomark _)) (pss_cons (ps_expr (pe_bm PySem.F.plainAttrs_list PySem.F.slot_list_append PySem.F.type_list_append mt_append (pv 3) (pa_cons (pe_op o_mod (pe_callTy c_int (by rfl) g.b_int (by decide +kernel) (pa_cons (pv 5) pa_nil)) pe_int) pa_nil)))
    (pss_one (ps_set (i := 5) sc_l_digits.nd rfl (by first | exact Or.inl rfl | exact Or.inr rfl) (pe_op o_fdiv (pv 5) pe_int)))) pss_nil)))) (pss_cons (ps_set (i := 7) sc_l_digits.nd rfl (by first | exact Or.inl rfl | exact Or.inr rfl) (pe_op o_mod (pe_callTy c_int (by rfl) g.b_int (by decide +kernel) (pa_cons (pe_op o_plus (pe_op o_plus (pe_op o_times (pv 5) pe_int) (pe_op o_times (pv 4) pe_int)) pe_int) pa_nil)) pe_int))
    (pss_one (ps_for PassesOwn.never rfl (pi_range1 rfl g.b_range (pa_cons pe_int pa_nil)) (pg_name (i := 6) sc_l_digits.nd rfl (by first | exact Or.inl rfl | exact Or.inr rfl)) (pss_cons (ps_set (i := 7) sc_l_digits.nd rfl (by first | exact Or.inl rfl | exact Or.inr rfl) (pe_op o_mod (pe_callTy c_int (by rfl) g.b_int (by decide +kernel) (pa_cons (pe_op o_plus (pe_op o_plus (pe_op o_times (pv 7) pe_int) (pe_op o_times pe_int (pv 6))) pe_int) pa_nil)) pe_int))
    (pss_one (ps_expr (pe_bm PySem.F.plainAttrs_list PySem.F.slot_list_append PySem.F.type_list_append mt_append (pv 3) (pa_cons (pe_op o_mod (pe_callTy c_int (by rfl) g.b_int (by decide +kernel) (pa_cons (pe_op o_fdiv (pv 7) pe_int) pa_nil)) pe_int) pa_nil)))))))))))))
    (pss_one (ps_ret (pv 3)))))
theorem ok_l_digits (g : G K mg) {sp_l_cell : Sp} (c_l_cell : C8.Cal P w K mg base 1 "_law_cell" sp_l_cell []) {sp : Sp} (F : ∃ fd, FunD K "_law_digits" "_law_digits" (defArgs s_l_digits) (defBody s_l_digits) (defScope s_l_digits) [] [] (He.ga K "_law_digits") fd) (m : mg "_law_digits" = some (.ref (He.ga K "_law_digits")))
    (hsp : ∀ vs H Q E, sp vs H Q E → vs.length = 3 ∧ t_l_digits K sp_l_cell { nx := fun _ H' => Q .non H', rt := Q } (start N_l_digits vs) H) : C8.Cal P w K mg base 2 "_law_digits" sp [] := by
  obtain ⟨fd, F⟩ := F
  exact ⟨_, fd, ["_law_script", "_law_first", "_law_last"], [], FunD.ok F sc_l_digits (fun vs H Q E h => (hsp vs H Q E h).1) (fun cdv A outer s H vs Q E hr h => ⟨_, PSs.nox (d_l_digits g c_l_cell hr), (hsp vs H Q E h).2⟩), m, F.kp, (F.bindsN fun _ _ _ _ _ _ us hl => match us, hl with | [_, _, _], _ => rfl), .nil⟩
abbrev s_l_draw : Stmt := top 16
abbrev N_l_draw : List Str := ["_law_box", "_law_many", "_law_at"]
theorem sc_l_draw : FnScope N_l_draw ["_law_box", "_law_many"] (defScope s_l_draw) := ⟨rfl, rfl, rfl, by decide +kernel, rfl, by decide +kernel, by decide +kernel⟩
def t_l_draw (K : PySem.W.Frag) : TS :=
    (tSeq (tAsg (tOp (rIx K) (tVar 0) (tC (.int 1))) (gName 2))
    (tSeq (tAsg (tOp (rPlus K) (tVar 2) (tC (.int 1))) (gSub (tVar 0) (tC (.int 1)) rSetL))
    (tSeq (tIfS (tTest (tOp rLt (tVar 2) (tCB (rLenX K) (tCons (tOp (rIx K) (tVar 0) (tC (.int 0))) tNil)))) (tRet (tOp rMod (tCB (rIntX) (tCons (tOp (rIx K) (tOp (rIx K) (tVar 0) (tC (.int 0))) (tVar 2)) tNil)) (tVar 1))) tNext)
    (tRet (tOp rMod (tCB (rIntX) (tCons (tOp (rPlus K) (tOp rTimes (tVar 2) (tC (.int 7))) (tC (.int 3))) tNil)) (tVar 1))))))
theorem d_l_draw (g : G K mg) {f : Addr} {cdv : Value} {A : Around} {outer : List Env} {s : Shared} {H : Hp} {E : XK} (hr : Room 0 (A.deeper (envOfC "_law_draw" (defScope s_l_draw) s.heap.objs.size f cdv))) :
    PSs (cxOf CX0 P w K mg base N_l_draw "_law_draw" (defScope s_l_draw) f cdv A outer s H E).nox (defBody s_l_draw) (t_l_draw K) := by
  unfold t_l_draw
  exact
    (pss_cons (ps_set (i := 2) sc_l_draw.nd rfl (by first | exact Or.inl rfl | exact Or.inr rfl) (pe_ix ix_seq (pv 0) pe_int (fun _ _ => rfl)))
    (pss_cons (ps_asg (pe_op o_plus (pv 2) pe_int) (pg_sub (pv 0) pe_int set_list))
    (pss_cons (ps_if (pt_cmpR o_lt (pv 2) (pe_callB c_len (by rfl) g.b_len (by decide +kernel) (pa_cons (pe_ix ix_seq (pv 0) pe_int (fun _ _ => rfl)) pa_nil)) (nomark _)) (pss_one (ps_ret (pe_op o_mod (pe_callTy c_int (by rfl) g.b_int (by decide +kernel) (pa_cons (pe_ix ix_seq (pe_ix ix_seq (pv 0) pe_int (fun _ _ => rfl)) (pv 2) (fun _ _ => rfl)) pa_nil)) (pv 1)))) pss_nil)
    (pss_one (ps_ret (pe_op o_mod (pe_callTy c_int (by rfl) g.b_int (by decide +kernel) (pa_cons (pe_op o_plus (pe_op o_times (pv 2) pe_int) pe_int) pa_nil)) (pv 1)))))))
theorem ok_l_draw (g : G K mg) {sp : Sp} (F : ∃ fd, FunD K "_law_draw" "_law_draw" (defArgs s_l_draw) (defBody s_l_draw) (defScope s_l_draw) [] [] (He.ga K "_law_draw") fd) (m : mg "_law_draw" = some (.ref (He.ga K "_law_draw")))
    (hsp : ∀ vs H Q E, sp vs H Q E → vs.length = 2 ∧ t_l_draw K { nx := fun _ H' => Q .non H', rt := Q } (start N_l_draw vs) H) : C8.Cal P w K mg base 1 "_law_draw" sp [] := by
  obtain ⟨fd, F⟩ := F
  exact ⟨_, fd, ["_law_box", "_law_many"], [], FunD.ok F sc_l_draw (fun vs H Q E h => (hsp vs H Q E h).1) (fun cdv A outer s H vs Q E hr h => ⟨_, PSs.nox (d_l_draw g hr), (hsp vs H Q E h).2⟩), m, F.kp, (F.bindsN fun _ _ _ _ _ _ us hl => match us, hl with | [_, _], _ => rfl), .nil⟩
abbrev s_l_torn : Stmt := top 17
abbrev N_l_torn : List Str := ["_law_box", "_law_many", "_law_kind", "_law_k"]
theorem sc_l_torn : FnScope N_l_torn ["_law_box", "_law_many"] (defScope s_l_torn) := ⟨rfl, rfl, rfl, by decide +kernel, rfl, by decide +kernel, by decide +kernel⟩
def t_l_torn (K : PySem.W.Frag) (sp_l_draw : Sp) : TS :=
    (tSeq (tAsg (tCall sp_l_draw [] C8.E0 (tCons (tVar 0) (tCons (tC (.int 4)) tNil))) (gName 2))
    (tSeq (tIfS (tTest (tOp (rEqX K) (tVar 2) (tC (.int 0)))) (tRet (tLst tNil)) tNext)
    (tSeq (tIfS (tTest (tOp (rEqX K) (tVar 2) (tC (.int 1)))) (tRet (tOp rTimes (tLst (tCons (tC (.int 32)) tNil)) (tVar 1))) tNext)
    (tSeq (tIfS (tTest (tOp (rEqX K) (tVar 2) (tC (.int 2)))) (tRet (tLc (iRng1 (tCons (tVar 1) tNil)) (gName 3) tYes (tOp rTimes (tC (.int 32)) (tCall sp_l_draw [] C8.E0 (tCons (tVar 0) (tCons (tC (.int 2)) tNil)))) [3])) tNext)
    (tRet (tLc (iRng1 (tCons (tVar 1) tNil)) (gName 3) tYes (tCall sp_l_draw [] C8.E0 (tCons (tVar 0) (tCons (tC (.int 33)) tNil))) [3]))))))
theorem d_l_torn (g : G K mg) {sp_l_draw : Sp} (c_l_draw : C8.Cal P w K mg base 1 "_law_draw" sp_l_draw []) {f : Addr} {cdv : Value} {A : Around} {outer : List Env} {s : Shared} {H : Hp} {E : XK} (hr : Room 1 (A.deeper (envOfC "_law_torn" (defScope s_l_torn) s.heap.objs.size f cdv))) :
    PSs (cxOf CX0 P w K mg base N_l_torn "_law_torn" (defScope s_l_torn) f cdv A outer s H E).nox (defBody s_l_torn) (t_l_torn K sp_l_draw) := by
  unfold t_l_torn
  exact
    (pss_cons (ps_set (i := 2) sc_l_torn.nd rfl (by first | exact Or.inl rfl | exact Or.inr rfl) (C8.pe_c c_l_draw hr (by decide) rfl (pa_cons (pv 0) (pa_cons pe_int pa_nil))))
    (pss_cons (ps_if (pt_cmpR (o_eq hr.units) (pv 2) pe_int (nomark _)) (pss_one (ps_ret (pe_lst pa_nil))) pss_nil)
    (pss_cons (ps_if (pt_cmpR (o_eq hr.units) (pv 2) pe_int (nomark _)) (pss_one (ps_ret (pe_op o_times (pe_lst (pa_cons pe_int pa_nil)) (pv 1)))) pss_nil)
    (pss_cons (ps_if (pt_cmpR (o_eq hr.units) (pv 2) pe_int (nomark _)) (pss_one (ps_ret (pe_lc (own := [("_law_k", 3)]) (tt := tYes) rfl sc_l_torn.nd (pi_range1 rfl g.b_range (pa_cons (pv 1) pa_nil)) (blkOk_by (N := N_l_torn) (sc := defScope s_l_torn) (by decide +kernel)) (fun _ _ _ _ _ => (pg_name (i := 3) sc_l_torn.nd rfl (by first | exact Or.inl rfl | exact Or.inr rfl))) (fun _ _ _ _ _ => pts_nil) (fun _ _ _ _ _ => (pe_op o_times pe_int (C8.pe_c c_l_draw hr (by decide) rfl (pa_cons (pv 0) (pa_cons pe_int pa_nil)))))))) pss_nil)
    (pss_one (ps_ret (pe_lc (own := [("_law_k", 3)]) (tt := tYes) rfl sc_l_torn.nd (pi_range1 rfl g.b_range (pa_cons (pv 1) pa_nil)) (blkOk_by (N := N_l_torn) (sc := defScope s_l_torn) (by decide +kernel)) (fun _ _ _ _ _ => (pg_name (i := 3) sc_l_torn.nd rfl (by first | exact Or.inl rfl | exact Or.inr rfl))) (fun _ _ _ _ _ => pts_nil) (fun _ _ _ _ _ => (C8.pe_c c_l_draw hr (by decide) rfl (pa_cons (pv 0) (pa_cons pe_int pa_nil)))))))))))
theorem ok_l_torn (g : G K mg) {sp_l_draw : Sp} (c_l_draw : C8.Cal P w K mg base 1 "_law_draw" sp_l_draw []) {sp : Sp} (F : ∃ fd, FunD K "_law_torn" "_law_torn" (defArgs s_l_torn) (defBody s_l_torn) (defScope s_l_torn) [] [] (He.ga K "_law_torn") fd) (m : mg "_law_torn" = some (.ref (He.ga K "_law_torn")))
    (hsp : ∀ vs H Q E, sp vs H Q E → vs.length = 2 ∧ t_l_torn K sp_l_draw { nx := fun _ H' => Q .non H', rt := Q } (start N_l_torn vs) H) : C8.Cal P w K mg base 2 "_law_torn" sp [] := by
  obtain ⟨fd, F⟩ := F
  exact ⟨_, fd, ["_law_box", "_law_many"], [], FunD.ok F sc_l_torn (fun vs H Q E h => (hsp vs H Q E h).1) (fun cdv A outer s H vs Q E hr h => ⟨_, PSs.nox (d_l_torn g c_l_draw hr), (hsp vs H Q E h).2⟩), m, F.kp, (F.bindsN fun _ _ _ _ _ _ us hl => match us, hl with | [_, _], _ => rfl), .nil⟩
abbrev s_l_schedule : Stmt := top 18
abbrev N_l_schedule : List Str := ["_law_disk", "_law_count", "_law_torn_here", "e"]
theorem sc_l_schedule : FnScope N_l_schedule ["_law_disk", "_law_count", "_law_torn_here"] (defScope s_l_schedule) := ⟨rfl, rfl, rfl, by decide +kernel, rfl, by decide +kernel, by decide +kernel⟩
def t_l_schedule (K : PySem.W.Frag) (sp_Disk_schedule_cut : Sp) : TS :=
    (tTry (fun W => (tRet (tMethS (He.ga K "Disk") "schedule_cut" sp_Disk_schedule_cut (WE W) (tVar 0) (tCons (tVar 1) (tCons (tVar 2) tNil))))) K (fun _ _ _ _ => False) [⟨.ref (He.ga K "OutOfRange"), some 3, fun a cls d => (tRet (tTup (tCons (tC (.str "refused")) (tCons (tXf a cls d (He.ga K "OutOfRange") "name" (tVar 3)) tNil))))⟩])
theorem d_l_schedule (g : G K mg) {sp_Disk_schedule_cut : Sp} (c_Disk_schedule_cut : MetX P w K mg base 4 (He.ga K "Disk") "schedule_cut" sp_Disk_schedule_cut) {f : Addr} {cdv : Value} {A : Around} {outer : List Env} {s : Shared} {H : Hp} {E : XK} (hr : Room 4 (A.deeper (envOfC "_law_schedule" (defScope s_l_schedule) s.heap.objs.size f cdv))) :
    PSs (cxOf CX0 P w K mg base N_l_schedule "_law_schedule" (defScope s_l_schedule) f cdv A outer s H E).nox (defBody s_l_schedule) (t_l_schedule K sp_Disk_schedule_cut) := by
  unfold t_l_schedule
  exact
    (pss_one (ps_try_mix (tb := fun W => (tRet (tMethS (He.ga K "Disk") "schedule_cut" sp_Disk_schedule_cut (WE W) (tVar 0) (tCons (tVar 1) (tCons (tVar 2) tNil))))) rfl rfl sc_l_schedule.nd takesF (fun W pn xe tk po => (pss_one (ps_ret (pe_mX c_Disk_schedule_cut hr (by decide) tk (pv 0) (pa_cons (pv 1) (pa_cons (pv 2) pa_nil)))))) (HdsM.as (i := 3) (ts := fun a cls d => (tRet (tTup (tCons (tC (.str "refused")) (tCons (tXf a cls d (He.ga K "OutOfRange") "name" (tVar 3)) tNil))))) rfl rfl ⟨rfl, by decide, Or.inl g.k_OutOfRange⟩ (fun a oe cls d pn hz hf => (pss_one (ps_ret (pe_tup (pa_cons pe_str (pa_cons (pe_xfC g.xf_OutOfRange g.xn_OutOfRange hz hf (pv 3)) pa_nil)))))) HdsM.nil)))
theorem ok_l_schedule (g : G K mg) {sp_Disk_schedule_cut : Sp} (c_Disk_schedule_cut : MetX P w K mg base 4 (He.ga K "Disk") "schedule_cut" sp_Disk_schedule_cut) {sp : Sp} (F : ∃ fd, FunD K "_law_schedule" "_law_schedule" (defArgs s_l_schedule) (defBody s_l_schedule) (defScope s_l_schedule) [] [] (He.ga K "_law_schedule") fd) (m : mg "_law_schedule" = some (.ref (He.ga K "_law_schedule")))
    (hsp : ∀ vs H Q E, sp vs H Q E → vs.length = 3 ∧ t_l_schedule K sp_Disk_schedule_cut { nx := fun _ H' => Q .non H', rt := Q } (start N_l_schedule vs) H) : C8.Cal P w K mg base 5 "_law_schedule" sp [] := by
  obtain ⟨fd, F⟩ := F
  exact ⟨_, fd, ["_law_disk", "_law_count", "_law_torn_here"], [], FunD.ok F sc_l_schedule (fun vs H Q E h => (hsp vs H Q E h).1) (fun cdv A outer s H vs Q E hr h => ⟨_, PSs.nox (d_l_schedule g c_Disk_schedule_cut hr), (hsp vs H Q E h).2⟩), m, F.kp, (F.bindsN fun _ _ _ _ _ _ us hl => match us, hl with | [_, _, _], _ => rfl), .nil⟩
abbrev s_l_do_raw : Stmt := top 19
abbrev N_l_do_raw : List Str := ["_law_disk", "_law_at", "_law_block"]
theorem sc_l_do_raw : FnScope N_l_do_raw ["_law_disk", "_law_at", "_law_block"] (defScope s_l_do_raw) := ⟨rfl, rfl, rfl, by decide +kernel, rfl, by decide +kernel, by decide +kernel⟩
def t_l_do_raw (K : PySem.W.Frag) (sp_Disk_write : Sp) (sp_Disk_flush : Sp) (E : XK) : TS :=
    (tSeq (tIfS (tTest (tOp (rEqX K) (tVar 1) (tOp rMinus (tC (.int 0)) (tC (.int 1))))) (tRet (tMethS (He.ga K "Disk") "flush" sp_Disk_flush (WE (fun cls d _ H => E cls d H)) (tVar 0) tNil)) tNext)
    (tRet (tMethS (He.ga K "Disk") "write" sp_Disk_write (WE (fun cls d _ H => E cls d H)) (tVar 0) (tCons (tVar 1) (tCons (tVar 2) tNil)))))
theorem d_l_do_raw (g : G K mg) {sp_Disk_write : Sp} (c_Disk_write : MetX P w K mg base 4 (He.ga K "Disk") "write" sp_Disk_write) {sp_Disk_flush : Sp} (c_Disk_flush : MetX P w K mg base 3 (He.ga K "Disk") "flush" sp_Disk_flush) {f : Addr} {cdv : Value} {A : Around} {outer : List Env} {s : Shared} {H : Hp} {E : XK} (hr : Room 4 (A.deeper (envOfC "_law_do_raw" (defScope s_l_do_raw) s.heap.objs.size f cdv))) :
    PSs (cxOf (L2.CX P w) P w K mg base N_l_do_raw "_law_do_raw" (defScope s_l_do_raw) f cdv A outer s H E) (defBody s_l_do_raw) (t_l_do_raw K sp_Disk_write sp_Disk_flush E) := by
  unfold t_l_do_raw
  exact
    (pss_cons (ps_if (pt_cmpR (o_eq hr.units) (pv 1) (pe_op o_minus pe_int pe_int) (nomark _)) (pss_one (ps_ret (pe_mX0 c_Disk_flush hr (by decide) (takes_of rfl rfl rfl rfl) (pv 0)))) pss_nil)
    (pss_one (ps_ret (pe_mX c_Disk_write hr (by decide) (takes_of rfl rfl rfl rfl) (pv 0) (pa_cons (pv 1) (pa_cons (pv 2) pa_nil))))))
theorem ok_l_do_raw (g : G K mg) {sp_Disk_write : Sp} (c_Disk_write : MetX P w K mg base 4 (He.ga K "Disk") "write" sp_Disk_write) {sp_Disk_flush : Sp} (c_Disk_flush : MetX P w K mg base 3 (He.ga K "Disk") "flush" sp_Disk_flush) {sp : Sp} (F : ∃ fd, FunD K "_law_do_raw" "_law_do_raw" (defArgs s_l_do_raw) (defBody s_l_do_raw) (defScope s_l_do_raw) [] [] (He.ga K "_law_do_raw") fd) (m : mg "_law_do_raw" = some (.ref (He.ga K "_law_do_raw")))
    (hsp : ∀ vs H Q E, sp vs H Q E → vs.length = 3 ∧ t_l_do_raw K sp_Disk_write sp_Disk_flush E { nx := fun _ H' => Q .non H', rt := Q } (start N_l_do_raw vs) H) : CalX P w K mg base 5 "_law_do_raw" sp := by
  obtain ⟨fd, F⟩ := F
  exact ⟨_, fd, ["_law_disk", "_law_at", "_law_block"], FunD.ok F sc_l_do_raw (fun vs H Q E h => (hsp vs H Q E h).1) (fun cdv A outer s H vs Q E hr h => ⟨_, d_l_do_raw g c_Disk_write c_Disk_flush hr, (hsp vs H Q E h).2⟩), m, F.kp, (F.bindsN fun _ _ _ _ _ _ us hl => match us, hl with | [_, _, _], _ => rfl)⟩
abbrev s_l_do : Stmt := top 20
abbrev N_l_do : List Str := ["_law_disk", "_law_at", "_law_block", "_law_told", "e"]
theorem sc_l_do : FnScope N_l_do ["_law_disk", "_law_at", "_law_block"] (defScope s_l_do) := ⟨rfl, rfl, rfl, by decide +kernel, rfl, by decide +kernel, by decide +kernel⟩
def t_l_do (K : PySem.W.Frag) (sp_l_do_raw : Sp) : TS :=
    (tSeq (tTry (fun W => (tAsg (tCallS sp_l_do_raw (WE W) (tCons (tVar 0) (tCons (tVar 1) (tCons (tVar 2) tNil)))) (gName 3))) K (fun _ _ _ _ => False) [⟨.ref (He.ga K "PowerCut"), some 4, fun a cls d => (tSeq (tIfS (tAnd (tTruX K (tIsE K (He.ga K "PowerCut") a cls d (tCons (tVar 4) (tCons (tC (.ref (He.ga K "ModuleError"))) tNil)))) (tNot (tTruX K (tIsE K (He.ga K "PowerCut") a cls d (tCons (tVar 4) (tCons (tC (.ref (He.ga K "OutOfRange"))) tNil)))))) (tRet (tTup (tCons (tC (.str "refused")) (tCons (tC (.str "cut")) tNil)))) tNext)
    (tRet (tTup (tCons (tC (.str "refused")) (tCons (tC (.str "other")) tNil)))))⟩, ⟨.ref (He.ga K "OutOfRange"), some 4, fun a cls d => (tRet (tTup (tCons (tC (.str "refused")) (tCons (tXf a cls d (He.ga K "OutOfRange") "name" (tVar 4)) tNil))))⟩])
    (tRet (tVar 3)))
theorem d_l_do (g : G K mg) {sp_l_do_raw : Sp} (c_l_do_raw : CalX P w K mg base 5 "_law_do_raw" sp_l_do_raw) {f : Addr} {cdv : Value} {A : Around} {outer : List Env} {s : Shared} {H : Hp} {E : XK} (hr : Room 5 (A.deeper (envOfC "_law_do" (defScope s_l_do) s.heap.objs.size f cdv))) :
    PSs (cxOf CX0 P w K mg base N_l_do "_law_do" (defScope s_l_do) f cdv A outer s H E).nox (defBody s_l_do) (t_l_do K sp_l_do_raw) := by
  unfold t_l_do
  exact
    (pss_cons (ps_try_mix (tb := fun W => (tAsg (tCallS sp_l_do_raw (WE W) (tCons (tVar 0) (tCons (tVar 1) (tCons (tVar 2) tNil)))) (gName 3))) rfl rfl sc_l_do.nd takesF (fun W pn xe tk po => (pss_one (ps_set (i := 3) sc_l_do.nd rfl (by first | exact Or.inl rfl | exact Or.inr rfl) (pe_cX c_l_do_raw hr (by decide) tk rfl (pa_cons (pv 0) (pa_cons (pv 1) (pa_cons (pv 2) pa_nil))))))) (HdsM.as (i := 4) (ts := fun a cls d => (tSeq (tIfS (tAnd (tTruX K (tIsE K (He.ga K "PowerCut") a cls d (tCons (tVar 4) (tCons (tC (.ref (He.ga K "ModuleError"))) tNil)))) (tNot (tTruX K (tIsE K (He.ga K "PowerCut") a cls d (tCons (tVar 4) (tCons (tC (.ref (He.ga K "OutOfRange"))) tNil)))))) (tRet (tTup (tCons (tC (.str "refused")) (tCons (tC (.str "cut")) tNil)))) tNext)
    (tRet (tTup (tCons (tC (.str "refused")) (tCons (tC (.str "other")) tNil)))))) rfl rfl ⟨rfl, by decide, Or.inl g.k_PowerCut⟩ (fun a oe cls d pn hz hf => (pss_cons (ps_if (PW.pt (pw_and (pt_tru (pe_isE g.isE_PowerCut hz hf rfl g.b_isinstance (pa_cons (pv 4) (pa_cons (C8.pe_gc rfl g.c_ModuleError) pa_nil)))) (pw_and1 (pt_not (pt_tru (pe_isE g.isE_PowerCut hz hf rfl g.b_isinstance (pa_cons (pv 4) (pa_cons (C8.pe_gc rfl g.c_OutOfRange) pa_nil)))))))) (pss_one (ps_ret (pe_tup (pa_cons pe_str (pa_cons pe_str pa_nil))))) pss_nil)
    (pss_one (ps_ret (pe_tup (pa_cons pe_str (pa_cons pe_str pa_nil))))))) (HdsM.as (i := 4) (ts := fun a cls d => (tRet (tTup (tCons (tC (.str "refused")) (tCons (tXf a cls d (He.ga K "OutOfRange") "name" (tVar 4)) tNil))))) rfl rfl ⟨rfl, by decide, Or.inl g.k_OutOfRange⟩ (fun a oe cls d pn hz hf => (pss_one (ps_ret (pe_tup (pa_cons pe_str (pa_cons (pe_xfC g.xf_OutOfRange g.xn_OutOfRange hz hf (pv 4)) pa_nil)))))) HdsM.nil)))
    (pss_one (ps_ret (pv 3))))
theorem ok_l_do (g : G K mg) {sp_l_do_raw : Sp} (c_l_do_raw : CalX P w K mg base 5 "_law_do_raw" sp_l_do_raw) {sp : Sp} (F : ∃ fd, FunD K "_law_do" "_law_do" (defArgs s_l_do) (defBody s_l_do) (defScope s_l_do) [] [] (He.ga K "_law_do") fd) (m : mg "_law_do" = some (.ref (He.ga K "_law_do")))
    (hsp : ∀ vs H Q E, sp vs H Q E → vs.length = 3 ∧ t_l_do K sp_l_do_raw { nx := fun _ H' => Q .non H', rt := Q } (start N_l_do vs) H) : C8.Cal P w K mg base 6 "_law_do" sp [] := by
  obtain ⟨fd, F⟩ := F
  exact ⟨_, fd, ["_law_disk", "_law_at", "_law_block"], [], FunD.ok F sc_l_do (fun vs H Q E h => (hsp vs H Q E h).1) (fun cdv A outer s H vs Q E hr h => ⟨_, PSs.nox (d_l_do g c_l_do_raw hr), (hsp vs H Q E h).2⟩), m, F.kp, (F.bindsN fun _ _ _ _ _ _ us hl => match us, hl with | [_, _, _], _ => rfl), .nil⟩
abbrev s_law : Stmt := top 21
abbrev N_law : List Str := ["_law_script", "_law_box", "_law_size", "_law_disk", "_law_blocks", "_law_pending", "_law_left", "_law_torn_here", "_law_cuts", "_law_turn", "_law_kind", "_law_handed", "_law_at", "_law_block", "_law_actual", "_law_k", "_law_place", "_law_entry"]
theorem sc_law : FnScope N_law ["_law_script"] (defScope s_law) := ⟨rfl, rfl, rfl, by decide +kernel, rfl, by decide +kernel, by decide +kernel⟩
def t_law (K : PySem.W.Frag) (sp_Disk_read : Sp) (sp_Disk_cut_power : Sp) (sp_Disk_pending_count : Sp) (sp_Disk_cut_count : Sp) (sp_l_schedule : Sp) (sp_l_draw : Sp) (sp_l_torn : Sp) (sp_l_do : Sp) (sp_Disk_init : Sp) (sp_l_digits : Sp) : TS :=
    (tSeq (tAsg (tLst (tCons (tCall sp_l_digits [] C8.E0 (tCons (tVar 0) (tCons (tC (.int 0)) (tCons (tC (.int 63)) tNil)))) (tCons (tC (.int 0)) tNil))) (gName 1))
    (tSeq (tAsg (tOp (rPlus K) (tC (.int 8)) (tCall sp_l_draw [] C8.E0 (tCons (tVar 1) (tCons (tC (.int 4)) tNil)))) (gName 2))
    (tSeq (tAsg (tMakeS (He.ga K "Disk") sp_Disk_init (WE (fun _ _ _ _ => False)) (tCons (tVar 2) tNil)) (gName 3))
    (tSeq (tAsg (tLc (iRng1 (tCons (tVar 2) tNil)) (gName 15) tYes (tOp rTimes (tLst (tCons (tC (.int 0)) tNil)) (tC (.int 32))) [15]) (gName 4))
    (tSeq (tAsg (tLst tNil) (gName 5))
    (tSeq (tAsg (tOp rMinus (tC (.int 0)) (tC (.int 1))) (gName 6))
    (tSeq (tAsg (tLst tNil) (gName 7))
    (tSeq (tAsg (tC (.int 0)) (gName 8))
    (tSeq (tFor (iRng1 (tCons (tC (.int 40)) tNil)) (gName 9) (tSeq (tAsg (tCall sp_l_draw [] C8.E0 (tCons (tVar 1) (tCons (tC (.int 10)) tNil))) (gName 10))
    (C8.tCut (tIfS (tOr (tTest (tOp (rEqX K) (tVar 10) (tC (.int 0)))) (tTest (tOp (rEqX K) (tVar 9) (tC (.int 0))))) (tSeq (tAsg (tCall sp_l_draw [] C8.E0 (tCons (tVar 1) (tCons (tC (.int 21)) tNil))) (gName 6))
    (tSeq (tAsg (tCall sp_l_torn [] C8.E0 (tCons (tVar 1) (tCons (tC (.int 9)) tNil))) (gName 7))
    (tSeq (tAsg (tCB (rListOf K) (tCons (tVar 7) tNil)) (gName 11))
    (tSeq (tIfS (tOr (tTest (tOp rNotNo (tCall sp_l_schedule [] C8.E0 (tCons (tVar 3) (tCons (tC (.int 100000)) (tCons (tLst (tCons (tC (.int 32)) tNil)) tNil)))) (tC .non))) (tTest (tOp rNotNo (tCall sp_l_schedule [] C8.E0 (tCons (tVar 3) (tCons (tVar 6) (tCons (tVar 11) tNil)))) (tC .non)))) (tRet (tC (.bl false))) tNext)
    (tSeq (tDrop (tBM K "list" rAppend (tVar 11) (tCons (tC (.int 1)) tNil)))
    (tSeq (tIfS (tTest (tOp (rNeX K) (tCall sp_l_schedule [] C8.E0 (tCons (tVar 3) (tCons (tOp (rIx K) (tLst (tCons (tOp rMinus (tC (.int 0)) (tC (.int 1))) (tCons (tC (.int 100001)) tNil))) (tCall sp_l_draw [] C8.E0 (tCons (tVar 1) (tCons (tC (.int 2)) tNil)))) (tCons (tLst (tCons (tC (.int 33)) tNil)) tNil)))) (tTup (tCons (tC (.str "refused")) (tCons (tC (.str "many")) tNil))))) (tRet (tC (.bl false))) tNext)
    (tIfS (tTest (tOp (rNeX K) (tCall sp_l_schedule [] C8.E0 (tCons (tVar 3) (tCons (tC (.int 3)) (tCons (tLst (tCons (tC (.int 33)) tNil)) tNil)))) (tTup (tCons (tC (.str "refused")) (tCons (tC (.str "torn")) tNil))))) (tRet (tC (.bl false))) tNext))))))) (tIfS (tAnd (tTest (tOp (rEqX K) (tVar 10) (tC (.int 1)))) (tTest (tOp (rEqX K) (tCall sp_l_draw [] C8.E0 (tCons (tVar 1) (tCons (tC (.int 4)) tNil))) (tC (.int 0))))) (tSeq (tDrop (tMethS (He.ga K "Disk") "cut_power" sp_Disk_cut_power (WE (fun _ _ _ _ => False)) (tVar 3) (tCons (tLst tNil) tNil)))
    (tSeq (tAsg (tLst tNil) (gName 5))
    (tSeq (tAsg (tOp rMinus (tC (.int 0)) (tC (.int 1))) (gName 6))
    (tAsg (tOp (rPlus K) (tVar 8) (tC (.int 1))) (gName 8))))) (tIfS (tTest (tOp (rEqX K) (tVar 10) (tC (.int 2)))) (tIfS (tOr (tTest (tOp (rNeX K) (tCall sp_l_do [] C8.E0 (tCons (tVar 3) (tCons (tVar 2) (tCons (tOp rTimes (tLst (tCons (tC (.int 0)) tNil)) (tC (.int 32))) tNil)))) (tTup (tCons (tC (.str "refused")) (tCons (tC (.str "at")) tNil))))) (tTest (tOp (rNeX K) (tCall sp_l_do [] C8.E0 (tCons (tVar 3) (tCons (tC (.int 0)) (tCons (tOp rTimes (tLst (tCons (tC (.int 0)) tNil)) (tC (.int 31))) tNil)))) (tTup (tCons (tC (.str "refused")) (tCons (tC (.str "block")) tNil)))))) (tRet (tC (.bl false))) tNext) (tSeq (tAsg (tOp rMinus (tC (.int 0)) (tC (.int 1))) (gName 12))
    (C8.tCut (tIfS (tTest (tOp rGt (tVar 10) (tC (.int 4)))) (tAsg (tCall sp_l_draw [] C8.E0 (tCons (tVar 1) (tCons (tVar 2) tNil))) (gName 12)) tNext)
    (tSeq (tAsg (tLc (iRng1 (tCons (tC (.int 32)) tNil)) (gName 15) tYes (tOp (rPlus K) (tC (.int 1)) (tCall sp_l_draw [] C8.E0 (tCons (tVar 1) (tCons (tC (.int 255)) tNil)))) [15]) (gName 13))
    (tSeq (tAsg (tCall sp_l_do [] C8.E0 (tCons (tVar 3) (tCons (tVar 12) (tCons (tCB (rListOf K) (tCons (tVar 13) tNil)) tNil)))) (gName 14))
    (tIfS (tTest (tOp (rEqX K) (tVar 6) (tC (.int 0)))) (tSeq (tIfS (tTest (tOp (rNeX K) (tVar 14) (tTup (tCons (tC (.str "refused")) (tCons (tC (.str "cut")) tNil))))) (tRet (tC (.bl false))) tNext)
    (tSeq (tFor (iRng1 (tCons (tCB (rMin2) (tCons (tCB (rLenX K) (tCons (tVar 7) tNil)) (tCons (tCB (rLenX K) (tCons (tVar 5) tNil)) tNil))) tNil)) (gName 15) (tSeq (tAsg (tOp (rIx K) (tOp (rIx K) (tVar 5) (tVar 15)) (tC (.int 0))) (gName 16))
    (tAsg (tOp (rPlus K) (tSl (rSlX K) (tOp (rIx K) (tOp (rIx K) (tVar 5) (tVar 15)) (tC (.int 1))) tNoPart (tPart (tOp (rIx K) (tVar 7) (tVar 15)))) (tSl (rSlX K) (tOp (rIx K) (tVar 4) (tVar 16)) (tPart (tOp (rIx K) (tVar 7) (tVar 15))) tNoPart)) (gSub (tVar 4) (tVar 16) rSetL))))
    (tSeq (tAsg (tLst tNil) (gName 5))
    (tSeq (tAsg (tOp rMinus (tC (.int 0)) (tC (.int 1))) (gName 6))
    (tAsg (tOp (rPlus K) (tVar 8) (tC (.int 1))) (gName 8)))))) (tSeq (tIfS (tTest (tOp rNotNo (tVar 14) (tC .non))) (tRet (tC (.bl false))) tNext)
    (C8.tCut (tIfS (tTest (tOp rGt (tVar 6) (tC (.int 0)))) (tAsg (tOp rMinus (tVar 6) (tC (.int 1))) (gName 6)) tNext)
    (tIfS (tTest (tOp (rEqX K) (tVar 12) (tOp rMinus (tC (.int 0)) (tC (.int 1))))) (tSeq (tFor (iAny K (tVar 5)) (gName 17) (tAsg (tOp (rIx K) (tVar 17) (tC (.int 1))) (gSub (tVar 4) (tOp (rIx K) (tVar 17) (tC (.int 0))) rSetL)))
    (tAsg (tLst tNil) (gName 5))) (tDrop (tBM K "list" rAppend (tVar 5) (tCons (tLst (tCons (tVar 12) (tCons (tVar 13) tNil))) tNil))))))))))))))
    (tIfS (tOr (tTest (tOp (rNeX K) (tMeth (He.ga K "Disk") "pending_count" sp_Disk_pending_count [] C8.E0 (tVar 3) tNil) (tCB (rLenX K) (tCons (tVar 5) tNil)))) (tTest (tOp (rNeX K) (tMeth (He.ga K "Disk") "cut_count" sp_Disk_cut_count [] C8.E0 (tVar 3) tNil) (tVar 8)))) (tRet (tC (.bl false))) tNext))))
    (tSeq (tDrop (tMethS (He.ga K "Disk") "cut_power" sp_Disk_cut_power (WE (fun _ _ _ _ => False)) (tVar 3) (tCons (tLst tNil) tNil)))
    (tRet (tOp (rEqX K) (tLc (iRng1 (tCons (tVar 2) tNil)) (gName 12) tYes (tMethS (He.ga K "Disk") "read" sp_Disk_read (WE (fun _ _ _ _ => False)) (tVar 3) (tCons (tVar 12) tNil)) [12]) (tVar 4)))))))))))))
theorem d_law (g : G K mg) {sp_Disk_read : Sp} (c_Disk_read : MetX P w K mg base 4 (He.ga K "Disk") "read" sp_Disk_read) {sp_Disk_cut_power : Sp} (c_Disk_cut_power : MetX P w K mg base 4 (He.ga K "Disk") "cut_power" sp_Disk_cut_power) {sp_Disk_pending_count : Sp} (c_Disk_pending_count : C8.Met P w K mg base 1 (He.ga K "Disk") "pending_count" sp_Disk_pending_count []) {sp_Disk_cut_count : Sp} (c_Disk_cut_count : C8.Met P w K mg base 1 (He.ga K "Disk") "cut_count" sp_Disk_cut_count []) {sp_l_schedule : Sp} (c_l_schedule : C8.Cal P w K mg base 5 "_law_schedule" sp_l_schedule []) {sp_l_draw : Sp} (c_l_draw : C8.Cal P w K mg base 1 "_law_draw" sp_l_draw []) {sp_l_torn : Sp} (c_l_torn : C8.Cal P w K mg base 2 "_law_torn" sp_l_torn []) {sp_l_do : Sp} (c_l_do : C8.Cal P w K mg base 6 "_law_do" sp_l_do []) {sp_Disk_init : Sp} (c_Disk_init : MakX P w K mg base 3 "Disk" (He.ga K "Disk") sp_Disk_init) {sp_l_digits : Sp} (c_l_digits : C8.Cal P w K mg base 2 "_law_digits" sp_l_digits []) {f : Addr} {cdv : Value} {A : Around} {outer : List Env} {s : Shared} {H : Hp} {E : XK} (hr : Room 6 (A.deeper (envOfC "law" (defScope s_law) s.heap.objs.size f cdv))) :
    PSs (cxOf CX0 P w K mg base N_law "law" (defScope s_law) f cdv A outer s H E).nox (defBody s_law) (t_law K sp_Disk_read sp_Disk_cut_power sp_Disk_pending_count sp_Disk_cut_count sp_l_schedule sp_l_draw sp_l_torn sp_l_do sp_Disk_init sp_l_digits) := by
  unfold t_law
  exact
    (pss_cons (ps_set (i := 1) sc_law.nd rfl (by first | exact Or.inl rfl | exact Or.inr rfl) (pe_lst (pa_cons (C8.pe_c c_l_digits hr (by decide) rfl (pa_cons (pv 0) (pa_cons pe_int (pa_cons pe_int pa_nil)))) (pa_cons pe_int pa_nil))))
    (pss_cons (ps_set (i := 2) sc_law.nd rfl (by first | exact Or.inl rfl | exact Or.inr rfl) (pe_op o_plus pe_int (C8.pe_c c_l_draw hr (by decide) rfl (pa_cons (pv 1) (pa_cons pe_int pa_nil)))))
    (pss_cons (ps_set (i := 3) sc_law.nd rfl (by first | exact Or.inl rfl | exact Or.inr rfl) (pe_kX c_Disk_init hr (by decide) takesF rfl (pa_cons (pv 2) pa_nil)))
    (pss_cons (ps_setLc (own := [("_law_k", 15)]) (tt := tYes) (i := 4) rfl sc_law.nd rfl rfl (sw_true rfl rfl rfl (by decide +kernel)) (pi_range1 rfl g.b_range (pa_cons (pv 2) pa_nil)) (blkOk_by (N := N_law) (sc := defScope s_law) (by decide +kernel)) (fun _ _ _ _ _ => (pg_name (i := 15) sc_law.nd rfl (by first | exact Or.inl rfl | exact Or.inr rfl))) (fun _ _ _ _ _ => pts_nil) (fun _ _ _ _ _ => (pe_op o_times (pe_lst (pa_cons pe_int pa_nil)) pe_int)))
    (pss_cons (ps_set (i := 5) sc_law.nd rfl (by first | exact Or.inl rfl | exact Or.inr rfl) (pe_lst pa_nil))
    (pss_cons (ps_set (i := 6) sc_law.nd rfl (by first | exact Or.inl rfl | exact Or.inr rfl) (pe_op o_minus pe_int pe_int))
    (pss_cons (ps_set (i := 7) sc_law.nd rfl (by first | exact Or.inl rfl | exact Or.inr rfl) (pe_lst pa_nil))
    (pss_cons (ps_set (i := 8) sc_law.nd rfl (by first | exact Or.inl rfl | exact Or.inr rfl) pe_int)
    (pss_cons (ps_for PassesOwn.never rfl (pi_range1 rfl g.b_range (pa_cons pe_int pa_nil)) (pg_name (i := 9) sc_law.nd rfl (by first | exact Or.inl rfl | exact Or.inr rfl)) (pss_cons (ps_set (i := 10) sc_law.nd rfl (by first | exact Or.inl rfl | exact Or.inr rfl) (C8.pe_c c_l_draw hr (by decide) rfl (pa_cons (pv 1) (pa_cons pe_int pa_nil))))
    (C8.pss_cut (ps_if (PW.pt (pw_or (pt_cmpR (o_eq hr.units) (pv 10) pe_int (nomark _)) (pw_or1 (pt_cmpR (o_eq hr.units) (pv 9) pe_int (nomark _))))) (pss_cons (ps_set (i := 6) sc_law.nd rfl (by first | exact Or.inl rfl | exact Or.inr rfl) (C8.pe_c c_l_draw hr (by decide) rfl (pa_cons (pv 1) (pa_cons pe_int pa_nil))))
    (pss_cons (ps_set (i := 7) sc_law.nd rfl (by first | exact Or.inl rfl | exact Or.inr rfl) (C8.pe_c c_l_torn hr (by decide) rfl (pa_cons (pv 1) (pa_cons pe_int pa_nil))))
    (pss_cons (ps_set (i := 11) sc_law.nd rfl (by first | exact Or.inl rfl | exact Or.inr rfl) (pe_callTy c_list (by rfl) g.b_list (by decide +kernel) (pa_cons (pv 7) pa_nil)))
    (pss_cons (ps_if (PW.pt (pw_or (pt_cmpR o_isnot (C8.pe_c c_l_schedule hr (by decide) rfl (pa_cons (pv 3) (pa_cons pe_int (pa_cons (pe_lst (pa_cons pe_int pa_nil)) pa_nil)))) pe_non (nomark _)) (pw_or1 (pt_cmpR o_isnot (C8.pe_c c_l_schedule hr (by decide) rfl (pa_cons (pv 3) (pa_cons (pv 6) (pa_cons (pv 11) pa_nil)))) pe_non (nomark _))))) (pss_one (ps_ret pe_bl)) pss_nil)
    (pss_cons (ps_expr (pe_bm PySem.F.plainAttrs_list PySem.F.slot_list_append PySem.F.type_list_append mt_append (pv 11) (pa_cons pe_int pa_nil)))
    (pss_cons (ps_if (pt_cmpR (o_ne hr.units) (C8.pe_c c_l_schedule hr (by decide) rfl (pa_cons (pv 3) (pa_cons (pe_ix ix_seq (pe_lst (pa_cons (pe_op o_minus pe_int pe_int) (pa_cons pe_int pa_nil))) (C8.pe_c c_l_draw hr (by decide) rfl (pa_cons (pv 1) (pa_cons pe_int pa_nil))) (fun _ _ => rfl)) (pa_cons (pe_lst (pa_cons pe_int pa_nil)) pa_nil)))) (pe_tup (pa_cons pe_str (pa_cons pe_str pa_nil))) (nomark _)) (pss_one (ps_ret pe_bl)) pss_nil)
    (pss_one (ps_if (pt_cmpR (o_ne hr.units) (C8.pe_c c_l_schedule hr (by decide) rfl (pa_cons (pv 3) (pa_cons pe_int (pa_cons (pe_lst (pa_cons pe_int pa_nil)) pa_nil)))) (pe_tup (pa_cons pe_str (pa_cons pe_str pa_nil))) (nomark _)) (pss_one (ps_ret pe_bl)) pss_nil)))))))) (pss_one (ps_if (PW.pt (pw_and (pt_cmpR (o_eq hr.units) (pv 10) pe_int (nomark _)) (pw_and1 (pt_cmpR (o_eq hr.units) (C8.pe_c c_l_draw hr (by decide) rfl (pa_cons (pv 1) (pa_cons pe_int pa_nil))) pe_int (nomark _))))) (pss_cons (ps_expr (pe_mX c_Disk_cut_power hr (by decide) takesF (pv 3) (pa_cons (pe_lst pa_nil) pa_nil)))
    (pss_cons (ps_set (i := 5) sc_law.nd rfl (by first | exact Or.inl rfl | exact Or.inr rfl) (pe_lst pa_nil))
    (pss_cons (ps_set (i := 6) sc_law.nd rfl (by first | exact Or.inl rfl | exact Or.inr rfl) (pe_op o_minus pe_int pe_int))
    (pss_one (ps_set (i := 8) sc_law.nd rfl (by first | exact Or.inl rfl | exact Or.inr rfl) (pe_op o_plus (pv 8) pe_int)))))) (pss_one (ps_if (pt_cmpR (o_eq hr.units) (pv 10) pe_int (nomark _)) (pss_one (ps_if (PW.pt (pw_or (pt_cmpR (o_ne hr.units) (C8.pe_c c_l_do hr (by decide) rfl (pa_cons (pv 3) (pa_cons (pv 2) (pa_cons (pe_op o_times (pe_lst (pa_cons pe_int pa_nil)) pe_int) pa_nil)))) (pe_tup (pa_cons pe_str (pa_cons pe_str pa_nil))) (nomark _)) (pw_or1 (pt_cmpR (o_ne hr.units) (C8.pe_c c_l_do hr (by decide) rfl (pa_cons (pv 3) (pa_cons pe_int (pa_cons (pe_op o_times (pe_lst (pa_cons pe_int pa_nil)) pe_int) pa_nil)))) (pe_tup (pa_cons pe_str (pa_cons pe_str pa_nil))) (nomark _))))) (pss_one (ps_ret pe_bl)) pss_nil)) (pss_cons (ps_set (i := 12) sc_law.nd rfl (by first | exact Or.inl rfl | exact Or.inr rfl) (pe_op o_minus pe_int pe_int))
    (C8.pss_cut (ps_if (pt_cmpR o_gt (pv 10) pe_int (nomark _)) (pss_one (ps_set (i := 12) sc_law.nd rfl (by first | exact Or.inl rfl | exact Or.inr rfl) (C8.pe_c c_l_draw hr (by decide) rfl (pa_cons (pv 1) (pa_cons (pv 2) pa_nil))))) pss_nil)
    (pss_cons (ps_setLc (own := [("_law_k", 15)]) (tt := tYes) (i := 13) rfl sc_law.nd rfl rfl (sw_true rfl rfl rfl (by decide +kernel)) (pi_range1 rfl g.b_range (pa_cons pe_int pa_nil)) (blkOk_by (N := N_law) (sc := defScope s_law) (by decide +kernel)) (fun _ _ _ _ _ => (pg_name (i := 15) sc_law.nd rfl (by first | exact Or.inl rfl | exact Or.inr rfl))) (fun _ _ _ _ _ => pts_nil) (fun _ _ _ _ _ => (pe_op o_plus pe_int (C8.pe_c c_l_draw hr (by decide) rfl (pa_cons (pv 1) (pa_cons pe_int pa_nil))))))
    (pss_cons (ps_set (i := 14) sc_law.nd rfl (by first | exact Or.inl rfl | exact Or.inr rfl) (C8.pe_c c_l_do hr (by decide) rfl (pa_cons (pv 3) (pa_cons (pv 12) (pa_cons (pe_callTy c_list (by rfl) g.b_list (by decide +kernel) (pa_cons (pv 13) pa_nil)) pa_nil)))))
    (pss_one (ps_if (pt_cmpR (o_eq hr.units) (pv 6) pe_int (nomark _)) (pss_cons (ps_if (pt_cmpR (o_ne hr.units) (pv 14) (pe_tup (pa_cons pe_str (pa_cons pe_str pa_nil))) (nomark _)) (pss_one (ps_ret pe_bl)) pss_nil)
    (pss_cons (ps_for PassesOwn.never rfl (pi_range1 rfl g.b_range (pa_cons (pe_callB (c_min2 rfl) (by rfl) g.b_min (by decide +kernel) (pa_cons (pe_callB c_len (by rfl) g.b_len (by decide +kernel) (pa_cons (pv 7) pa_nil)) (pa_cons (pe_callB c_len (by rfl) g.b_len (by decide +kernel) (pa_cons (pv 5) pa_nil)) pa_nil))) pa_nil)) (pg_name (i := 15) sc_law.nd rfl (by first | exact Or.inl rfl | exact Or.inr rfl)) (pss_cons (ps_set (i := 16) sc_law.nd rfl (by first | exact Or.inl rfl | exact Or.inr rfl) (pe_ix ix_seq (pe_ix ix_seq (pv 5) (pv 15) (fun _ _ => rfl)) pe_int (fun _ _ => rfl)))
    (pss_one (ps_asg (pe_op o_plus (pe_slice sl_any (pe_ix ix_seq (pe_ix ix_seq (pv 5) (pv 15) (fun _ _ => rfl)) pe_int (fun _ _ => rfl)) po_none (po_some (pe_ix ix_seq (pv 7) (pv 15) (fun _ _ => rfl)))) (pe_slice sl_any (pe_ix ix_seq (pv 4) (pv 16) (fun _ _ => rfl)) (po_some (pe_ix ix_seq (pv 7) (pv 15) (fun _ _ => rfl))) po_none)) (pg_sub (pv 4) (pv 16) set_list)))))
    (pss_cons (ps_set (i := 5) sc_law.nd rfl (by first | exact Or.inl rfl | exact Or.inr rfl) (pe_lst pa_nil))
    (pss_cons (ps_set (i := 6) sc_law.nd rfl (by first | exact Or.inl rfl | exact Or.inr rfl) (pe_op o_minus pe_int pe_int))
    (pss_one (ps_set (i := 8) sc_law.nd rfl (by first | exact Or.inl rfl | exact Or.inr rfl) (pe_op o_plus (pv 8) pe_int))))))) (pss_cons (ps_if (pt_cmpR o_isnot (pv 14) pe_non (nomark _)) (pss_one (ps_ret pe_bl)) pss_nil)
    (C8.pss_cut (ps_if (pt_cmpR o_gt (pv 6) pe_int (nomark _)) (pss_one (ps_set (i := 6) sc_law.nd rfl (by first | exact Or.inl rfl | exact Or.inr rfl) (pe_op o_minus (pv 6) pe_int))) pss_nil)
    (pss_one (ps_if (pt_cmpR (o_eq hr.units) (pv 12) (pe_op o_minus pe_int pe_int) (nomark _)) (pss_cons (ps_for PassesOwn.never rfl (pi_any (pv 5)) (pg_name (i := 17) sc_law.nd rfl (by first | exact Or.inl rfl | exact Or.inr rfl)) (pss_one (ps_asg (pe_ix ix_seq (pv 17) pe_int (fun _ _ => rfl)) (pg_sub (pv 4) (pe_ix ix_seq (pv 17) pe_int (fun _ _ => rfl)) set_list))))
    (pss_one (ps_set (i := 5) sc_law.nd rfl (by first | exact Or.inl rfl | exact Or.inr rfl) (pe_lst pa_nil)))) (pss_one (ps_expr (pe_bm PySem.F.plainAttrs_list PySem.F.slot_list_append PySem.F.type_list_append mt_append (pv 5) (pa_cons (pe_lst (pa_cons (pv 12) (pa_cons (pv 13) pa_nil))) pa_nil)))))))))))))))))))
    (pss_one (ps_if (PW.pt (pw_or (pt_cmpR (o_ne hr.units) (C8.pe_mt0 c_Disk_pending_count hr (by decide) (pv 3)) (pe_callB c_len (by rfl) g.b_len (by decide +kernel) (pa_cons (pv 5) pa_nil)) (nomark _)) (pw_or1 (pt_cmpR (o_ne hr.units) (C8.pe_mt0 c_Disk_cut_count hr (by decide) (pv 3)) (pv 8) (nomark _))))) (pss_one (ps_ret pe_bl)) pss_nil)))))
    (pss_cons (ps_expr (pe_mX c_Disk_cut_power hr (by decide) takesF (pv 3) (pa_cons (pe_lst pa_nil) pa_nil)))
    (pss_one (ps_ret (pe_cmpR (o_eq hr.units) (pe_lc (own := [("_law_at", 12)]) (tt := tYes) rfl sc_law.nd (pi_range1 rfl g.b_range (pa_cons (pv 2) pa_nil)) (blkOk_by (N := N_law) (sc := defScope s_law) (by decide +kernel)) (fun _ _ _ _ _ => (pg_name (i := 12) sc_law.nd rfl (by first | exact Or.inl rfl | exact Or.inr rfl))) (fun _ _ _ _ _ => pts_nil) (fun _ _ _ _ _ => (pe_mX c_Disk_read hr (by decide) takesF (pv 3) (pa_cons (pv 12) pa_nil)))) (pv 4) (nomark _))))))))))))))
theorem ok_law (g : G K mg) {sp_Disk_read : Sp} (c_Disk_read : MetX P w K mg base 4 (He.ga K "Disk") "read" sp_Disk_read) {sp_Disk_cut_power : Sp} (c_Disk_cut_power : MetX P w K mg base 4 (He.ga K "Disk") "cut_power" sp_Disk_cut_power) {sp_Disk_pending_count : Sp} (c_Disk_pending_count : C8.Met P w K mg base 1 (He.ga K "Disk") "pending_count" sp_Disk_pending_count []) {sp_Disk_cut_count : Sp} (c_Disk_cut_count : C8.Met P w K mg base 1 (He.ga K "Disk") "cut_count" sp_Disk_cut_count []) {sp_l_schedule : Sp} (c_l_schedule : C8.Cal P w K mg base 5 "_law_schedule" sp_l_schedule []) {sp_l_draw : Sp} (c_l_draw : C8.Cal P w K mg base 1 "_law_draw" sp_l_draw []) {sp_l_torn : Sp} (c_l_torn : C8.Cal P w K mg base 2 "_law_torn" sp_l_torn []) {sp_l_do : Sp} (c_l_do : C8.Cal P w K mg base 6 "_law_do" sp_l_do []) {sp_Disk_init : Sp} (c_Disk_init : MakX P w K mg base 3 "Disk" (He.ga K "Disk") sp_Disk_init) {sp_l_digits : Sp} (c_l_digits : C8.Cal P w K mg base 2 "_law_digits" sp_l_digits []) {sp : Sp} (F : ∃ fd, FunD K "law" "law" (defArgs s_law) (defBody s_law) (defScope s_law) [] [] (He.ga K "law") fd) (m : mg "law" = some (.ref (He.ga K "law")))
    (hsp : ∀ vs H Q E, sp vs H Q E → vs.length = 1 ∧ t_law K sp_Disk_read sp_Disk_cut_power sp_Disk_pending_count sp_Disk_cut_count sp_l_schedule sp_l_draw sp_l_torn sp_l_do sp_Disk_init sp_l_digits { nx := fun _ H' => Q .non H', rt := Q } (start N_law vs) H) : C8.Cal P w K mg base 7 "law" sp [] := by
  obtain ⟨fd, F⟩ := F
  exact ⟨_, fd, ["_law_script"], [], FunD.ok F sc_law (fun vs H Q E h => (hsp vs H Q E h).1) (fun cdv A outer s H vs Q E hr h => ⟨_, PSs.nox (d_law g c_Disk_read c_Disk_cut_power c_Disk_pending_count c_Disk_cut_count c_l_schedule c_l_draw c_l_torn c_l_do c_Disk_init c_l_digits hr), (hsp vs H Q E h).2⟩), m, F.kp, (F.bindsN fun _ _ _ _ _ _ us hl => match us, hl with | [_], _ => rfl), .nil⟩
abbrev s_Disk_init : Stmt := mth 12 0
abbrev N_Disk_init : List Str := ["self", "blocks", "_"]
theorem sc_Disk_init : FnScope N_Disk_init ["self", "blocks"] (defScope s_Disk_init) := ⟨rfl, rfl, rfl, by decide +kernel, rfl, by decide +kernel, by decide +kernel⟩
def t_Disk_init (K : PySem.W.Frag) (E : XK) : TS :=
    (tSeq (tIfS (tNot (tTest (tChain rLe rLe (tC (.int 8)) (tVar 1) (tC (.int 400))))) (tRaiseO (He.ga K "OutOfRange") (spExI K (He.ga K "OutOfRange") "name") (fun cls d _ H => E cls d H) (tCons (tC (.str "blocks")) tNil)) tNext)
    (tSeq (sFld K (tVar 0) (tLc (iRng1 (tCons (tVar 1) tNil)) (gName 2) tYes (tOp rTimes (tLst (tCons (tC (.int 0)) tNil)) (tC (.int 32))) [2]) "_blocks")
    (tSeq (sFld K (tVar 0) (tLst tNil) "_pending")
    (tSeq (sFld K (tVar 0) (tC (.int 0)) "_cuts")
    (tSeq (sFld K (tVar 0) (tC .non) "_left")
    (sFld K (tVar 0) (tLst tNil) "_torn"))))))
theorem d_Disk_init (g : G K mg) (c_OutOfRange : Oex P w K mg base 1 "OutOfRange" (He.ga K "OutOfRange") "name") {f : Addr} {cdv : Value} {A : Around} {outer : List Env} {s : Shared} {H : Hp} {E : XK} (hr : Room 2 (A.deeper (envOfC "Disk.__init__" (defScope s_Disk_init) s.heap.objs.size f cdv))) :
    PSs (cxOf (L2.CX P w) P w K mg base N_Disk_init "Disk.__init__" (defScope s_Disk_init) f cdv A outer s H E) (defBody s_Disk_init) (t_Disk_init K E) := by
  unfold t_Disk_init
  exact
    (pss_cons (ps_if (pt_not (pt_chain o_le o_le (C8.pe_gc rfl g.c_BLOCKS_LEAST) (pv 1) (C8.pe_gc rfl g.c_BLOCKS_MOST))) (pss_one (ps_rO c_OutOfRange rfl hr (by decide) (takes_of rfl rfl rfl rfl) rfl (pa_cons pe_str pa_nil))) pss_nil)
    (pss_cons (ps_fld (pv 0) (pe_lc (own := [("_", 2)]) (tt := tYes) rfl sc_Disk_init.nd (pi_range1 rfl g.b_range (pa_cons (pv 1) pa_nil)) (blkOk_by (N := N_Disk_init) (sc := defScope s_Disk_init) (by decide +kernel)) (fun _ _ _ _ _ => (pg_name (i := 2) sc_Disk_init.nd rfl (by first | exact Or.inl rfl | exact Or.inr rfl))) (fun _ _ _ _ _ => pts_nil) (fun _ _ _ _ _ => (pe_op o_times (pe_lst (pa_cons pe_int pa_nil)) (C8.pe_gc rfl g.c_BLOCK)))) (by rfl))
    (pss_cons (ps_fld (pv 0) (pe_lst pa_nil) (by rfl))
    (pss_cons (ps_fld (pv 0) pe_int (by rfl))
    (pss_cons (ps_fld (pv 0) pe_non (by rfl))
    (pss_one (ps_fld (pv 0) (pe_lst pa_nil) (by rfl))))))))
theorem ok_Disk_init (g : G K mg) (c_OutOfRange : Oex P w K mg base 1 "OutOfRange" (He.ga K "OutOfRange") "name") {sp : Sp} (F : ∃ fd, FunD K "__init__" "Disk.__init__" (defArgs s_Disk_init) (defBody s_Disk_init) (defScope s_Disk_init) [] [] (He.ma K (He.ga K "Disk") "__init__") fd)
    (hsp : ∀ vs H Q E, sp vs H Q E → vs.length = 2 ∧ t_Disk_init K E { nx := fun _ H' => Q .non H', rt := Q } (start N_Disk_init vs) H) : MakX P w K mg base 3 "Disk" (He.ga K "Disk") sp := by
  obtain ⟨fd, F⟩ := F
  exact ⟨_, fd, ["self", "blocks"], g.mkr_Disk, FunD.ok F sc_Disk_init (fun vs H Q E h => (hsp vs H Q E h).1) (fun cdv A outer s H vs Q E hr h => ⟨_, d_Disk_init g c_OutOfRange hr, (hsp vs H Q E h).2⟩), g.k_Disk, (F.bindsN fun _ _ _ _ _ _ us hl => match us, hl with | [_, _], _ => rfl)⟩
abbrev s_Disk_check_at : Stmt := mth 12 2
abbrev N_Disk_check_at : List Str := ["self", "at"]
theorem sc_Disk_check_at : FnScope N_Disk_check_at ["self", "at"] (defScope s_Disk_check_at) := ⟨rfl, rfl, rfl, by decide +kernel, rfl, by decide +kernel, by decide +kernel⟩
def t_Disk_check_at (K : PySem.W.Frag) (E : XK) : TS :=
    (tIfS (tNot (tTest (tChain rLe rLt (tC (.int 0)) (tVar 1) (tCB (rLenX K) (tCons (tFld K (tVar 0) "_blocks") tNil))))) (tRaiseO (He.ga K "OutOfRange") (spExI K (He.ga K "OutOfRange") "name") (fun cls d _ H => E cls d H) (tCons (tC (.str "at")) tNil)) tNext)
theorem d_Disk_check_at (g : G K mg) (c_OutOfRange : Oex P w K mg base 1 "OutOfRange" (He.ga K "OutOfRange") "name") {f : Addr} {cdv : Value} {A : Around} {outer : List Env} {s : Shared} {H : Hp} {E : XK} (hr : Room 2 (A.deeper (envOfC "Disk._check_at" (defScope s_Disk_check_at) s.heap.objs.size f cdv))) :
    PSs (cxOf (L2.CX P w) P w K mg base N_Disk_check_at "Disk._check_at" (defScope s_Disk_check_at) f cdv A outer s H E) (defBody s_Disk_check_at) (t_Disk_check_at K E) := by
  unfold t_Disk_check_at
  exact
    (pss_one (ps_if (pt_not (pt_chain o_le o_lt pe_int (pv 1) (pe_callB c_len (by rfl) g.b_len (by decide +kernel) (pa_cons (pe_fld (pv 0) (by rfl)) pa_nil)))) (pss_one (ps_rO c_OutOfRange rfl hr (by decide) (takes_of rfl rfl rfl rfl) rfl (pa_cons pe_str pa_nil))) pss_nil))
theorem ok_Disk_check_at (g : G K mg) (c_OutOfRange : Oex P w K mg base 1 "OutOfRange" (He.ga K "OutOfRange") "name") {sp : Sp} (F : ∃ fd, FunD K "_check_at" "Disk._check_at" (defArgs s_Disk_check_at) (defBody s_Disk_check_at) (defScope s_Disk_check_at) [] [] (He.ma K (He.ga K "Disk") "_check_at") fd)
    (hsp : ∀ vs H Q E, sp vs H Q E → vs.length = 2 ∧ t_Disk_check_at K E { nx := fun _ H' => Q .non H', rt := Q } (start N_Disk_check_at vs) H) : MetX P w K mg base 3 (He.ga K "Disk") "_check_at" sp := by
  obtain ⟨fd, F⟩ := F
  exact ⟨_, fd, ["self", "at"], g.cls_Disk, g.me_Disk_check_at, FunD.ok F sc_Disk_check_at (fun vs H Q E h => (hsp vs H Q E h).1) (fun cdv A outer s H vs Q E hr h => ⟨_, d_Disk_check_at g c_OutOfRange hr, (hsp vs H Q E h).2⟩), (F.bindsN fun _ _ _ _ _ _ us hl => match us, hl with | [_, _], _ => rfl)⟩
abbrev s_Disk_read : Stmt := mth 12 3
abbrev N_Disk_read : List Str := ["self", "at", "found", "place", "block"]
theorem sc_Disk_read : FnScope N_Disk_read ["self", "at"] (defScope s_Disk_read) := ⟨rfl, rfl, rfl, by decide +kernel, rfl, by decide +kernel, by decide +kernel⟩
def t_Disk_read (K : PySem.W.Frag) (sp_Disk_check_at : Sp) (E : XK) : TS :=
    (tSeq (tDrop (tMethS (He.ga K "Disk") "_check_at" sp_Disk_check_at (WE (fun cls d _ H => E cls d H)) (tVar 0) (tCons (tVar 1) tNil)))
    (tSeq (tAsg (tOp (rIx K) (tFld K (tVar 0) "_blocks") (tVar 1)) (gName 2))
    (tSeq (tFor (iAny K (tFld K (tVar 0) "_pending")) (gUnp K 2 (gCons (gName 3) (gCons (gName 4) gNil))) (tIfS (tTest (tOp (rEqX K) (tVar 3) (tVar 1))) (tAsg (tVar 4) (gName 2)) tNext))
    (tRet (tCB (rListOf K) (tCons (tVar 2) tNil))))))
theorem d_Disk_read (g : G K mg) {sp_Disk_check_at : Sp} (c_Disk_check_at : MetX P w K mg base 3 (He.ga K "Disk") "_check_at" sp_Disk_check_at) {f : Addr} {cdv : Value} {A : Around} {outer : List Env} {s : Shared} {H : Hp} {E : XK} (hr : Room 3 (A.deeper (envOfC "Disk.read" (defScope s_Disk_read) s.heap.objs.size f cdv))) :
    PSs (cxOf (L2.CX P w) P w K mg base N_Disk_read "Disk.read" (defScope s_Disk_read) f cdv A outer s H E) (defBody s_Disk_read) (t_Disk_read K sp_Disk_check_at E) := by
  unfold t_Disk_read
  exact
    (pss_cons (ps_expr (pe_mX c_Disk_check_at hr (by decide) (takes_of rfl rfl rfl rfl) (pv 0) (pa_cons (pv 1) pa_nil)))
    (pss_cons (ps_set (i := 2) sc_Disk_read.nd rfl (by first | exact Or.inl rfl | exact Or.inr rfl) (pe_ix ix_seq (pe_fld (pv 0) (by rfl)) (pv 1) (fun _ _ => rfl)))
    (pss_cons (ps_for (passes_of rfl) rfl (pi_any (pe_fld (pv 0) (by rfl))) (pg_unp rfl (pgs_cons (pg_name (i := 3) sc_Disk_read.nd rfl (by first | exact Or.inl rfl | exact Or.inr rfl)) (pgs_cons (pg_name (i := 4) sc_Disk_read.nd rfl (by first | exact Or.inl rfl | exact Or.inr rfl)) pgs_nil))) (pss_one (ps_if (pt_cmpR (o_eq hr.units) (pv 3) (pv 1) (nomark _)) (pss_one (ps_set (i := 2) sc_Disk_read.nd rfl (by first | exact Or.inl rfl | exact Or.inr rfl) (pv 4))) pss_nil)))
    (pss_one (ps_ret (pe_callTy c_list (by rfl) g.b_list (by decide +kernel) (pa_cons (pv 2) pa_nil)))))))
theorem ok_Disk_read (g : G K mg) {sp_Disk_check_at : Sp} (c_Disk_check_at : MetX P w K mg base 3 (He.ga K "Disk") "_check_at" sp_Disk_check_at) {sp : Sp} (F : ∃ fd, FunD K "read" "Disk.read" (defArgs s_Disk_read) (defBody s_Disk_read) (defScope s_Disk_read) [] [] (He.ma K (He.ga K "Disk") "read") fd)
    (hsp : ∀ vs H Q E, sp vs H Q E → vs.length = 2 ∧ t_Disk_read K sp_Disk_check_at E { nx := fun _ H' => Q .non H', rt := Q } (start N_Disk_read vs) H) : MetX P w K mg base 4 (He.ga K "Disk") "read" sp := by
  obtain ⟨fd, F⟩ := F
  exact ⟨_, fd, ["self", "at"], g.cls_Disk, g.me_Disk_read, FunD.ok F sc_Disk_read (fun vs H Q E h => (hsp vs H Q E h).1) (fun cdv A outer s H vs Q E hr h => ⟨_, d_Disk_read g c_Disk_check_at hr, (hsp vs H Q E h).2⟩), (F.bindsN fun _ _ _ _ _ _ us hl => match us, hl with | [_, _], _ => rfl)⟩
abbrev s_Disk_cut : Stmt := mth 12 4
abbrev N_Disk_cut : List Str := ["self", "torn", "number", "at", "block", "count"]
theorem sc_Disk_cut : FnScope N_Disk_cut ["self", "torn"] (defScope s_Disk_cut) := ⟨rfl, rfl, rfl, by decide +kernel, rfl, by decide +kernel, by decide +kernel⟩
def t_Disk_cut (K : PySem.W.Frag) : TS :=
    (tSeq (tFor (iEnum K (tCons (tFld K (tVar 0) "_pending") tNil)) (gUnp K 2 (gCons (gName 2) (gCons (gUnp K 2 (gCons (gName 3) (gCons (gName 4) gNil))) gNil))) (tSeq (tAsg (tIf (tTest (tOp rLt (tVar 2) (tCB (rLenX K) (tCons (tVar 1) tNil)))) (tOp (rIx K) (tVar 1) (tVar 2)) (tC (.int 0))) (gName 5))
    (tAsg (tOp (rPlus K) (tSl (rSlX K) (tVar 4) tNoPart (tPart (tVar 5))) (tSl (rSlX K) (tOp (rIx K) (tFld K (tVar 0) "_blocks") (tVar 3)) (tPart (tVar 5)) tNoPart)) (gSub (tFld K (tVar 0) "_blocks") (tVar 3) rSetL))))
    (tSeq (sFld K (tVar 0) (tLst tNil) "_pending")
    (tSeq (sFld K (tVar 0) (tOp (rPlus K) (tFld K (tVar 0) "_cuts") (tC (.int 1))) "_cuts")
    (tSeq (sFld K (tVar 0) (tC .non) "_left")
    (sFld K (tVar 0) (tLst tNil) "_torn")))))
theorem d_Disk_cut (g : G K mg) {f : Addr} {cdv : Value} {A : Around} {outer : List Env} {s : Shared} {H : Hp} {E : XK} (hr : Room 0 (A.deeper (envOfC "Disk._cut" (defScope s_Disk_cut) s.heap.objs.size f cdv))) :
    PSs (cxOf CX0 P w K mg base N_Disk_cut "Disk._cut" (defScope s_Disk_cut) f cdv A outer s H E).nox (defBody s_Disk_cut) (t_Disk_cut K) := by
  unfold t_Disk_cut
  exact
    (pss_cons (ps_for PassesOwn.never rfl (pi_enum rfl g.b_enumerate (pa_cons (pe_fld (pv 0) (by rfl)) pa_nil)) (pg_unp rfl (pgs_cons (pg_name (i := 2) sc_Disk_cut.nd rfl (by first | exact Or.inl rfl | exact Or.inr rfl)) (pgs_cons (pg_unp rfl (pgs_cons (pg_name (i := 3) sc_Disk_cut.nd rfl (by first | exact Or.inl rfl | exact Or.inr rfl)) (pgs_cons (pg_name (i := 4) sc_Disk_cut.nd rfl (by first | exact Or.inl rfl | exact Or.inr rfl)) pgs_nil))) pgs_nil))) (pss_cons (ps_set (i := 5) sc_Disk_cut.nd rfl (by first | exact Or.inl rfl | exact Or.inr rfl) (pe_ifExp (pt_cmpR o_lt (pv 2) (pe_callB c_len (by rfl) g.b_len (by decide +kernel) (pa_cons (pv 1) pa_nil)) (nomark _)) (pe_ix ix_seq (pv 1) (pv 2) (fun _ _ => rfl)) pe_int))
    (pss_one (ps_asg (pe_op o_plus (pe_slice sl_any (pv 4) po_none (po_some (pv 5))) (pe_slice sl_any (pe_ix ix_seq (pe_fld (pv 0) (by rfl)) (pv 3) (fun _ _ => rfl)) (po_some (pv 5)) po_none)) (pg_sub (pe_fld (pv 0) (by rfl)) (pv 3) set_list)))))
    (pss_cons (ps_fld (pv 0) (pe_lst pa_nil) (by rfl))
    (pss_cons (ps_fld (pv 0) (pe_op o_plus (pe_fld (pv 0) (by rfl)) pe_int) (by rfl))
    (pss_cons (ps_fld (pv 0) pe_non (by rfl))
    (pss_one (ps_fld (pv 0) (pe_lst pa_nil) (by rfl)))))))
theorem ok_Disk_cut (g : G K mg) {sp : Sp} (F : ∃ fd, FunD K "_cut" "Disk._cut" (defArgs s_Disk_cut) (defBody s_Disk_cut) (defScope s_Disk_cut) [] [] (He.ma K (He.ga K "Disk") "_cut") fd)
    (hsp : ∀ vs H Q E, sp vs H Q E → vs.length = 2 ∧ t_Disk_cut K { nx := fun _ H' => Q .non H', rt := Q } (start N_Disk_cut vs) H) : C8.Met P w K mg base 1 (He.ga K "Disk") "_cut" sp [] := by
  obtain ⟨fd, F⟩ := F
  exact ⟨_, fd, ["self", "torn"], [], g.cls_Disk, g.me_Disk_cut, FunD.ok F sc_Disk_cut (fun vs H Q E h => (hsp vs H Q E h).1) (fun cdv A outer s H vs Q E hr h => ⟨_, PSs.nox (d_Disk_cut g hr), (hsp vs H Q E h).2⟩), (F.bindsN fun _ _ _ _ _ _ us hl => match us, hl with | [_, _], _ => rfl), .nil⟩
abbrev s_Disk_spend : Stmt := mth 12 5
abbrev N_Disk_spend : List Str := ["self"]
theorem sc_Disk_spend : FnScope N_Disk_spend ["self"] (defScope s_Disk_spend) := ⟨rfl, rfl, rfl, by decide +kernel, rfl, by decide +kernel, by decide +kernel⟩
def t_Disk_spend (K : PySem.W.Frag) (sp_Disk_cut : Sp) (E : XK) : TS :=
    (tSeq (tIfS (tTest (tOp rIsNo (tFld K (tVar 0) "_left") (tC .non))) tRetN tNext)
    (tSeq (tIfS (tTest (tOp (rEqX K) (tFld K (tVar 0) "_left") (tC (.int 0)))) (tSeq (tDrop (tMeth (He.ga K "Disk") "_cut" sp_Disk_cut [] C8.E0 (tVar 0) (tCons (tFld K (tVar 0) "_torn") tNil)))
    (tRaiseB (He.ga K "PowerCut") (fun cls d _ H => E cls d H))) tNext)
    (sFld K (tVar 0) (tOp rMinus (tFld K (tVar 0) "_left") (tC (.int 1))) "_left")))
theorem d_Disk_spend (g : G K mg) {sp_Disk_cut : Sp} (c_Disk_cut : C8.Met P w K mg base 1 (He.ga K "Disk") "_cut" sp_Disk_cut []) {f : Addr} {cdv : Value} {A : Around} {outer : List Env} {s : Shared} {H : Hp} {E : XK} (hr : Room 1 (A.deeper (envOfC "Disk._spend" (defScope s_Disk_spend) s.heap.objs.size f cdv))) :
    PSs (cxOf (L2.CX P w) P w K mg base N_Disk_spend "Disk._spend" (defScope s_Disk_spend) f cdv A outer s H E) (defBody s_Disk_spend) (t_Disk_spend K sp_Disk_cut E) := by
  unfold t_Disk_spend
  exact
    (pss_cons (ps_if (pt_cmpR o_is (pe_fld (pv 0) (by rfl)) pe_non (nomark _)) (pss_one ps_retN) pss_nil)
    (pss_cons (ps_if (pt_cmpR (o_eq hr.units) (pe_fld (pv 0) (by rfl)) pe_int (nomark _)) (pss_cons (ps_expr (C8.pe_mt c_Disk_cut hr (by decide) (pv 0) (pa_cons (pe_fld (pv 0) (by rfl)) pa_nil)))
    (pss_one (ps_rB g.x_PowerCut rfl (takes_of rfl rfl rfl rfl) rfl))) pss_nil)
    (pss_one (ps_fld (pv 0) (pe_op o_minus (pe_fld (pv 0) (by rfl)) pe_int) (by rfl)))))
theorem ok_Disk_spend (g : G K mg) {sp_Disk_cut : Sp} (c_Disk_cut : C8.Met P w K mg base 1 (He.ga K "Disk") "_cut" sp_Disk_cut []) {sp : Sp} (F : ∃ fd, FunD K "_spend" "Disk._spend" (defArgs s_Disk_spend) (defBody s_Disk_spend) (defScope s_Disk_spend) [] [] (He.ma K (He.ga K "Disk") "_spend") fd)
    (hsp : ∀ vs H Q E, sp vs H Q E → vs.length = 1 ∧ t_Disk_spend K sp_Disk_cut E { nx := fun _ H' => Q .non H', rt := Q } (start N_Disk_spend vs) H) : MetX P w K mg base 2 (He.ga K "Disk") "_spend" sp := by
  obtain ⟨fd, F⟩ := F
  exact ⟨_, fd, ["self"], g.cls_Disk, g.me_Disk_spend, FunD.ok F sc_Disk_spend (fun vs H Q E h => (hsp vs H Q E h).1) (fun cdv A outer s H vs Q E hr h => ⟨_, d_Disk_spend g c_Disk_cut hr, (hsp vs H Q E h).2⟩), (F.bindsN fun _ _ _ _ _ _ us hl => match us, hl with | [_], _ => rfl)⟩
abbrev s_Disk_write : Stmt := mth 12 6
abbrev N_Disk_write : List Str := ["self", "at", "block"]
theorem sc_Disk_write : FnScope N_Disk_write ["self", "at", "block"] (defScope s_Disk_write) := ⟨rfl, rfl, rfl, by decide +kernel, rfl, by decide +kernel, by decide +kernel⟩
def t_Disk_write (K : PySem.W.Frag) (sp_Disk_spend : Sp) (sp_is_block : Sp) (sp_Disk_check_at : Sp) (E : XK) : TS :=
    (tSeq (tDrop (tMethS (He.ga K "Disk") "_check_at" sp_Disk_check_at (WE (fun cls d _ H => E cls d H)) (tVar 0) (tCons (tVar 1) tNil)))
    (tSeq (tIfS (tNot (tTruX K (tCall sp_is_block [] C8.E0 (tCons (tVar 2) tNil)))) (tRaiseO (He.ga K "OutOfRange") (spExI K (He.ga K "OutOfRange") "name") (fun cls d _ H => E cls d H) (tCons (tC (.str "block")) tNil)) tNext)
    (tSeq (tDrop (tMethS (He.ga K "Disk") "_spend" sp_Disk_spend (WE (fun cls d _ H => E cls d H)) (tVar 0) tNil))
    (tDrop (tBM K "list" rAppend (tFld K (tVar 0) "_pending") (tCons (tTup (tCons (tVar 1) (tCons (tCB (rListOf K) (tCons (tVar 2) tNil)) tNil))) tNil))))))
theorem d_Disk_write (g : G K mg) {sp_Disk_spend : Sp} (c_Disk_spend : MetX P w K mg base 2 (He.ga K "Disk") "_spend" sp_Disk_spend) {sp_is_block : Sp} (c_is_block : C8.Cal P w K mg base 1 "_is_block" sp_is_block []) (c_OutOfRange : Oex P w K mg base 1 "OutOfRange" (He.ga K "OutOfRange") "name") {sp_Disk_check_at : Sp} (c_Disk_check_at : MetX P w K mg base 3 (He.ga K "Disk") "_check_at" sp_Disk_check_at) {f : Addr} {cdv : Value} {A : Around} {outer : List Env} {s : Shared} {H : Hp} {E : XK} (hr : Room 3 (A.deeper (envOfC "Disk.write" (defScope s_Disk_write) s.heap.objs.size f cdv))) :
    PSs (cxOf (L2.CX P w) P w K mg base N_Disk_write "Disk.write" (defScope s_Disk_write) f cdv A outer s H E) (defBody s_Disk_write) (t_Disk_write K sp_Disk_spend sp_is_block sp_Disk_check_at E) := by
  unfold t_Disk_write
  exact
    (pss_cons (ps_expr (pe_mX c_Disk_check_at hr (by decide) (takes_of rfl rfl rfl rfl) (pv 0) (pa_cons (pv 1) pa_nil)))
    (pss_cons (ps_if (pt_not (pt_tru (C8.pe_c c_is_block hr (by decide) rfl (pa_cons (pv 2) pa_nil)))) (pss_one (ps_rO c_OutOfRange rfl hr (by decide) (takes_of rfl rfl rfl rfl) rfl (pa_cons pe_str pa_nil))) pss_nil)
    (pss_cons (ps_expr (pe_mX0 c_Disk_spend hr (by decide) (takes_of rfl rfl rfl rfl) (pv 0)))
    (pss_one (ps_expr (pe_bm PySem.F.plainAttrs_list PySem.F.slot_list_append PySem.F.type_list_append mt_append (pe_fld (pv 0) (by rfl)) (pa_cons (pe_tup (pa_cons (pv 1) (pa_cons (pe_callTy c_list (by rfl) g.b_list (by decide +kernel) (pa_cons (pv 2) pa_nil)) pa_nil))) pa_nil)))))))
theorem ok_Disk_write (g : G K mg) {sp_Disk_spend : Sp} (c_Disk_spend : MetX P w K mg base 2 (He.ga K "Disk") "_spend" sp_Disk_spend) {sp_is_block : Sp} (c_is_block : C8.Cal P w K mg base 1 "_is_block" sp_is_block []) (c_OutOfRange : Oex P w K mg base 1 "OutOfRange" (He.ga K "OutOfRange") "name") {sp_Disk_check_at : Sp} (c_Disk_check_at : MetX P w K mg base 3 (He.ga K "Disk") "_check_at" sp_Disk_check_at) {sp : Sp} (F : ∃ fd, FunD K "write" "Disk.write" (defArgs s_Disk_write) (defBody s_Disk_write) (defScope s_Disk_write) [] [] (He.ma K (He.ga K "Disk") "write") fd)
    (hsp : ∀ vs H Q E, sp vs H Q E → vs.length = 3 ∧ t_Disk_write K sp_Disk_spend sp_is_block sp_Disk_check_at E { nx := fun _ H' => Q .non H', rt := Q } (start N_Disk_write vs) H) : MetX P w K mg base 4 (He.ga K "Disk") "write" sp := by
  obtain ⟨fd, F⟩ := F
  exact ⟨_, fd, ["self", "at", "block"], g.cls_Disk, g.me_Disk_write, FunD.ok F sc_Disk_write (fun vs H Q E h => (hsp vs H Q E h).1) (fun cdv A outer s H vs Q E hr h => ⟨_, d_Disk_write g c_Disk_spend c_is_block c_OutOfRange c_Disk_check_at hr, (hsp vs H Q E h).2⟩), (F.bindsN fun _ _ _ _ _ _ us hl => match us, hl with | [_, _, _], _ => rfl)⟩
abbrev s_Disk_flush : Stmt := mth 12 7
abbrev N_Disk_flush : List Str := ["self", "at", "block"]
theorem sc_Disk_flush : FnScope N_Disk_flush ["self"] (defScope s_Disk_flush) := ⟨rfl, rfl, rfl, by decide +kernel, rfl, by decide +kernel, by decide +kernel⟩
def t_Disk_flush (K : PySem.W.Frag) (sp_Disk_spend : Sp) (E : XK) : TS :=
    (tSeq (tDrop (tMethS (He.ga K "Disk") "_spend" sp_Disk_spend (WE (fun cls d _ H => E cls d H)) (tVar 0) tNil))
    (tSeq (tFor (iAny K (tFld K (tVar 0) "_pending")) (gUnp K 2 (gCons (gName 1) (gCons (gName 2) gNil))) (tAsg (tVar 2) (gSub (tFld K (tVar 0) "_blocks") (tVar 1) rSetL)))
    (sFld K (tVar 0) (tLst tNil) "_pending")))
theorem d_Disk_flush (g : G K mg) {sp_Disk_spend : Sp} (c_Disk_spend : MetX P w K mg base 2 (He.ga K "Disk") "_spend" sp_Disk_spend) {f : Addr} {cdv : Value} {A : Around} {outer : List Env} {s : Shared} {H : Hp} {E : XK} (hr : Room 2 (A.deeper (envOfC "Disk.flush" (defScope s_Disk_flush) s.heap.objs.size f cdv))) :
    PSs (cxOf (L2.CX P w) P w K mg base N_Disk_flush "Disk.flush" (defScope s_Disk_flush) f cdv A outer s H E) (defBody s_Disk_flush) (t_Disk_flush K sp_Disk_spend E) := by
  unfold t_Disk_flush
  exact
    (pss_cons (ps_expr (pe_mX0 c_Disk_spend hr (by decide) (takes_of rfl rfl rfl rfl) (pv 0)))
    (pss_cons (ps_for (passes_of rfl) rfl (pi_any (pe_fld (pv 0) (by rfl))) (pg_unp rfl (pgs_cons (pg_name (i := 1) sc_Disk_flush.nd rfl (by first | exact Or.inl rfl | exact Or.inr rfl)) (pgs_cons (pg_name (i := 2) sc_Disk_flush.nd rfl (by first | exact Or.inl rfl | exact Or.inr rfl)) pgs_nil))) (pss_one (ps_asg (pv 2) (pg_sub (pe_fld (pv 0) (by rfl)) (pv 1) set_list))))
    (pss_one (ps_fld (pv 0) (pe_lst pa_nil) (by rfl)))))
theorem ok_Disk_flush (g : G K mg) {sp_Disk_spend : Sp} (c_Disk_spend : MetX P w K mg base 2 (He.ga K "Disk") "_spend" sp_Disk_spend) {sp : Sp} (F : ∃ fd, FunD K "flush" "Disk.flush" (defArgs s_Disk_flush) (defBody s_Disk_flush) (defScope s_Disk_flush) [] [] (He.ma K (He.ga K "Disk") "flush") fd)
    (hsp : ∀ vs H Q E, sp vs H Q E → vs.length = 1 ∧ t_Disk_flush K sp_Disk_spend E { nx := fun _ H' => Q .non H', rt := Q } (start N_Disk_flush vs) H) : MetX P w K mg base 3 (He.ga K "Disk") "flush" sp := by
  obtain ⟨fd, F⟩ := F
  exact ⟨_, fd, ["self"], g.cls_Disk, g.me_Disk_flush, FunD.ok F sc_Disk_flush (fun vs H Q E h => (hsp vs H Q E h).1) (fun cdv A outer s H vs Q E hr h => ⟨_, d_Disk_flush g c_Disk_spend hr, (hsp vs H Q E h).2⟩), (F.bindsN fun _ _ _ _ _ _ us hl => match us, hl with | [_], _ => rfl)⟩
abbrev s_Disk_pending_count : Stmt := mth 12 8
abbrev N_Disk_pending_count : List Str := ["self"]
theorem sc_Disk_pending_count : FnScope N_Disk_pending_count ["self"] (defScope s_Disk_pending_count) := ⟨rfl, rfl, rfl, by decide +kernel, rfl, by decide +kernel, by decide +kernel⟩
def t_Disk_pending_count (K : PySem.W.Frag) : TS :=
    (tRet (tCB (rLenX K) (tCons (tFld K (tVar 0) "_pending") tNil)))
theorem d_Disk_pending_count (g : G K mg) {f : Addr} {cdv : Value} {A : Around} {outer : List Env} {s : Shared} {H : Hp} {E : XK} (hr : Room 0 (A.deeper (envOfC "Disk.pending_count" (defScope s_Disk_pending_count) s.heap.objs.size f cdv))) :
    PSs (cxOf CX0 P w K mg base N_Disk_pending_count "Disk.pending_count" (defScope s_Disk_pending_count) f cdv A outer s H E).nox (defBody s_Disk_pending_count) (t_Disk_pending_count K) := by
  unfold t_Disk_pending_count
  exact
    (pss_one (ps_ret (pe_callB c_len (by rfl) g.b_len (by decide +kernel) (pa_cons (pe_fld (pv 0) (by rfl)) pa_nil))))
theorem ok_Disk_pending_count (g : G K mg) {sp : Sp} (F : ∃ fd, FunD K "pending_count" "Disk.pending_count" (defArgs s_Disk_pending_count) (defBody s_Disk_pending_count) (defScope s_Disk_pending_count) [] [] (He.ma K (He.ga K "Disk") "pending_count") fd)
    (hsp : ∀ vs H Q E, sp vs H Q E → vs.length = 1 ∧ t_Disk_pending_count K { nx := fun _ H' => Q .non H', rt := Q } (start N_Disk_pending_count vs) H) : C8.Met P w K mg base 1 (He.ga K "Disk") "pending_count" sp [] := by
  obtain ⟨fd, F⟩ := F
  exact ⟨_, fd, ["self"], [], g.cls_Disk, g.me_Disk_pending_count, FunD.ok F sc_Disk_pending_count (fun vs H Q E h => (hsp vs H Q E h).1) (fun cdv A outer s H vs Q E hr h => ⟨_, PSs.nox (d_Disk_pending_count g hr), (hsp vs H Q E h).2⟩), (F.bindsN fun _ _ _ _ _ _ us hl => match us, hl with | [_], _ => rfl), .nil⟩
abbrev s_Disk_cut_count : Stmt := mth 12 9
abbrev N_Disk_cut_count : List Str := ["self"]
theorem sc_Disk_cut_count : FnScope N_Disk_cut_count ["self"] (defScope s_Disk_cut_count) := ⟨rfl, rfl, rfl, by decide +kernel, rfl, by decide +kernel, by decide +kernel⟩
def t_Disk_cut_count (K : PySem.W.Frag) : TS :=
    (tRet (tFld K (tVar 0) "_cuts"))
theorem d_Disk_cut_count (g : G K mg) {f : Addr} {cdv : Value} {A : Around} {outer : List Env} {s : Shared} {H : Hp} {E : XK} (hr : Room 0 (A.deeper (envOfC "Disk.cut_count" (defScope s_Disk_cut_count) s.heap.objs.size f cdv))) :
    PSs (cxOf CX0 P w K mg base N_Disk_cut_count "Disk.cut_count" (defScope s_Disk_cut_count) f cdv A outer s H E).nox (defBody s_Disk_cut_count) (t_Disk_cut_count K) := by
  unfold t_Disk_cut_count
  exact
    (pss_one (ps_ret (pe_fld (pv 0) (by rfl))))
theorem ok_Disk_cut_count (g : G K mg) {sp : Sp} (F : ∃ fd, FunD K "cut_count" "Disk.cut_count" (defArgs s_Disk_cut_count) (defBody s_Disk_cut_count) (defScope s_Disk_cut_count) [] [] (He.ma K (He.ga K "Disk") "cut_count") fd)
    (hsp : ∀ vs H Q E, sp vs H Q E → vs.length = 1 ∧ t_Disk_cut_count K { nx := fun _ H' => Q .non H', rt := Q } (start N_Disk_cut_count vs) H) : C8.Met P w K mg base 1 (He.ga K "Disk") "cut_count" sp [] := by
  obtain ⟨fd, F⟩ := F
  exact ⟨_, fd, ["self"], [], g.cls_Disk, g.me_Disk_cut_count, FunD.ok F sc_Disk_cut_count (fun vs H Q E h => (hsp vs H Q E h).1) (fun cdv A outer s H vs Q E hr h => ⟨_, PSs.nox (d_Disk_cut_count g hr), (hsp vs H Q E h).2⟩), (F.bindsN fun _ _ _ _ _ _ us hl => match us, hl with | [_], _ => rfl), .nil⟩
abbrev s_Disk_cut_power : Stmt := mth 12 10
abbrev N_Disk_cut_power : List Str := ["self", "torn"]
theorem sc_Disk_cut_power : FnScope N_Disk_cut_power ["self", "torn"] (defScope s_Disk_cut_power) := ⟨rfl, rfl, rfl, by decide +kernel, rfl, by decide +kernel, by decide +kernel⟩
def t_Disk_cut_power (K : PySem.W.Frag) (sp_Disk_cut : Sp) (sp_check_torn : Sp) (E : XK) : TS :=
    (tSeq (tDrop (tCallS sp_check_torn (WE (fun cls d _ H => E cls d H)) (tCons (tVar 1) tNil)))
    (tDrop (tMeth (He.ga K "Disk") "_cut" sp_Disk_cut [] C8.E0 (tVar 0) (tCons (tCB (rListOf K) (tCons (tVar 1) tNil)) tNil))))
theorem d_Disk_cut_power (g : G K mg) {sp_Disk_cut : Sp} (c_Disk_cut : C8.Met P w K mg base 1 (He.ga K "Disk") "_cut" sp_Disk_cut []) {sp_check_torn : Sp} (c_check_torn : CalX P w K mg base 3 "_check_torn" sp_check_torn) {f : Addr} {cdv : Value} {A : Around} {outer : List Env} {s : Shared} {H : Hp} {E : XK} (hr : Room 3 (A.deeper (envOfC "Disk.cut_power" (defScope s_Disk_cut_power) s.heap.objs.size f cdv))) :
    PSs (cxOf (L2.CX P w) P w K mg base N_Disk_cut_power "Disk.cut_power" (defScope s_Disk_cut_power) f cdv A outer s H E) (defBody s_Disk_cut_power) (t_Disk_cut_power K sp_Disk_cut sp_check_torn E) := by
  unfold t_Disk_cut_power
  exact
    (pss_cons (ps_expr (pe_cX c_check_torn hr (by decide) (takes_of rfl rfl rfl rfl) rfl (pa_cons (pv 1) pa_nil)))
    (pss_one (ps_expr (C8.pe_mt c_Disk_cut hr (by decide) (pv 0) (pa_cons (pe_callTy c_list (by rfl) g.b_list (by decide +kernel) (pa_cons (pv 1) pa_nil)) pa_nil)))))
theorem ok_Disk_cut_power (g : G K mg) {sp_Disk_cut : Sp} (c_Disk_cut : C8.Met P w K mg base 1 (He.ga K "Disk") "_cut" sp_Disk_cut []) {sp_check_torn : Sp} (c_check_torn : CalX P w K mg base 3 "_check_torn" sp_check_torn) {sp : Sp} (F : ∃ fd, FunD K "cut_power" "Disk.cut_power" (defArgs s_Disk_cut_power) (defBody s_Disk_cut_power) (defScope s_Disk_cut_power) [] [] (He.ma K (He.ga K "Disk") "cut_power") fd)
    (hsp : ∀ vs H Q E, sp vs H Q E → vs.length = 2 ∧ t_Disk_cut_power K sp_Disk_cut sp_check_torn E { nx := fun _ H' => Q .non H', rt := Q } (start N_Disk_cut_power vs) H) : MetX P w K mg base 4 (He.ga K "Disk") "cut_power" sp := by
  obtain ⟨fd, F⟩ := F
  exact ⟨_, fd, ["self", "torn"], g.cls_Disk, g.me_Disk_cut_power, FunD.ok F sc_Disk_cut_power (fun vs H Q E h => (hsp vs H Q E h).1) (fun cdv A outer s H vs Q E hr h => ⟨_, d_Disk_cut_power g c_Disk_cut c_check_torn hr, (hsp vs H Q E h).2⟩), (F.bindsN fun _ _ _ _ _ _ us hl => match us, hl with | [_, _], _ => rfl)⟩
abbrev s_Disk_schedule_cut : Stmt := mth 12 11
abbrev N_Disk_schedule_cut : List Str := ["self", "many", "torn"]
theorem sc_Disk_schedule_cut : FnScope N_Disk_schedule_cut ["self", "many", "torn"] (defScope s_Disk_schedule_cut) := ⟨rfl, rfl, rfl, by decide +kernel, rfl, by decide +kernel, by decide +kernel⟩
def t_Disk_schedule_cut (K : PySem.W.Frag) (sp_check_torn : Sp) (E : XK) : TS :=
    (tSeq (tIfS (tNot (tTest (tChain rLe rLe (tC (.int 0)) (tVar 1) (tC (.int 100000))))) (tRaiseO (He.ga K "OutOfRange") (spExI K (He.ga K "OutOfRange") "name") (fun cls d _ H => E cls d H) (tCons (tC (.str "many")) tNil)) tNext)
    (tSeq (tDrop (tCallS sp_check_torn (WE (fun cls d _ H => E cls d H)) (tCons (tVar 2) tNil)))
    (tSeq (sFld K (tVar 0) (tVar 1) "_left")
    (sFld K (tVar 0) (tCB (rListOf K) (tCons (tVar 2) tNil)) "_torn"))))
theorem d_Disk_schedule_cut (g : G K mg) {sp_check_torn : Sp} (c_check_torn : CalX P w K mg base 3 "_check_torn" sp_check_torn) (c_OutOfRange : Oex P w K mg base 1 "OutOfRange" (He.ga K "OutOfRange") "name") {f : Addr} {cdv : Value} {A : Around} {outer : List Env} {s : Shared} {H : Hp} {E : XK} (hr : Room 3 (A.deeper (envOfC "Disk.schedule_cut" (defScope s_Disk_schedule_cut) s.heap.objs.size f cdv))) :
    PSs (cxOf (L2.CX P w) P w K mg base N_Disk_schedule_cut "Disk.schedule_cut" (defScope s_Disk_schedule_cut) f cdv A outer s H E) (defBody s_Disk_schedule_cut) (t_Disk_schedule_cut K sp_check_torn E) := by
  unfold t_Disk_schedule_cut
  exact
    (pss_cons (ps_if (pt_not (pt_chain o_le o_le pe_int (pv 1) (C8.pe_gc rfl g.c_COUNT_MOST))) (pss_one (ps_rO c_OutOfRange rfl hr (by decide) (takes_of rfl rfl rfl rfl) rfl (pa_cons pe_str pa_nil))) pss_nil)
    (pss_cons (ps_expr (pe_cX c_check_torn hr (by decide) (takes_of rfl rfl rfl rfl) rfl (pa_cons (pv 2) pa_nil)))
    (pss_cons (ps_fld (pv 0) (pv 1) (by rfl))
    (pss_one (ps_fld (pv 0) (pe_callTy c_list (by rfl) g.b_list (by decide +kernel) (pa_cons (pv 2) pa_nil)) (by rfl))))))
theorem ok_Disk_schedule_cut (g : G K mg) {sp_check_torn : Sp} (c_check_torn : CalX P w K mg base 3 "_check_torn" sp_check_torn) (c_OutOfRange : Oex P w K mg base 1 "OutOfRange" (He.ga K "OutOfRange") "name") {sp : Sp} (F : ∃ fd, FunD K "schedule_cut" "Disk.schedule_cut" (defArgs s_Disk_schedule_cut) (defBody s_Disk_schedule_cut) (defScope s_Disk_schedule_cut) [] [] (He.ma K (He.ga K "Disk") "schedule_cut") fd)
    (hsp : ∀ vs H Q E, sp vs H Q E → vs.length = 3 ∧ t_Disk_schedule_cut K sp_check_torn E { nx := fun _ H' => Q .non H', rt := Q } (start N_Disk_schedule_cut vs) H) : MetX P w K mg base 4 (He.ga K "Disk") "schedule_cut" sp := by
  obtain ⟨fd, F⟩ := F
  exact ⟨_, fd, ["self", "many", "torn"], g.cls_Disk, g.me_Disk_schedule_cut, FunD.ok F sc_Disk_schedule_cut (fun vs H Q E h => (hsp vs H Q E h).1) (fun cdv A outer s H vs Q E hr h => ⟨_, d_Disk_schedule_cut g c_check_torn c_OutOfRange hr, (hsp vs H Q E h).2⟩), (F.bindsN fun _ _ _ _ _ _ us hl => match us, hl with | [_, _, _], _ => rfl)⟩
abbrev s_OutOfRange : Stmt := mth 3 0
abbrev N_OutOfRange : List Str := ["self", "name"]
theorem sc_OutOfRange : FnScope N_OutOfRange N_OutOfRange (defScope s_OutOfRange) := ⟨rfl, rfl, rfl, by decide +kernel, rfl, by decide +kernel, by decide +kernel⟩
theorem ok_OutOfRange (g : G K mg) (cf : CF K) (F : ∃ fd, FunD K "__init__" "OutOfRange.__init__" (defArgs s_OutOfRange) (defBody s_OutOfRange) (defScope s_OutOfRange) [] [] (He.ma K (He.ga K "OutOfRange") "__init__") fd) : Oex P w K mg base 1 "OutOfRange" (He.ga K "OutOfRange") "name" := by
  obtain ⟨fd, F⟩ := F
  refine ⟨cf.ox_OutOfRange, cf.xn_OutOfRange, _, fd, N_OutOfRange, g.mi_OutOfRange.at_, beq_iff_eq.mp g.mi_OutOfRange.fn, FunD.ok F sc_OutOfRange (fun vs H Q E h => ?_) (fun cdv A outer s H vs Q E hr h => ?_), g.k_OutOfRange, F.bindsN fun _ _ _ _ _ _ us hl => match us, hl with | [_, _], _ => rfl⟩
  · obtain ⟨L, a, v, rfl, r⟩ := h
    rfl
  · obtain ⟨L, a, v, rfl, r⟩ := h
    exact ⟨_, PSs.nox (pss_one (ps_ost (pv 0) (pv 1))), (p_exi (Q := Q) [.ref a, v] ⟨L, a, v, rfl, r⟩ (fun _ _ z => z)).2⟩
end
def hd_is_block : He.DefD := ⟨("_is_block", none), "_is_block", "_is_block", defArgs s_is_block, defBody s_is_block, defScope s_is_block, [], []⟩
def hd_check_torn : He.DefD := ⟨("_check_torn", none), "_check_torn", "_check_torn", defArgs s_check_torn, defBody s_check_torn, defScope s_check_torn, [], []⟩
def hd_l_cell : He.DefD := ⟨("_law_cell", none), "_law_cell", "_law_cell", defArgs s_l_cell, defBody s_l_cell, defScope s_l_cell, [], []⟩
def hd_l_digits : He.DefD := ⟨("_law_digits", none), "_law_digits", "_law_digits", defArgs s_l_digits, defBody s_l_digits, defScope s_l_digits, [], []⟩
def hd_l_draw : He.DefD := ⟨("_law_draw", none), "_law_draw", "_law_draw", defArgs s_l_draw, defBody s_l_draw, defScope s_l_draw, [], []⟩
def hd_l_torn : He.DefD := ⟨("_law_torn", none), "_law_torn", "_law_torn", defArgs s_l_torn, defBody s_l_torn, defScope s_l_torn, [], []⟩
def hd_l_schedule : He.DefD := ⟨("_law_schedule", none), "_law_schedule", "_law_schedule", defArgs s_l_schedule, defBody s_l_schedule, defScope s_l_schedule, [], []⟩
def hd_l_do_raw : He.DefD := ⟨("_law_do_raw", none), "_law_do_raw", "_law_do_raw", defArgs s_l_do_raw, defBody s_l_do_raw, defScope s_l_do_raw, [], []⟩
def hd_l_do : He.DefD := ⟨("_law_do", none), "_law_do", "_law_do", defArgs s_l_do, defBody s_l_do, defScope s_l_do, [], []⟩
def hd_law : He.DefD := ⟨("law", none), "law", "law", defArgs s_law, defBody s_law, defScope s_law, [], []⟩
def hd_Disk_init : He.DefD := ⟨("Disk", some "__init__"), "__init__", "Disk.__init__", defArgs s_Disk_init, defBody s_Disk_init, defScope s_Disk_init, [], []⟩
def hd_Disk_check_at : He.DefD := ⟨("Disk", some "_check_at"), "_check_at", "Disk._check_at", defArgs s_Disk_check_at, defBody s_Disk_check_at, defScope s_Disk_check_at, [], []⟩
def hd_Disk_read : He.DefD := ⟨("Disk", some "read"), "read", "Disk.read", defArgs s_Disk_read, defBody s_Disk_read, defScope s_Disk_read, [], []⟩
def hd_Disk_cut : He.DefD := ⟨("Disk", some "_cut"), "_cut", "Disk._cut", defArgs s_Disk_cut, defBody s_Disk_cut, defScope s_Disk_cut, [], []⟩
def hd_Disk_spend : He.DefD := ⟨("Disk", some "_spend"), "_spend", "Disk._spend", defArgs s_Disk_spend, defBody s_Disk_spend, defScope s_Disk_spend, [], []⟩
def hd_Disk_write : He.DefD := ⟨("Disk", some "write"), "write", "Disk.write", defArgs s_Disk_write, defBody s_Disk_write, defScope s_Disk_write, [], []⟩
def hd_Disk_flush : He.DefD := ⟨("Disk", some "flush"), "flush", "Disk.flush", defArgs s_Disk_flush, defBody s_Disk_flush, defScope s_Disk_flush, [], []⟩
def hd_Disk_pending_count : He.DefD := ⟨("Disk", some "pending_count"), "pending_count", "Disk.pending_count", defArgs s_Disk_pending_count, defBody s_Disk_pending_count, defScope s_Disk_pending_count, [], []⟩
def hd_Disk_cut_count : He.DefD := ⟨("Disk", some "cut_count"), "cut_count", "Disk.cut_count", defArgs s_Disk_cut_count, defBody s_Disk_cut_count, defScope s_Disk_cut_count, [], []⟩
def hd_Disk_cut_power : He.DefD := ⟨("Disk", some "cut_power"), "cut_power", "Disk.cut_power", defArgs s_Disk_cut_power, defBody s_Disk_cut_power, defScope s_Disk_cut_power, [], []⟩
def hd_Disk_schedule_cut : He.DefD := ⟨("Disk", some "schedule_cut"), "schedule_cut", "Disk.schedule_cut", defArgs s_Disk_schedule_cut, defBody s_Disk_schedule_cut, defScope s_Disk_schedule_cut, [], []⟩
def hd_OutOfRange : He.DefD := ⟨("OutOfRange", some "__init__"), "__init__", "OutOfRange.__init__", defArgs s_OutOfRange, defBody s_OutOfRange, defScope s_OutOfRange, [], []⟩
def hfn : List He.DefD := [hd_is_block, hd_check_torn, hd_l_cell, hd_l_digits, hd_l_draw, hd_l_torn, hd_l_schedule, hd_l_do_raw, hd_l_do, hd_law, hd_Disk_init, hd_Disk_check_at, hd_Disk_read, hd_Disk_cut, hd_Disk_spend, hd_Disk_write, hd_Disk_flush, hd_Disk_pending_count, hd_Disk_cut_count, hd_Disk_cut_power, hd_Disk_schedule_cut, hd_OutOfRange]
def hfa : List He.Fa := [.free "len", .int "BLOCK" 32, .glo "OutOfRange", .free "range", .free "int", .noat "OutOfRange" "name", .glo "PowerCut", .free "isinstance", .glo "ModuleError", .free "list", .free "min", .glo "Disk", .int "BLOCKS_LEAST" 8, .int "BLOCKS_MOST" 400, .free "enumerate", .exc "PowerCut", .int "COUNT_MOST" 100000, .cls "Disk", .mkr "Disk", .meth "Disk" "_check_at", .meth "Disk" "read", .meth "Disk" "_cut", .meth "Disk" "_spend", .meth "Disk" "write", .meth "Disk" "flush", .meth "Disk" "pending_count", .meth "Disk" "cut_count", .meth "Disk" "cut_power", .meth "Disk" "schedule_cut", .noat "Disk" "_torn", .noat "Disk" "_left", .noat "Disk" "_cuts", .noat "Disk" "_pending", .noat "Disk" "_blocks", .meth "OutOfRange" "__init__", .exm "OutOfRange" "OutOfRange" true, .exm "OutOfRange" "PowerCut" false, .exm "PowerCut" "OutOfRange" false, .exm "PowerCut" "PowerCut" true, .glo "_is_block", .glo "_check_torn", .glo "_law_cell", .glo "_law_digits", .glo "_law_draw", .glo "_law_torn", .glo "_law_schedule", .glo "_law_do_raw", .glo "_law_do", .glo "law"]
def tabl (K : PySem.W.Frag) : List Bool := [xfB K (He.ga K "OutOfRange"), excB K (He.ga K "PowerCut"), oexB K (He.ga K "OutOfRange"), decide (PySem.W.kitOne K (.ref (He.ga K "PowerCut")) (.ref (He.ga K "ModuleError")) = some true), decide (PySem.W.kitOne K (.ref (He.ga K "PowerCut")) (.ref (He.ga K "OutOfRange")) = some false)]
def tabs (K : PySem.W.Frag) : Bool := (tabl K).all id
theorem tab_at {K : PySem.W.Frag} (h : tabs K = true) (i : Nat) {b : Bool} (e : (tabl K)[i]? = some b) : b = true := List.all_eq_true.mp h b (List.mem_of_getElem? e)
abbrev R : PySem.W.OpenRow := PySem.W.OpenLaw.row PySem.Challenge.rw_sameasnew_k42_cut_on_schedule
theorem mk_G {K : PySem.W.Frag} {h : Heap} {mg : Str → Option Value} (X : K.In h) (N : h.Ns mainGlobals mg) (c : He.SaysD hfa hfn K) (cx : tabs K = true) : G K mg where
  b_len := He.free_ok X N (c.fact 0 (f := .free "len") rfl)
  c_BLOCK := (let ⟨t, h⟩ := He.int_ok X N (c.fact 1 (f := .int "BLOCK" 32) rfl); ⟨_, h, t, rfl⟩)
  k_OutOfRange := He.glo_ok X N (c.fact 2 (f := .glo "OutOfRange") rfl)
  b_range := He.free_ok X N (c.fact 3 (f := .free "range") rfl)
  b_int := He.free_ok X N (c.fact 4 (f := .free "int") rfl)
  xf_OutOfRange := (tab_at cx 0 rfl)
  xn_OutOfRange := He.noat_ok (c.fact 5 (f := .noat "OutOfRange" "name") rfl)
  k_PowerCut := He.glo_ok X N (c.fact 6 (f := .glo "PowerCut") rfl)
  isE_PowerCut := excB_ok (tab_at cx 1 rfl)
  b_isinstance := He.free_ok X N (c.fact 7 (f := .free "isinstance") rfl)
  c_ModuleError := ⟨_, He.glo_ok X N (c.fact 8 (f := .glo "ModuleError") rfl), rfl⟩
  c_OutOfRange := ⟨_, He.glo_ok X N (c.fact 2 (f := .glo "OutOfRange") rfl), rfl⟩
  b_list := He.free_ok X N (c.fact 9 (f := .free "list") rfl)
  b_min := He.free_ok X N (c.fact 10 (f := .free "min") rfl)
  k_Disk := He.glo_ok X N (c.fact 11 (f := .glo "Disk") rfl)
  c_BLOCKS_LEAST := (let ⟨t, h⟩ := He.int_ok X N (c.fact 12 (f := .int "BLOCKS_LEAST" 8) rfl); ⟨_, h, t, rfl⟩)
  c_BLOCKS_MOST := (let ⟨t, h⟩ := He.int_ok X N (c.fact 13 (f := .int "BLOCKS_MOST" 400) rfl); ⟨_, h, t, rfl⟩)
  b_enumerate := He.free_ok X N (c.fact 14 (f := .free "enumerate") rfl)
  x_PowerCut := (let ⟨h1, h2, h3, h4⟩ := He.exc_ok (c.fact 15 (f := .exc "PowerCut") rfl); ⟨h1, He.glo_ok X N (c.fact 6 (f := .glo "PowerCut") rfl), h2, h3, h4⟩)
  c_COUNT_MOST := (let ⟨t, h⟩ := He.int_ok X N (c.fact 16 (f := .int "COUNT_MOST" 100000) rfl); ⟨_, h, t, rfl⟩)
  cls_Disk := He.cls_ok (c.fact 17 (f := .cls "Disk") rfl)
  mkr_Disk := He.mkr_ok (c.fact 18 (f := .mkr "Disk") rfl)
  me_Disk_check_at := He.meth_ok (c.fact 19 (f := .meth "Disk" "_check_at") rfl)
  me_Disk_read := He.meth_ok (c.fact 20 (f := .meth "Disk" "read") rfl)
  me_Disk_cut := He.meth_ok (c.fact 21 (f := .meth "Disk" "_cut") rfl)
  me_Disk_spend := He.meth_ok (c.fact 22 (f := .meth "Disk" "_spend") rfl)
  me_Disk_write := He.meth_ok (c.fact 23 (f := .meth "Disk" "write") rfl)
  me_Disk_flush := He.meth_ok (c.fact 24 (f := .meth "Disk" "flush") rfl)
  me_Disk_pending_count := He.meth_ok (c.fact 25 (f := .meth "Disk" "pending_count") rfl)
  me_Disk_cut_count := He.meth_ok (c.fact 26 (f := .meth "Disk" "cut_count") rfl)
  me_Disk_cut_power := He.meth_ok (c.fact 27 (f := .meth "Disk" "cut_power") rfl)
  me_Disk_schedule_cut := He.meth_ok (c.fact 28 (f := .meth "Disk" "schedule_cut") rfl)
  mi_OutOfRange := He.meth_ok (c.fact 34 (f := .meth "OutOfRange" "__init__") rfl)
  dummy := trivial
theorem mk_CF {K : PySem.W.Frag} (c : He.SaysD hfa hfn K) (cx : tabs K = true) : CF K where
  cls_Disk := He.cls_ok (c.fact 17 (f := .cls "Disk") rfl)
  na_Disk_torn := He.noat_ok (c.fact 29 (f := .noat "Disk" "_torn") rfl)
  na_Disk_left := He.noat_ok (c.fact 30 (f := .noat "Disk" "_left") rfl)
  na_Disk_cuts := He.noat_ok (c.fact 31 (f := .noat "Disk" "_cuts") rfl)
  na_Disk_pending := He.noat_ok (c.fact 32 (f := .noat "Disk" "_pending") rfl)
  na_Disk_blocks := He.noat_ok (c.fact 33 (f := .noat "Disk" "_blocks") rfl)
  ox_OutOfRange := oexB_ok (tab_at cx 2 rfl)
  xn_OutOfRange := He.noat_ok (c.fact 5 (f := .noat "OutOfRange" "name") rfl)
  em_OutOfRange_OutOfRange := He.exm_ok (c.fact 35 (f := .exm "OutOfRange" "OutOfRange" true) rfl)
  em_OutOfRange_PowerCut := He.exm_ok (c.fact 36 (f := .exm "OutOfRange" "PowerCut" false) rfl)
  em_PowerCut_OutOfRange := He.exm_ok (c.fact 37 (f := .exm "PowerCut" "OutOfRange" false) rfl)
  em_PowerCut_PowerCut := He.exm_ok (c.fact 38 (f := .exm "PowerCut" "PowerCut" true) rfl)
  kit_PowerCut_ModuleError := of_decide_eq_true (tab_at cx 3 rfl)
  kit_PowerCut_OutOfRange := of_decide_eq_true (tab_at cx 4 rfl)
  dummy := trivial
theorem fd_is_block {K : PySem.W.Frag} (c : He.SaysD hfa hfn K) : ∃ fd, FunD K "_is_block" "_is_block" (defArgs s_is_block) (defBody s_is_block) (defScope s_is_block) [] [] (He.ga K "_is_block") fd := c.def_ 0 (d := hd_is_block) rfl
theorem fd_check_torn {K : PySem.W.Frag} (c : He.SaysD hfa hfn K) : ∃ fd, FunD K "_check_torn" "_check_torn" (defArgs s_check_torn) (defBody s_check_torn) (defScope s_check_torn) [] [] (He.ga K "_check_torn") fd := c.def_ 1 (d := hd_check_torn) rfl
theorem fd_l_cell {K : PySem.W.Frag} (c : He.SaysD hfa hfn K) : ∃ fd, FunD K "_law_cell" "_law_cell" (defArgs s_l_cell) (defBody s_l_cell) (defScope s_l_cell) [] [] (He.ga K "_law_cell") fd := c.def_ 2 (d := hd_l_cell) rfl
theorem fd_l_digits {K : PySem.W.Frag} (c : He.SaysD hfa hfn K) : ∃ fd, FunD K "_law_digits" "_law_digits" (defArgs s_l_digits) (defBody s_l_digits) (defScope s_l_digits) [] [] (He.ga K "_law_digits") fd := c.def_ 3 (d := hd_l_digits) rfl
theorem fd_l_draw {K : PySem.W.Frag} (c : He.SaysD hfa hfn K) : ∃ fd, FunD K "_law_draw" "_law_draw" (defArgs s_l_draw) (defBody s_l_draw) (defScope s_l_draw) [] [] (He.ga K "_law_draw") fd := c.def_ 4 (d := hd_l_draw) rfl
theorem fd_l_torn {K : PySem.W.Frag} (c : He.SaysD hfa hfn K) : ∃ fd, FunD K "_law_torn" "_law_torn" (defArgs s_l_torn) (defBody s_l_torn) (defScope s_l_torn) [] [] (He.ga K "_law_torn") fd := c.def_ 5 (d := hd_l_torn) rfl
theorem fd_l_schedule {K : PySem.W.Frag} (c : He.SaysD hfa hfn K) : ∃ fd, FunD K "_law_schedule" "_law_schedule" (defArgs s_l_schedule) (defBody s_l_schedule) (defScope s_l_schedule) [] [] (He.ga K "_law_schedule") fd := c.def_ 6 (d := hd_l_schedule) rfl
theorem fd_l_do_raw {K : PySem.W.Frag} (c : He.SaysD hfa hfn K) : ∃ fd, FunD K "_law_do_raw" "_law_do_raw" (defArgs s_l_do_raw) (defBody s_l_do_raw) (defScope s_l_do_raw) [] [] (He.ga K "_law_do_raw") fd := c.def_ 7 (d := hd_l_do_raw) rfl
theorem fd_l_do {K : PySem.W.Frag} (c : He.SaysD hfa hfn K) : ∃ fd, FunD K "_law_do" "_law_do" (defArgs s_l_do) (defBody s_l_do) (defScope s_l_do) [] [] (He.ga K "_law_do") fd := c.def_ 8 (d := hd_l_do) rfl
theorem fd_law {K : PySem.W.Frag} (c : He.SaysD hfa hfn K) : ∃ fd, FunD K "law" "law" (defArgs s_law) (defBody s_law) (defScope s_law) [] [] (He.ga K "law") fd := c.def_ 9 (d := hd_law) rfl
theorem fd_Disk_init {K : PySem.W.Frag} (c : He.SaysD hfa hfn K) : ∃ fd, FunD K "__init__" "Disk.__init__" (defArgs s_Disk_init) (defBody s_Disk_init) (defScope s_Disk_init) [] [] (He.ma K (He.ga K "Disk") "__init__") fd := c.def_ 10 (d := hd_Disk_init) rfl
theorem fd_Disk_check_at {K : PySem.W.Frag} (c : He.SaysD hfa hfn K) : ∃ fd, FunD K "_check_at" "Disk._check_at" (defArgs s_Disk_check_at) (defBody s_Disk_check_at) (defScope s_Disk_check_at) [] [] (He.ma K (He.ga K "Disk") "_check_at") fd := c.def_ 11 (d := hd_Disk_check_at) rfl
theorem fd_Disk_read {K : PySem.W.Frag} (c : He.SaysD hfa hfn K) : ∃ fd, FunD K "read" "Disk.read" (defArgs s_Disk_read) (defBody s_Disk_read) (defScope s_Disk_read) [] [] (He.ma K (He.ga K "Disk") "read") fd := c.def_ 12 (d := hd_Disk_read) rfl
theorem fd_Disk_cut {K : PySem.W.Frag} (c : He.SaysD hfa hfn K) : ∃ fd, FunD K "_cut" "Disk._cut" (defArgs s_Disk_cut) (defBody s_Disk_cut) (defScope s_Disk_cut) [] [] (He.ma K (He.ga K "Disk") "_cut") fd := c.def_ 13 (d := hd_Disk_cut) rfl
theorem fd_Disk_spend {K : PySem.W.Frag} (c : He.SaysD hfa hfn K) : ∃ fd, FunD K "_spend" "Disk._spend" (defArgs s_Disk_spend) (defBody s_Disk_spend) (defScope s_Disk_spend) [] [] (He.ma K (He.ga K "Disk") "_spend") fd := c.def_ 14 (d := hd_Disk_spend) rfl
theorem fd_Disk_write {K : PySem.W.Frag} (c : He.SaysD hfa hfn K) : ∃ fd, FunD K "write" "Disk.write" (defArgs s_Disk_write) (defBody s_Disk_write) (defScope s_Disk_write) [] [] (He.ma K (He.ga K "Disk") "write") fd := c.def_ 15 (d := hd_Disk_write) rfl
theorem fd_Disk_flush {K : PySem.W.Frag} (c : He.SaysD hfa hfn K) : ∃ fd, FunD K "flush" "Disk.flush" (defArgs s_Disk_flush) (defBody s_Disk_flush) (defScope s_Disk_flush) [] [] (He.ma K (He.ga K "Disk") "flush") fd := c.def_ 16 (d := hd_Disk_flush) rfl
theorem fd_Disk_pending_count {K : PySem.W.Frag} (c : He.SaysD hfa hfn K) : ∃ fd, FunD K "pending_count" "Disk.pending_count" (defArgs s_Disk_pending_count) (defBody s_Disk_pending_count) (defScope s_Disk_pending_count) [] [] (He.ma K (He.ga K "Disk") "pending_count") fd := c.def_ 17 (d := hd_Disk_pending_count) rfl
theorem fd_Disk_cut_count {K : PySem.W.Frag} (c : He.SaysD hfa hfn K) : ∃ fd, FunD K "cut_count" "Disk.cut_count" (defArgs s_Disk_cut_count) (defBody s_Disk_cut_count) (defScope s_Disk_cut_count) [] [] (He.ma K (He.ga K "Disk") "cut_count") fd := c.def_ 18 (d := hd_Disk_cut_count) rfl
theorem fd_Disk_cut_power {K : PySem.W.Frag} (c : He.SaysD hfa hfn K) : ∃ fd, FunD K "cut_power" "Disk.cut_power" (defArgs s_Disk_cut_power) (defBody s_Disk_cut_power) (defScope s_Disk_cut_power) [] [] (He.ma K (He.ga K "Disk") "cut_power") fd := c.def_ 19 (d := hd_Disk_cut_power) rfl
theorem fd_Disk_schedule_cut {K : PySem.W.Frag} (c : He.SaysD hfa hfn K) : ∃ fd, FunD K "schedule_cut" "Disk.schedule_cut" (defArgs s_Disk_schedule_cut) (defBody s_Disk_schedule_cut) (defScope s_Disk_schedule_cut) [] [] (He.ma K (He.ga K "Disk") "schedule_cut") fd := c.def_ 20 (d := hd_Disk_schedule_cut) rfl
theorem fd_OutOfRange {K : PySem.W.Frag} (c : He.SaysD hfa hfn K) : ∃ fd, FunD K "__init__" "OutOfRange.__init__" (defArgs s_OutOfRange) (defBody s_OutOfRange) (defScope s_OutOfRange) [] [] (He.ma K (He.ga K "OutOfRange") "__init__") fd := c.def_ 21 (d := hd_OutOfRange) rfl
theorem mg_is_block {K : PySem.W.Frag} {h : Heap} {mg : Str → Option Value} (X : K.In h) (N : h.Ns mainGlobals mg) (c : He.SaysD hfa hfn K) : mg "_is_block" = some (.ref (He.ga K "_is_block")) := He.glo_ok X N (c.fact 39 (f := .glo "_is_block") rfl)
theorem mg_check_torn {K : PySem.W.Frag} {h : Heap} {mg : Str → Option Value} (X : K.In h) (N : h.Ns mainGlobals mg) (c : He.SaysD hfa hfn K) : mg "_check_torn" = some (.ref (He.ga K "_check_torn")) := He.glo_ok X N (c.fact 40 (f := .glo "_check_torn") rfl)
theorem mg_l_cell {K : PySem.W.Frag} {h : Heap} {mg : Str → Option Value} (X : K.In h) (N : h.Ns mainGlobals mg) (c : He.SaysD hfa hfn K) : mg "_law_cell" = some (.ref (He.ga K "_law_cell")) := He.glo_ok X N (c.fact 41 (f := .glo "_law_cell") rfl)
theorem mg_l_digits {K : PySem.W.Frag} {h : Heap} {mg : Str → Option Value} (X : K.In h) (N : h.Ns mainGlobals mg) (c : He.SaysD hfa hfn K) : mg "_law_digits" = some (.ref (He.ga K "_law_digits")) := He.glo_ok X N (c.fact 42 (f := .glo "_law_digits") rfl)
theorem mg_l_draw {K : PySem.W.Frag} {h : Heap} {mg : Str → Option Value} (X : K.In h) (N : h.Ns mainGlobals mg) (c : He.SaysD hfa hfn K) : mg "_law_draw" = some (.ref (He.ga K "_law_draw")) := He.glo_ok X N (c.fact 43 (f := .glo "_law_draw") rfl)
theorem mg_l_torn {K : PySem.W.Frag} {h : Heap} {mg : Str → Option Value} (X : K.In h) (N : h.Ns mainGlobals mg) (c : He.SaysD hfa hfn K) : mg "_law_torn" = some (.ref (He.ga K "_law_torn")) := He.glo_ok X N (c.fact 44 (f := .glo "_law_torn") rfl)
theorem mg_l_schedule {K : PySem.W.Frag} {h : Heap} {mg : Str → Option Value} (X : K.In h) (N : h.Ns mainGlobals mg) (c : He.SaysD hfa hfn K) : mg "_law_schedule" = some (.ref (He.ga K "_law_schedule")) := He.glo_ok X N (c.fact 45 (f := .glo "_law_schedule") rfl)
theorem mg_l_do_raw {K : PySem.W.Frag} {h : Heap} {mg : Str → Option Value} (X : K.In h) (N : h.Ns mainGlobals mg) (c : He.SaysD hfa hfn K) : mg "_law_do_raw" = some (.ref (He.ga K "_law_do_raw")) := He.glo_ok X N (c.fact 46 (f := .glo "_law_do_raw") rfl)
theorem mg_l_do {K : PySem.W.Frag} {h : Heap} {mg : Str → Option Value} (X : K.In h) (N : h.Ns mainGlobals mg) (c : He.SaysD hfa hfn K) : mg "_law_do" = some (.ref (He.ga K "_law_do")) := He.glo_ok X N (c.fact 47 (f := .glo "_law_do") rfl)
theorem mg_law {K : PySem.W.Frag} {h : Heap} {mg : Str → Option Value} (X : K.In h) (N : h.Ns mainGlobals mg) (c : He.SaysD hfa hfn K) : mg "law" = some (.ref (He.ga K "law")) := He.glo_ok X N (c.fact 48 (f := .glo "law") rfl)
theorem z_0 : ("torn" : Str) = S [116, 111, 114, 110] := by decide +kernel
theorem z_1 : ("refused" : Str) = S [114, 101, 102, 117, 115, 101, 100] := by decide +kernel
theorem z_2 : ("cut" : Str) = S [99, 117, 116] := by decide +kernel
theorem z_3 : ("other" : Str) = S [111, 116, 104, 101, 114] := by decide +kernel
theorem z_4 : ("many" : Str) = S [109, 97, 110, 121] := by decide +kernel
theorem z_5 : ("at" : Str) = S [97, 116] := by decide +kernel
theorem z_6 : ("block" : Str) = S [98, 108, 111, 99, 107] := by decide +kernel
theorem z_7 : ("blocks" : Str) = S [98, 108, 111, 99, 107, 115] := by decide +kernel
end K42

/-! k42: what the defs compute -/
namespace K42
open PySem PySem.Spec PyProof.Rows L2 Lg
local macro_rules | `(tactic| walk_at "ar") => `(tactic| first | omega | (simp; done) | (simp; omega) | (simp only [S_len]; omega) | (simp [Lg.repL_len]; done) | (simp [Lg.repL_len]; omega))
local macro_rules | `(tactic| walk_at "gt") => `(tactic| repeat (first | exact GetAt.here | apply GetAt.there))
local macro_rules | `(tactic| walk_at "st") => `(tactic| repeat (first | exact SetAt.here | apply SetAt.there))
local macro_rules | `(tactic| walk_at "mem") => `(tactic| first | assumption | exact List.mem_cons_self | (apply List.mem_cons_of_mem; walk_at "mem"))
local macro_rules | `(tactic| walk_at "put") => `(tactic| repeat (first | exact Put.here | apply Put.there))
local macro_rules | `(tactic| walk_at "rem") => `(tactic| repeat (first | exact Rem.here | apply Rem.there))
local macro_rules | `(tactic| walk_at "pick") => `(tactic| first | exact Pick.refl | exact Pick.cons (by walk_at "rem") (by walk_at "pick") | (apply Pick.drop; walk_at "pick") | exact Pick.nil)
local macro_rules | `(tactic| walk_at "is") => `(tactic| first | exact Is.int | exact Is.str | exact Is.bl | exact Is.non | assumption | exact Is.dat (by walk_at "mem") | (apply Is.cons; walk_at "is"))
local macro_rules | `(tactic| walk_at "isall") => `(tactic| first | exact IsAll.nil | exact IsAll.cons (by walk_at "is") (by walk_at "isall"))
local macro_rules | `(tactic| walk_at "lsin") => `(tactic| first | assumption | exact LsIn.own (by walk_at "mem") | exact LsIn.dat (by walk_at "mem") | (apply LsIn.cons; walk_at "lsin"))
local macro_rules | `(tactic| walk_at "see") => `(tactic| first | exact See.own (by walk_at "mem") | exact See.is (by walk_at "is"))
local macro_rules | `(tactic| walk_at "w1") => `(tactic| first
  | (with_reducible apply Lg.w_seq)
  | (with_reducible apply Lg.w_asg)
  | ((with_reducible show gName _ _ _ _ _); (with_reducible refine Lg.w_name (by walk_at "st") ?_))
  | ((with_reducible show tVar _ _ _ _); (with_reducible refine Lg.w_var (by walk_at "gt") ?_))
  | (with_reducible apply Lg.w_c)
  | (with_reducible apply Lg.w_op)
  | (with_reducible apply Lg.w_un)
  | (with_reducible apply Lg.w_nil)
  | (with_reducible apply Lg.w_cons)
  | (with_reducible apply Lg.w_call)
  | (with_reducible apply Lg.w_cb)
  | (with_reducible apply Lg.w_tup)
  | (with_reducible apply Lg.w_lst)
  | (with_reducible apply Lg.w_bm)
  | (with_reducible apply Lg.w_bm0)
  | (with_reducible apply Lg.w_sl)
  | (with_reducible apply Lg.w_nopart)
  | (with_reducible apply Lg.w_part)
  | (with_reducible apply Lg.w_isint)
  | (with_reducible apply Lg.w_test)
  | (with_reducible apply Lg.w_tB)
  | (with_reducible apply Lg.w_isbl')
  | (with_reducible apply Lg.w_not)
  | (with_reducible apply Lg.w_tru)
  | (with_reducible apply Lg.w_truI)
  | (with_reducible apply Lg.w_truB)
  | (with_reducible apply Lg.w_ifs)
  | (with_reducible apply Lg.w_next)
  | (with_reducible apply Lg.w_break)
  | (with_reducible apply Lg.w_cont)
  | (with_reducible apply Lg.w_ret)
  | (with_reducible apply Lg.w_retn)
  | (with_reducible apply Lg.w_drop)
  | (with_reducible apply Lg.w_sub)
  | (with_reducible apply Lg.w_gnil)
  | (with_reducible apply Lg.w_gcons)
  | (with_reducible apply Lg.w_ifT)
  | (with_reducible apply Lg.w_ifF)
  | (with_reducible apply Lg.w_add)
  | (with_reducible apply Lg.w_sub2)
  | ((with_reducible show rTimes (V.int _) (V.int _) _ _); (with_reducible refine Lg.w_mulR (by omega) ?_))
  | ((with_reducible show rTimes (V.int _) (V.int _) _ _); (with_reducible refine Lg.w_mulL (by omega) ?_))
  | ((with_reducible show rMod (V.int _) (V.int _) _ _); (with_reducible refine Lg.w_mod (by first | decide | omega) ?_))
  | ((with_reducible show rFdiv (V.int _) (V.int _) _ _); (with_reducible refine Lg.w_fdiv (by first | decide | omega) ?_))
  | (with_reducible apply Lg.w_band)
  | (with_reducible apply Lg.w_lt)
  | (with_reducible apply Lg.w_le)
  | (with_reducible apply Lg.w_gt)
  | (with_reducible apply Lg.w_ge)
  | (with_reducible apply Lg.w_eqI)
  | (with_reducible apply Lg.w_neI)
  | (with_reducible apply Lg.w_intI2)
  | (with_reducible apply Lg.w_neg)
  | (with_reducible apply Lg.w_inSS)
  | (with_reducible apply Lg.w_ninSS)
  | (with_reducible apply Lg.w_inSS')
  | (with_reducible apply Lg.w_neSS)
  | (with_reducible apply Lg.w_strS)
  | (with_reducible apply Lg.w_fldE)
  | (with_reducible apply Lg.w_sfldE)
  | (with_reducible apply Lg.w_makeE)
  | (with_reducible apply Lg.w_methE)
  | (with_reducible apply Lg.w_methSE)
  | (with_reducible apply Lg.w_callS)
  | (with_reducible apply Lg.w_raiseO)
  | (with_reducible apply Lg.w_raiseB)
  | (with_reducible apply Lg.w_try)
  | (with_reducible apply Lg.w_strS)
  | (with_reducible apply Lg.w_eqSS)
  | (with_reducible apply Lg.w_eqS)
  | (with_reducible apply Lg.w_neS)
  | (with_reducible apply Lg.w_isN)
  | (with_reducible apply Lg.w_isR)
  | (with_reducible apply Lg.w_isI)
  | (with_reducible apply Lg.w_isS)
  | (with_reducible apply Lg.w_nsN)
  | (with_reducible apply Lg.w_nsR)
  | (with_reducible apply Lg.w_nsI)
  | (with_reducible apply Lg.w_nsS)
  | (with_reducible apply Lg.w_int)
  | (with_reducible apply Lg.w_intb)
  | (with_reducible apply Lg.w_ord1)
  | (with_reducible apply Lg.w_tyS)
  | (with_reducible apply Lg.w_inSg)
  | (with_reducible apply Lg.w_ninSg)
  | ((with_reducible show NewL _ _ _); (with_reducible refine Lg.w_newL (by assumption) (by walk_at "isall") (by simp) ?_); (intro p' H' hS'))
  | ((with_reducible show NewT _ _ _); (with_reducible refine Lg.w_newT (by assumption) (by walk_at "isall") (by simp) ?_); (intro p' H' hS'))
  | ((with_reducible show TyThen _ _ (V.ref _) _ _); (with_reducible refine Lg.w_tyL (by assumption) (by walk_at "lsin") ?_))
  | ((with_reducible show rLenX _ [V.ref _] _ _); (with_reducible refine Lg.w_lenL (by assumption) (by walk_at "lsin") ?_))
  | ((with_reducible show rLenX _ [V.ref _] _ _); (with_reducible refine Lg.w_lenT (by assumption) (by walk_at "is") ?_))
  | ((with_reducible show spDraw _ _ _ _ _); (with_reducible refine Lg.w_draw (by assumption) (by walk_at "mem") (by first | decide | omega) ?_); (intro k' H' hk0' hk1' hS'))
  | ((with_reducible show rSlX _ (V.ref _) _ _ _ _); (with_reducible refine Lg.w_slL (by assumption) (by walk_at "lsin") ?_); (intro p' H' hS'))
  | ((with_reducible show rListOf _ [V.ref _] _ _); (with_reducible refine Lg.w_listL (by assumption) (by walk_at "lsin") ?_); (intro p' H' hS'))
  | (with_reducible apply Lg.w_for)
  | (with_reducible apply Lg.w_lc)
  | ((with_reducible show iAny _ (tVar _) _ _ _); (with_reducible refine Lg.w_anyVar (by walk_at "gt") ?_))
  | (with_reducible apply Lg.w_anyC)
  | (with_reducible apply Lg.w_vS)
  | (with_reducible apply Lg.w_itS)
  | ((with_reducible show AnyV _ (V.ref _) _ _); (with_reducible refine Lg.w_vL (by assumption) (by walk_at "lsin") ?_))
  | ((with_reducible show AnyL _ (V.ref _) _ _); (with_reducible refine Lg.w_itL (by assumption) (by walk_at "lsin") ?_))
  | ((with_reducible show AnyV _ (V.ref _) _ _); (with_reducible refine Lg.w_vT (by assumption) (by walk_at "is") ?_))
  | ((with_reducible show AnyT _ (V.ref _) _ _); (with_reducible refine Lg.w_itT (by assumption) (by walk_at "is") ?_))
  | ((with_reducible show Enu _ [V.ref _] _ _); (with_reducible refine Lg.w_itE (by assumption) (by walk_at "lsin") ?_))
  | ((with_reducible show rPlus _ (V.ref _) (V.ref _) _ _); (with_reducible refine Lg.w_plusL (by assumption) (by walk_at "lsin") (by walk_at "lsin") (by walk_at "ar") ?_); (intro p' H' hS'))
  | ((with_reducible show rTimes (V.ref _) (V.int _) _ _); (with_reducible refine Lg.w_repLs (by assumption) (by walk_at "lsin") (by walk_at "ar") (by walk_at "ar") (by walk_at "ar") ?_); (intro p' H' hS'))
  | ((with_reducible show rLenX _ [V.str (S _)] _ _); (with_reducible refine Lg.w_lenSS (by walk_at "ar") ?_))
  | ((with_reducible show rLenX _ [V.str _] _ _); (with_reducible refine Lg.w_lenS (by walk_at "ar") ?_))
  | ((with_reducible show rSlX _ (V.str _) _ _ _ _); (with_reducible refine Lg.w_slS (by walk_at "ar") ?_))
  | (with_reducible apply Lg.w_rng1)
  | (with_reducible apply Lg.w_rng2)
  | (with_reducible apply Lg.w_rng3)
  | (with_reducible apply Lg.w_enum)
  | ((with_reducible show Rng1 _ _ _); (with_reducible refine Lg.w_itR1 (by omega) ?_))
  | ((with_reducible show Rng2 _ _ _); (with_reducible refine Lg.w_itR2 (by omega) (by omega) ?_))
  | ((with_reducible show rIx _ (V.ref _) (V.int _) _ _); (with_reducible refine Lg.w_ixN (by assumption) (by walk_at "lsin") (by walk_at "ar") (by walk_at "ar") ?_))
  | ((with_reducible show rPlus _ (V.str (S _)) (V.str (S _)) _ _); (with_reducible refine Lg.w_addSS (by walk_at "ar") ?_))
  | ((with_reducible show rTimes (V.str (S _)) (V.int _) _ _); (with_reducible refine Lg.w_repSS (by walk_at "ar") (by walk_at "ar") (by walk_at "ar") ?_))
  | ((with_reducible show rIsi _ [V.ref _, V.ty "list"] _ _); (with_reducible refine Lg.w_isLL (by assumption) (by walk_at "lsin") ?_))
  | ((with_reducible show rIsi _ [V.ref _, V.ty "tuple"] _ _); (with_reducible refine Lg.w_isTT (by assumption) (by walk_at "is") ?_))
  | (with_reducible apply Lg.w_isII)
  | (with_reducible apply Lg.w_isSI)
  | (with_reducible apply Lg.w_isSS)
  | (with_reducible apply Lg.w_isIS)
  | (with_reducible apply Lg.w_ifexp)
  | (with_reducible apply Lg.w_chain)
  | ((with_reducible show ChainK _ _ _ _ _ _ _); (with_reducible refine Lg.w_chainLe (by (intro R' hR'; walk_at "w"; exact hR')) ?_))
  | ((with_reducible show ChainK _ _ _ _ _ _ _); (with_reducible refine Lg.w_chainLt (by (intro R' hR'; walk_at "w"; exact hR')) ?_))
  | ((with_reducible show tAnd _ _ _ _ _); (with_reducible refine Lg.w_andP (by (intro R' hR'; walk_at "w"; exact hR')) (by (intro hb' R' hR'; walk_at "w"; exact hR')) ?_))
  | ((with_reducible show tOr _ _ _ _ _); (with_reducible refine Lg.w_orP (by (intro R' hR'; walk_at "w"; exact hR')) (by (intro hb' R' hR'; walk_at "w"; exact hR')) ?_))
  | ((with_reducible show tAndV _ _ _ _ _); (with_reducible refine Lg.w_andVP (by (intro R' hR'; walk_at "w"; exact hR')) (by (intro hb' R' hR'; walk_at "w"; exact hR')) ?_))
  | ((with_reducible show tOrV _ _ _ _ _); (with_reducible refine Lg.w_orVP (by (intro R' hR'; walk_at "w"; exact hR')) (by (intro hb' R' hR'; walk_at "w"; exact hR')) ?_))
  | (with_reducible apply Lg.w_notV))
local macro_rules | `(tactic| walk_at "w") => `(tactic| repeat (walk_at "w1"))
local macro_rules | `(tactic| walk_at "z") => `(tactic| simp only [z_0, z_1, z_2, z_3, z_4, z_5, z_6, z_7])
/-! ### the disk (shared by the laws of disks) -/
abbrev HD (K : PySem.W.Frag) : Addr := He.ga K "Disk"
def dfs (pb pp : Addr) (cuts : Int) (left tv : V) : List (Str × V) := [("_blocks", .ref pb), ("_pending", .ref pp), ("_cuts", .int cuts), ("_left", left), ("_torn", tv)]
section
variable {pb pp q : Addr} {cuts c : Int} {left tv v : V}
theorem lk_b : (dfs pb pp cuts left tv).lookup ("_blocks" : Str) = some (V.ref pb) := by rfl
theorem lk_p : (dfs pb pp cuts left tv).lookup ("_pending" : Str) = some (V.ref pp) := by rfl
theorem lk_c : (dfs pb pp cuts left tv).lookup ("_cuts" : Str) = some (V.int cuts) := by rfl
theorem lk_l : (dfs pb pp cuts left tv).lookup ("_left" : Str) = some left := by rfl
theorem lk_t : (dfs pb pp cuts left tv).lookup ("_torn" : Str) = some tv := by rfl
theorem put_p : putF "_pending" (.ref q) (dfs pb pp cuts left tv) = dfs pb q cuts left tv := by rfl
theorem put_c : putF "_cuts" (.int c) (dfs pb pp cuts left tv) = dfs pb pp c left tv := by rfl
theorem put_l : putF "_left" v (dfs pb pp cuts left tv) = dfs pb pp cuts v tv := by rfl
theorem put_t : putF "_torn" v (dfs pb pp cuts left tv) = dfs pb pp cuts left v := by rfl
theorem put_0 : putF "_torn" tv (putF "_left" left (putF "_cuts" (.int cuts) (putF "_pending" (.ref pp) (putF "_blocks" (.ref pb) [])))) = dfs pb pp cuts left tv := by rfl
theorem lk_no {m : Str} (h : (dfs 0 0 0 .non .non).lookup m = none) : (dfs pb pp cuts left tv).lookup m = none := by
  unfold dfs at *
  simp only [List.lookup] at *
  revert h
  cases m == ("_blocks" : Str) <;> cases m == ("_pending" : Str) <;> cases m == ("_cuts" : Str) <;> cases m == ("_left" : Str) <;> cases m == ("_torn" : Str) <;> simp
end
abbrev bD (b : List Int) : PyData := .list (b.map PyData.int)
abbrev eD (e : Nat × List Int) : PyData := .tuple [.int e.1, bD e.2]
abbrev tI (t : Nat) : PyData := .int (t : Int)
abbrev tD (ts : List Nat) : PyData := .list (ts.map tI)
def lV : Option Nat → V
  | none => .non
  | some n => .int n
/-- the disk in the ledger -/
abbrev DL (K : PySem.W.Frag) (a dx pb pp : Addr) (tv : V) (cuts : Int) (left : Option Nat) (B : List (List Int)) (P : List (Nat × List Int)) (ts : List Nat) (L : List Ent) : List Ent :=
  Lg.own a (.ins (HD K) dx (dfs pb pp cuts (lV left) tv)) :: Lg.own dx (.own a) :: Lg.ls K pb (B.map bD) :: Lg.ls K pp (P.map eD) :: Lg.dat tv (tD ts) :: L
/-! what it does -/
def putB (B : List (List Int)) (e : Nat × List Int) : List (List Int) := B.set e.1 e.2
def flushed (B : List (List Int)) (P : List (Nat × List Int)) : List (List Int) := P.foldl putB B
def tear (B : List (List Int)) (e : Nat × List Int) (c : Nat) : List (List Int) := B.set e.1 (e.2.take c ++ (B.getD e.1 []).drop c)
def torn : List (List Int) → List (Nat × List Int) → List Nat → List (List Int)
  | B, e :: P, t :: ts => torn (tear B e t) P ts
  | B, _, _ => B
def seen (B : List (List Int)) (P : List (Nat × List Int)) (k : Nat) : List Int := P.foldl (fun f e => if e.1 = k then e.2 else f) (B.getD k [])
/-- a block: so many bytes -/
def isB (b : List Int) : Bool := decide (b.length = 32) && b.all fun x => decide (0 ≤ x) && decide (x ≤ 255)
structure DOK (B : List (List Int)) (P : List (Nat × List Int)) (ts : List Nat) : Prop where
  n0 : 8 ≤ B.length
  n1 : B.length ≤ 400
  bl : ∀ b ∈ B, b.length = 32
  pe : ∀ e ∈ P, e.1 < B.length ∧ e.2.length = 32
  pn : P.length ≤ 1000
  tn : ts.length ≤ 1000
  tb : ∀ t ∈ ts, t ≤ 32
theorem take_succ' {α : Type} {l : List α} {i : Nat} {x : α} (h : l[i]? = some x) : l.take (i + 1) = l.take i ++ [x] := by
  rw [List.take_succ, h]
  rfl
theorem flushed_step {B : List (List Int)} {P : List (Nat × List Int)} {i : Nat} {e : Nat × List Int} (h : P[i]? = some e) : flushed B (P.take (i + 1)) = putB (flushed B (P.take i)) e := by
  unfold flushed
  rw [take_succ' h, List.foldl_append]
  rfl
theorem flushed_len (P : List (Nat × List Int)) : ∀ B, (flushed B P).length = B.length := by
  unfold flushed
  induction P with
  | nil => intro B; rfl
  | cons e P ih => intro B; rw [List.foldl_cons, ih]; simp [putB]
theorem flushed_bl {P : List (Nat × List Int)} : ∀ {B : List (List Int)}, (∀ b ∈ B, b.length = 32) → (∀ e ∈ P, e.2.length = 32) → ∀ b ∈ flushed B P, b.length = 32 := by
  unfold flushed
  induction P with
  | nil => intro B h _; exact h
  | cons e P ih =>
    intro B h h2
    rw [List.foldl_cons]
    refine ih (fun b hb => ?_) fun e he => h2 e (.tail _ he)
    rcases List.mem_or_eq_of_mem_set hb with hb | rfl
    · exact h b hb
    · exact h2 e (.head _)
theorem tear_len {B : List (List Int)} {e : Nat × List Int} {c : Nat} : (tear B e c).length = B.length := by simp [tear]
theorem torn_len : ∀ {P : List (Nat × List Int)} {ts : List Nat} {B : List (List Int)}, (torn B P ts).length = B.length
  | [], _, _ => by unfold torn; rfl
  | _ :: _, [], _ => by unfold torn; rfl
  | e :: P, t :: ts, B => by
    unfold torn
    rw [torn_len, tear_len]
theorem getD_len {B : List (List Int)} {k : Nat} (h : ∀ b ∈ B, b.length = 32) (hk : k < B.length) : (B.getD k []).length = 32 := by
  rw [List.getD_eq_getElem?_getD, List.getElem?_eq_getElem hk]
  exact h _ (List.getElem_mem hk)
theorem tear_bl {B : List (List Int)} {e : Nat × List Int} {c : Nat} (h : ∀ b ∈ B, b.length = 32) (he : e.1 < B.length) (he2 : e.2.length = 32) (hc : c ≤ 32) : ∀ b ∈ tear B e c, b.length = 32 := by
  intro b hb
  rcases List.mem_or_eq_of_mem_set hb with hb | rfl
  · exact h b hb
  · have := getD_len h he
    rw [List.length_append, List.length_take, List.length_drop, this, he2]
    omega
theorem torn_bl : ∀ {P : List (Nat × List Int)} {ts : List Nat} {B : List (List Int)}, (∀ b ∈ B, b.length = 32) → (∀ e ∈ P, e.1 < B.length ∧ e.2.length = 32) → (∀ t ∈ ts, t ≤ 32) → ∀ b ∈ torn B P ts, b.length = 32
  | [], _, _, h, _, _ => by unfold torn; exact h
  | _ :: _, [], _, h, _, _ => by unfold torn; exact h
  | e :: P, t :: ts, B, h, h2, h3 => by
    unfold torn
    obtain ⟨g1, g2⟩ := h2 e (.head _)
    exact torn_bl (tear_bl h g1 g2 (h3 t (.head _))) (fun e he => by rw [tear_len]; exact h2 e (.tail _ he)) fun t ht => h3 t (.tail _ ht)
theorem torn_step : ∀ {P : List (Nat × List Int)} {ts : List Nat} {B : List (List Int)} {i : Nat} {e : Nat × List Int}, P[i]? = some e →
    torn B (P.take (i + 1)) ts = match ts[i]? with
      | some t => tear (torn B (P.take i) ts) e t
      | none => torn B (P.take i) ts
  | [], _, _, i, e, h => by simp at h
  | e0 :: P, [], B, i, e, h => by simp [torn]
  | e0 :: P, t :: ts, B, 0, e, h => by
    simp at h
    subst h
    simp [torn]
  | e0 :: P, t :: ts, B, i + 1, e, h => by
    have h' : P[i]? = some e := by simpa using h
    have := torn_step (P := P) (ts := ts) (B := tear B e0 t) h'
    simpa [torn] using this
theorem torn_take : ∀ {P : List (Nat × List Int)} {ts : List Nat} {B : List (List Int)} {n : Nat}, min ts.length P.length ≤ n → torn B (P.take n) ts = torn B P ts
  | [], _, _, _, _ => by simp
  | e0 :: P, [], B, n, _ => by cases n <;> simp [torn]
  | e0 :: P, t :: ts, B, 0, h => by simp at h
  | e0 :: P, t :: ts, B, n + 1, h => by
    have := torn_take (P := P) (ts := ts) (B := tear B e0 t) (n := n) (by simp at h; omega)
    simpa [torn] using this
theorem seen_step {B : List (List Int)} {P : List (Nat × List Int)} {k i : Nat} {e : Nat × List Int} (h : P[i]? = some e) : seen B (P.take (i + 1)) k = if e.1 = k then e.2 else seen B (P.take i) k := by
  unfold seen
  rw [take_succ' h, List.foldl_append]
  rfl
theorem set_self {B : List (List Int)} {k : Nat} (hk : k < B.length) : B.set k (B.getD k []) = B := by
  rw [List.getD_eq_getElem?_getD, List.getElem?_eq_getElem hk]
  simp
theorem map_at {α β : Type} {l : List α} {f : α → β} {i : Nat} {d : β} (h : (l.map f)[i]? = some d) : ∃ x, l[i]? = some x ∧ d = f x := by
  rw [List.getElem?_map] at h
  obtain ⟨x, h1, rfl⟩ := Option.map_eq_some_iff.mp h
  exact ⟨x, h1, rfl⟩
theorem bD_at {B : List (List Int)} {k : Nat} (hk : k < B.length) : (B.map bD)[k]? = some (bD (B.getD k [])) := by
  rw [List.getElem?_map, List.getD_eq_getElem?_getD, List.getElem?_eq_getElem hk]
  rfl
theorem set_map {B : List (List Int)} {k : Nat} {b : List Int} : (B.map bD).set k (bD b) = (B.set k b).map bD := by rw [List.map_set]
theorem St.set_lst {K : PySem.W.Frag} {L : List Ent} {H : Hp} {v : V} {b : List Int} (h : St K (.dat v (bD b) :: L) H) : ∃ q, v = .ref q := h.lst_of
/-! the promises -/
abbrev XO (K : PySem.W.Frag) : Addr := He.ga K "OutOfRange"
abbrev XP (K : PySem.W.Frag) : Addr := He.ga K "PowerCut"
abbrev xd (d : Addr) (nm : List Nat) : Ent := Lg.own d (.xd [(("name" : Str), V.str (S nm))])
abbrev zat : List Nat := [97, 116]
abbrev zblock : List Nat := [98, 108, 111, 99, 107]
abbrev zblocks : List Nat := [98, 108, 111, 99, 107, 115]
abbrev ztorn : List Nat := [116, 111, 114, 110]
section
variable {K : PySem.W.Frag}
def spIsBlock (K : PySem.W.Frag) : Sp := fun vs H Q _ => ∃ (L : List Ent) (a : Addr) (b : List Int), vs = [.ref a] ∧ St K L H ∧ LsIn K L a (b.map PyData.int) ∧ b.length ≤ 1000 ∧ Q (.bl (isB b)) H
theorem p_is_block (vs : List V) (H : Hp) (Q : VK) (E : XK) (h : spIsBlock K vs H Q E) : vs.length = 1 ∧ t_is_block K { nx := fun _ H' => Q .non H', rt := Q } (start N_is_block vs) H := by
  obtain ⟨L, a, b, rfl, hS, ha, hl, hQ⟩ := h
  refine ⟨rfl, ?_⟩
  unfold t_is_block
  show tSeq _ _ _ [some (.ref a), none] H
  walk_at "w"
  rw [List.length_map]
  walk_at "w"
  refine w_ifnd (fun h1 => ?_) (fun h1 => ?_)
  · walk_at "w"
    have e : isB b = false := by unfold isB; rw [decide_eq_false (by omega)]; rfl
    rw [e] at hQ
    exact hQ
  walk_at "w"
  refine w_forL (ds := b.map PyData.int) (fun i σ H' => (∃ v1, σ = [some (.ref a), v1]) ∧ H' = H ∧ ((b.take i).all fun x => decide (0 ≤ x) && decide (x ≤ 255)) = true) ⟨⟨_, rfl⟩, rfl, by simp⟩ (fun i σ H' _ hI => ?_) (fun i d v σ H' hd hI hlrn => ?_) (fun σ H' hI => ?_)
  · obtain ⟨_, rfl, _⟩ := hI
    exact ⟨L, hS, ha⟩
  · obtain ⟨⟨v1, rfl⟩, rfl, hall⟩ := hI
    obtain ⟨x, hx, rfl⟩ := map_at hd
    have hS1 := hlrn L hS ha
    obtain rfl := hS1.int_of
    walk_at "w"
    refine w_ite (fun h2 => ?_) (fun h2 => ?_)
    · walk_at "w"
      rw [Bool.not_eq_true'] at h2
      have e : isB b = false := by
        unfold isB
        rw [Bool.and_eq_false_iff]
        right
        rw [List.all_eq_false]
        exact ⟨x, List.mem_of_getElem? hx, by rw [h2]; simp⟩
      rw [e] at hQ
      exact hQ
    · walk_at "w"
      rw [Bool.not_eq_false'] at h2
      refine ⟨⟨_, rfl⟩, rfl, ?_⟩
      rw [take_succ' hx, List.all_append, hall]
      simp only [List.all_cons, List.all_nil, Bool.and_true, Bool.true_and]
      exact h2
  · obtain ⟨⟨v1, rfl⟩, rfl, hall⟩ := hI
    walk_at "w"
    have e : isB b = true := by
      unfold isB
      rw [List.length_map, List.take_length] at hall
      rw [hall, decide_eq_true (by omega)]
      rfl
    rw [e] at hQ
    exact hQ
def okT (ts : List Int) : Bool := ts.all fun t => decide (0 ≤ t) && decide (t ≤ 32)
def spCheckTorn (K : PySem.W.Frag) : Sp := fun vs H Q E => ∃ (L : List Ent) (a : Addr) (ts : List Int), vs = [.ref a] ∧ St K L H ∧ LsIn K L a (ts.map PyData.int) ∧
  (okT ts = true → Q .non H) ∧ (okT ts = false → ∀ d H', St K (xd d ztorn :: L) H' → E (.ref (XO K)) (some d) H')
theorem p_check_torn (cf : CF K) (vs : List V) (H : Hp) (Q : VK) (E : XK) (h : spCheckTorn K vs H Q E) : vs.length = 1 ∧ t_check_torn K E { nx := fun _ H' => Q .non H', rt := Q } (start N_check_torn vs) H := by
  obtain ⟨L, a, ts, rfl, hS, ha, hQ, hE⟩ := h
  refine ⟨rfl, ?_⟩
  unfold t_check_torn
  walk_at "z"
  show tFor _ _ _ _ [some (.ref a), none] H
  walk_at "w"
  refine w_forL (ds := ts.map PyData.int) (fun i σ H' => (∃ v1, σ = [some (.ref a), v1]) ∧ H' = H ∧ okT (ts.take i) = true) ⟨⟨_, rfl⟩, rfl, by simp [okT]⟩ (fun i σ H' _ hI => ?_) (fun i d v σ H' hd hI hlrn => ?_) (fun σ H' hI => ?_)
  · obtain ⟨_, rfl, _⟩ := hI
    exact ⟨L, hS, ha⟩
  · obtain ⟨⟨v1, rfl⟩, rfl, hall⟩ := hI
    obtain ⟨x, hx, rfl⟩ := map_at hd
    have hS1 := hlrn L hS ha
    obtain rfl := hS1.int_of
    walk_at "w"
    refine w_ite (fun h2 => ?_) (fun h2 => ?_)
    · walk_at "w"
      rw [Bool.not_eq_true'] at h2
      refine w_mkO (v := .str (S ztorn)) hS cf.ox_OutOfRange cf.xn_OutOfRange (fun R hR => by walk_at "w"; exact hR) fun d H' hS3 => hE ?_ d H' hS3
      unfold okT
      rw [List.all_eq_false]
      exact ⟨x, List.mem_of_getElem? hx, by rw [h2]; simp⟩
    · walk_at "w"
      rw [Bool.not_eq_false'] at h2
      refine ⟨⟨_, rfl⟩, rfl, ?_⟩
      unfold okT at hall ⊢
      rw [take_succ' hx, List.all_append, hall]
      simp only [List.all_cons, List.all_nil, Bool.and_true, Bool.true_and]
      exact h2
  · obtain ⟨⟨v1, rfl⟩, rfl, hall⟩ := hI
    rw [List.length_map, List.take_length] at hall
    walk_at "w"
    exact hQ hall
def spCheckAt (K : PySem.W.Frag) : Sp := fun vs H Q E => ∃ (L : List Ent) (a dx pb pp : Addr) (tv : V) (cuts : Int) (left : Option Nat) (B : List (List Int)) (P : List (Nat × List Int)) (ts : List Nat) (k : Int), vs = [.ref a, .int k] ∧
  St K (DL K a dx pb pp tv cuts left B P ts L) H ∧ B.length ≤ 1000 ∧
  (0 ≤ k → k < B.length → Q .non H) ∧ (¬ (0 ≤ k ∧ k < B.length) → ∀ d H', St K (xd d zat :: DL K a dx pb pp tv cuts left B P ts L) H' → E (.ref (XO K)) (some d) H')
theorem p_check_at (cf : CF K) (vs : List V) (H : Hp) (Q : VK) (E : XK) (h : spCheckAt K vs H Q E) : vs.length = 2 ∧ t_Disk_check_at K E { nx := fun _ H' => Q .non H', rt := Q } (start N_Disk_check_at vs) H := by
  obtain ⟨L, a, dx, pb, pp, tv, cuts, left, B, P, ts, k, rfl, hS, hl, hQ, hE⟩ := h
  refine ⟨rfl, ?_⟩
  unfold t_Disk_check_at
  walk_at "z"
  show tIfS _ _ _ _ [some (.ref a), some (.int k)] H
  walk_at "w"
  refine w_chainLt (i := k) (j := B.length) (fun R' hR' => ?_) ?_
  · walk_at "w"
    refine w_fld hS (by walk_at "mem") cf.cls_Disk cf.na_Disk_blocks lk_b ?_
    walk_at "w"
    rw [List.length_map]
    exact hR'
  walk_at "w"
  refine w_ite (fun h2 => ?_) (fun h2 => ?_)
  · walk_at "w"
    refine w_mkO (v := .str (S zat)) hS cf.ox_OutOfRange cf.xn_OutOfRange (fun R hR => by walk_at "w"; exact hR) fun d H' hS3 => hE ?_ d H' hS3
    simp at h2
    omega
  · walk_at "w"
    simp at h2
    exact hQ (by omega) (by omega)
def spRead (K : PySem.W.Frag) : Sp := fun vs H Q E => ∃ (L : List Ent) (a dx pb pp : Addr) (tv : V) (cuts : Int) (left : Option Nat) (B : List (List Int)) (P : List (Nat × List Int)) (ts : List Nat) (k : Int), vs = [.ref a, .int k] ∧
  St K (DL K a dx pb pp tv cuts left B P ts L) H ∧ DOK B P ts ∧
  (∀ n : Nat, k = n → n < B.length → ∀ q H', St K (Lg.ls K q ((seen B P n).map PyData.int) :: DL K a dx pb pp tv cuts left B P ts L) H' → Q (.ref q) H') ∧
  (¬ (0 ≤ k ∧ k < B.length) → ∀ d H', St K (xd d zat :: DL K a dx pb pp tv cuts left B P ts L) H' → E (.ref (XO K)) (some d) H')
theorem p_read (cf : CF K) (vs : List V) (H : Hp) (Q : VK) (E : XK) (h : spRead K vs H Q E) : vs.length = 2 ∧ t_Disk_read K (spCheckAt K) E { nx := fun _ H' => Q .non H', rt := Q } (start N_Disk_read vs) H := by
  obtain ⟨L, a, dx, pb, pp, tv, cuts, left, B, P, ts, k, rfl, hS, hok, hQ, hE⟩ := h
  refine ⟨rfl, ?_⟩
  unfold t_Disk_read
  show tSeq _ _ _ [some (.ref a), some (.int k), none, none, none] H
  walk_at "w"
  refine w_meth hS (.head _) (lk_no (by decide)) ?_
  walk_at "w"
  refine ⟨L, a, dx, pb, pp, tv, cuts, left, B, P, ts, k, rfl, hS, by have := hok.n1; omega, fun h0 h1 => ?_, fun hb d H' hS' => hE hb d H' hS'⟩
  obtain ⟨n, rfl⟩ := Int.eq_ofNat_of_zero_le h0
  have hn : n < B.length := by omega
  walk_at "w"
  refine w_fld hS (by walk_at "mem") cf.cls_Disk cf.na_Disk_blocks lk_b ?_
  walk_at "w"
  refine w_ixL (k := n) hS (by walk_at "lsin") rfl (bD_at hn) fun v hS1 => ?_
  walk_at "w"
  refine w_anyL1 ?_
  walk_at "w"
  refine w_fld hS1 (by walk_at "mem") cf.cls_Disk cf.na_Disk_pending lk_p ?_
  walk_at "w"
  refine w_forL (ds := P.map eD) (fun i σ H' => (∃ v2 v3 v4, σ = [some (.ref a), some (.int n), some v2, v3, v4] ∧ St K (Lg.dat v2 (bD (seen B (P.take i) n)) :: DL K a dx pb pp tv cuts left B P ts L) H') ∧ H' = H) ⟨⟨_, _, _, rfl, hS1⟩, rfl⟩ (fun i σ H' _ hI => ?_) (fun i d v σ H' hd hI hlrn => ?_) (fun σ H' hI => ?_)
  · obtain ⟨⟨_, _, _, _, h1⟩, _⟩ := hI
    exact ⟨_, h1, by walk_at "lsin"⟩
  · obtain ⟨⟨v2, v3, v4, rfl, hS2⟩, rfl⟩ := hI
    obtain ⟨e, he, rfl⟩ := map_at hd
    have hS3 := hlrn _ hS2 (by walk_at "lsin")
    obtain ⟨aa, rfl⟩ := hS3.tup_of
    refine w_unpT2 hS3 (.dat (.head _)) fun u1 u2 hS4 => ?_
    obtain rfl := hS4.int_of
    walk_at "w"
    refine w_ifd (fun h2 => ?_) (fun h2 => ?_)
    · walk_at "w"
      refine ⟨⟨_, _, _, rfl, ?_⟩, rfl⟩
      rw [seen_step he, if_pos (by omega)]
      exact hS4.to (by walk_at "pick")
    · walk_at "w"
      refine ⟨⟨_, _, _, rfl, ?_⟩, rfl⟩
      rw [seen_step he, if_neg (by omega)]
      exact hS4.to (by walk_at "pick")
  · obtain ⟨⟨v2, v3, v4, rfl, hS2⟩, rfl⟩ := hI
    rw [List.length_map, List.take_length] at hS2
    obtain ⟨q, rfl⟩ := St.set_lst hS2
    walk_at "w"
    rename_i q2 H2 hS3
    exact hQ n rfl hn q2 H2 (hS3.to (by walk_at "pick"))
theorem w_ifK {P : Prop} [Decidable P] {σ : L2.St} {H : Hp} {Q : VK} {ta tb : TE} {x : V} (h1 : P → ∀ R : VK, R x H → ta σ H R) (h2 : ¬ P → ∀ R : VK, R x H → tb σ H R) (h : Q x H) : if decide P = true then ta σ H Q else tb σ H Q := by
  by_cases hp : P
  · rw [if_pos (decide_eq_true hp)]; exact h1 hp Q h
  · rw [if_neg (by simp [hp])]; exact h2 hp Q h
def spCut (K : PySem.W.Frag) : Sp := fun vs H Q _ => ∃ (L : List Ent) (a dx pb pp tq : Addr) (tv : V) (cuts : Int) (left : Option Nat) (B : List (List Int)) (P : List (Nat × List Int)) (ts ts0 : List Nat), vs = [.ref a, .ref tq] ∧
  St K (DL K a dx pb pp tv cuts left B P ts0 (Lg.dat (.ref tq) (tD ts) :: L)) H ∧ DOK B P ts ∧
  (∀ pp' tv' H', St K (DL K a dx pb pp' tv' (cuts + 1) none (torn B P ts) [] [] L) H' → Q .non H')
theorem p_cut (cf : CF K) (vs : List V) (H : Hp) (Q : VK) (E : XK) (h : spCut K vs H Q E) : vs.length = 2 ∧ t_Disk_cut K { nx := fun _ H' => Q .non H', rt := Q } (start N_Disk_cut vs) H := by
  obtain ⟨L, a, dx, pb, pp, tq, tv, cuts, left, B, P, ts, ts0, rfl, hS, hok, hQ⟩ := h
  refine ⟨rfl, ?_⟩
  unfold t_Disk_cut
  show tSeq _ _ _ [some (.ref a), some (.ref tq), none, none, none, none] H
  walk_at "w"
  refine w_fld hS (by walk_at "mem") cf.cls_Disk cf.na_Disk_pending lk_p ?_
  walk_at "w"
  refine w_forE (ds := P.map eD) (fun i σ H' => (∃ v2 v3 v4 v5, σ = [some (.ref a), some (.ref tq), v2, v3, v4, v5]) ∧ St K (DL K a dx pb pp tv cuts left (torn B (P.take i) ts) P ts0 (Lg.dat (.ref tq) (tD ts) :: L)) H') ⟨⟨_, _, _, _, rfl⟩, by simpa [torn] using hS⟩ (fun i σ H' _ hI => ?_) (fun i d T σ H' H2 hd hI hlrn => ?_) (fun σ H' hI => ?_)
  · exact ⟨_, hI.2, by walk_at "lsin"⟩
  · obtain ⟨⟨v2, v3, v4, v5, rfl⟩, hS1⟩ := hI
    obtain ⟨e, he, rfl⟩ := map_at hd
    have hem := hok.pe e (List.mem_of_getElem? he)
    have hlen : (torn B (P.take i) ts).length = B.length := torn_len
    have hbl : ∀ b ∈ torn B (P.take i) ts, b.length = 32 := torn_bl hok.bl (fun e he => hok.pe e (List.mem_of_mem_take he)) hok.tb
    have hgl := getD_len hbl (k := e.1) (by omega)
    obtain ⟨c, hc, htorn, hx⟩ : ∃ c : Nat, c ≤ 32 ∧ torn B (P.take (i + 1)) ts = tear (torn B (P.take i) ts) e c ∧ ((i < ts.length ∧ ts[i]? = some c) ∨ (¬ i < ts.length ∧ c = 0)) := by
      rw [torn_step he]
      cases ht : ts[i]? with
      | some t => exact ⟨t, hok.tb t (List.mem_of_getElem? ht), rfl, .inl ⟨(List.getElem?_eq_some_iff.mp ht).1, rfl⟩⟩
      | none =>
        refine ⟨0, by omega, ?_, .inr ⟨by have := List.getElem?_eq_none_iff.mp ht; omega, rfl⟩⟩
        unfold tear
        rw [List.take_zero, List.nil_append, List.drop_zero, set_self (by omega)]
    have hS2 := hlrn _ hS1 (by walk_at "lsin")
    clear hlrn hS1
    refine w_unpT2 hS2 (.dat (.head _)) fun u1 u2 hS3 => ?_
    obtain rfl := hS3.int_of
    obtain ⟨aa, rfl⟩ := St.tup_of hS3.tail
    walk_at "w"
    refine w_unpT2 hS3 (.dat (by walk_at "mem")) fun u3 u4 hS4 => ?_
    obtain rfl := hS4.int_of
    obtain ⟨ab, rfl⟩ := St.set_lst hS4.tail
    have hS5 := hS4.to (L' := Lg.dat (.ref ab) (bD e.2) :: DL K a dx pb pp tv cuts left (torn B (P.take i) ts) P ts0 (Lg.dat (.ref tq) (tD ts) :: L)) (by walk_at "pick")
    clear hS2 hS3 hS4
    walk_at "w"
    refine w_ifK (x := .int c) (fun h1 R hR => ?_) (fun h1 R hR => ?_) ?_
    · simp only [List.length_map] at h1
      rcases hx with ⟨h2, h3⟩ | ⟨h2, h3⟩
      · walk_at "w"
        refine w_ixLi (k := i) (m := c) hS5 (by walk_at "lsin") rfl (by rw [List.getElem?_map, h3]; rfl) ?_
        exact hR
      · omega
    · simp only [List.length_map] at h1
      rcases hx with ⟨h2, h3⟩ | ⟨h2, h3⟩
      · omega
      · walk_at "w"
        subst h3
        exact hR
    walk_at "w"
    rename_i q1 H3 hS6
    rw [cutD_no (b := c) rfl] at hS6
    refine w_fld hS6 (by walk_at "mem") cf.cls_Disk cf.na_Disk_blocks lk_b ?_
    walk_at "w"
    refine w_ixL (k := e.1) hS6 (by walk_at "lsin") rfl (bD_at (by omega)) fun v hS7 => ?_
    obtain ⟨q2, rfl⟩ := St.set_lst hS7
    walk_at "w"
    rename_i q3 H4 hS8
    rw [cutD_on (a := c) rfl] at hS8
    refine w_plusL hS8 (.own (by walk_at "mem")) (.own (by walk_at "mem")) (by rw [List.length_take, List.length_drop, List.length_map, List.length_map, hgl, hem.2]; omega) fun q4 H5 hS9 => ?_
    have hS10 := hS9.freeze
    rw [← List.map_take, ← List.map_drop, ← List.map_append] at hS10
    clear hS5 hS6 hS7 hS8 hS9
    walk_at "w"
    refine w_fld hS10 (by walk_at "mem") cf.cls_Disk cf.na_Disk_blocks lk_b ?_
    walk_at "w"
    refine w_setL (k := e.1) hS10 (L' := _) (by walk_at "put") (.dat (.head _)) rfl (by rw [List.length_map]; omega) fun H6 hS11 => ?_
    refine ⟨⟨_, _, _, _, rfl⟩, ?_⟩
    rw [htorn]
    unfold tear
    rw [set_map] at hS11
    exact hS11.to (by walk_at "pick")
  · obtain ⟨⟨v2, v3, v4, v5, rfl⟩, hS1⟩ := hI
    rw [List.length_map, List.take_length] at hS1
    walk_at "w"
    rename_i p1 H1 hS2
    refine w_sfld hS2 (.there .here) cf.cls_Disk cf.na_Disk_pending (by show 5 < 1000; decide) fun H3 hS3 => ?_
    rw [put_p] at hS3
    walk_at "w"
    refine w_fld hS3 (by walk_at "mem") cf.cls_Disk cf.na_Disk_cuts lk_c ?_
    walk_at "w"
    refine w_sfld hS3 (.there .here) cf.cls_Disk cf.na_Disk_cuts (by show 5 < 1000; decide) fun H4 hS4 => ?_
    rw [put_c] at hS4
    walk_at "w"
    refine w_sfld hS4 (.there .here) cf.cls_Disk cf.na_Disk_left (by show 5 < 1000; decide) fun H5 hS5 => ?_
    rw [put_l] at hS5
    walk_at "w"
    rename_i p2 H6 hS6
    have hS7 := hS6.freeze
    refine w_sfld hS7 (.there (.there .here)) cf.cls_Disk cf.na_Disk_torn (by show 5 < 1000; decide) fun H7 hS8 => ?_
    rw [put_t] at hS8
    refine hQ p1 (.ref p2) H7 ?_
    exact hS8.to (by walk_at "pick")
def spSpend (K : PySem.W.Frag) : Sp := fun vs H Q E => ∃ (L : List Ent) (a dx pb pp : Addr) (tv : V) (cuts : Int) (left : Option Nat) (B : List (List Int)) (P : List (Nat × List Int)) (ts : List Nat), vs = [.ref a] ∧
  St K (DL K a dx pb pp tv cuts left B P ts L) H ∧ DOK B P ts ∧
  (left = none → Q .non H) ∧
  (∀ n H', left = some (n + 1) → St K (DL K a dx pb pp tv cuts (some n) B P ts L) H' → Q .non H') ∧
  (∀ pp' tv' H', left = some 0 → St K (DL K a dx pb pp' tv' (cuts + 1) none (torn B P ts) [] [] L) H' → E (.ref (XP K)) none H')
theorem p_spend (cf : CF K) (vs : List V) (H : Hp) (Q : VK) (E : XK) (h : spSpend K vs H Q E) : vs.length = 1 ∧ t_Disk_spend K (spCut K) E { nx := fun _ H' => Q .non H', rt := Q } (start N_Disk_spend vs) H := by
  obtain ⟨L, a, dx, pb, pp, tv, cuts, left, B, P, ts, rfl, hS, hok, hQ0, hQ1, hE⟩ := h
  refine ⟨rfl, ?_⟩
  unfold t_Disk_spend
  show tSeq _ _ _ [some (.ref a)] H
  walk_at "w"
  refine w_fld hS (by walk_at "mem") cf.cls_Disk cf.na_Disk_left lk_l ?_
  walk_at "w"
  cases left with
  | none =>
    dsimp only [lV]
    walk_at "w"
    exact hQ0 rfl
  | some n =>
    dsimp only [lV]
    walk_at "w"
    refine w_fld hS (by walk_at "mem") cf.cls_Disk cf.na_Disk_left lk_l ?_
    dsimp only [lV]
    walk_at "w"
    refine w_ifd (fun h1 => ?_) (fun h1 => ?_)
    · obtain rfl : n = 0 := by omega
      walk_at "w"
      refine w_meth hS (.head _) (lk_no (by decide)) ?_
      walk_at "w"
      refine w_fld hS (by walk_at "mem") cf.cls_Disk cf.na_Disk_torn lk_t ?_
      obtain ⟨tq, rfl⟩ : ∃ tq, tv = .ref tq := St.lst_of (hS.to (L' := [Lg.dat tv (tD ts)]) (by walk_at "pick"))
      walk_at "w"
      have hS1 := hS.learn (v := .ref tq) (d := tD ts) (by walk_at "is")
      refine ⟨L, a, dx, pb, pp, tq, .ref tq, cuts, some 0, B, P, ts, ts, rfl, hS1.to (by walk_at "pick"), hok, fun pp' tv' H' hS2 => ?_⟩
      walk_at "w"
      exact hE pp' tv' H' rfl hS2
    · obtain ⟨m, rfl⟩ : ∃ m, n = m + 1 := ⟨n - 1, by omega⟩
      walk_at "w"
      refine w_fld hS (by walk_at "mem") cf.cls_Disk cf.na_Disk_left lk_l ?_
      dsimp only [lV]
      walk_at "w"
      refine w_sfld hS .here cf.cls_Disk cf.na_Disk_left (by show 5 < 1000; decide) fun H4 hS4 => ?_
      rw [put_l] at hS4
      refine hQ1 m H4 rfl ?_
      have e : V.int (((m + 1 : Nat) : Int) - 1) = lV (some m) := by show _ = V.int m; congr 1; omega
      rw [e] at hS4
      exact hS4
def spentTo (left left' : Option Nat) : Prop := (left = none ∧ left' = none) ∨ ∃ m, left = some (m + 1) ∧ left' = some m
def spWrite (K : PySem.W.Frag) : Sp := fun vs H Q E => ∃ (L : List Ent) (a dx pb pp qa : Addr) (tv : V) (cuts : Int) (left : Option Nat) (B : List (List Int)) (P : List (Nat × List Int)) (ts : List Nat) (k : Int) (b : List Int), vs = [.ref a, .int k, .ref qa] ∧
  St K (DL K a dx pb pp tv cuts left B P ts L) H ∧ DOK B P ts ∧ LsIn K L qa (b.map PyData.int) ∧ b.length ≤ 1000 ∧
  (¬ (0 ≤ k ∧ k < B.length) → ∀ d H', St K (xd d zat :: DL K a dx pb pp tv cuts left B P ts L) H' → E (.ref (XO K)) (some d) H') ∧
  ((0 ≤ k ∧ k < B.length) → isB b = false → ∀ d H', St K (xd d zblock :: DL K a dx pb pp tv cuts left B P ts L) H' → E (.ref (XO K)) (some d) H') ∧
  (∀ n : Nat, k = n → n < B.length → isB b = true → ∀ left' H', spentTo left left' → St K (DL K a dx pb pp tv cuts left' B (P ++ [(n, b)]) ts L) H' → Q .non H') ∧
  ((0 ≤ k ∧ k < B.length) → isB b = true → left = some 0 → ∀ pp' tv' H', St K (DL K a dx pb pp' tv' (cuts + 1) none (torn B P ts) [] [] L) H' → E (.ref (XP K)) none H')
theorem p_write (cf : CF K) (vs : List V) (H : Hp) (Q : VK) (E : XK) (h : spWrite K vs H Q E) : vs.length = 3 ∧ t_Disk_write K (spSpend K) (spIsBlock K) (spCheckAt K) E { nx := fun _ H' => Q .non H', rt := Q } (start N_Disk_write vs) H := by
  obtain ⟨L, a, dx, pb, pp, qa, tv, cuts, left, B, P, ts, k, b, rfl, hS, hok, hb, hbl, hE1, hE2, hQ, hE3⟩ := h
  refine ⟨rfl, ?_⟩
  unfold t_Disk_write
  walk_at "z"
  show tSeq _ _ _ [some (.ref a), some (.int k), some (.ref qa)] H
  walk_at "w"
  refine w_meth hS (.head _) (lk_no (by decide)) ?_
  walk_at "w"
  refine ⟨L, a, dx, pb, pp, tv, cuts, left, B, P, ts, k, rfl, hS, by have := hok.n1; omega, fun h0 h1 => ?_, fun hb d H' hS' => hE1 hb d H' hS'⟩
  obtain ⟨n, rfl⟩ := Int.eq_ofNat_of_zero_le h0
  have hn : n < B.length := by omega
  walk_at "w"
  refine ⟨_, qa, b, rfl, hS, by walk_at "lsin", hbl, ?_⟩
  walk_at "w"
  cases hB : isB b with
  | false =>
    walk_at "w"
    refine w_bt rfl ?_
    walk_at "w"
    exact w_mkO (v := .str (S zblock)) hS cf.ox_OutOfRange cf.xn_OutOfRange (fun R hR => by walk_at "w"; exact hR) fun d H' hS3 => hE2 ⟨h0, h1⟩ hB d H' hS3
  | true =>
    walk_at "w"
    refine w_bf rfl ?_
    walk_at "w"
    refine w_meth hS (.head _) (lk_no (by decide)) ?_
    walk_at "w"
    have go : ∀ left' H', spentTo left left' → St K (DL K a dx pb pp tv cuts left' B P ts L) H' → tDrop (tBM K "list" rAppend (tFld K (tVar 0) "_pending") (tCons (tTup (tCons (tVar 1) (tCons (tCB (rListOf K) (tCons (tVar 2) tNil)) tNil))) tNil)) { nx := fun _ H' => Q .non H', rt := Q } [some (.ref a), some (.int n), some (.ref qa)] H' := by
      intro left' H' hl hS1
      walk_at "w"
      refine w_fld hS1 (by walk_at "mem") cf.cls_Disk cf.na_Disk_pending lk_p ?_
      walk_at "w"
      rename_i q1 H1 hS2
      have hS3 := hS2.freeze
      clear hS2
      walk_at "w"
      rename_i q2 H2 hS4
      refine w_app hS4 (L' := _) (d := eD (n, b)) (by walk_at "put") (.dat (.head _)) (by rw [List.length_map]; have := hok.pn; omega) fun H3 hS5 => ?_
      refine hQ n rfl hn hB left' H3 hl ?_
      have e : P.map eD ++ [eD (n, b)] = (P ++ [(n, b)]).map eD := by simp
      rw [e] at hS5
      exact hS5.to (by walk_at "pick")
    refine ⟨L, a, dx, pb, pp, tv, cuts, left, B, P, ts, rfl, hS, hok, fun hl => ?_, fun m H' hl hS' => ?_, fun pp' tv' H' hl hS' => hE3 ⟨h0, h1⟩ hB hl pp' tv' H' hS'⟩
    · subst hl
      exact go none H (.inl ⟨rfl, rfl⟩) hS
    · exact go (some m) H' (.inr ⟨m, hl, rfl⟩) hS'
def spFlush (K : PySem.W.Frag) : Sp := fun vs H Q E => ∃ (L : List Ent) (a dx pb pp : Addr) (tv : V) (cuts : Int) (left : Option Nat) (B : List (List Int)) (P : List (Nat × List Int)) (ts : List Nat), vs = [.ref a] ∧
  St K (DL K a dx pb pp tv cuts left B P ts L) H ∧ DOK B P ts ∧
  (∀ left' pp' H', spentTo left left' → St K (DL K a dx pb pp' tv cuts left' (flushed B P) [] ts L) H' → Q .non H') ∧
  (left = some 0 → ∀ pp' tv' H', St K (DL K a dx pb pp' tv' (cuts + 1) none (torn B P ts) [] [] L) H' → E (.ref (XP K)) none H')
theorem p_flush (cf : CF K) (vs : List V) (H : Hp) (Q : VK) (E : XK) (h : spFlush K vs H Q E) : vs.length = 1 ∧ t_Disk_flush K (spSpend K) E { nx := fun _ H' => Q .non H', rt := Q } (start N_Disk_flush vs) H := by
  obtain ⟨L, a, dx, pb, pp, tv, cuts, left, B, P, ts, rfl, hS, hok, hQ, hE⟩ := h
  refine ⟨rfl, ?_⟩
  unfold t_Disk_flush
  show tSeq _ _ _ [some (.ref a), none, none] H
  walk_at "w"
  refine w_meth hS (.head _) (lk_no (by decide)) ?_
  walk_at "w"
  have go : ∀ left' H', spentTo left left' → St K (DL K a dx pb pp tv cuts left' B P ts L) H' → tSeq (tFor (iAny K (tFld K (tVar 0) "_pending")) (gUnp K 2 (gCons (gName 1) (gCons (gName 2) gNil))) (tAsg (tVar 2) (gSub (tFld K (tVar 0) "_blocks") (tVar 1) rSetL)))
    (sFld K (tVar 0) (tLst tNil) "_pending") { nx := fun _ H' => Q .non H', rt := Q } [some (.ref a), none, none] H' := by
    intro left' H' hl hS1
    walk_at "w"
    refine w_anyL1 ?_
    walk_at "w"
    refine w_fld hS1 (by walk_at "mem") cf.cls_Disk cf.na_Disk_pending lk_p ?_
    walk_at "w"
    refine w_forL (ds := P.map eD) (fun i σ H' => (∃ v2 v3, σ = [some (.ref a), v2, v3]) ∧ St K (DL K a dx pb pp tv cuts left' (flushed B (P.take i)) P ts L) H') ⟨⟨_, _, rfl⟩, hS1⟩ (fun i σ H' _ hI => ?_) (fun i d v σ H' hd hI hlrn => ?_) (fun σ H' hI => ?_)
    · exact ⟨_, hI.2, by walk_at "lsin"⟩
    · obtain ⟨⟨v2, v3, rfl⟩, hS2⟩ := hI
      obtain ⟨e, he, rfl⟩ := map_at hd
      have hS3 := hlrn _ hS2 (by walk_at "lsin")
      clear hlrn
      obtain ⟨aa, rfl⟩ := hS3.tup_of
      refine w_unpT2 hS3 (.dat (.head _)) fun u1 u2 hS4 => ?_
      obtain rfl := hS4.int_of
      walk_at "w"
      refine w_fld hS4 (by walk_at "mem") cf.cls_Disk cf.na_Disk_blocks lk_b ?_
      walk_at "w"
      refine w_setL (k := e.1) (d := bD e.2) hS4 (L' := _) (by walk_at "put") (.dat (by walk_at "mem")) rfl (by rw [List.length_map, flushed_len]; exact (hok.pe e (List.mem_of_getElem? he)).1) fun H6 hS5 => ?_
      refine ⟨⟨_, _, rfl⟩, ?_⟩
      rw [flushed_step he]
      unfold putB
      rw [set_map] at hS5
      exact hS5.to (by walk_at "pick")
    · obtain ⟨⟨v2, v3, rfl⟩, hS2⟩ := hI
      rw [List.length_map, List.take_length] at hS2
      walk_at "w"
      rename_i p1 H1 hS3
      refine w_sfld hS3 (.there .here) cf.cls_Disk cf.na_Disk_pending (by show 5 < 1000; decide) fun H4 hS4 => ?_
      rw [put_p] at hS4
      exact hQ left' p1 H4 hl (hS4.to (by walk_at "pick"))
  refine ⟨L, a, dx, pb, pp, tv, cuts, left, B, P, ts, rfl, hS, hok, fun hl => ?_, fun m H' hl hS' => ?_, fun pp' tv' H' hl hS' => hE hl pp' tv' H' hS'⟩
  · subst hl
    exact go none H (.inl ⟨rfl, rfl⟩) hS
  · exact go (some m) H' (.inr ⟨m, hl, rfl⟩) hS'
theorem okT_nat {ts : List Int} (h : okT ts = true) : ts.map PyData.int = (ts.map Int.toNat).map tI ∧ ∀ t ∈ ts.map Int.toNat, t ≤ 32 := by
  unfold okT at h
  rw [List.all_eq_true] at h
  refine ⟨?_, fun t ht => ?_⟩
  · rw [List.map_map]
    refine List.map_congr_left fun x hx => ?_
    have := h x hx
    simp only [Bool.and_eq_true, decide_eq_true_eq] at this
    show PyData.int x = PyData.int ((x.toNat : Nat) : Int)
    rw [Int.toNat_of_nonneg this.1]
  · obtain ⟨x, hx, rfl⟩ := List.mem_map.mp ht
    have := h x hx
    simp only [Bool.and_eq_true, decide_eq_true_eq] at this
    omega
theorem DOK.to {B : List (List Int)} {P : List (Nat × List Int)} {ts us : List Nat} (h : DOK B P ts) (h1 : us.length ≤ 1000) (h2 : ∀ t ∈ us, t ≤ 32) : DOK B P us := ⟨h.n0, h.n1, h.bl, h.pe, h.pn, h1, h2⟩
def spCutPower (K : PySem.W.Frag) : Sp := fun vs H Q E => ∃ (L : List Ent) (a dx pb pp qa : Addr) (tv : V) (cuts : Int) (left : Option Nat) (B : List (List Int)) (P : List (Nat × List Int)) (ts : List Nat) (us : List Int), vs = [.ref a, .ref qa] ∧
  St K (DL K a dx pb pp tv cuts left B P ts L) H ∧ DOK B P ts ∧ LsIn K L qa (us.map PyData.int) ∧ us.length ≤ 1000 ∧
  (okT us = false → ∀ d H', St K (xd d ztorn :: DL K a dx pb pp tv cuts left B P ts L) H' → E (.ref (XO K)) (some d) H') ∧
  (okT us = true → ∀ pp' tv' H', St K (DL K a dx pb pp' tv' (cuts + 1) none (torn B P (us.map Int.toNat)) [] [] L) H' → Q .non H')
theorem p_cut_power (cf : CF K) (vs : List V) (H : Hp) (Q : VK) (E : XK) (h : spCutPower K vs H Q E) : vs.length = 2 ∧ t_Disk_cut_power K (spCut K) (spCheckTorn K) E { nx := fun _ H' => Q .non H', rt := Q } (start N_Disk_cut_power vs) H := by
  obtain ⟨L, a, dx, pb, pp, qa, tv, cuts, left, B, P, ts, us, rfl, hS, hok, hu, hul, hE, hQ⟩ := h
  refine ⟨rfl, ?_⟩
  unfold t_Disk_cut_power
  show tSeq _ _ _ [some (.ref a), some (.ref qa)] H
  walk_at "w"
  refine ⟨_, qa, us, rfl, hS, by walk_at "lsin", fun h1 => ?_, fun h1 d H' hS' => hE h1 d H' hS'⟩
  obtain ⟨e1, e2⟩ := okT_nat h1
  walk_at "w"
  refine w_meth hS (.head _) (lk_no (by decide)) ?_
  walk_at "w"
  rename_i q1 H1 hS1
  have hS2 := hS1.freeze
  rw [e1] at hS2
  refine ⟨L, a, dx, pb, pp, q1, tv, cuts, left, B, P, us.map Int.toNat, ts, rfl, hS2.to (by walk_at "pick"), hok.to (by rw [List.length_map]; exact hul) e2, fun pp' tv' H' hS3 => ?_⟩
  exact hQ h1 pp' tv' H' hS3
def spPend (K : PySem.W.Frag) : Sp := fun vs H Q E => ∃ (L : List Ent) (a dx pb pp : Addr) (tv : V) (cuts : Int) (left : Option Nat) (B : List (List Int)) (P : List (Nat × List Int)) (ts : List Nat), vs = [.ref a] ∧ St K (DL K a dx pb pp tv cuts left B P ts L) H ∧ Q (.int P.length) H
theorem p_pend (cf : CF K) (vs : List V) (H : Hp) (Q : VK) (E : XK) (h : spPend K vs H Q E) : vs.length = 1 ∧ t_Disk_pending_count K { nx := fun _ H' => Q .non H', rt := Q } (start N_Disk_pending_count vs) H := by
  obtain ⟨L, a, dx, pb, pp, tv, cuts, left, B, P, ts, rfl, hS, hQ⟩ := h
  refine ⟨rfl, ?_⟩
  unfold t_Disk_pending_count
  show tRet _ _ [some (.ref a)] H
  walk_at "w"
  refine w_fld hS (by walk_at "mem") cf.cls_Disk cf.na_Disk_pending lk_p ?_
  walk_at "w"
  rw [List.length_map]
  exact hQ
def spCuts (K : PySem.W.Frag) : Sp := fun vs H Q E => ∃ (L : List Ent) (a dx pb pp : Addr) (tv : V) (cuts : Int) (left : Option Nat) (B : List (List Int)) (P : List (Nat × List Int)) (ts : List Nat), vs = [.ref a] ∧ St K (DL K a dx pb pp tv cuts left B P ts L) H ∧ Q (.int cuts) H
theorem p_cuts (cf : CF K) (vs : List V) (H : Hp) (Q : VK) (E : XK) (h : spCuts K vs H Q E) : vs.length = 1 ∧ t_Disk_cut_count K { nx := fun _ H' => Q .non H', rt := Q } (start N_Disk_cut_count vs) H := by
  obtain ⟨L, a, dx, pb, pp, tv, cuts, left, B, P, ts, rfl, hS, hQ⟩ := h
  refine ⟨rfl, ?_⟩
  unfold t_Disk_cut_count
  show tRet _ _ [some (.ref a)] H
  walk_at "w"
  exact w_fld hS (by walk_at "mem") cf.cls_Disk cf.na_Disk_cuts lk_c hQ
def B0 (n : Nat) : List (List Int) := List.replicate n (List.replicate 32 0)
theorem DOK.start {n : Nat} (h1 : 8 ≤ n) (h2 : n ≤ 400) : DOK (B0 n) [] [] := ⟨by simp [B0]; exact h1, by simp [B0]; exact h2, fun b hb => by rw [List.eq_of_mem_replicate hb]; simp, fun e he => (by cases he), (by simp), (by simp), fun t ht => (by cases ht)⟩
theorem b0_of {es : List PyData} {n : Nat} (h1 : es.length = n) (h2 : ∀ (i : Nat) (e : PyData), es[i]? = some e → e = bD (List.replicate 32 0)) : es = (B0 n).map bD := by
  have := list_by (f := fun _ => bD (List.replicate 32 0)) h1 h2
  rw [this]
  apply List.ext_getElem?
  intro i
  by_cases hi : i < n
  · simp [hi, B0]
  · simp [hi, B0]
def spInit (K : PySem.W.Frag) : Sp := fun vs H Q E => ∃ (L : List Ent) (a dx : Addr) (k : Int), vs = [.ref a, .int k] ∧ St K (Lg.own a (.ins (HD K) dx []) :: Lg.own dx (.own a) :: L) H ∧
  (∀ n : Nat, k = n → 8 ≤ n → n ≤ 400 → ∀ pb pp tv H', St K (DL K a dx pb pp tv 0 none (B0 n) [] [] L) H' → Q .non H') ∧
  (¬ (8 ≤ k ∧ k ≤ 400) → ∀ d H', St K (xd d zblocks :: L) H' → E (.ref (XO K)) (some d) H')
theorem p_init (cf : CF K) (vs : List V) (H : Hp) (Q : VK) (E : XK) (h : spInit K vs H Q E) : vs.length = 2 ∧ t_Disk_init K E { nx := fun _ H' => Q .non H', rt := Q } (start N_Disk_init vs) H := by
  obtain ⟨L, a, dx, k, rfl, hS, hQ, hE⟩ := h
  refine ⟨rfl, ?_⟩
  unfold t_Disk_init
  walk_at "z"
  show tSeq _ _ _ [some (.ref a), some (.int k), none] H
  walk_at "w"
  refine w_ite (fun h2 => ?_) (fun h2 => ?_)
  · rw [Bool.not_eq_true', Bool.and_eq_false_iff, decide_eq_false_iff_not, decide_eq_false_iff_not] at h2
    walk_at "w"
    exact w_mkO (v := .str (S zblocks)) hS cf.ox_OutOfRange cf.xn_OutOfRange (fun R hR => by walk_at "w"; exact hR) fun d H' hS3 => hE (by omega) d H' (hS3.to (by walk_at "pick"))
  · rw [Bool.not_eq_false', Bool.and_eq_true, decide_eq_true_eq, decide_eq_true_eq] at h2
    obtain ⟨n, rfl⟩ := Int.eq_ofNat_of_zero_le (show 0 ≤ k by omega)
    walk_at "w"
    refine w_lcR (R := fun _ e => e = bD (List.replicate 32 0)) hS (by omega) ?_ ?_
    · intro i q es H1 hi hlen hS1 Z hZ
      show gName 2 _ [some (.ref a), some (.int n), none] _ _
      walk_at "w"
      refine ⟨rfl, ?_⟩
      walk_at "w"
      rename_i q1 H2 hS2 q2 H3 hS3
      have hS4 := hS3.freeze
      exact hZ _ _ _ rfl (hS4.to (by walk_at "pick"))
    intro q es H1 hlen hes hS1
    rw [b0_of hlen hes] at hS1
    walk_at "w"
    refine w_sfld hS1 (.there .here) cf.cls_Disk cf.na_Disk_blocks (by show 0 < 1000; decide) fun H2 hS2 => ?_
    walk_at "w"
    rename_i p1 H3 hS3
    refine w_sfld hS3 (.there (.there .here)) cf.cls_Disk cf.na_Disk_pending (by show 1 < 1000; decide) fun H4 hS4 => ?_
    walk_at "w"
    refine w_sfld hS4 (.there (.there .here)) cf.cls_Disk cf.na_Disk_cuts (by show 2 < 1000; decide) fun H5 hS5 => ?_
    walk_at "w"
    refine w_sfld hS5 (.there (.there .here)) cf.cls_Disk cf.na_Disk_left (by show 3 < 1000; decide) fun H6 hS6 => ?_
    walk_at "w"
    rename_i p2 H7 hS7
    have hS8 := hS7.freeze
    refine w_sfld hS8 (.there (.there (.there .here))) cf.cls_Disk cf.na_Disk_torn (by show 4 < 1000; decide) fun H8 hS9 => ?_
    rw [put_0] at hS9
    have e : (Int.toNat ((n : Int))) = n := by omega
    rw [e] at hS9
    refine hQ n rfl (by omega) (by omega) q p1 (.ref p2) H8 ?_
    exact hS9.to (by walk_at "pick")
def spTorn (K : PySem.W.Frag) : Sp := fun vs H Q _ => ∃ (L : List Ent) (b : Addr) (m : Int), vs = [.ref b, .int m] ∧ St K L H ∧ bx K b ∈ L ∧ 0 ≤ m ∧ m ≤ 1000 ∧ 
  ∀ (q : Addr) (ts : List Nat) (H' : Hp), (∀ t ∈ ts, t ≤ 32) → ts.length ≤ 1000 → St K (Lg.ls K q (ts.map tI) :: L) H' → Q (.ref q) H'
theorem nats_of {es : List PyData} {n : Nat} (h : ∀ e ∈ es, ∃ t : Nat, t ≤ n ∧ e = tI t) : ∃ ts : List Nat, es = ts.map tI ∧ ∀ t ∈ ts, t ≤ n := by
  induction es with
  | nil => exact ⟨[], rfl, fun t ht => by cases ht⟩
  | cons e es ih =>
    obtain ⟨t, ht, rfl⟩ := h e (.head _)
    obtain ⟨ts, rfl, hts⟩ := ih fun e he => h e (.tail _ he)
    refine ⟨t :: ts, rfl, fun x hx => ?_⟩
    cases hx with
    | head => exact ht
    | tail _ hx => exact hts x hx
theorem p_torn (vs : List V) (H : Hp) (Q : VK) (E : XK) (h : spTorn K vs H Q E) : vs.length = 2 ∧ t_l_torn K (spDraw K) { nx := fun _ H' => Q .non H', rt := Q } (start N_l_torn vs) H := by
  obtain ⟨L, b, m, rfl, hS, hb, hm0, hm1, hQ⟩ := h
  obtain ⟨n, rfl⟩ := Int.eq_ofNat_of_zero_le hm0
  refine ⟨rfl, ?_⟩
  unfold t_l_torn
  show tSeq _ _ _ [some (.ref b), some (.int n), none, none] H
  have fin : ∀ q es H', es.length ≤ 1000 → (∀ e ∈ es, ∃ t : Nat, t ≤ 32 ∧ e = tI t) → St K (Lg.ls K q es :: L) H' → Q (.ref q) H' := by
    intro q es H' hl he hS'
    obtain ⟨ts, rfl, hts⟩ := nats_of he
    exact hQ q ts H' hts (by rw [List.length_map] at hl; exact hl) hS'
  walk_at "w"
  rename_i kind H1 k0 k1 hS1
  refine w_ifd (fun h1 => ?_) (fun h1 => ?_)
  · walk_at "w"
    rename_i q1 H2 hS2
    exact fin q1 [] H2 (by simp) (fun e he => by cases he) hS2
  walk_at "w"
  refine w_ifd (fun h2 => ?_) (fun h2 => ?_)
  · walk_at "w"
    rename_i q1 H2 hS2 q2 H3 hS3
    have hS4 := hS3.to (L' := Lg.ls K q2 (List.replicate (Int.toNat n) [PyData.int 32]).flatten :: L) (by walk_at "pick")
    refine fin q2 _ H3 (by simp; omega) (fun e he => ?_) hS4
    simp at he
    exact ⟨32, by omega, he.2⟩
  walk_at "w"
  refine w_ifd (fun h3 => ?_) (fun h3 => ?_)
  · walk_at "w"
    refine w_lcR (R := fun _ e => ∃ t : Nat, t ≤ 32 ∧ e = tI t) hS1 (by omega) ?_ ?_
    · intro i q es H1 hi hlen hS1 Z hZ
      show gName 3 _ [some (.ref b), some (.int n), some (.int kind), none] _ _
      walk_at "w"
      refine ⟨rfl, ?_⟩
      walk_at "w"
      rename_i k2 H2 k20 k21 hS2
      obtain ⟨t, rfl⟩ := Int.eq_ofNat_of_zero_le k20
      exact hZ _ (.int ((32 * t : Nat) : Int)) _ ⟨32 * t, by omega, rfl⟩ (by have := hS2.learn (v := .int (32 * (t : Int))) (d := .int ((32 * t : Nat) : Int)) (by rw [show (32 * (t : Int)) = ((32 * t : Nat) : Int) by omega]; exact .int); exact this)
    intro q es H1 hlen hes hS1
    refine fin _ _ _ (by omega) (fun e he => ?_) hS1
    obtain ⟨j, hj⟩ := List.getElem?_of_mem he
    exact hes j e hj
  · walk_at "w"
    refine w_lcR (R := fun _ e => ∃ t : Nat, t ≤ 32 ∧ e = tI t) hS1 (by omega) ?_ ?_
    · intro i q es H1 hi hlen hS1 Z hZ
      show gName 3 _ [some (.ref b), some (.int n), some (.int kind), none] _ _
      walk_at "w"
      refine ⟨rfl, ?_⟩
      walk_at "w"
      rename_i k2 H2 k20 k21 hS2
      obtain ⟨t, rfl⟩ := Int.eq_ofNat_of_zero_le k20
      exact hZ _ (.int (t : Int)) _ ⟨t, by omega, rfl⟩ (hS2.learn .int)
    intro q es H1 hlen hes hS1
    refine fin _ _ _ (by omega) (fun e he => ?_) hS1
    obtain ⟨j, hj⟩ := List.getElem?_of_mem he
    exact hes j e hj
end
/-! ### what the laws of disks share -/
section
variable {K : PySem.W.Frag} {L L' : List Ent} {H : Hp} {Q : VK} {a : Addr} {ds : List PyData}
theorem St.freezeIn (h : St K L H) (q : Put L (Lg.ls K a ds) (Lg.dat (.ref a) (.list ds)) L') : St K L' H := by
  obtain ⟨R, h1, h2⟩ := q.perm
  exact (h.perm h1).freeze.perm h2.symm
theorem w_makeSE {C : Addr} {sp : Sp} {E : L2.St → XK} {t : TA} {σ : L2.St} (h : t σ H fun vs H1 => ∀ x dx, H1 x = none → H1 dx = none → dx ≠ x →
    sp (.ref x :: vs) (upd (upd H1 dx (.own x)) x (.ins C dx [])) (fun v H2 => v = .non ∧ Q (.ref x) H2) (E σ)) : tMakeS C sp E t σ H Q := h
end
abbrev zrefused : List Nat := [114, 101, 102, 117, 115, 101, 100]
abbrev zcut : List Nat := [99, 117, 116]
abbrev refD (nm : List Nat) : PyData := .tuple [.str (S zrefused), .str (S nm)]
theorem shaped_dl {dd : List PyData} (h : ∀ d ∈ dd, Fit 2 d) : SeqAt.shaped (.list dd) = true := (fit_list h).shaped
theorem bD_fit (b : List Int) (n : Nat) : Fit (n + 1) (bD b) := fit_ints n b
theorem bD_shaped (b : List Int) : SeqAt.shaped (bD b) = true := (fit_ints 0 b).shaped
abbrev lD (e : Nat × List Int) : PyData := .list [.int e.1, bD e.2]
theorem seen_len {B : List (List Int)} {P : List (Nat × List Int)} {k : Nat} (h : ∀ b ∈ B, b.length = 32) (hk : k < B.length) (hp : ∀ e ∈ P, e.2.length = 32) : (seen B P k).length = 32 := by
  unfold seen
  have h0 := getD_len h hk
  revert h0
  generalize B.getD k [] = f
  induction P generalizing f with
  | nil => intro h0; exact h0
  | cons e P ih =>
    intro h0
    rw [List.foldl_cons]
    refine ih (fun e he => hp e (.tail _ he)) _ ?_
    by_cases h1 : e.1 = k
    · rw [if_pos h1]; exact hp e (.head _)
    · rw [if_neg h1]; exact h0
theorem nat_us {ts : List Nat} (h : ∀ t ∈ ts, t ≤ 32) : (ts.map Int.ofNat).map PyData.int = ts.map tI ∧ okT (ts.map Int.ofNat) = true ∧ (ts.map Int.ofNat).map Int.toNat = ts := by
  refine ⟨by rw [List.map_map]; rfl, ?_, ?_⟩
  · unfold okT
    rw [List.all_eq_true]
    intro x hx
    obtain ⟨t, ht, rfl⟩ := List.mem_map.mp hx
    have := h t ht
    have h1 : (0 : Int) ≤ Int.ofNat t := Int.natCast_nonneg t
    have h2 : Int.ofNat t ≤ 32 := by show (t : Int) ≤ 32; omega
    rw [decide_eq_true h1, decide_eq_true h2]
    rfl
  · rw [List.map_map]
    have : (Int.toNat ∘ Int.ofNat) = id := by funext x; rfl
    rw [this, List.map_id]
theorem refD_shaped : ∀ nm ∈ [zat, zblock, ztorn, zcut], SeqAt.shaped (refD nm) = true := by decide +kernel
theorem bytes_of {es : List PyData} (h : ∀ e ∈ es, ∃ t : Int, (0 ≤ t ∧ t ≤ 255) ∧ e = .int t) : ∃ bl : List Int, es = bl.map PyData.int ∧ ∀ t ∈ bl, 0 ≤ t ∧ t ≤ 255 := by
  induction es with
  | nil => exact ⟨[], rfl, fun t ht => by cases ht⟩
  | cons e es ih =>
    obtain ⟨t, ht, rfl⟩ := h e (.head _)
    obtain ⟨ts, rfl, hts⟩ := ih fun e he => h e (.tail _ he)
    refine ⟨t :: ts, rfl, fun x hx => ?_⟩
    cases hx with
    | head => exact ht
    | tail _ hx => exact hts x hx
theorem isB_of {bl : List Int} (h1 : bl.length = 32) (h2 : ∀ t ∈ bl, 0 ≤ t ∧ t ≤ 255) : isB bl = true := by
  unfold isB
  rw [decide_eq_true h1, Bool.true_and, List.all_eq_true]
  intro x hx
  have := h2 x hx
  simp [this.1, this.2]
section
variable {K : PySem.W.Frag}
section
variable {vs : List V} {H : Hp} {Q Q' : VK} {E E' : XK}
theorem spWrite.mono (h : spWrite K vs H Q E) (hQ : ∀ v H, Q v H → Q' v H) (hE : ∀ c d H, E c d H → E' c d H) : spWrite K vs H Q' E' := by
  obtain ⟨L, a, dx, pb, pp, qa, tv, cuts, left, B, P, ts, k, b, h1, hS, hok, hb, hbl, g1, g2, g3, g4⟩ := h
  exact ⟨L, a, dx, pb, pp, qa, tv, cuts, left, B, P, ts, k, b, h1, hS, hok, hb, hbl, fun x d H s => hE _ _ _ (g1 x d H s), fun x y d H s => hE _ _ _ (g2 x y d H s), fun n x y z l H s t => hQ _ _ (g3 n x y z l H s t), fun x y z p t H s => hE _ _ _ (g4 x y z p t H s)⟩
theorem spFlush.mono (h : spFlush K vs H Q E) (hQ : ∀ v H, Q v H → Q' v H) (hE : ∀ c d H, E c d H → E' c d H) : spFlush K vs H Q' E' := by
  obtain ⟨L, a, dx, pb, pp, tv, cuts, left, B, P, ts, h1, hS, hok, g1, g2⟩ := h
  exact ⟨L, a, dx, pb, pp, tv, cuts, left, B, P, ts, h1, hS, hok, fun l p H z s => hQ _ _ (g1 l p H z s), fun x p t H s => hE _ _ _ (g2 x p t H s)⟩
end
abbrev zmany : List Nat := [109, 97, 110, 121]
def spSchedule (K : PySem.W.Frag) : Sp := fun vs H Q E => ∃ (L : List Ent) (a dx pb pp qa : Addr) (tv : V) (cuts : Int) (left : Option Nat) (B : List (List Int)) (P : List (Nat × List Int)) (ts : List Nat) (k : Int) (us : List Int), vs = [.ref a, .int k, .ref qa] ∧
  St K (DL K a dx pb pp tv cuts left B P ts L) H ∧ LsIn K L qa (us.map PyData.int) ∧
  (¬ (0 ≤ k ∧ k ≤ 100000) → ∀ d H', St K (xd d zmany :: DL K a dx pb pp tv cuts left B P ts L) H' → E (.ref (XO K)) (some d) H') ∧
  ((0 ≤ k ∧ k ≤ 100000) → okT us = false → ∀ d H', St K (xd d ztorn :: DL K a dx pb pp tv cuts left B P ts L) H' → E (.ref (XO K)) (some d) H') ∧
  (∀ n : Nat, k = n → okT us = true → ∀ tv' H', St K (DL K a dx pb pp tv' cuts (some n) B P (us.map Int.toNat) L) H' → Q .non H')
theorem spSchedule.mono {vs : List V} {H : Hp} {Q Q' : VK} {E E' : XK} (h : spSchedule K vs H Q E) (hQ : ∀ v H, Q v H → Q' v H) (hE : ∀ c d H, E c d H → E' c d H) : spSchedule K vs H Q' E' := by
  obtain ⟨L, a, dx, pb, pp, qa, tv, cuts, left, B, P, ts, k, us, h1, hS, hu, g1, g2, g3⟩ := h
  exact ⟨L, a, dx, pb, pp, qa, tv, cuts, left, B, P, ts, k, us, h1, hS, hu, fun x d H s => hE _ _ _ (g1 x d H s), fun x y d H s => hE _ _ _ (g2 x y d H s), fun n x y t H s => hQ _ _ (g3 n x y t H s)⟩
theorem p_schedule (cf : CF K) (vs : List V) (H : Hp) (Q : VK) (E : XK) (h : spSchedule K vs H Q E) : vs.length = 3 ∧ t_Disk_schedule_cut K (spCheckTorn K) E { nx := fun _ H' => Q .non H', rt := Q } (start N_Disk_schedule_cut vs) H := by
  obtain ⟨L, a, dx, pb, pp, qa, tv, cuts, left, B, P, ts, k, us, rfl, hS, hu, hE1, hE2, hQ⟩ := h
  refine ⟨rfl, ?_⟩
  unfold t_Disk_schedule_cut
  walk_at "z"
  show tSeq _ _ _ [some (.ref a), some (.int k), some (.ref qa)] H
  walk_at "w"
  refine w_ite (fun h2 => ?_) (fun h2 => ?_)
  · rw [Bool.not_eq_true', Bool.and_eq_false_iff, decide_eq_false_iff_not, decide_eq_false_iff_not] at h2
    walk_at "w"
    exact w_mkO (v := .str (S zmany)) hS cf.ox_OutOfRange cf.xn_OutOfRange (fun R hR => by walk_at "w"; exact hR) fun d H' hS3 => hE1 (by omega) d H' hS3
  · rw [Bool.not_eq_false', Bool.and_eq_true, decide_eq_true_eq, decide_eq_true_eq] at h2
    walk_at "w"
    refine ⟨_, qa, us, rfl, hS, by walk_at "lsin", fun h1 => ?_, fun h1 d H' hS' => hE2 h2 h1 d H' hS'⟩
    obtain ⟨e1, e2⟩ := okT_nat h1
    obtain ⟨n, rfl⟩ := Int.eq_ofNat_of_zero_le h2.1
    walk_at "w"
    refine w_sfld hS .here cf.cls_Disk cf.na_Disk_left (by show 5 < 1000; decide) fun H4 hS4 => ?_
    rw [put_l] at hS4
    walk_at "w"
    rename_i q5 H5 hS5
    have hS6 := hS5.freeze
    rw [e1] at hS6
    refine w_sfld hS6 (.there .here) cf.cls_Disk cf.na_Disk_torn (by show 5 < 1000; decide) fun H7 hS7 => ?_
    rw [put_t] at hS7
    exact hQ n rfl h1 (.ref q5) H7 (hS7.to (by walk_at "pick"))
/-- what is raised is told -/
def EC (K : PySem.W.Frag) (Q : VK) : XK := fun cls d H => cls = .ref (XO K) ∧ ∃ (dd : Addr) (nm : List Nat) (L : List Ent), d = some dd ∧ St K (xd dd nm :: L) H ∧ ∀ q H', St K (Lg.dat (.ref q) (refD nm) :: xd dd nm :: L) H' → Q (.ref q) H'
section
variable {L : List Ent} {nm : List Nat} {d : Addr} {H : Hp} {Q : VK}
theorem EC_of {nm : List Nat} {d : Addr} (hS : St K (xd d nm :: L) H) (h : ∀ q H', St K (Lg.dat (.ref q) (refD nm) :: L) H' → Q (.ref q) H') : EC K Q (.ref (XO K)) (some d) H :=
  ⟨rfl, d, nm, L, rfl, hS, fun q H' hS' => h q H' (hS'.to (.cons .here (.drop .refl)))⟩
end
def spLSched (K : PySem.W.Frag) : Sp := fun vs H Q _ => spSchedule K vs H Q (EC K Q)
theorem p_lsched (cf : CF K) (vs : List V) (H : Hp) (Q : VK) (E : XK) (h : spLSched K vs H Q E) : vs.length = 3 ∧ t_l_schedule K (spSchedule K) { nx := fun _ H' => Q .non H', rt := Q } (start N_l_schedule vs) H := by
  have h0 := h
  obtain ⟨L, a, dx, pb, pp, qa, tv, cuts, left, B, P, ts, k, us, rfl, hS, _⟩ := h0
  refine ⟨rfl, ?_⟩
  unfold t_l_schedule
  walk_at "z"
  show tTry _ _ _ _ _ [some (.ref a), some (.int k), some (.ref qa), none] H
  walk_at "w"
  refine w_meth hS (.head _) (lk_no (by decide)) ?_
  walk_at "w"
  refine spSchedule.mono h (fun v H' hq => hq) (fun c d H' he => ?_)
  obtain ⟨rfl, dd, nm, L, rfl, hS, hq⟩ := he
  refine ⟨true, cf.em_OutOfRange_OutOfRange, fun _ a2 ha2 => ?_, fun z => by cases z⟩
  dsimp only [Cl.at_, Cl.ends, Cl.off, List.set]
  walk_at "w"
  refine w_xf (cls := .none) (x := .non) hS (.head _) (by rfl) (fun R hR => by walk_at "w"; exact hR) ?_
  walk_at "w"
  rename_i q1 H1 hS1
  exact hq q1 H1 hS1
def spDoRaw (K : PySem.W.Frag) : Sp := fun vs H Q E => ∃ (a : Addr) (k : Int) (blk : V), vs = [.ref a, .int k, blk] ∧ ((k = -1 ∧ spFlush K [.ref a] H Q E) ∨ (k ≠ -1 ∧ spWrite K [.ref a, .int k, blk] H Q E))
theorem spDoRaw.mono {vs : List V} {H : Hp} {Q Q' : VK} {E E' : XK} (h : spDoRaw K vs H Q E) (hQ : ∀ v H, Q v H → Q' v H) (hE : ∀ c d H, E c d H → E' c d H) : spDoRaw K vs H Q' E' := by
  obtain ⟨a, w, one, h1, h2⟩ := h
  refine ⟨a, w, one, h1, ?_⟩
  rcases h2 with ⟨h3, h4⟩ | ⟨h3, h4⟩
  · exact .inl ⟨h3, h4.mono hQ hE⟩
  · exact .inr ⟨h3, h4.mono hQ hE⟩
theorem p_do_raw (vs : List V) (H : Hp) (Q : VK) (E : XK) (h : spDoRaw K vs H Q E) : vs.length = 3 ∧ t_l_do_raw K (spWrite K) (spFlush K) E { nx := fun _ H' => Q .non H', rt := Q } (start N_l_do_raw vs) H := by
  obtain ⟨a, k, blk, rfl, h⟩ := h
  refine ⟨rfl, ?_⟩
  unfold t_l_do_raw
  show tSeq _ _ _ [some (.ref a), some (.int k), some blk] H
  rcases h with ⟨rfl, h⟩ | ⟨hk, h⟩
  · walk_at "w"
    refine w_ifp rfl ?_
    walk_at "w"
    have h' := h
    obtain ⟨L, a', dx, pb, pp, tv, cuts, left, B, P, ts, e, hS, _⟩ := h'
    cases e
    refine w_meth hS (.head _) (lk_no (by decide)) ?_
    walk_at "w"
    exact h
  · walk_at "w"
    refine w_ifq (by omega) ?_
    walk_at "w"
    have h' := h
    obtain ⟨L, a', dx, pb, pp, qa, tv, cuts, left, B, P, ts, k, b, e, hS, _⟩ := h'
    cases e
    refine w_meth hS (.head _) (lk_no (by decide)) ?_
    walk_at "w"
    exact h
def EC2 (K : PySem.W.Frag) (Q : VK) : XK := fun cls d H => EC K Q cls d H ∨ (cls = .ref (XP K) ∧ d = none ∧ ∃ L, St K L H ∧ ∀ q H', St K (Lg.dat (.ref q) (refD zcut) :: L) H' → Q (.ref q) H')
def spDo (K : PySem.W.Frag) : Sp := fun vs H Q _ => spDoRaw K vs H Q (EC2 K Q)
theorem p_do (cf : CF K) (vs : List V) (H : Hp) (Q : VK) (E : XK) (h : spDo K vs H Q E) : vs.length = 3 ∧ t_l_do K (spDoRaw K) { nx := fun _ H' => Q .non H', rt := Q } (start N_l_do vs) H := by
  have h0 := h
  obtain ⟨a, k, blk, rfl, _⟩ := h0
  refine ⟨rfl, ?_⟩
  unfold t_l_do
  walk_at "z"
  show tSeq _ _ _ [some (.ref a), some (.int k), some blk, none, none] H
  walk_at "w"
  refine spDoRaw.mono h (fun v H' hq => ?_) (fun c d H' he => ?_)
  · walk_at "w"
    exact hq
  · rcases he with ⟨rfl, dd, nm, L, rfl, hS, hq⟩ | ⟨rfl, rfl, L, hS, hq⟩
    · refine ⟨false, cf.em_OutOfRange_PowerCut, (fun z => by cases z), fun _ => ⟨true, cf.em_OutOfRange_OutOfRange, fun _ a2 ha2 => ?_, fun z => by cases z⟩⟩
      dsimp only [Cl.at_, Cl.ends, Cl.off, List.set]
      walk_at "w"
      refine w_xf (cls := .none) (x := .non) hS (.head _) (by rfl) (fun R hR => by walk_at "w"; exact hR) ?_
      walk_at "w"
      rename_i q1 H1 hS1
      exact hq q1 H1 hS1
    · refine ⟨true, cf.em_PowerCut_PowerCut, fun _ a2 ha2 => ?_, fun z => by cases z⟩
      dsimp only [Cl.at_, Cl.ends, Cl.off, List.set]
      walk_at "w"
      refine w_and ?_
      walk_at "w"
      refine ⟨rfl, rfl, ?_⟩
      walk_at "w"
      refine ⟨.ref (He.ga K "ModuleError"), .ref (He.ga K "ModuleError"), true, rfl, fun u hu => hu, cf.kit_PowerCut_ModuleError, ?_⟩
      walk_at "w"
      refine ⟨rfl, rfl, ?_⟩
      walk_at "w"
      refine ⟨.ref (He.ga K "OutOfRange"), .ref (He.ga K "OutOfRange"), false, rfl, fun u hu => hu, cf.kit_PowerCut_OutOfRange, ?_⟩
      walk_at "w"
      refine w_bt rfl ?_
      walk_at "w"
      rename_i q1 H1 hS1
      exact hq q1 H1 hS1
end
end K42

/-! k42: the law -/
namespace K42
open PySem PySem.Spec PyProof.Rows L2 Lg
local macro_rules | `(tactic| walk_at "ar") => `(tactic| first | omega | (simp; done) | (simp; omega) | (simp only [S_len]; omega) | (simp [Lg.repL_len]; done) | (simp [Lg.repL_len]; omega))
local macro_rules | `(tactic| walk_at "gt") => `(tactic| repeat (first | exact GetAt.here | apply GetAt.there))
local macro_rules | `(tactic| walk_at "st") => `(tactic| repeat (first | exact SetAt.here | apply SetAt.there))
local macro_rules | `(tactic| walk_at "mem") => `(tactic| first | assumption | exact List.mem_cons_self | (apply List.mem_cons_of_mem; walk_at "mem"))
local macro_rules | `(tactic| walk_at "put") => `(tactic| repeat (first | exact Put.here | apply Put.there))
local macro_rules | `(tactic| walk_at "rem") => `(tactic| repeat (first | exact Rem.here | apply Rem.there))
local macro_rules | `(tactic| walk_at "pick") => `(tactic| first | exact Pick.refl | exact Pick.cons (by walk_at "rem") (by walk_at "pick") | (apply Pick.drop; walk_at "pick") | exact Pick.nil)
local macro_rules | `(tactic| walk_at "is") => `(tactic| first | exact Is.int | exact Is.str | exact Is.bl | exact Is.non | assumption | exact Is.dat (by walk_at "mem") | (apply Is.cons; walk_at "is"))
local macro_rules | `(tactic| walk_at "isall") => `(tactic| first | exact IsAll.nil | exact IsAll.cons (by walk_at "is") (by walk_at "isall"))
local macro_rules | `(tactic| walk_at "lsin") => `(tactic| first | assumption | exact LsIn.own (by walk_at "mem") | exact LsIn.dat (by walk_at "mem") | (apply LsIn.cons; walk_at "lsin"))
local macro_rules | `(tactic| walk_at "see") => `(tactic| first | exact See.own (by walk_at "mem") | exact See.is (by walk_at "is"))
local macro_rules | `(tactic| walk_at "w1") => `(tactic| first
  | (with_reducible apply Lg.w_seq)
  | (with_reducible apply Lg.w_asg)
  | ((with_reducible show gName _ _ _ _ _); (with_reducible refine Lg.w_name (by walk_at "st") ?_))
  | ((with_reducible show tVar _ _ _ _); (with_reducible refine Lg.w_var (by walk_at "gt") ?_))
  | (with_reducible apply Lg.w_c)
  | (with_reducible apply Lg.w_op)
  | (with_reducible apply Lg.w_un)
  | (with_reducible apply Lg.w_nil)
  | (with_reducible apply Lg.w_cons)
  | (with_reducible apply Lg.w_call)
  | (with_reducible apply Lg.w_cb)
  | (with_reducible apply Lg.w_tup)
  | (with_reducible apply Lg.w_lst)
  | (with_reducible apply Lg.w_bm)
  | (with_reducible apply Lg.w_bm0)
  | (with_reducible apply Lg.w_sl)
  | (with_reducible apply Lg.w_nopart)
  | (with_reducible apply Lg.w_part)
  | (with_reducible apply Lg.w_isint)
  | (with_reducible apply Lg.w_test)
  | (with_reducible apply Lg.w_tB)
  | (with_reducible apply Lg.w_isbl')
  | (with_reducible apply Lg.w_not)
  | (with_reducible apply Lg.w_tru)
  | (with_reducible apply Lg.w_truI)
  | (with_reducible apply Lg.w_truB)
  | (with_reducible apply Lg.w_ifs)
  | (with_reducible apply Lg.w_next)
  | (with_reducible apply Lg.w_break)
  | (with_reducible apply Lg.w_cont)
  | (with_reducible apply Lg.w_ret)
  | (with_reducible apply Lg.w_retn)
  | (with_reducible apply Lg.w_drop)
  | (with_reducible apply Lg.w_sub)
  | (with_reducible apply Lg.w_gnil)
  | (with_reducible apply Lg.w_gcons)
  | (with_reducible apply Lg.w_ifT)
  | (with_reducible apply Lg.w_ifF)
  | (with_reducible apply Lg.w_add)
  | (with_reducible apply Lg.w_sub2)
  | ((with_reducible show rTimes (V.int _) (V.int _) _ _); (with_reducible refine Lg.w_mulR (by omega) ?_))
  | ((with_reducible show rTimes (V.int _) (V.int _) _ _); (with_reducible refine Lg.w_mulL (by omega) ?_))
  | ((with_reducible show rMod (V.int _) (V.int _) _ _); (with_reducible refine Lg.w_mod (by first | decide | omega) ?_))
  | ((with_reducible show rFdiv (V.int _) (V.int _) _ _); (with_reducible refine Lg.w_fdiv (by first | decide | omega) ?_))
  | (with_reducible apply Lg.w_band)
  | (with_reducible apply Lg.w_lt)
  | (with_reducible apply Lg.w_le)
  | (with_reducible apply Lg.w_gt)
  | (with_reducible apply Lg.w_ge)
  | (with_reducible apply Lg.w_eqI)
  | (with_reducible apply Lg.w_neI)
  | (with_reducible apply Lg.w_intI2)
  | (with_reducible apply Lg.w_neg)
  | (with_reducible apply Lg.w_inSS)
  | (with_reducible apply Lg.w_ninSS)
  | (with_reducible apply Lg.w_inSS')
  | (with_reducible apply Lg.w_neSS)
  | (with_reducible apply Lg.w_strS)
  | (with_reducible apply Lg.w_fldE)
  | (with_reducible apply Lg.w_sfldE)
  | (with_reducible apply Lg.w_makeE)
  | (with_reducible apply Lg.w_methE)
  | (with_reducible apply Lg.w_methSE)
  | (with_reducible apply Lg.w_callS)
  | (with_reducible apply Lg.w_raiseO)
  | (with_reducible apply Lg.w_raiseB)
  | (with_reducible apply Lg.w_try)
  | (with_reducible apply Lg.w_strS)
  | (with_reducible apply Lg.w_eqSS)
  | (with_reducible apply Lg.w_eqS)
  | (with_reducible apply Lg.w_neS)
  | (with_reducible apply Lg.w_isN)
  | (with_reducible apply Lg.w_isR)
  | (with_reducible apply Lg.w_isI)
  | (with_reducible apply Lg.w_isS)
  | (with_reducible apply Lg.w_nsN)
  | (with_reducible apply Lg.w_nsR)
  | (with_reducible apply Lg.w_nsI)
  | (with_reducible apply Lg.w_nsS)
  | (with_reducible apply Lg.w_int)
  | (with_reducible apply Lg.w_intb)
  | (with_reducible apply Lg.w_ord1)
  | (with_reducible apply Lg.w_tyS)
  | (with_reducible apply Lg.w_inSg)
  | (with_reducible apply Lg.w_ninSg)
  | ((with_reducible show NewL _ _ _); (with_reducible refine Lg.w_newL (by assumption) (by walk_at "isall") (by simp) ?_); (intro p' H' hS'))
  | ((with_reducible show NewT _ _ _); (with_reducible refine Lg.w_newT (by assumption) (by walk_at "isall") (by simp) ?_); (intro p' H' hS'))
  | ((with_reducible show TyThen _ _ (V.ref _) _ _); (with_reducible refine Lg.w_tyL (by assumption) (by walk_at "lsin") ?_))
  | ((with_reducible show rLenX _ [V.ref _] _ _); (with_reducible refine Lg.w_lenL (by assumption) (by walk_at "lsin") ?_))
  | ((with_reducible show rLenX _ [V.ref _] _ _); (with_reducible refine Lg.w_lenT (by assumption) (by walk_at "is") ?_))
  | ((with_reducible show spDraw _ _ _ _ _); (with_reducible refine Lg.w_draw (by assumption) (by walk_at "mem") (by first | decide | omega) ?_); (intro k' H' hk0' hk1' hS'))
  | ((with_reducible show rSlX _ (V.ref _) _ _ _ _); (with_reducible refine Lg.w_slL (by assumption) (by walk_at "lsin") ?_); (intro p' H' hS'))
  | ((with_reducible show rListOf _ [V.ref _] _ _); (with_reducible refine Lg.w_listL (by assumption) (by walk_at "lsin") ?_); (intro p' H' hS'))
  | (with_reducible apply Lg.w_for)
  | (with_reducible apply Lg.w_lc)
  | ((with_reducible show iAny _ (tVar _) _ _ _); (with_reducible refine Lg.w_anyVar (by walk_at "gt") ?_))
  | (with_reducible apply Lg.w_anyC)
  | (with_reducible apply Lg.w_vS)
  | (with_reducible apply Lg.w_itS)
  | ((with_reducible show AnyV _ (V.ref _) _ _); (with_reducible refine Lg.w_vL (by assumption) (by walk_at "lsin") ?_))
  | ((with_reducible show AnyL _ (V.ref _) _ _); (with_reducible refine Lg.w_itL (by assumption) (by walk_at "lsin") ?_))
  | ((with_reducible show AnyV _ (V.ref _) _ _); (with_reducible refine Lg.w_vT (by assumption) (by walk_at "is") ?_))
  | ((with_reducible show AnyT _ (V.ref _) _ _); (with_reducible refine Lg.w_itT (by assumption) (by walk_at "is") ?_))
  | ((with_reducible show Enu _ [V.ref _] _ _); (with_reducible refine Lg.w_itE (by assumption) (by walk_at "lsin") ?_))
  | ((with_reducible show rPlus _ (V.ref _) (V.ref _) _ _); (with_reducible refine Lg.w_plusL (by assumption) (by walk_at "lsin") (by walk_at "lsin") (by walk_at "ar") ?_); (intro p' H' hS'))
  | ((with_reducible show rTimes (V.ref _) (V.int _) _ _); (with_reducible refine Lg.w_repLs (by assumption) (by walk_at "lsin") (by walk_at "ar") (by walk_at "ar") (by walk_at "ar") ?_); (intro p' H' hS'))
  | ((with_reducible show rLenX _ [V.str (S _)] _ _); (with_reducible refine Lg.w_lenSS (by walk_at "ar") ?_))
  | ((with_reducible show rLenX _ [V.str _] _ _); (with_reducible refine Lg.w_lenS (by walk_at "ar") ?_))
  | ((with_reducible show rSlX _ (V.str _) _ _ _ _); (with_reducible refine Lg.w_slS (by walk_at "ar") ?_))
  | (with_reducible apply Lg.w_rng1)
  | (with_reducible apply Lg.w_rng2)
  | (with_reducible apply Lg.w_rng3)
  | (with_reducible apply Lg.w_enum)
  | ((with_reducible show Rng1 _ _ _); (with_reducible refine Lg.w_itR1 (by omega) ?_))
  | ((with_reducible show Rng2 _ _ _); (with_reducible refine Lg.w_itR2 (by omega) (by omega) ?_))
  | ((with_reducible show rIx _ (V.ref _) (V.int _) _ _); (with_reducible refine Lg.w_ixN (by assumption) (by walk_at "lsin") (by walk_at "ar") (by walk_at "ar") ?_))
  | ((with_reducible show rPlus _ (V.str (S _)) (V.str (S _)) _ _); (with_reducible refine Lg.w_addSS (by walk_at "ar") ?_))
  | ((with_reducible show rTimes (V.str (S _)) (V.int _) _ _); (with_reducible refine Lg.w_repSS (by walk_at "ar") (by walk_at "ar") (by walk_at "ar") ?_))
  | ((with_reducible show rIsi _ [V.ref _, V.ty "list"] _ _); (with_reducible refine Lg.w_isLL (by assumption) (by walk_at "lsin") ?_))
  | ((with_reducible show rIsi _ [V.ref _, V.ty "tuple"] _ _); (with_reducible refine Lg.w_isTT (by assumption) (by walk_at "is") ?_))
  | (with_reducible apply Lg.w_isII)
  | (with_reducible apply Lg.w_isSI)
  | (with_reducible apply Lg.w_isSS)
  | (with_reducible apply Lg.w_isIS)
  | (with_reducible apply Lg.w_ifexp)
  | (with_reducible apply Lg.w_chain)
  | ((with_reducible show ChainK _ _ _ _ _ _ _); (with_reducible refine Lg.w_chainLe (by (intro R' hR'; walk_at "w"; exact hR')) ?_))
  | ((with_reducible show ChainK _ _ _ _ _ _ _); (with_reducible refine Lg.w_chainLt (by (intro R' hR'; walk_at "w"; exact hR')) ?_))
  | ((with_reducible show tAnd _ _ _ _ _); (with_reducible refine Lg.w_andP (by (intro R' hR'; walk_at "w"; exact hR')) (by (intro hb' R' hR'; walk_at "w"; exact hR')) ?_))
  | ((with_reducible show tOr _ _ _ _ _); (with_reducible refine Lg.w_orP (by (intro R' hR'; walk_at "w"; exact hR')) (by (intro hb' R' hR'; walk_at "w"; exact hR')) ?_))
  | ((with_reducible show tAndV _ _ _ _ _); (with_reducible refine Lg.w_andVP (by (intro R' hR'; walk_at "w"; exact hR')) (by (intro hb' R' hR'; walk_at "w"; exact hR')) ?_))
  | ((with_reducible show tOrV _ _ _ _ _); (with_reducible refine Lg.w_orVP (by (intro R' hR'; walk_at "w"; exact hR')) (by (intro hb' R' hR'; walk_at "w"; exact hR')) ?_))
  | (with_reducible apply Lg.w_notV))
local macro_rules | `(tactic| walk_at "w") => `(tactic| repeat (walk_at "w1"))
local macro_rules | `(tactic| walk_at "z") => `(tactic| simp only [z_0, z_1, z_2, z_3, z_4, z_5, z_6, z_7])
section
variable {K : PySem.W.Frag}
theorem w_and2 {tt tu : TT} {σ : L2.St} {H : Hp} {R0 : Bool → Hp → Prop} (P : Bool → Hp → Prop) (h : ∀ R : Bool → Hp → Prop, (∀ c H1, P c H1 → R c H1) → tAnd tt tu σ H R) (k : ∀ c H1, P c H1 → R0 c H1) : tAnd tt tu σ H R0 := h R0 k
theorem torn_nil {B : List (List Int)} {P : List (Nat × List Int)} : torn B P [] = B := by cases P <;> (unfold torn; rfl)
theorem DOK.flushed {B : List (List Int)} {P : List (Nat × List Int)} {ts : List Nat} (h : DOK B P ts) : DOK (K42.flushed B P) [] ts :=
  ⟨by rw [flushed_len]; exact h.n0, by rw [flushed_len]; exact h.n1, flushed_bl h.bl fun e he => (h.pe e he).2, fun e he => (by cases he), by simp, h.tn, h.tb⟩
theorem DOK.torn {B : List (List Int)} {P : List (Nat × List Int)} {ts us : List Nat} (h : DOK B P us) (ht : ∀ t ∈ ts, t ≤ 32) : DOK (K42.torn B P ts) [] [] :=
  ⟨by rw [torn_len]; exact h.n0, by rw [torn_len]; exact h.n1, torn_bl h.bl h.pe ht, fun e he => (by cases he), by simp, by simp, fun t ht => (by cases ht)⟩
theorem DOK.more {B : List (List Int)} {P : List (Nat × List Int)} {n : Nat} {b : List Int} {ts : List Nat} (h : DOK B P ts) (h1 : n < B.length) (h2 : b.length = 32) (h3 : P.length + 1 ≤ 1000) : DOK B (P ++ [(n, b)]) ts :=
  ⟨h.n0, h.n1, h.bl, fun e he => by
    rcases List.mem_append.mp he with he | he
    · exact h.pe e he
    · simp only [List.mem_cons, List.mem_nil_iff, or_false] at he
      subst he
      exact ⟨h1, h2⟩, by simp; omega, h.tn, h.tb⟩
section
variable {L : List Ent} {a dx pb pp qa : Addr} {tv : V} {cuts : Int} {left : Option Nat} {B : List (List Int)} {P : List (Nat × List Int)} {ts : List Nat} {k : Int} {b us : List Int} {H : Hp} {Q : VK} {E : XK}
theorem do_at (hS : St K (DL K a dx pb pp tv cuts left B P ts L) H) (hok : DOK B P ts) (hb : LsIn K L qa (b.map PyData.int)) (hbl : b.length ≤ 1000) (hk1 : k ≠ -1) (hk : ¬ (0 ≤ k ∧ k < B.length))
    (h : ∀ q H', St K (Lg.dat (.ref q) (refD zat) :: DL K a dx pb pp tv cuts left B P ts L) H' → Q (.ref q) H') : spDo K [.ref a, .int k, .ref qa] H Q E :=
  ⟨a, k, _, rfl, .inr ⟨hk1, L, a, dx, pb, pp, qa, tv, cuts, left, B, P, ts, k, b, rfl, hS, hok, hb, hbl, fun _ d H' hS' => .inl (EC_of hS' h), fun z => absurd z hk, fun n hn hn2 => absurd ⟨by omega, by omega⟩ hk, fun z => absurd z hk⟩⟩
theorem do_block (hS : St K (DL K a dx pb pp tv cuts left B P ts L) H) (hok : DOK B P ts) (hb : LsIn K L qa (b.map PyData.int)) (hbl : b.length ≤ 1000) (hk : 0 ≤ k ∧ k < B.length) (hB : isB b = false)
    (h : ∀ q H', St K (Lg.dat (.ref q) (refD zblock) :: DL K a dx pb pp tv cuts left B P ts L) H' → Q (.ref q) H') : spDo K [.ref a, .int k, .ref qa] H Q E :=
  ⟨a, k, _, rfl, .inr ⟨by omega, L, a, dx, pb, pp, qa, tv, cuts, left, B, P, ts, k, b, rfl, hS, hok, hb, hbl, fun z => absurd hk z, fun _ _ d H' hS' => .inl (EC_of hS' h), fun n hn hn2 z => (by rw [hB] at z; cases z), fun _ z => (by rw [hB] at z; cases z)⟩⟩
theorem isB_len (h : isB b = true) : b.length = 32 := by
  unfold isB at h
  simp only [Bool.and_eq_true, decide_eq_true_eq] at h
  exact h.1
theorem do_cut (hS : St K (DL K a dx pb pp tv cuts (some 0) B P ts L) H) (hok : DOK B P ts) (hb : LsIn K L qa (b.map PyData.int)) (hk : k = -1 ∨ (0 ≤ k ∧ k < B.length)) (hB : isB b = true)
    (h : ∀ q pp' tv' H', St K (Lg.dat (.ref q) (refD zcut) :: DL K a dx pb pp' tv' (cuts + 1) none (torn B P ts) [] [] L) H' → Q (.ref q) H') : spDo K [.ref a, .int k, .ref qa] H Q E := by
  have hbl := isB_len hB
  by_cases hk1 : k = -1
  · refine ⟨a, k, _, rfl, .inl ⟨hk1, L, a, dx, pb, pp, tv, cuts, some 0, B, P, ts, rfl, hS, hok, fun left' pp' H' hl hS' => ?_, fun _ pp' tv' H' hS' => .inr ⟨rfl, rfl, _, hS', fun q H'' hS'' => h q pp' tv' H'' hS''⟩⟩⟩
    rcases hl with ⟨z, _⟩ | ⟨m, z, _⟩ <;> cases z
  · refine ⟨a, k, _, rfl, .inr ⟨hk1, L, a, dx, pb, pp, qa, tv, cuts, some 0, B, P, ts, k, b, rfl, hS, hok, hb, by omega, fun z => absurd (by omega) z, fun _ z => (by rw [hB] at z; cases z), fun n hn hn2 _ left' H' hl hS' => ?_, fun _ _ _ pp' tv' H' hS' => .inr ⟨rfl, rfl, _, hS', fun q H'' hS'' => h q pp' tv' H'' hS''⟩⟩⟩
    rcases hl with ⟨z, _⟩ | ⟨m, z, _⟩ <;> cases z
theorem do_ok (hS : St K (DL K a dx pb pp tv cuts left B P ts L) H) (hl0 : left ≠ some 0) (hok : DOK B P ts) (hb : LsIn K L qa (b.map PyData.int)) (hk : k = -1 ∨ (0 ≤ k ∧ k < B.length)) (hB : isB b = true)
    (h : ∀ left' pp' B' P' H', spentTo left left' → ((k = -1 ∧ B' = flushed B P ∧ P' = []) ∨ ∃ n : Nat, k = n ∧ n < B.length ∧ B' = B ∧ P' = P ++ [(n, b)]) → St K (DL K a dx pb pp' tv cuts left' B' P' ts L) H' → Q .non H') : spDo K [.ref a, .int k, .ref qa] H Q E := by
  have hbl := isB_len hB
  by_cases hk1 : k = -1
  · exact ⟨a, k, _, rfl, .inl ⟨hk1, L, a, dx, pb, pp, tv, cuts, left, B, P, ts, rfl, hS, hok, fun left' pp' H' hl hS' => h left' pp' _ _ H' hl (.inl ⟨hk1, rfl, rfl⟩) hS', fun z => absurd z hl0⟩⟩
  · exact ⟨a, k, _, rfl, .inr ⟨hk1, L, a, dx, pb, pp, qa, tv, cuts, left, B, P, ts, k, b, rfl, hS, hok, hb, by omega, fun z => absurd (by omega) z, fun _ z => (by rw [hB] at z; cases z), fun n hn hn2 _ left' H' hl hS' => h left' pp _ _ H' hl (.inr ⟨n, hn, hn2, rfl, rfl⟩) hS', fun _ _ z => absurd z hl0⟩⟩
end
def lI : Option Nat → Int
  | none => -1
  | some n => n
abbrev LW (K : PySem.W.Frag) (b a dx pb pp : Addr) (tv : V) (c : Int) (left : Option Nat) (B : List (List Int)) (P : List (Nat × List Int)) (ts tl : List Nat) (pB pq qt : Addr) : List Ent :=
  DL K a dx pb pp tv c left B P ts (Lg.ls K pB (B.map bD) :: Lg.ls K pq (P.map lD) :: Lg.ls K qt (tl.map tI) :: [bx K b])
def Inv (K : PySem.W.Frag) (s b a dx pb pB : Addr) (n k : Nat) : L2.St → Hp → Prop := fun σ H => ∃ v9 v10 v11 v12 v13 v14 v15 v16 v17 pp tv c left B P ts tl pq qt,
  σ = [some (.ref s), some (.ref b), some (.int n), some (.ref a), some (.ref pB), some (.ref pq), some (.int (lI left)), some (.ref qt), some (.int c), v9, v10, v11, v12, v13, v14, v15, v16, v17] ∧ St K (LW K b a dx pb pp tv c left B P ts tl pB pq qt) H ∧ DOK B P ts ∧ B.length = n ∧ P.length ≤ k ∧ (∀ t ∈ tl, t ≤ 32) ∧ tl.length ≤ 1000 ∧ (left ≠ none → ts = tl)
def spLaw (K : PySem.W.Frag) : Sp := fun vs H Q _ => ∃ (a : Addr) (ns : List Int), vs = [.ref a] ∧ Only H ∧ SqL K H a (ns.map V.int) ∧ CF K ∧ ∀ H', Q (.bl true) H'
theorem p_law (vs : List V) (H : Hp) (Q : VK) (E : XK) (h : spLaw K vs H Q E) : vs.length = 1 ∧ t_law K (spRead K) (spCutPower K) (spPend K) (spCuts K) (spLSched K) (spDraw K) (spTorn K) (spDo K) (spInit K) (spDigits K) { nx := fun _ H' => Q .non H', rt := Q } (start N_law vs) H := by
  obtain ⟨s, ns, rfl, hO, hs, cf, hQ⟩ := h
  refine ⟨rfl, ?_⟩
  have hS0 := St.begin hO hs
  unfold t_law
  walk_at "z"
  show tSeq _ _ _ [some (.ref s), none, none, none, none, none, none, none, none, none, none, none, none, none, none, none, none, none] H
  walk_at "w"
  refine ⟨_, s, ns, 0, 63, rfl, hS0, by walk_at "mem", by decide, by decide, by decide, by decide, fun p0 ms H1 hS1 => ?_⟩
  walk_at "w"
  refine w_newBox hS1 fun b H2 hS2 => ?_
  walk_at "w"
  rename_i k3 H3 k30 k31 hS3
  obtain ⟨m0, rfl⟩ := Int.eq_ofNat_of_zero_le k30
  have e8 : (8 : Int) + (m0 : Int) = ((8 + m0 : Nat) : Int) := by omega
  rw [e8]
  have hm1 : 8 ≤ 8 + m0 := by omega
  have hm2 : 8 + m0 ≤ 400 := by omega
  generalize 8 + m0 = m at hm1 hm2 ⊢
  have hS4 := hS3.to (L' := [bx K b]) (by walk_at "pick")
  clear hS0 hS1 hS2 hS3 e8
  walk_at "w"
  refine w_makeSE ?_
  walk_at "w"
  intro a dx hx hdx hne
  refine ⟨_, a, dx, m, rfl, hS4.born hx hdx hne, fun m' hm hm1' hm2' pb pp tv H5 hS5 => ⟨rfl, ?_⟩, fun z => absurd ⟨by omega, by omega⟩ z⟩
  obtain rfl : m' = m := by omega
  clear hS4 hm1' hm2'
  walk_at "w"
  refine w_lcR (R := fun _ e => e = bD (List.replicate 32 0)) hS5 (by omega) ?_ ?_
  · intro i q es H1 hi hlen hS1 Z hZ
    show gName 15 _ [some (.ref s), some (.ref b), some (.int m'), some (.ref a), none, none, none, none, none, none, none, none, none, none, none, none, none, none] _ _
    walk_at "w"
    refine ⟨rfl, ?_⟩
    walk_at "w"
    rename_i q1 H2 hS2 q2 H3 hS3
    have hS4 := hS3.freeze
    exact hZ _ _ _ rfl (hS4.to (by walk_at "pick"))
  intro pB es H6 hlen hes hS6
  rw [b0_of hlen hes] at hS6
  have em : (Int.toNat (m' : Int)) = m' := by omega
  rw [em] at hS6
  walk_at "w"
  rename_i pq H7 hS7 qt H8 hS8
  have hS9 := hS8.to (L' := LW K b a dx pb pp tv 0 none (B0 m') [] [] [] pB pq qt) (by walk_at "pick")
  clear hS5 hS6 hS7 hS8
  refine w_forR (Inv K s b a dx pb pB m') ⟨_, _, _, _, _, _, _, _, _, pp, tv, 0, none, B0 m', [], [], [], pq, qt, rfl, hS9, .start hm1 hm2, by simp [B0], Nat.le_refl _, (fun t ht => by cases ht), by simp, fun _ => rfl⟩ ?_ ?_
  · rintro i σ H1 hi ⟨v9, v10, v11, v12, v13, v14, v15, v16, v17, pp, tv, c, left, B, P, ts, tl, pq, qt, rfl, hS1, hok, hBn, hPi, htl, htl2, hlt⟩
    clear hS9
    walk_at "w"
    rename_i kind H2 kd0 kd1 hS2
    clear hS1
    refine w_cut (fun σ' H' => Inv K s b a dx pb pB m' (i + 1) σ' H') ?_ ?_
    · walk_at "w"
      refine w_ite (fun hk => ?_) (fun hk => ?_)
      · walk_at "w"
        rename_i kl H3 kl0 kl1 hS3
        obtain ⟨ln, rfl⟩ := Int.eq_ofNat_of_zero_le kl0
        refine ⟨_, b, 9, rfl, hS3, by walk_at "mem", by decide, by decide, fun qu us H4 hub hul hS4 => ?_⟩
        obtain ⟨u1, u2, u3⟩ := nat_us hub
        clear hS2 hS3
        walk_at "w"
        rename_i qh H5 hS5
        refine w_or ?_
        walk_at "w"
        rename_i q32 H6 hS6
        have hS7 := hS6.to (L' := DL K a dx pb pp tv c left B P ts (Lg.ls K q32 [.int 32] :: Lg.ls K qh (us.map tI) :: Lg.ls K qu (us.map tI) :: Lg.ls K pB (B.map bD) :: Lg.ls K pq (P.map lD) :: [bx K b])) (by walk_at "pick")
        clear hS4 hS5 hS6
        refine ⟨_, a, dx, pb, pp, q32, tv, c, left, B, P, ts, 100000, [32], rfl, hS7, by walk_at "lsin", fun z => absurd (by decide) z, fun _ z => absurd z (by decide), fun n1 hn1 _ tv1 H8 hS8 => ?_⟩
        clear hS7
        walk_at "w"
        refine ⟨_, a, dx, pb, pp, qh, tv1, c, some n1, B, P, _, ln, us.map Int.ofNat, rfl, hS8, by rw [u1]; walk_at "lsin", fun z => absurd (by omega) z, fun _ z => (by rw [u2] at z; cases z), fun n2 hn2 _ tv2 H9 hS9 => ?_⟩
        obtain rfl : n2 = ln := by omega
        rw [u3] at hS9
        clear hS8
        walk_at "w"
        refine w_app hS9 (L' := _) (d := .int 1) (by walk_at "put") .int (by rw [List.length_map]; omega) fun H10 hS10 => ?_
        clear hS9
        walk_at "w"
        rename_i p11 H11 hS11 k12 H12 k120 k121 hS12
        refine w_ixLP (P := fun m => m = -1 ∨ m = 100001) hS12 (by walk_at "lsin") (by omega) (by simp; omega) (fun d hd => ?_) fun x hx => ?_
        · simp only [List.mem_cons, List.mem_nil_iff, or_false] at hd
          rcases hd with rfl | rfl
          · exact ⟨_, rfl, .inl rfl⟩
          · exact ⟨_, rfl, .inr rfl⟩
        clear hS10 hS11
        walk_at "w"
        rename_i q33 H13 hS13
        have hS14 := hS13.to (L' := DL K a dx pb pp tv2 c (some n2) B P us (Lg.ls K q33 [.int 33] :: Lg.ls K qu (us.map tI) :: Lg.ls K pB (B.map bD) :: Lg.ls K pq (P.map lD) :: [bx K b])) (by walk_at "pick")
        clear hS12 hS13
        refine ⟨_, a, dx, pb, pp, q33, tv2, c, some n2, B, P, us, x, [33], rfl, hS14, by walk_at "lsin", fun _ d H' hS' => EC_of hS' fun q14 H14 hS15 => ?_, fun z => absurd z (by omega), fun n hn z => absurd z (by decide)⟩
        walk_at "w"
        rename_i q15 H15 hS16
        refine w_ne1 (d := refD zmany) hS16 (.is (.dat (by walk_at "mem"))) (.is (.dat (.head _))) (by decide +kernel) ?_
        have hS17 := hS16.to (L' := DL K a dx pb pp tv2 c (some n2) B P us (Lg.ls K qu (us.map tI) :: Lg.ls K pB (B.map bD) :: Lg.ls K pq (P.map lD) :: [bx K b])) (by walk_at "pick")
        clear hS14 hS15 hS16
        walk_at "w"
        rename_i q33 H13 hS13
        have hS14 := hS13.to (L' := DL K a dx pb pp tv2 c (some n2) B P us (Lg.ls K q33 [.int 33] :: Lg.ls K qu (us.map tI) :: Lg.ls K pB (B.map bD) :: Lg.ls K pq (P.map lD) :: [bx K b])) (by walk_at "pick")
        clear hS17 hS13
        refine ⟨_, a, dx, pb, pp, q33, tv2, c, some n2, B, P, us, 3, [33], rfl, hS14, by walk_at "lsin", fun z => absurd (by decide) z, fun _ _ d H' hS' => EC_of hS' fun q14 H14 hS15 => ?_, fun n hn z => absurd z (by decide)⟩
        walk_at "w"
        rename_i q15 H15 hS16
        refine w_ne1 (d := refD ztorn) hS16 (.is (.dat (by walk_at "mem"))) (.is (.dat (.head _))) (by decide +kernel) ?_
        walk_at "w"
        exact ⟨_, _, _, _, _, _, _, _, _, pp, tv2, c, some n2, B, P, us, us, pq, qu, rfl, hS16.to (by walk_at "pick"), hok.to hul hub, hBn, by omega, hub, hul, fun _ => rfl⟩
      walk_at "w"
      refine w_and2 (fun c0 H1 => St K (LW K b a dx pb pp tv c left B P ts tl pB pq qt) H1) (fun R hR => ?_) ?_
      · refine w_and ?_
        walk_at "w"
        refine w_ifd (fun h1 => ?_) (fun h1 => ?_)
        · walk_at "w"
          rename_i k4 H4 k40 k41 hS4
          exact hR _ _ hS4
        · exact hR _ _ hS2
      rintro c0 H3 hS3
      clear hS2
      refine w_ite (fun hc0 => ?_) (fun hc0 => ?_)
      · walk_at "w"
        refine w_meth hS3 (.head _) (lk_no (by decide)) ?_
        walk_at "w"
        rename_i q4 H4 hS4
        have hS5 := hS4.to (L' := DL K a dx pb pp tv c left B P ts (Lg.ls K q4 [] :: Lg.ls K pB (B.map bD) :: Lg.ls K pq (P.map lD) :: Lg.ls K qt (tl.map tI) :: [bx K b])) (by walk_at "pick")
        clear hS3 hS4
        refine ⟨_, a, dx, pb, pp, q4, tv, c, left, B, P, ts, [], rfl, hS5, hok, by walk_at "lsin", by simp, fun z => (by cases z), fun _ pp' tv' H6 hS6 => ?_⟩
        have e0 : ([] : List Int).map Int.toNat = [] := rfl
        rw [e0, torn_nil] at hS6
        walk_at "w"
        rename_i pq' H7 hS7
        exact ⟨_, _, _, _, _, _, _, _, _, pp', tv', c + 1, none, B, [], [], tl, pq', qt, rfl, hS7.to (by walk_at "pick"), ⟨hok.n0, hok.n1, hok.bl, fun e he => (by cases he), by simp, by simp, fun t ht => (by cases ht)⟩, hBn, Nat.zero_le _, htl, htl2, fun z => absurd rfl z⟩
      walk_at "w"
      refine w_ifd (fun hk2 => ?_) (fun hk2 => ?_)
      · walk_at "w"
        refine w_or ?_
        walk_at "w"
        rename_i q4 H4 hS4 q5 H5 hS5
        have hS6 := hS5.to (L' := DL K a dx pb pp tv c left B P ts (Lg.ls K q5 ((List.replicate 32 (0 : Int)).map PyData.int) :: Lg.ls K pB (B.map bD) :: Lg.ls K pq (P.map lD) :: Lg.ls K qt (tl.map tI) :: [bx K b])) (by walk_at "pick")
        clear hS3 hS4 hS5
        refine do_at hS6 hok (by walk_at "lsin") (by decide) (by omega) (by omega) fun q7 H7 hS7 => ?_
        walk_at "w"
        rename_i q8 H8 hS8
        refine w_ne1 (d := refD zat) hS8 (.is (.dat (by walk_at "mem"))) (.is (.dat (.head _))) (by decide +kernel) ?_
        have hS9 := hS8.to (L' := LW K b a dx pb pp tv c left B P ts tl pB pq qt) (by walk_at "pick")
        clear hS6 hS7 hS8
        walk_at "w"
        rename_i q4 H4 hS4 q5 H5 hS5
        have hS6 := hS5.to (L' := DL K a dx pb pp tv c left B P ts (Lg.ls K q5 ((List.replicate 31 (0 : Int)).map PyData.int) :: Lg.ls K pB (B.map bD) :: Lg.ls K pq (P.map lD) :: Lg.ls K qt (tl.map tI) :: [bx K b])) (by walk_at "pick")
        clear hS9 hS4 hS5
        refine do_block hS6 hok (by walk_at "lsin") (by decide) (by omega) (by decide) fun q7 H7 hS7 => ?_
        walk_at "w"
        rename_i q8 H8 hS8
        refine w_ne1 (d := refD zblock) hS8 (.is (.dat (by walk_at "mem"))) (.is (.dat (.head _))) (by decide +kernel) ?_
        walk_at "w"
        exact ⟨_, _, _, _, _, _, _, _, _, pp, tv, c, left, B, P, ts, tl, pq, qt, rfl, hS8.to (by walk_at "pick"), hok, hBn, by omega, htl, htl2, hlt⟩
      · walk_at "w"
        refine w_cut (fun σ' H' => ∃ k : Int, σ' = [some (.ref s), some (.ref b), some (.int m'), some (.ref a), some (.ref pB), some (.ref pq), some (.int (lI left)), some (.ref qt), some (.int c), some (.int (0 + i)), some (.int kind), v11, some (.int k), v13, v14, v15, v16, v17] ∧ (k = -1 ∨ (0 ≤ k ∧ k < B.length)) ∧ St K (LW K b a dx pb pp tv c left B P ts tl pB pq qt) H') ?_ ?_
        · walk_at "w"
          refine w_ifd (fun h1 => ?_) (fun h1 => ?_)
          · walk_at "w"
            rename_i kk H4 kk0 kk1 hS4
            exact ⟨kk, rfl, .inr ⟨kk0, by omega⟩, hS4⟩
          · walk_at "w"
            exact ⟨_, rfl, .inl rfl, hS3⟩
        rintro σ4 H4 ⟨k, rfl, hk, hS4⟩
        clear hS3
        walk_at "w"
        refine w_lcR (R := fun _ e => ∃ t : Int, (0 ≤ t ∧ t ≤ 255) ∧ e = .int t) hS4 (by omega) ?_ ?_
        · intro i2 q es H1 hi2 hlen hS1 Z hZ
          show gName 15 _ [some (.ref s), some (.ref b), some (.int m'), some (.ref a), some (.ref pB), some (.ref pq), some (.int (lI left)), some (.ref qt), some (.int c), some (.int (0 + i)), some (.int kind), v11, some (.int k), v13, v14, none, v16, v17] _ _
          walk_at "w"
          refine ⟨rfl, ?_⟩
          walk_at "w"
          rename_i k2 H2 k20 k21 hS2
          exact hZ _ (.int _) _ ⟨_, by omega, rfl⟩ (hS2.learn .int)
        intro q es H5 hlen hes hS5
        obtain ⟨bl, rfl, hbl⟩ := bytes_of (es := es) fun e he => by
          obtain ⟨j, hj⟩ := List.getElem?_of_mem he
          exact hes j e hj
        rw [List.length_map] at hlen
        have hB := isB_of hlen hbl
        clear hS4
        walk_at "w"
        rename_i qh H6 hS6
        have hS7 := hS6.to (L' := DL K a dx pb pp tv c left B P ts (Lg.ls K qh (bl.map PyData.int) :: Lg.ls K q (bl.map PyData.int) :: Lg.ls K pB (B.map bD) :: Lg.ls K pq (P.map lD) :: Lg.ls K qt (tl.map tI) :: [bx K b])) (by walk_at "pick")
        clear hS5 hS6
        by_cases hl0 : left = some 0
        · subst hl0
          obtain rfl := hlt (by simp)
          refine do_cut hS7 hok (by walk_at "lsin") hk hB fun q8 pp' tv' H8 hS8 => ?_
          clear hS7
          walk_at "w"
          refine w_ifp rfl ?_
          walk_at "w"
          rename_i q9 H9 hS9
          refine w_ne1 (d := refD zcut) hS9 (.is (.dat (by walk_at "mem"))) (.is (.dat (.head _))) (by decide +kernel) ?_
          have hS10 := hS9.to (L' := DL K a dx pb pp' tv' (c + 1) none (torn B P ts) [] [] (Lg.ls K qt (ts.map tI) :: Lg.ls K pB (B.map bD) :: Lg.ls K pq (P.map lD) :: [bx K b])) (by walk_at "pick")
          clear hS8 hS9
          walk_at "w"
          refine ⟨_, _, rfl, ?_⟩
          generalize hz' : (if (_ : Int) < _ then (_ : Int) else _) = z'
          have hz2 : z'.toNat = min ts.length P.length := by
            rw [← hz', List.length_map, List.length_map]
            split <;> omega
          have hz3 : 0 ≤ z' ∧ z' ≤ 1000 := by
            rw [← hz', List.length_map, List.length_map]
            split <;> omega
          clear hz'
          walk_at "w"
          refine w_forR (fun i2 σ H' => (∃ v15 v16, σ = [some (.ref s), some (.ref b), some (.int m'), some (.ref a), some (.ref pB), some (.ref pq), some (.int (lI (some 0))), some (.ref qt), some (.int c), some (.int (0 + i)), some (.int kind), v11, some (.int k), some (.ref q), some (.ref q8), v15, v16, v17]) ∧
            St K (DL K a dx pb pp' tv' (c + 1) none (torn B P ts) [] [] (Lg.ls K qt (ts.map tI) :: Lg.ls K pB ((torn B (P.take i2) ts).map bD) :: Lg.ls K pq (P.map lD) :: [bx K b])) H') ⟨⟨_, _, rfl⟩, ?_⟩ ?_ ?_
          · have e0 : torn B (P.take 0) ts = B := by rw [List.take_zero]; unfold torn; rfl
            rw [e0]
            exact hS10
          · rintro i2 σ H9 hi2 ⟨⟨v15, v16, rfl⟩, hS10⟩
            rw [hz2] at hi2
            have hi3 : i2 < P.length := by omega
            have hi4 : i2 < ts.length := by omega
            obtain ⟨e, he⟩ : ∃ e, P[i2]? = some e := ⟨_, List.getElem?_eq_getElem hi3⟩
            obtain ⟨t, ht⟩ : ∃ t, ts[i2]? = some t := ⟨_, List.getElem?_eq_getElem hi4⟩
            have hem := hok.pe e (List.mem_of_getElem? he)
            have htl' := htl t (List.mem_of_getElem? ht)
            have hlen' : (torn B (P.take i2) ts).length = B.length := torn_len
            have hbl : ∀ b ∈ torn B (P.take i2) ts, b.length = 32 := torn_bl hok.bl (fun e he => hok.pe e (List.mem_of_mem_take he)) htl
            have hgl := getD_len hbl (k := e.1) (by omega)
            have hte : (ts.map tI)[i2]? = some (.int (t : Int)) := by rw [List.getElem?_map, ht]; rfl
            have hpe : (P.map lD)[i2]? = some (lD e) := by rw [List.getElem?_map, he]; rfl
            walk_at "w"
            refine w_ixL (k := i2) hS10 (by walk_at "lsin") (by omega) hpe fun v5 hS11 => ?_
            obtain ⟨a5, rfl⟩ := hS11.lst_of
            walk_at "w"
            refine w_ixLi (k := 0) (m := e.1) hS11 (.dat (.head _)) rfl rfl ?_
            walk_at "w"
            refine w_ixL (k := i2) hS10 (by walk_at "lsin") (by omega) hpe fun v6' hS12 => ?_
            obtain ⟨a6, rfl⟩ := hS12.lst_of
            walk_at "w"
            refine w_ixL (k := 1) (d := bD e.2) hS12 (.dat (.head _)) rfl rfl fun v7' hS13 => ?_
            obtain ⟨a7, rfl⟩ := St.set_lst hS13
            clear hS11 hS12
            walk_at "w"
            refine w_ixLi (k := i2) (m := t) hS13 (by walk_at "lsin") (by omega) hte ?_
            walk_at "w"
            rename_i q1 H10 hS14
            rw [cutD_no (b := t) rfl] at hS14
            refine w_ixL (k := e.1) hS14 (by walk_at "lsin") rfl (bD_at (by omega)) fun v8' hS15 => ?_
            obtain ⟨a8, rfl⟩ := St.set_lst hS15
            clear hS13
            walk_at "w"
            refine w_ixLi (k := i2) (m := t) hS15 (by walk_at "lsin") (by omega) hte ?_
            walk_at "w"
            rename_i q2 H11 hS16
            rw [cutD_on (a := t) rfl] at hS16
            refine w_plusL hS16 (.own (by walk_at "mem")) (.own (by walk_at "mem")) (by rw [List.length_take, List.length_drop, List.length_map, List.length_map, hgl, hem.2]; omega) fun q4 H12 hS17 => ?_
            have hS18 := hS17.freeze
            rw [← List.map_take, ← List.map_drop, ← List.map_append] at hS18
            clear hS14 hS15 hS16 hS17
            walk_at "w"
            refine w_setL (k := e.1) hS18 (L' := _) (by walk_at "put") (.dat (.head _)) rfl (by rw [List.length_map]; omega) fun H13 hS19 => ?_
            refine ⟨⟨_, _, rfl⟩, ?_⟩
            rw [torn_step he, ht]
            dsimp only
            unfold tear
            rw [set_map] at hS19
            exact hS19.to (by walk_at "pick")
          · rintro σ H9 ⟨⟨v15, v16, rfl⟩, hS10⟩
            rw [hz2, torn_take (Nat.le_refl _)] at hS10
            walk_at "w"
            rename_i pq' H10 hS11
            exact ⟨_, _, _, _, _, _, _, _, _, pp', tv', c + 1, none, torn B P ts, [], [], ts, pq', qt, rfl, hS11.to (by walk_at "pick"), hok.torn htl, by rw [torn_len]; exact hBn, Nat.zero_le _, htl, htl2, fun z => absurd rfl z⟩
        · refine do_ok hS7 hl0 hok (by walk_at "lsin") hk hB fun left' pp' B' P' H8 hls hcase hS8 => ?_
          clear hS7
          have hl1 : ¬ lI left = 0 := by
            cases left with
            | none => decide
            | some n =>
              intro z
              apply hl0
              have : (n : Int) = 0 := z
              congr 1
              omega
          have hlt' : left' ≠ none → ts = tl := by
            intro z
            apply hlt
            rcases hls with ⟨_, rfl⟩ | ⟨m, rfl, _⟩
            · exact absurd rfl z
            · simp
          walk_at "w"
          refine w_ifq hl1 ?_
          walk_at "w"
          refine w_cut (fun σ' H' => σ' = [some (.ref s), some (.ref b), some (.int m'), some (.ref a), some (.ref pB), some (.ref pq), some (.int (lI left')), some (.ref qt), some (.int c), some (.int (0 + i)), some (.int kind), v11, some (.int k), some (.ref q), some .non, v15, v16, v17] ∧ St K (DL K a dx pb pp' tv c left' B' P' ts (Lg.ls K q (bl.map PyData.int) :: Lg.ls K pB (B.map bD) :: Lg.ls K pq (P.map lD) :: Lg.ls K qt (tl.map tI) :: [bx K b])) H') ?_ ?_
          · walk_at "w"
            rcases hls with ⟨rfl, rfl⟩ | ⟨n, rfl, rfl⟩
            · refine w_ifq (by decide) ?_
              walk_at "w"
              exact ⟨rfl, hS8.to (by walk_at "pick")⟩
            · refine w_ifp (by show (0 : Int) < ((n + 1 : Nat) : Int); omega) ?_
              walk_at "w"
              have e : lI (some (n + 1)) - 1 = lI (some n) := by show ((n + 1 : Nat) : Int) - 1 = (n : Int); omega
              rw [e]
              exact ⟨rfl, hS8.to (by walk_at "pick")⟩
          rintro σ9 H9 ⟨rfl, hS9⟩
          clear hS8
          walk_at "w"
          rcases hcase with ⟨rfl, rfl, rfl⟩ | ⟨n, rfl, hn, rfl, rfl⟩
          · refine w_ifp rfl ?_
            walk_at "w"
            refine w_forL (ds := P.map lD) (fun i2 σ H' => (∃ v17, σ = [some (.ref s), some (.ref b), some (.int m'), some (.ref a), some (.ref pB), some (.ref pq), some (.int (lI left')), some (.ref qt), some (.int c), some (.int (0 + i)), some (.int kind), v11, some (.int (-1)), some (.ref q), some .non, v15, v16, v17]) ∧
              St K (DL K a dx pb pp' tv c left' (flushed B P) [] ts (Lg.ls K pB ((flushed B (P.take i2)).map bD) :: Lg.ls K pq (P.map lD) :: Lg.ls K qt (tl.map tI) :: [bx K b])) H') ⟨⟨_, rfl⟩, hS9.to (by walk_at "pick")⟩ (fun i2 σ H' _ hI => ?_) (fun i2 d v σ H' hd hI hlrn => ?_) (fun σ H' hI => ?_)
            · exact ⟨_, hI.2, by walk_at "lsin"⟩
            · obtain ⟨⟨v9, rfl⟩, hS4⟩ := hI
              obtain ⟨e, he, rfl⟩ := map_at hd
              have hS5 := hlrn _ hS4 (by walk_at "lsin")
              clear hlrn
              obtain ⟨aa, rfl⟩ := hS5.lst_of
              walk_at "w"
              refine w_ixL (k := 1) (d := bD e.2) hS5 (.dat (.head _)) rfl rfl fun v5 hS6 => ?_
              walk_at "w"
              refine w_ixLi (k := 0) (m := e.1) hS6 (.dat (.tail _ (.head _))) rfl rfl ?_
              refine w_setL (k := e.1) (d := bD e.2) hS6 (L' := _) (by walk_at "put") (.dat (by walk_at "mem")) rfl (by rw [List.length_map, flushed_len]; exact (hok.pe e (List.mem_of_getElem? he)).1) fun H6 hS7 => ?_
              refine ⟨⟨_, rfl⟩, ?_⟩
              rw [flushed_step he]
              unfold putB
              rw [set_map] at hS7
              exact hS7.to (by walk_at "pick")
            · obtain ⟨⟨v9, rfl⟩, hS4⟩ := hI
              rw [List.length_map, List.take_length] at hS4
              walk_at "w"
              rename_i pq' H5 hS5
              exact ⟨_, _, _, _, _, _, _, _, _, pp', tv, c, left', flushed B P, [], ts, tl, pq', qt, rfl, hS5.to (by walk_at "pick"), hok.flushed, by rw [flushed_len]; exact hBn, Nat.zero_le _, htl, htl2, hlt'⟩
          · refine w_ifq (by omega) ?_
            have hS11 := St.freezeIn (a := q) hS9 (by walk_at "put")
            clear hS9
            walk_at "w"
            rename_i q3 H10 hS12
            have hS13 := hS12.freeze
            clear hS11 hS12
            refine w_app hS13 (L' := _) (d := lD (n, bl)) (by walk_at "put") (.dat (.head _)) (by rw [List.length_map]; omega) fun H11 hS14 => ?_
            walk_at "w"
            have e : P.map lD ++ [lD (n, bl)] = (P ++ [(n, bl)]).map lD := by simp
            rw [e] at hS14
            exact ⟨_, _, _, _, _, _, _, _, _, pp', tv, c, left', B', P ++ [(n, bl)], ts, tl, pq, qt, rfl, hS14.to (by walk_at "pick"), hok.more hn hlen (by omega), hBn, by simp; omega, htl, htl2, hlt'⟩
    · rintro σ2 H2 ⟨v9, v10, v11, v12, v13, v14, v15, v16, v17, pp, tv, c, left, B, P, ts, tl, pq, qt, rfl, hS2, hok, hBn, hPi, htl, htl2, hlt⟩
      walk_at "w"
      refine w_or ?_
      walk_at "w"
      refine w_meth hS2 (.head _) (lk_no (by decide)) ?_
      walk_at "w"
      refine ⟨_, a, dx, pb, pp, tv, c, left, B, P, ts, rfl, hS2, ?_⟩
      walk_at "w"
      refine w_ifnd (fun z => absurd (by simp) z) (fun _ => ?_)
      walk_at "w"
      refine w_meth hS2 (.head _) (lk_no (by decide)) ?_
      walk_at "w"
      refine ⟨_, a, dx, pb, pp, tv, c, left, B, P, ts, rfl, hS2, ?_⟩
      walk_at "w"
      refine w_ifnd (fun z => absurd rfl z) (fun _ => ?_)
      walk_at "w"
      exact ⟨_, _, _, _, _, _, _, _, _, pp, tv, c, left, B, P, ts, tl, pq, qt, rfl, hS2, hok, hBn, hPi, htl, htl2, hlt⟩
  · rintro σ H1 ⟨v9, v10, v11, v12, v13, v14, v15, v16, v17, pp, tv, c, left, B, P, ts, tl, pq, qt, rfl, hS1, hok, hBn, hPi, htl, htl2, hlt⟩
    clear hS9
    walk_at "w"
    refine w_meth hS1 (.head _) (lk_no (by decide)) ?_
    walk_at "w"
    rename_i q4 H4 hS4
    have hS5 := hS4.to (L' := DL K a dx pb pp tv c left B P ts (Lg.ls K q4 [] :: Lg.ls K pB (B.map bD) :: [])) (by walk_at "pick")
    clear hS1 hS4
    refine ⟨_, a, dx, pb, pp, q4, tv, c, left, B, P, ts, [], rfl, hS5, hok, by walk_at "lsin", by simp, fun z => (by cases z), fun _ pp' tv' H6 hS6 => ?_⟩
    have e0 : ([] : List Int).map Int.toNat = [] := rfl
    rw [e0, torn_nil] at hS6
    clear hS5
    have hok' : DOK B [] [] := ⟨hok.n0, hok.n1, hok.bl, fun e he => (by cases he), by simp, by simp, fun t ht => (by cases ht)⟩
    walk_at "w"
    refine w_lcR (R := fun i2 e => e = bD (B.getD i2 [])) hS6 (by omega) ?_ ?_
    · intro i2 q es H1 hi2 hlen hS1 Z hZ
      show gName 12 _ [some (.ref s), some (.ref b), some (.int m'), some (.ref a), some (.ref pB), some (.ref pq), some (.int (lI left)), some (.ref qt), some (.int c), v9, v10, v11, none, v13, v14, v15, v16, v17] _ _
      walk_at "w"
      refine ⟨rfl, ?_⟩
      walk_at "w"
      have hS2 := hS1.to (L' := DL K a dx pb pp' tv' (c + 1) none B [] [] (Lg.ls K q es :: Lg.ls K q4 [] :: Lg.ls K pB (B.map bD) :: [])) (by walk_at "pick")
      refine w_meth hS2 (.head _) (lk_no (by decide)) ?_
      walk_at "w"
      refine ⟨_, a, dx, pb, pp', tv', c + 1, none, B, [], [], _, rfl, hS2, hok', fun n' hn' hlt q5 H5 hS8 => ?_, fun z => absurd ⟨by omega, by omega⟩ z⟩
      obtain rfl : n' = i2 := by omega
      have hS9 := hS8.freeze
      exact hZ _ _ _ rfl (hS9.to (by walk_at "pick"))
    intro q es H7 hlen hes hS7
    have hlen' : es.length = B.length := by omega
    have e : es = B.map bD := by
      have h1 := list_by (f := fun i => bD (B.getD i [])) hlen' hes
      rw [h1]
      apply List.ext_getElem?
      intro i
      by_cases hi : i < B.length
      · simp [hi]
      · simp [hi]
    subst e
    walk_at "w"
    refine w_eq1 (d := .list (B.map bD)) hS7 (.own (by walk_at "mem")) (.own (by walk_at "mem")) (shaped_dl fun d hd => ?_) ?_
    · obtain ⟨x, _, rfl⟩ := List.mem_map.mp hd
      exact bD_fit x 1
    exact hQ _
end
end K42

/-! ### the end (printed by tools/fin2.py) -/
namespace K42
open PySem PySem.Spec PyProof.Rows L2 Lg
theorem facts {P : Program} {w : World} {K : PySem.W.Frag} {h : Heap} {mg : Str → Option Value} {f : Addr} (X : K.In h) (N : h.Ns mainGlobals mg) (hf : mg ("law" : Str) = some (.ref f)) (c : He.SaysD hfa hfn K) (cx : tabs K = true) :
    ∃ fd : FuncData, (∀ (s : Shared) (v : Value), BindsTo s fd ⟨[v], []⟩ [("_law_script", v)]) ∧ ∀ base : Heap, K.In base → base.Ns mainGlobals mg → FnOk P w K mg base CX0 7 f fd ["_law_script"] (spLaw K) := by
  have g := mk_G X N c cx
  have cf := mk_CF c cx
  obtain ⟨fd, F⟩ := fd_law c
  have e := hf.symm.trans (mg_law X N c)
  cases e
  refine ⟨fd, fun s v => (F.bindsA (ps := ["_law_script"]) fun _ _ _ _ _ _ us hl => match us, hl with | [_], _ => rfl) s [v] rfl, fun base _ _ => ?_⟩
  have c_OutOfRange : Oex P w K mg base 1 "OutOfRange" (He.ga K "OutOfRange") "name" := ok_OutOfRange g cf (fd_OutOfRange c)
  have c_is_block : C8.Cal P w K mg base 1 "_is_block" (spIsBlock K) [] := ok_is_block g (fd_is_block c) (mg_is_block X N c) (fun vs H Q E h => p_is_block vs H Q E h)
  have c_check_torn : CalX P w K mg base 3 "_check_torn" (spCheckTorn K) := ok_check_torn g c_OutOfRange (fd_check_torn c) (mg_check_torn X N c) (fun vs H Q E h => p_check_torn cf vs H Q E h)
  have c_l_cell : C8.Cal P w K mg base 1 "_law_cell" (spCell K) [] := ok_l_cell g (fd_l_cell c) (mg_l_cell X N c) (fun vs H Q E h => p_cell vs H Q E h)
  have c_l_digits : C8.Cal P w K mg base 2 "_law_digits" (spDigits K) [] := ok_l_digits g c_l_cell (fd_l_digits c) (mg_l_digits X N c) (fun vs H Q E h => p_digits vs H Q E h)
  have c_l_draw : C8.Cal P w K mg base 1 "_law_draw" (spDraw K) [] := ok_l_draw g (fd_l_draw c) (mg_l_draw X N c) (fun vs H Q E h => p_draw vs H Q E h)
  have c_l_torn : C8.Cal P w K mg base 2 "_law_torn" (spTorn K) [] := ok_l_torn g c_l_draw (fd_l_torn c) (mg_l_torn X N c) (fun vs H Q E h => p_torn vs H Q E h)
  have c_Disk_schedule_cut : MetX P w K mg base 4 (He.ga K "Disk") "schedule_cut" (spSchedule K) := ok_Disk_schedule_cut g c_check_torn c_OutOfRange (fd_Disk_schedule_cut c) (fun vs H Q E h => p_schedule cf vs H Q E h)
  have c_l_schedule : C8.Cal P w K mg base 5 "_law_schedule" (spLSched K) [] := ok_l_schedule g c_Disk_schedule_cut (fd_l_schedule c) (mg_l_schedule X N c) (fun vs H Q E h => p_lsched cf vs H Q E h)
  have c_Disk_cut : C8.Met P w K mg base 1 (He.ga K "Disk") "_cut" (spCut K) [] := ok_Disk_cut g (fd_Disk_cut c) (fun vs H Q E h => p_cut cf vs H Q E h)
  have c_Disk_spend : MetX P w K mg base 2 (He.ga K "Disk") "_spend" (spSpend K) := ok_Disk_spend g c_Disk_cut (fd_Disk_spend c) (fun vs H Q E h => p_spend cf vs H Q E h)
  have c_Disk_check_at : MetX P w K mg base 3 (He.ga K "Disk") "_check_at" (spCheckAt K) := ok_Disk_check_at g c_OutOfRange (fd_Disk_check_at c) (fun vs H Q E h => p_check_at cf vs H Q E h)
  have c_Disk_write : MetX P w K mg base 4 (He.ga K "Disk") "write" (spWrite K) := ok_Disk_write g c_Disk_spend c_is_block c_OutOfRange c_Disk_check_at (fd_Disk_write c) (fun vs H Q E h => p_write cf vs H Q E h)
  have c_Disk_flush : MetX P w K mg base 3 (He.ga K "Disk") "flush" (spFlush K) := ok_Disk_flush g c_Disk_spend (fd_Disk_flush c) (fun vs H Q E h => p_flush cf vs H Q E h)
  have c_l_do_raw : CalX P w K mg base 5 "_law_do_raw" (spDoRaw K) := ok_l_do_raw g c_Disk_write c_Disk_flush (fd_l_do_raw c) (mg_l_do_raw X N c) (fun vs H Q E h => p_do_raw vs H Q E h)
  have c_l_do : C8.Cal P w K mg base 6 "_law_do" (spDo K) [] := ok_l_do g c_l_do_raw (fd_l_do c) (mg_l_do X N c) (fun vs H Q E h => p_do cf vs H Q E h)
  have c_Disk_read : MetX P w K mg base 4 (He.ga K "Disk") "read" (spRead K) := ok_Disk_read g c_Disk_check_at (fd_Disk_read c) (fun vs H Q E h => p_read cf vs H Q E h)
  have c_Disk_cut_power : MetX P w K mg base 4 (He.ga K "Disk") "cut_power" (spCutPower K) := ok_Disk_cut_power g c_Disk_cut c_check_torn (fd_Disk_cut_power c) (fun vs H Q E h => p_cut_power cf vs H Q E h)
  have c_Disk_pending_count : C8.Met P w K mg base 1 (He.ga K "Disk") "pending_count" (spPend K) [] := ok_Disk_pending_count g (fd_Disk_pending_count c) (fun vs H Q E h => p_pend cf vs H Q E h)
  have c_Disk_cut_count : C8.Met P w K mg base 1 (He.ga K "Disk") "cut_count" (spCuts K) [] := ok_Disk_cut_count g (fd_Disk_cut_count c) (fun vs H Q E h => p_cuts cf vs H Q E h)
  have c_Disk_init : MakX P w K mg base 3 "Disk" (He.ga K "Disk") (spInit K) := ok_Disk_init g c_OutOfRange (fd_Disk_init c) (fun vs H Q E h => p_init cf vs H Q E h)
  exact FunD.ok F sc_law (fun vs H Q E h => (p_law vs H Q E h).1) (fun cdv A outer s H vs Q E hr h => ⟨_, PSs.nox (d_law g c_Disk_read c_Disk_cut_power c_Disk_pending_count c_Disk_cut_count c_l_schedule c_l_draw c_l_torn c_l_do c_Disk_init c_l_digits hr), (p_law vs H Q E h).2⟩)
abbrev hk : PySem.W.Hook := hookB 4 hfa hfn tabs
def ob (s : PySem.W.SharedT) : AlB := obsB 4 hfa hfn tabs (HandSHeadRun.getT s)
theorem ob_eq (s : PySem.W.SharedT) : ob s = hk.obs s.abs := obsB_eq (HandSHeadRun.getT_eq s)
def loose : List Str := (["_wall", "ModuleError", "OutOfRange", "PowerCut", "BLOCK", "BLOCKS_LEAST", "BLOCKS_MOST", "COUNT_MOST", "_is_block", "_check_torn", "Disk", "_law_cell", "_law_digits", "_law_draw", "_law_torn", "_law_schedule", "_law_do_raw", "_law_do"] : List Str)
theorem run (w : World) : HandSHeadRun.RunEq R (PySem.W.view R.prog [21]) hk ob 6000 loose w := by
  intro os
  kernel_rfl
end K42
open PySem PySem.W PySem.Calls PyProof.Rows
set_option maxRecDepth 100000 in
set_option maxHeartbeats 0 in
theorem PySem.Challenge.cw_sameasnew_k42_cut_on_schedule_holds : PySem.Challenge.rw_sameasnew_k42_cut_on_schedule.Holds := by
  w_on; o_law
  refine HandSHeadRun.head_any (r := OpenLaw.row PySem.Challenge.rw_sameasnew_k42_cut_on_schedule) (q := view (OpenLaw.row PySem.Challenge.rw_sameasnew_k42_cut_on_schedule).prog [21]) (H := K42.hk) (ob := K42.ob) (M := 6000) (loose := K42.loose) (d := HandSHeadRun.topDef (OpenLaw.row PySem.Challenge.rw_sameasnew_k42_cut_on_schedule).prog 21) (kwd := []) K42.ob_eq
    (by kernel_rfl) (fun s => by kernel_rfl) K42.run (by kernel_rfl) (by kernel_rfl) (by kernel_rfl) (by rfl) (by first | assumption | decide +kernel) (by decide +kernel) ⟨rfl, rfl, rfl, rfl, rfl, by decide +kernel⟩ ?hw ?hc
  case hw => w_witness2
  case hc =>
    refine L2.walk_ofE (l := PySem.Challenge.rw_sameasnew_k42_cut_on_schedule) (n := 63) (k := 7) (x := "_law_script") (CX := L2.CX0) rfl (by decide) (by kernel_rfl) ⟨rfl, by decide, by decide⟩ ?F (fun _ _ _ _ z => z)
    intro w mg fa h Y G hmg0
    obtain ⟨K, KX, c, cx⟩ := Y
    have hmg : mg ("law" : PySem.Str) = some (.ref fa) := by
      have e : (HandSHeadRun.topDef (OpenLaw.row PySem.Challenge.rw_sameasnew_k42_cut_on_schedule).prog 21).name = ("law" : PySem.Str) := by kernel_rfl
      rw [← e]
      exact hmg0
    obtain ⟨fd, hb, hF⟩ := K42.facts (P := (PySem.Challenge.rw_sameasnew_k42_cut_on_schedule).prog) (w := w) KX G hmg c cx
    exact ⟨K, fd, K42.spLaw K, KX, hb, fun H a ns hl hO hS => ⟨a, ns, rfl, hO, hS, K42.mk_CF c cx, fun _ => rfl⟩, hF⟩

