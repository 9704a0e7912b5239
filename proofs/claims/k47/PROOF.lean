import PyProof.Rows.All
import Wide.All
import OpenK.AllK
import Wide.FinOn
import KE.KStateDown
import Lean
import HandS.ForMost
import HandS.ForExc
import HandS.Defaults
import HandS.Codes
import HandS.IsInst
import HandS.NoneIn
import HandS.TupAny
import HandS.TryOnly
import HandS.Flow
import HandS.Deep
import HandS.Head0
import HandS.Head1
import HandS.Head2
import HandS.HeadEnd
import HandS.HeadHook1
import HandS.HeadHook2
import HandS.Walk
import KE.KIntText
import HandS.StrMore
import HandS.RaiseMore
import HandS.TryMany
import HandS.ExcField
import HandS.ExcIs
import HandS.ExcInit
import HandS.ExcOwn
import HandS.Replace
import HandS.ReplaceLit
import HandS.ReplaceList
import HandS.StrSplit
import HandS.FStr
import PySem.Challenge.RW_sameasnew_k47_log_without_cuts
set_option Elab.async false
set_option linter.all false
set_option maxRecDepth 100000
set_option maxHeartbeats 4000000
/-! A ledger over the abstract heap: what is owned, what is data. -/
namespace Lg
open PySem PySem.Spec PyProof.Rows L2

abbrev Ex (H H' : Hp) : Prop := ∀ a o, H a = some o → H' a = some o
theorem Ex.rfl {H : Hp} : Ex H H := fun _ _ h => h
theorem Ex.tr {H H1 H2 : Hp} (a : Ex H H1) (b : Ex H1 H2) : Ex H H2 := fun x o h => b x o (a x o h)
theorem Ex.none {H H' : Hp} (e : Ex H H') {a : Addr} (h : H' a = Option.none) : H a = Option.none := by
  cases q : H a with
  | none => rfl
  | some o => rw [e a o q] at h; cases h
theorem Ex.upd {F H : Hp} (e : Ex F H) {p : Addr} {o : HO} (h : F p = Option.none) : Ex F (upd H p o) := fun a u ha => by
  rw [upd_ne (ne_of_none ha h)]; exact e a u ha
theorem Ex.both {F H : Hp} (e : Ex F H) {p : Addr} {o : HO} : Ex (L2.upd F p o) (L2.upd H p o) := fun a u ha => by
  by_cases h : a = p
  · subst h; rw [upd_same] at ha ⊢; exact ha
  · rw [upd_ne h] at ha ⊢; exact e a u ha
theorem Ex.new {H : Hp} {p : Addr} {o : HO} (h : H p = Option.none) : Ex H (L2.upd H p o) := Ex.upd Ex.rfl h
theorem Ex.rd {H H' : Hp} {a : Addr} {u : HO} (e : Ex H H') (h : Rd H a u) : Rd H' a u := by
  rcases h with h | ⟨o, h⟩
  · exact Or.inl (e a _ h)
  · exact Or.inr ⟨o, e a _ h⟩
theorem Ex.sqT {K : PySem.W.Frag} {H H' : Hp} {a : Addr} {xs : List V} (e : Ex H H') (h : SqT K H a xs) : SqT K H' a xs := by
  rcases h with h | h
  · exact Or.inl (e.rd h)
  · exact Or.inr h
theorem Ex.sqL {K : PySem.W.Frag} {H H' : Hp} {a : Addr} {xs : List V} (e : Ex H H') (h : SqL K H a xs) : SqL K H' a xs := by
  rcases h with h | h
  · exact Or.inl (e.rd h)
  · exact Or.inr h

/-! ### data -/
mutual
inductive Dv (K : PySem.W.Frag) (F : Hp) : V → PyData → Prop
  | non : Dv K F .non .none
  | bl (b : Bool) : Dv K F (.bl b) (.bool b)
  | int (i : Int) : Dv K F (.int i) (.int i)
  | str (x : Str) : Dv K F (.str x) (.str x)
  | lst {a : Addr} {xs : List V} {ds : List PyData} : F a = some (.lst xs) → DvAll K F xs ds → Dv K F (.ref a) (.list ds)
  | tup {a : Addr} {xs : List V} {ds : List PyData} : SqT K F a xs → DvAll K F xs ds → Dv K F (.ref a) (.tuple ds)
inductive DvAll (K : PySem.W.Frag) (F : Hp) : List V → List PyData → Prop
  | nil : DvAll K F [] []
  | cons {v : V} {vs : List V} {d : PyData} {ds : List PyData} : Dv K F v d → DvAll K F vs ds → DvAll K F (v :: vs) (d :: ds)
end
section
variable {K : PySem.W.Frag} {F F' : Hp}
mutual
theorem Dv.mono (e : Ex F F') : ∀ (d : PyData) (v : V), Dv K F v d → Dv K F' v d
  | .none, _, h => by cases h; exact .non
  | .bool b, _, h => by cases h; exact .bl b
  | .int i, _, h => by cases h; exact .int i
  | .str x, _, h => by cases h; exact .str x
  | .list ds, _, h => by
    cases h with
    | lst hs ha => exact .lst (e _ _ hs) (DvAll.mono e ds _ ha)
  | .tuple ds, _, h => by
    cases h with
    | tup hs ha => exact .tup (e.sqT hs) (DvAll.mono e ds _ ha)
  | .dict _, _, h => by cases h
theorem DvAll.mono (e : Ex F F') : ∀ (ds : List PyData) (vs : List V), DvAll K F vs ds → DvAll K F' vs ds
  | [], _, h => by cases h; exact .nil
  | d :: ds, _, h => by
    cases h with
    | cons h1 h2 => exact .cons (Dv.mono e d _ h1) (DvAll.mono e ds _ h2)
end
mutual
theorem Dv.dp : ∀ (d : PyData) (v : V), Dv K F v d → Dp K F v d
  | .none, _, h => by cases h; exact .non
  | .bool b, _, h => by cases h; exact .bl b
  | .int i, _, h => by cases h; exact .int i
  | .str x, _, h => by cases h; exact .str x
  | .list ds, _, h => by
    cases h with
    | lst hs ha => exact .lst (SqL.of hs) (DvAll.dp ds _ ha)
  | .tuple ds, _, h => by
    cases h with
    | tup hs ha => exact .tup hs (DvAll.dp ds _ ha)
  | .dict _, _, h => by cases h
theorem DvAll.dp : ∀ (ds : List PyData) (vs : List V), DvAll K F vs ds → DpAll K F vs ds
  | [], _, h => by cases h; exact .nil
  | d :: ds, _, h => by
    cases h with
    | cons h1 h2 => exact .cons (Dv.dp d _ h1) (DvAll.dp ds _ h2)
end
theorem DvAll.len : ∀ {vs : List V} {ds : List PyData}, DvAll K F vs ds → vs.length = ds.length
  | _, [], h => by cases h; rfl
  | _, d :: ds, h => by
    cases h with
    | cons h1 h2 => simp [DvAll.len h2]
theorem DvAll.get : ∀ {vs : List V} {ds : List PyData} {i : Nat} {d : PyData}, DvAll K F vs ds → ds[i]? = some d → ∃ v, vs[i]? = some v ∧ Dv K F v d
  | _, [], i, d, h, e => by simp at e
  | _, d0 :: ds, 0, d, h, e => by
    cases h with
    | cons h1 h2 => simp at e; subst e; exact ⟨_, rfl, h1⟩
  | _, d0 :: ds, i + 1, d, h, e => by
    cases h with
    | cons h1 h2 => simp at e; obtain ⟨v, q, r⟩ := DvAll.get h2 e; exact ⟨v, by simpa using q, r⟩
theorem DvAll.get' : ∀ {vs : List V} {ds : List PyData} {i : Nat} {v : V}, DvAll K F vs ds → vs[i]? = some v → ∃ d, ds[i]? = some d ∧ Dv K F v d
  | _, [], i, d, h, e => by cases h; simp at e
  | _, d0 :: ds, 0, d, h, e => by
    cases h with
    | cons h1 h2 => simp at e; subst e; exact ⟨_, rfl, h1⟩
  | _, d0 :: ds, i + 1, d, h, e => by
    cases h with
    | cons h1 h2 => simp at e; obtain ⟨v, q, r⟩ := DvAll.get' h2 e; exact ⟨v, by simpa using q, r⟩
theorem DvAll.app : ∀ {vs ws : List V} {ds es : List PyData}, DvAll K F vs ds → DvAll K F ws es → DvAll K F (vs ++ ws) (ds ++ es)
  | _, _, [], _, h, h' => by cases h; exact h'
  | _, _, d :: ds, _, h, h' => by
    cases h with
    | cons h1 h2 => exact .cons h1 (DvAll.app h2 h')
theorem DvAll.take : ∀ {vs : List V} {ds : List PyData} (n : Nat), DvAll K F vs ds → DvAll K F (vs.take n) (ds.take n)
  | _, [], n, h => by cases h; simp; exact .nil
  | _, d :: ds, 0, h => by simp; exact .nil
  | _, d :: ds, n + 1, h => by
    cases h with
    | cons h1 h2 => exact .cons h1 (DvAll.take n h2)
theorem DvAll.drop : ∀ {vs : List V} {ds : List PyData} (n : Nat), DvAll K F vs ds → DvAll K F (vs.drop n) (ds.drop n)
  | _, [], n, h => by cases h; simp; exact .nil
  | _, d :: ds, 0, h => h
  | _, d :: ds, n + 1, h => by
    cases h with
    | cons h1 h2 => exact DvAll.drop n h2
theorem DvAll.set : ∀ {vs : List V} {ds : List PyData} {v : V} {d : PyData} (n : Nat), DvAll K F vs ds → Dv K F v d → DvAll K F (vs.set n v) (ds.set n d)
  | _, [], _, _, n, h, _ => by cases h; simp; exact .nil
  | _, d :: ds, _, _, 0, h, q => by
    cases h with
    | cons h1 h2 => exact .cons q h2
  | _, d :: ds, _, _, n + 1, h, q => by
    cases h with
    | cons h1 h2 => exact .cons h1 (DvAll.set n h2 q)
theorem DvAll.ints : ∀ (ns : List Int), DvAll K F (ns.map V.int) (ns.map PyData.int)
  | [] => .nil
  | n :: ns => .cons (.int n) (DvAll.ints ns)
theorem DvAll.ints_inv : ∀ {ns : List Int} {vs : List V}, DvAll K F vs (ns.map PyData.int) → vs = ns.map V.int
  | [], _, h => by cases h; rfl
  | n :: ns, _, h => by
    cases h with
    | cons h1 h2 => cases h1; simp [DvAll.ints_inv h2]
theorem DvAll.strs : ∀ (ns : List Str), DvAll K F (ns.map V.str) (ns.map PyData.str)
  | [] => .nil
  | n :: ns => .cons (.str n) (DvAll.strs ns)
theorem DvAll.strs_inv : ∀ {ns : List Str} {vs : List V}, DvAll K F vs (ns.map PyData.str) → vs = ns.map V.str
  | [], _, h => by cases h; rfl
  | n :: ns, _, h => by
    cases h with
    | cons h1 h2 => cases h1; simp [DvAll.strs_inv h2]
theorem DvAll.bls : ∀ (ns : List Bool), DvAll K F (ns.map V.bl) (ns.map PyData.bool)
  | [] => .nil
  | n :: ns => .cons (.bl n) (DvAll.bls ns)
theorem DvAll.bls_inv : ∀ {ns : List Bool} {vs : List V}, DvAll K F vs (ns.map PyData.bool) → vs = ns.map V.bl
  | [], _, h => by cases h; rfl
  | n :: ns, _, h => by
    cases h with
    | cons h1 h2 => cases h1; simp [DvAll.bls_inv h2]
theorem DvAll.rep {v : V} {d : PyData} (h : Dv K F v d) : ∀ n, DvAll K F (List.replicate n v) (List.replicate n d)
  | 0 => .nil
  | n + 1 => .cons h (DvAll.rep h n)
theorem DvAll.flat {vs : List V} {ds : List PyData} (h : DvAll K F vs ds) : ∀ n, DvAll K F (List.replicate n vs).flatten (List.replicate n ds).flatten
  | 0 => .nil
  | n + 1 => by
    rw [List.replicate_succ, List.replicate_succ, List.flatten_cons, List.flatten_cons]
    exact h.app (DvAll.flat h n)
end

/-! ### the ledger -/
structure Pr where
  p : Hp → HO → Prop
  mono : ∀ F F' o, Ex F F' → p F o → p F' o
def Pr.eq (o : HO) : Pr := ⟨fun _ x => x = o, fun _ _ _ _ h => h⟩
def Pr.ls (K : PySem.W.Frag) (ds : List PyData) : Pr := ⟨fun F x => ∃ xs, x = .lst xs ∧ DvAll K F xs ds, fun _ _ _ e ⟨xs, h, q⟩ => ⟨xs, h, DvAll.mono e _ _ q⟩⟩
def Pr.box (K : PySem.W.Frag) : Pr := ⟨fun F x => ∃ (d : Addr) (at_ : Int) (ns : List Int), x = .lst [.ref d, .int at_] ∧ 0 ≤ at_ ∧ F d = some (.lst (ns.map V.int)), fun _ _ _ e ⟨d, i, ns, h, q, r⟩ => ⟨d, i, ns, h, q, e _ _ r⟩⟩
/-- what stays true -/
structure Fr where
  p : Hp → Prop
  mono : ∀ F F', Ex F F' → p F → p F'
def Fr.seq (K : PySem.W.Frag) (a : Addr) (ns : List Int) : Fr := ⟨fun F => SqL K F a (ns.map V.int), fun _ _ e h => e.sqL h⟩
inductive Ent where
  | cell (a : Addr) (φ : Pr)
  | dat (v : V) (d : PyData)
  | fact (φ : Fr)
/-- owned: what stands there, a list of data, the law's box of draws -/
abbrev own (a : Addr) (o : HO) : Ent := .cell a (.eq o)
abbrev ls (K : PySem.W.Frag) (a : Addr) (ds : List PyData) : Ent := .cell a (.ls K ds)
abbrev bx (K : PySem.W.Frag) (a : Addr) : Ent := .cell a (.box K)
abbrev dat (v : V) (d : PyData) : Ent := .dat v d
def Ent.adr : Ent → Option Addr
  | .cell a _ => some a
  | .dat _ _ => none
  | .fact _ => none
def Ent.ok (K : PySem.W.Frag) (F H : Hp) : Ent → Prop
  | .cell a φ => F a = none ∧ ∃ o, H a = some o ∧ φ.p F o
  | .dat v d => Dv K F v d
  | .fact φ => φ.p F
structure St (K : PySem.W.Frag) (L : List Ent) (H : Hp) : Prop where
  ex : ∃ F, Ex F H ∧ ∀ e ∈ L, e.ok K F H
  nd : (L.filterMap Ent.adr).Nodup

/-- L' is L with e turned to e' -/
inductive Put : List Ent → Ent → Ent → List Ent → Prop
  | here {e e' : Ent} {L : List Ent} : Put (e :: L) e e' (e' :: L)
  | there {x e e' : Ent} {L L' : List Ent} : Put L e e' L' → Put (x :: L) e e' (x :: L')
/-- L is e beside L' -/
inductive Rem : List Ent → Ent → List Ent → Prop
  | here {e : Ent} {L : List Ent} : Rem (e :: L) e L
  | there {x e : Ent} {L L' : List Ent} : Rem L e L' → Rem (x :: L) e (x :: L')
inductive Pick : List Ent → List Ent → Prop
  | nil {L : List Ent} : Pick [] L
  | refl {L : List Ent} : Pick L L
  | drop {x : Ent} {L L' : List Ent} : Pick L' L → Pick L' (x :: L)
  | cons {e : Ent} {L L' L1 : List Ent} : Rem L e L1 → Pick L' L1 → Pick (e :: L') L
theorem Put.mem {L L' : List Ent} {e e' : Ent} (h : Put L e e' L') : e ∈ L := by
  induction h with
  | here => exact .head _
  | there _ ih => exact .tail _ ih
theorem Rem.perm {L L' : List Ent} {e : Ent} (h : Rem L e L') : L.Perm (e :: L') := by
  induction h with
  | here => exact .refl _
  | there _ ih => exact (List.Perm.cons _ ih).trans (List.Perm.swap _ _ _)
theorem Put.perm {L L' : List Ent} {e e' : Ent} (h : Put L e e' L') : ∃ R, L.Perm (e :: R) ∧ L'.Perm (e' :: R) := by
  induction h with
  | here => exact ⟨_, .refl _, .refl _⟩
  | @there x _ _ _ _ _ ih =>
    obtain ⟨R, h1, h2⟩ := ih
    exact ⟨x :: R, (List.Perm.cons _ h1).trans (List.Perm.swap _ _ _), (List.Perm.cons _ h2).trans (List.Perm.swap _ _ _)⟩
section
variable {K : PySem.W.Frag} {L L' : List Ent} {H : Hp} {a p : Addr} {φ ψ : Pr} {o : HO} {v : V} {d : PyData}
theorem St.perm (h : St K L H) (q : L.Perm L') : St K L' H := by
  obtain ⟨F, h1, h2⟩ := h.ex
  exact ⟨⟨F, h1, fun e he => h2 e (q.mem_iff.mpr he)⟩, (q.filterMap _).nodup_iff.mp h.nd⟩
theorem St.tail {e : Ent} (h : St K (e :: L) H) : St K L H := by
  obtain ⟨F, h1, h2⟩ := h.ex
  refine ⟨⟨F, h1, fun e he => h2 e (.tail _ he)⟩, ?_⟩
  have := h.nd
  cases e with
  | cell a φ => exact (List.nodup_cons.mp this).2
  | dat v d => exact this
  | fact φ => exact this
theorem St.pick (q : Pick L' L) : ∀ {A : List Ent}, St K (A ++ L) H → St K (A ++ L') H := by
  induction q with
  | @nil L => 
    intro A h
    rw [List.append_nil]
    obtain ⟨F, h1, h2⟩ := h.ex
    refine ⟨⟨F, h1, fun e he => h2 e (List.mem_append_left _ he)⟩, ?_⟩
    have := h.nd
    rw [List.filterMap_append] at this
    exact (List.nodup_append.mp this).1
  | refl => intro A h; exact h
  | @drop x L L' _ ih =>
    intro A h
    exact ih (h.perm (List.perm_middle)).tail
  | @cons e L L' L1 hr _ ih =>
    intro A h
    have h1 : St K (A ++ (e :: L1)) H := h.perm (List.Perm.append_left A hr.perm)
    have h2 : St K ((A ++ [e]) ++ L1) H := by rw [List.append_assoc]; exact h1
    have h3 := ih h2
    rw [List.append_assoc] at h3
    exact h3
theorem St.to (h : St K L H) (q : Pick L' L) : St K L' H := by
  have := St.pick (A := []) q h
  exact this
theorem St.put_to {e e' : Ent} (h : St K L H) (q : Put L e e' L') : ∃ R, St K (e :: R) H ∧ L'.Perm (e' :: R) := by
  obtain ⟨R, h1, h2⟩ := q.perm
  exact ⟨R, h.perm h1, h2⟩
theorem St.cell (h : St K L H) (m : Ent.cell a φ ∈ L) : ∃ F o, Ex F H ∧ F a = none ∧ H a = some o ∧ φ.p F o := by
  obtain ⟨F, h1, h2⟩ := h.ex
  obtain ⟨h3, o, h4, h5⟩ := h2 _ m
  exact ⟨F, o, h1, h3, h4, h5⟩
theorem St.own (h : St K L H) (m : Lg.own a o ∈ L) : H a = some o := by
  obtain ⟨F, x, _, _, h4, rfl⟩ := h.cell m
  exact h4
theorem St.ls (h : St K L H) {ds : List PyData} (m : Lg.ls K a ds ∈ L) : ∃ F xs, Ex F H ∧ H a = some (.lst xs) ∧ DvAll K F xs ds := by
  obtain ⟨F, x, h1, _, h4, xs, rfl, h5⟩ := h.cell m
  exact ⟨F, xs, h1, h4, h5⟩
/-- a new cell -/
theorem St.alloc (h : St K L H) (hp : H p = none) (q : ∀ F, Ex F H → (∀ e ∈ L, e.ok K F H) → φ.p F o) : St K (.cell p φ :: L) (upd H p o) := by
  obtain ⟨F, h1, h2⟩ := h.ex
  have hF : F p = none := h1.none hp
  refine ⟨⟨F, h1.upd hF, fun e he => ?_⟩, ?_⟩
  · cases he with
    | head => exact ⟨hF, o, upd_same, q F h1 h2⟩
    | tail _ he =>
      have := h2 e he
      cases e with
      | cell a φ =>
        obtain ⟨h3, o', h4, h5⟩ := this
        exact ⟨h3, o', by rw [upd_ne (ne_of_none h4 hp)]; exact h4, h5⟩
      | dat v d => exact this
      | fact φ => exact this
  · show (p :: L.filterMap Ent.adr).Nodup
    refine List.nodup_cons.mpr ⟨fun m => ?_, h.nd⟩
    obtain ⟨e, he, q⟩ := List.mem_filterMap.mp m
    cases e with
    | cell a φ =>
      cases q
      obtain ⟨_, o', h4, _⟩ := h2 _ he
      rw [hp] at h4; cases h4
    | dat v d => cases q
    | fact φ => cases q
/-- a cell is written -/
theorem St.write (h : St K (.cell a φ :: L) H) (q : ∀ F x, Ex F H → (∀ e ∈ Ent.cell a φ :: L, e.ok K F H) → H a = some x → φ.p F x → ψ.p F o) : St K (.cell a ψ :: L) (upd H a o) := by
  obtain ⟨F, h1, h2⟩ := h.ex
  obtain ⟨h3, x, h4, h5⟩ := h2 _ (.head _)
  refine ⟨⟨F, h1.upd h3, fun e he => ?_⟩, h.nd⟩
  cases he with
  | head => exact ⟨h3, o, upd_same, q F x h1 h2 h4 h5⟩
  | tail _ he =>
    have := h2 e (.tail _ he)
    cases e with
    | cell b φ' =>
      obtain ⟨h6, o', h7, h8⟩ := this
      have hne : b ≠ a := fun z => by
        have hn := h.nd
        have hn' : (a :: L.filterMap Ent.adr).Nodup := hn
        exact (List.nodup_cons.mp hn').1 (List.mem_filterMap.mpr ⟨_, he, by rw [z]; rfl⟩)
      exact ⟨h6, o', by rw [upd_ne hne]; exact h7, h8⟩
    | dat v d => exact this
    | fact φ => exact this
theorem St.writeP (h : St K L H) (m : Put L (.cell a φ) (.cell a ψ) L') (q : ∀ F x, Ex F H → (∀ e ∈ L, e.ok K F H) → H a = some x → φ.p F x → ψ.p F o) : St K L' (upd H a o) := by
  obtain ⟨R, h1, h2⟩ := m.perm
  exact ((h.perm h1).write (ψ := ψ) (o := o) fun F x e hd hx hφ => q F x e (fun u m => hd u (h1.mem_iff.mp m)) hx hφ).perm h2.symm
/-- a cell within, its word kept -/
theorem St.turn (h : St K L H) (m : Ent.cell a φ ∈ L) (q : ∀ F x, Ex F H → H a = some x → φ.p F x → φ.p F o) : St K L (upd H a o) := by
  obtain ⟨A, B, rfl⟩ := List.append_of_mem m
  have p1 : (A ++ .cell a φ :: B).Perm (.cell a φ :: (A ++ B)) := List.perm_middle
  exact ((h.perm p1).write fun F x e _ => q F x e).perm p1.symm
/-- a new frozen object -/
theorem St.fresh (h : St K L H) (hp : H p = none) (q : ∀ F, F p = none → Ex F H → (∀ e ∈ L, e.ok K F H) → Dv K (upd F p o) v d) : St K (.dat v d :: L) (upd H p o) := by
  obtain ⟨F, h1, h2⟩ := h.ex
  have hF : F p = none := h1.none hp
  refine ⟨⟨upd F p o, h1.both, fun e he => ?_⟩, h.nd⟩
  cases he with
  | head => exact q F hF h1 h2
  | tail _ he =>
    have := h2 e he
    cases e with
    | cell a φ =>
      obtain ⟨h3, o', h4, h5⟩ := this
      have hne : a ≠ p := ne_of_none h4 hp
      exact ⟨by rw [upd_ne hne]; exact h3, o', by rw [upd_ne hne]; exact h4, φ.mono _ _ _ (Ex.new hF) h5⟩
    | dat v d => exact Dv.mono (Ex.new hF) _ _ this
    | fact φ => exact φ.mono _ _ (Ex.new hF) this
/-- an owned list becomes data -/
theorem St.freeze {ds : List PyData} (h : St K (.cell a (.ls K ds) :: L) H) : St K (.dat (.ref a) (.list ds) :: L) H := by
  obtain ⟨F, h1, h2⟩ := h.ex
  obtain ⟨h3, x, h4, xs, rfl, h5⟩ := h2 _ (.head _)
  refine ⟨⟨upd F a (.lst xs), fun b o hb => ?_, fun e he => ?_⟩, h.tail.nd⟩
  · by_cases z : b = a
    · subst z; rw [upd_same] at hb; rw [h4]; exact hb
    · rw [upd_ne z] at hb; exact h1 _ _ hb
  · cases he with
    | head => exact .lst upd_same (DvAll.mono (Ex.new h3) _ _ h5)
    | tail _ he =>
      have := h2 e (.tail _ he)
      cases e with
      | cell b φ' =>
        obtain ⟨h6, o', h7, h8⟩ := this
        have hne : b ≠ a := fun z => by
          have hn := h.nd
          have hn' : (a :: L.filterMap Ent.adr).Nodup := hn
          exact (List.nodup_cons.mp hn').1 (List.mem_filterMap.mpr ⟨_, he, by rw [z]; rfl⟩)
        exact ⟨by rw [upd_ne hne]; exact h6, o', h7, φ'.mono _ _ _ (Ex.new h3) h8⟩
      | dat v d => exact Dv.mono (Ex.new h3) _ _ this
      | fact φ => exact φ.mono _ _ (Ex.new h3) this
/-- an owned thing told otherwise -/
theorem St.data (h : St K L H) (m : Put L (.cell a φ) (.cell a ψ) L') (q : ∀ F x, Ex F H → (∀ e ∈ L, e.ok K F H) → H a = some x → φ.p F x → ψ.p F x) : St K L' H := by
  obtain ⟨R, h1, h2⟩ := m.perm
  have h' := h.perm h1
  obtain ⟨F, e1, e2⟩ := h'.ex
  obtain ⟨h3, x, h4, h5⟩ := e2 _ (.head _)
  refine St.perm (L := .cell a ψ :: R) ⟨⟨F, e1, fun e he => ?_⟩, h'.nd⟩ h2.symm
  cases he with
  | head => exact ⟨h3, x, h4, q F x e1 (fun u m => e2 _ (h1.mem_iff.mp m)) h4 h5⟩
  | tail _ he => exact e2 e (.tail _ he)
/-- one more thing known as data -/
theorem St.know (h : St K L H) (q : ∀ F, Ex F H → (∀ e ∈ L, e.ok K F H) → Dv K F v d) : St K (.dat v d :: L) H := by
  obtain ⟨F, h1, h2⟩ := h.ex
  refine ⟨⟨F, h1, fun e he => ?_⟩, h.nd⟩
  cases he with
  | head => exact q F h1 h2
  | tail _ he => exact h2 e he
end

/-- v is d, as L says -/
inductive Is (L : List Ent) : V → PyData → Prop
  | non : Is L .non .none
  | bl {b : Bool} : Is L (.bl b) (.bool b)
  | int {i : Int} : Is L (.int i) (.int i)
  | str {x : Str} : Is L (.str x) (.str x)
  | dat {v : V} {d : PyData} : Ent.dat v d ∈ L → Is L v d
inductive IsAll (L : List Ent) : List V → List PyData → Prop
  | nil : IsAll L [] []
  | cons {v : V} {d : PyData} {vs : List V} {ds : List PyData} : Is L v d → IsAll L vs ds → IsAll L (v :: vs) (d :: ds)
section
variable {K : PySem.W.Frag} {L L' : List Ent} {H F : Hp} {v : V} {d : PyData}
theorem Is.dv (h : Is L v d) (q : ∀ e ∈ L, e.ok K F H) : Dv K F v d := by
  cases h with
  | non => exact .non
  | bl => exact .bl _
  | int => exact .int _
  | str => exact .str _
  | dat m => exact q _ m
theorem IsAll.dv (q : ∀ e ∈ L, e.ok K F H) : ∀ {vs : List V} {ds : List PyData}, IsAll L vs ds → DvAll K F vs ds
  | _, _, .nil => .nil
  | _, _, .cons h t => .cons (h.dv q) (IsAll.dv q t)
theorem Is.more (s : ∀ e ∈ L, e ∈ L') (h : Is L v d) : Is L' v d := by
  cases h with
  | non => exact .non
  | bl => exact .bl
  | int => exact .int
  | str => exact .str
  | dat m => exact .dat (s _ m)
theorem Is.cons {e : Ent} (h : Is L v d) : Is (e :: L) v d := h.more fun _ m => .tail _ m
theorem IsAll.more (s : ∀ e ∈ L, e ∈ L') : ∀ {vs : List V} {ds : List PyData}, IsAll L vs ds → IsAll L' vs ds
  | _, _, .nil => .nil
  | _, _, .cons h t => .cons (h.more s) (IsAll.more s t)
theorem St.is_of (h : St K L H) (q : Is L v d) : ∃ F, Ex F H ∧ Dv K F v d := by
  obtain ⟨F, h1, h2⟩ := h.ex
  exact ⟨F, h1, q.dv h2⟩
theorem St.dp (h : St K L H) (q : Is L v d) : Dp K H v d := by
  obtain ⟨F, h1, h2⟩ := h.is_of q
  exact Dv.dp _ _ (Dv.mono h1 _ _ h2)
theorem St.learn (h : St K L H) (q : Is L v d) : St K (.dat v d :: L) H := h.know fun F _ hd => q.dv hd
theorem St.mono_mem (h : St K L H) (s : ∀ e ∈ L', e ∈ L) (n : (L'.filterMap Ent.adr).Nodup) : St K L' H := by
  obtain ⟨F, h1, h2⟩ := h.ex
  exact ⟨⟨F, h1, fun e he => h2 e (s e he)⟩, n⟩
/-- a frozen tuple, a frozen list: its parts -/
theorem St.tup_parts (h : St K L H) {a : Addr} {ds : List PyData} (q : Is L (.ref a) (.tuple ds)) : ∃ xs : List V, SqT K H a xs ∧ xs.length = ds.length ∧ ∀ (i : Nat) (d : PyData), ds[i]? = some d → ∃ v, xs[i]? = some v ∧ St K (.dat v d :: L) H := by
  obtain ⟨F, h1, h2⟩ := h.ex
  have := q.dv h2
  cases this with
  | tup hs ha =>
    refine ⟨_, h1.sqT hs, ha.len, fun i d e => ?_⟩
    obtain ⟨v, h3, h4⟩ := ha.get e
    refine ⟨v, h3, ⟨⟨F, h1, fun e he => ?_⟩, h.nd⟩⟩
    cases he with
    | head => exact h4
    | tail _ he => exact h2 e he
end
end Lg

/-! The operators by one relation each, and how each is answered over the ledger. -/
namespace Lg
open PySem PySem.Spec PyProof.Rows L2

/-! ### relations -/
def rAddI : R2 := rI0 fun i j => .int (i + j)
def rAddS : R2 := fun x y H Q => ∃ i j, x = .str i ∧ y = .str j ∧ i.length + j.length ≤ sizeLine ∧ Q (.str (i ++ j)) H
def rPlus (K : PySem.W.Frag) : R2 := fun x y H Q => rAddI x y H Q ∨ (rAddS x y H Q ∨ (rCat x y H Q ∨ rCatA K x y H Q))
def rMinus : R2 := rI0 fun i j => .int (i - j)
def rMulI : R2 := rI CMul fun i j => .int (i * j)
def repL (l : List Nat) (n : Nat) : List Nat := (List.replicate n l).flatten
def rRepS : R2 := fun x y H Q => ∃ (z : Str) (k : Int), x = .str z ∧ y = .int k ∧ 0 ≤ k ∧ k ≤ 100000 ∧ z.length ≤ 100 ∧ Q (.str ⟨(repL z.cps.toList k.toNat).toArray⟩) H
def rTimes : R2 := fun x y H Q => rMulI x y H Q ∨ (rRep x y H Q ∨ rRepS x y H Q)
def rFdiv : R2 := rI CDiv fun i j => .int (i / j)
def rMod : R2 := rI (fun _ j => 0 < j) fun i j => .int (i % j)
def rAnd : R2 := rI0 fun i j => .int (Builtin.bitAnd i j)
def rLt : R2 := rI0 fun i j => .bl (decide (i < j))
def rLe : R2 := rI0 fun i j => .bl (decide (i ≤ j))
def rGt : R2 := rI0 fun i j => .bl (decide (j < i))
def rGe : R2 := rI0 fun i j => .bl (decide (j ≤ i))
def rEqX (K : PySem.W.Frag) : R2 := fun x y H Q => rEq x y H Q ∨ rEqD K x y H Q
def rNeX (K : PySem.W.Frag) : R2 := fun x y H Q => rNe x y H Q ∨ rNeD K x y H Q
def rInSign (neg : Bool) : R2 := fun x y H Q => ∃ (c : Nat) (z : Str), x = .str ⟨#[c]⟩ ∧ y = .str z ∧ Q (.bl (if neg then !decide (c ∈ z.cps.toList) else decide (c ∈ z.cps.toList))) H
def rInX (K : PySem.W.Frag) (neg : Bool) : R2 := fun x y H Q => rIn K neg x y H Q ∨ rInSign neg x y H Q
def rIsNo : R2 := fun x y H Q => y = .non ∧ Q (.bl (decide (x = .non))) H
def rNotNo : R2 := fun x y H Q => y = .non ∧ Q (.bl (!decide (x = .non))) H
def rLenX (K : PySem.W.Frag) : List V → Hp → VK → Prop := fun xs H Q => ∃ x n, xs = [x] ∧ LenV K x H n ∧ Q (.int n) H
def rIntX : List V → Hp → VK → Prop := fun xs H Q => (∃ i, xs = [.int i] ∧ Q (.int i) H) ∨ ∃ k, xs = [.bl k] ∧ Q (.int (if k then 1 else 0)) H
def rOrd : List V → Hp → VK → Prop := fun xs H Q => ∃ x, xs = [.str x] ∧ x.length = 1 ∧ Q (.int (x.cps.getD 0 0 : Nat)) H
def rListOf (K : PySem.W.Frag) : List V → Hp → VK → Prop := fun xs H Q => ∃ p ys, xs = [.ref p] ∧ (SqL K H p ys ∨ SqT K H p ys) ∧ ∀ l, H l = none → Q (.ref l) (upd H l (.lst ys))
def rTupOf (K : PySem.W.Frag) : List V → Hp → VK → Prop := fun xs H Q => ∃ p ys, xs = [.ref p] ∧ ((SqL K H p ys ∧ ∀ l, H l = none → Q (.ref l) (upd H l (.tup ys))) ∨ (SqT K H p ys ∧ Q (.ref p) H))
def trV : V → Bool
  | .int i => i != 0
  | .bl b => b
  | _ => false
def flatIB : V → Bool
  | .int _ => true
  | .bl _ => true
  | _ => false
def rAnyX (K : PySem.W.Frag) : List V → Hp → VK → Prop := fun vs H Q => ∃ (a : Addr) (xs : List V), vs = [V.ref a] ∧ SqL K H a xs ∧ xs.all flatIB = true ∧ Q (.bl (xs.any trV)) H
def rAllX (K : PySem.W.Frag) : List V → Hp → VK → Prop := fun vs H Q => ∃ (a : Addr) (xs : List V), vs = [V.ref a] ∧ SqL K H a xs ∧ xs.all flatIB = true ∧ Q (.bl (xs.all trV)) H
def rSlX (K : PySem.W.Frag) : V → Option Int → Option Int → Hp → VK → Prop := fun x lo hi H Q => rSlL K x lo hi H Q ∨ (rSlS x lo hi H Q ∨ rSlA K x lo hi H Q)
def rJoin (K : PySem.W.Frag) : V → List V → Hp → VK → Prop := fun x xs H Q => ∃ a p, ∃ ys : List Str, x = .str a ∧ xs = [.ref p] ∧ (SqL K H p (ys.map V.str) ∨ SqT K H p (ys.map V.str)) ∧ (ys.map (·.length)).sum + ys.length * a.length ≤ 16777216 ∧ Q (.str (Txt.join a ys)) H
def tTruX (K : PySem.W.Frag) (ta : TE) : TT := fun σ H Q => ta σ H fun x H' => ∃ k, TruV K x H' k ∧ Q k H'

section
variable {X : Cx}
theorem o_plus : OpR X (binaryOp .Add) (rPlus X.K) := OpR.or op_add (OpR.or op_add_str (OpR.or op_cat op_catA))
theorem o_minus : OpR X (binaryOp .Sub) rMinus := op_sub
theorem mulok_of {z : Str} {k : Int} (h0 : 0 ≤ k) (h1 : k ≤ 100000) (h2 : z.length ≤ 100) : MulOk z k := by
  refine ⟨?_, fun h _ => ?_, fun h _ => ?_⟩
  · rw [Bool.or_eq_false_iff]
    exact ⟨decide_eq_false (by omega), decide_eq_false (by omega)⟩
  · have hk : 0 < k := by omega
    intro q
    have h3 : (9223372036854775807 : Int) / 100000 ≤ (2 ^ 63 - 1) / k := by
      rw [show ((2 : Int) ^ 63 - 1) = 9223372036854775807 by decide]
      refine (Int.le_ediv_iff_mul_le hk).mpr ?_
      have : (9223372036854775807 : Int) / 100000 = 92233720368547 := by decide
      rw [this]
      omega
    have : (9223372036854775807 : Int) / 100000 = 92233720368547 := by decide
    omega
  · unfold Builtin.Str.tooLong
    have h4 : z.length * k.toNat ≤ 100 * 100000 := Nat.mul_le_mul h2 (by omega)
    have := sizeLine_eq
    simp
    omega
theorem rep_fold (a : Array Nat) : ∀ (n : Nat) (b : Array Nat), (List.replicate n a).foldl (· ++ ·) b = (b.toList ++ repL a.toList n).toArray
  | 0, b => by simp [repL]
  | n + 1, b => by
    rw [List.replicate_succ, List.foldl_cons, rep_fold a n]
    simp [repL, List.replicate_succ]
theorem repL_nil (n : Nat) : repL [] n = [] := by simp [repL]
theorem mul_txt {z : Str} {k : Int} (h0 : 0 ≤ k) : Txt.mul z k = ⟨(repL z.cps.toList k.toNat).toArray⟩ := by
  unfold Txt.mul
  by_cases h1 : k < 1
  · rw [if_pos h1]
    have : k = 0 := by omega
    subst this
    rfl
  · rw [if_neg h1]
    by_cases h2 : (k == 1 || z.length == 0) = true
    · rw [if_pos h2]
      rw [Bool.or_eq_true] at h2
      rcases h2 with h2 | h2
      · have e : k = 1 := by simpa using h2
        subst e
        show z = ⟨([z.cps.toList].flatten).toArray⟩
        simp
      · have e : z.cps.size = 0 := by simpa [PySem.Str.length] using h2
        have e2 : z.cps.toList = [] := by
          have : z.cps.toList.length = 0 := by simpa using e
          exact List.length_eq_zero_iff.mp this
        rw [e2, repL_nil]
        have e3 : z.cps = #[] := by
          rw [← Array.toList_inj, e2]
        cases z
        simp at e3
        rw [e3]
    · rw [if_neg h2, rep_fold]
      simp
theorem op_repS : OpR X (binaryOp .Mult) rRepS := by
  intro pins s σ H x y v u Q I rx ry h
  obtain ⟨z, k, rfl, rfl, h0, h1, h2, q⟩ := h
  obtain ⟨t, rfl⟩ := rx
  obtain ⟨t', rfl⟩ := ry
  refine SB.mul (mulok_of h0 h1 h2) fun t2 tk => ?_
  rw [mul_txt h0]
  exact ⟨.str _, H, I.tok _, ⟨_, rfl⟩, q⟩
theorem o_times : OpR X (binaryOp .Mult) rTimes := OpR.or op_mul (OpR.or op_rep op_repS)
theorem o_fdiv : OpR X (binaryOp .FloorDiv) rFdiv := op_fdiv
theorem o_mod : OpR X (binaryOp .Mod) rMod := op_mod
theorem o_and : OpR X (binaryOp .BitAnd) rAnd := op_and
theorem o_lt : OpR X (compareOp .Lt) rLt := op_lt
theorem o_le : OpR X (compareOp .LtE) rLe := op_le
theorem o_gt : OpR X (compareOp .Gt) rGt := op_gt
theorem o_ge : OpR X (compareOp .GtE) rGe := op_ge
theorem o_eq (hu : X.A.units + 64 < cLine) : OpR X (compareOp .Eq) (rEqX X.K) := OpR.or op_eq (op_eqD hu)
theorem o_ne (hu : X.A.units + 64 < cLine) : OpR X (compareOp .NotEq) (rNeX X.K) := OpR.or op_ne (op_neD hu)
theorem o_in : OpR X (compareOp .In) (rInX X.K false) := OpR.or op_in_seq op_in_sign
theorem o_notin : OpR X (compareOp .NotIn) (rInX X.K true) := OpR.or op_notIn_seq op_notIn_sign
theorem o_is : OpR X (compareOp .Is) rIsNo := op_isN
theorem o_isnot : OpR X (compareOp .IsNot) rNotNo := op_notN
theorem c_len : CallR X (.builtin "len") (rLenX X.K) := call_len
theorem c_int : CallR X (.type "int") rIntX := call_int1
theorem c_ord : CallR X (.builtin "ord") rOrd := call_ord
theorem c_list : CallR X (.type "list") (rListOf X.K) := call_list_of
theorem c_tuple : CallR X (.type "tuple") (rTupOf X.K) := call_tuple_of
theorem truth_ib {prog : Program} {w : World} {A : Around} {xs : List V} {its : List Value} (r : Vals xs its) (h : xs.all flatIB = true) :
    TruthOf prog w A (fun i v => its.toArray[i]? = some v) (fun i => (xs.map trV).getD i false) := fun i v s Q E hv hq => by
  have hv' : its[i]? = some v := by simpa using hv
  have hi : i < its.length := (List.getElem?_eq_some_iff.mp hv').1
  have hi' : i < xs.length := by rw [r.length]; exact hi
  obtain ⟨u, hu, ru⟩ := r.get (i := i) (x := xs[i]) (by simp [hi'])
  rw [hv'] at hu
  cases hu
  have hg : (xs.map trV).getD i false = trV xs[i] := by simp [List.getD_eq_getElem?_getD, hi']
  have hq' : Q ((xs.map trV).getD i false) s := hq
  rw [hg] at hq'
  have hf : flatIB xs[i] = true := List.all_eq_true.mp h _ (List.getElem_mem hi')
  revert ru hq' hf
  generalize xs[i] = x
  intro ru hq' hf
  cases x with
  | int j =>
    obtain ⟨t, rfl⟩ := ru
    exact truthy_int hq'
  | bl b =>
    cases (show v = Value.bool b from ru)
    exact wpAny_truthy_bool hq'
  | _ => cases hf
theorem c_any (hc : X.calm = true) : CallR X (.builtin "any") (rAnyX X.K) := by
  intro pins s σ H vs us Q I r h
  obtain ⟨a, xs, rfl, hs, hf, q⟩ := h
  obtain ⟨its, rv, hl, _⟩ := I.list hs
  rw [Vals.ref1 r]
  refine call_any_walk (iter_any hl.isList fun s₂ e2 st hne => ?_)
  subst e2
  refine ⟨_, _, _, _, _, _, _, rfl, Walks.list (A := X.A.in1) (I.ok.hd hc) _ a hne its.toArray, st, truth_ib rv hf, fun h' tk hk => ?_⟩
  refine ⟨.bl _, H, I.kept fun b o eo => hk b o (fun hmem => ?_) (Heap.get?_push_of_some _ eo), ?_, q⟩
  · rcases List.mem_cons.mp hmem with e1 | hmem
    · exact absurd (e1 ▸ Heap.lt_size eo) (Nat.lt_irrefl _)
    · cases hmem
  · show Value.bool _ = Value.bool _
    have := any_range (xs.map trV)
    rw [List.length_map] at this
    rw [List.size_toArray, ← rv.length, this, List.any_map]
    rfl
theorem c_all (hc : X.calm = true) : CallR X (.builtin "all") (rAllX X.K) := by
  intro pins s σ H vs us Q I r h
  obtain ⟨a, xs, rfl, hs, hf, q⟩ := h
  obtain ⟨its, rv, hl, _⟩ := I.list hs
  rw [Vals.ref1 r]
  refine call_all_walk (iter_any hl.isList fun s₂ e2 st hne => ?_)
  subst e2
  refine ⟨_, _, _, _, _, _, _, rfl, Walks.list (A := X.A.in1) (I.ok.hd hc) _ a hne its.toArray, st, truth_ib rv hf, fun h' tk hk => ?_⟩
  refine ⟨.bl _, H, I.kept fun b o eo => hk b o (fun hmem => ?_) (Heap.get?_push_of_some _ eo), ?_, q⟩
  · rcases List.mem_cons.mp hmem with e1 | hmem
    · exact absurd (e1 ▸ Heap.lt_size eo) (Nat.lt_irrefl _)
    · cases hmem
  · show Value.bool _ = Value.bool _
    have := all_range (xs.map trV)
    rw [List.length_map] at this
    rw [List.size_toArray, ← rv.length, this, List.all_map]
    rfl
theorem c_isi : CallR X (.builtin "isinstance") (rIsi X.K) := call_isi
theorem sl_any : SlR X (rSlX X.K) := SlR.or sl_list (SlR.or sl_str sl_tupA)
theorem m_join : MtR X "str.join" (rJoin X.K) := mt_join
theorem pt_tru {a : Expr} {ta : TE} (ha : PE X a ta) (hs : ∀ whole, isTrue a X.env whole = (do let v ← whole; standAt a.pos; holding [v] (truthy v)) := by intro _; rfl) : PT X a (tTruX X.K ta) := pt_truth ha hs
end
end Lg

/-! The steps. -/
namespace Lg
open PySem PySem.Spec PyProof.Rows L2

inductive SetAt : L2.St → Nat → V → L2.St → Prop
  | here {x : Option V} {r : L2.St} {v : V} : SetAt (x :: r) 0 v (some v :: r)
  | there {x : Option V} {r r' : L2.St} {n : Nat} {v : V} : SetAt r n v r' → SetAt (x :: r) (n + 1) v (x :: r')
theorem SetAt.eq {σ σ' : L2.St} {i : Nat} {v : V} (h : SetAt σ i v σ') : σ.set i (some v) = σ' := by
  induction h with
  | here => rfl
  | there _ ih => show _ :: _ = _; rw [ih]
inductive GetAt : L2.St → Nat → V → Prop
  | here {r : L2.St} {v : V} : GetAt (some v :: r) 0 v
  | there {x : Option V} {r : L2.St} {n : Nat} {v : V} : GetAt r n v → GetAt (x :: r) (n + 1) v
theorem GetAt.eq {σ : L2.St} {i : Nat} {v : V} (h : GetAt σ i v) : σ[i]? = some (some v) := by
  induction h with
  | here => rfl
  | there _ ih => simpa using ih

/-- a list that L tells as data, owned or frozen; a list or a tuple -/
inductive LsIn (K : PySem.W.Frag) (L : List Ent) (a : Addr) (ds : List PyData) : Prop
  | own (h : Lg.ls K a ds ∈ L)
  | dat (h : Lg.dat (.ref a) (.list ds) ∈ L)
inductive See (K : PySem.W.Frag) (L : List Ent) : V → PyData → Prop
  | is {v : V} {d : PyData} (h : Is L v d) : See K L v d
  | own {a : Addr} {ds : List PyData} (h : Lg.ls K a ds ∈ L) : See K L (.ref a) (.list ds)
section
variable {K : PySem.W.Frag} {L L' : List Ent} {H F : Hp} {a p : Addr} {ds es : List PyData} {d e : PyData} {v : V}
theorem LsIn.ok (h : LsIn K L a ds) (e : Ex F H) (q : ∀ e ∈ L, e.ok K F H) : ∃ xs, H a = some (.lst xs) ∧ DvAll K F xs ds := by
  cases h with
  | own m =>
    obtain ⟨_, x, h1, xs, rfl, h2⟩ := q _ m
    exact ⟨xs, h1, h2⟩
  | dat m =>
    have h1 : Dv K F (.ref a) (.list ds) := q _ m
    cases h1 with
    | lst h2 h3 => exact ⟨_, e _ _ h2, h3⟩
theorem LsIn.more (h : LsIn K L a ds) (s : ∀ e ∈ L, e ∈ L') : LsIn K L' a ds := by
  cases h with
  | own m => exact .own (s _ m)
  | dat m => exact .dat (s _ m)
theorem LsIn.cons {e : Ent} (h : LsIn K L a ds) : LsIn K (e :: L) a ds := h.more fun _ m => .tail _ m
theorem St.lsin (hS : St K L H) (h : LsIn K L a ds) : ∃ F xs, Ex F H ∧ (∀ e ∈ L, e.ok K F H) ∧ H a = some (.lst xs) ∧ DvAll K F xs ds := by
  obtain ⟨F, h1, h2⟩ := hS.ex
  obtain ⟨xs, h3, h4⟩ := h.ok h1 h2
  exact ⟨F, xs, h1, h2, h3, h4⟩
theorem See.dp (hS : St K L H) (h : See K L v d) : Dp K H v d := by
  cases h with
  | is h => exact hS.dp h
  | own m =>
    obtain ⟨F, xs, h1, _, h3, h4⟩ := hS.lsin (.own m)
    exact .lst (SqL.of h3) (DpAll.of (DvAll.mono h1 _ _ h4))
where DpAll.of {xs : List V} {ds : List PyData} (h : DvAll K H xs ds) : DpAll K H xs ds := DvAll.dp _ _ h
theorem St.lenl (hS : St K L H) (h : LsIn K L a ds) : ∃ xs, H a = some (.lst xs) ∧ xs.length = ds.length := by
  obtain ⟨F, xs, _, _, h3, h4⟩ := hS.lsin h
  exact ⟨xs, h3, h4.len⟩
/-- the value of a scalar -/
theorem St.int_of {i : Int} (h : St K (.dat v (.int i) :: L) H) : v = .int i := by
  obtain ⟨F, _, h2⟩ := h.ex
  have : Dv K F v (.int i) := h2 _ (.head _)
  cases this; rfl
theorem St.str_of {x : Str} (h : St K (.dat v (.str x) :: L) H) : v = .str x := by
  obtain ⟨F, _, h2⟩ := h.ex
  have : Dv K F v (.str x) := h2 _ (.head _)
  cases this; rfl
theorem St.bl_of {b : Bool} (h : St K (.dat v (.bool b) :: L) H) : v = .bl b := by
  obtain ⟨F, _, h2⟩ := h.ex
  have : Dv K F v (.bool b) := h2 _ (.head _)
  cases this; rfl
theorem St.non_of (h : St K (.dat v .none :: L) H) : v = .non := by
  obtain ⟨F, _, h2⟩ := h.ex
  have : Dv K F v .none := h2 _ (.head _)
  cases this; rfl
theorem St.tup_of (h : St K (.dat v (.tuple ds) :: L) H) : ∃ a, v = .ref a := by
  obtain ⟨F, _, h2⟩ := h.ex
  have : Dv K F v (.tuple ds) := h2 _ (.head _)
  cases this; exact ⟨_, rfl⟩
theorem St.lst_of (h : St K (.dat v (.list ds) :: L) H) : ∃ a, v = .ref a := by
  obtain ⟨F, _, h2⟩ := h.ex
  have : Dv K F v (.list ds) := h2 _ (.head _)
  cases this; exact ⟨_, rfl⟩
end

/-! ### readings -/
def NewL (vs : List V) (H : Hp) (Q : VK) : Prop := vs.length ≤ sizeLine ∧ ∀ p, H p = none → Q (.ref p) (upd H p (.lst vs))
def NewT (vs : List V) (H : Hp) (Q : VK) : Prop := vs.length ≤ sizeLine ∧ ∀ p, H p = none → Q (.ref p) (upd H p (.tup vs))
def TyThen (K : PySem.W.Frag) (T : String) (x : V) (H : Hp) (P : Prop) : Prop := tyV K T x H ∧ P
def ChainK (b : Bool) (tc : TE) (r : R2) (y : V) (σ : L2.St) (H : Hp) (Q : VK) : Prop := if b = true then tc σ H fun w H4 => r y w H4 Q else Q (.bl false) H
section
variable {K : PySem.W.Frag} {L L' : List Ent} {H : Hp} {σ σ' : L2.St} {D : Ends} {Q : VK} {E : XK} {ta tb tc te : TE} {tt tu : TT} {t u : TS} {g : TG} {i j : Int} {x y v : V} {b c : Bool} {a p : Addr} {ds es : List PyData} {d e : PyData} {n : Nat}
theorem w_seq (h : t { D with nx := u D } σ H) : tSeq t u D σ H := h
theorem w_cut0 (h : t { D with nx := u D } σ H) : C8.tCut t u D σ H := ⟨u D, h, fun _ _ q => q⟩
theorem w_cut (Mid : L2.St → Hp → Prop) (h : t { D with nx := Mid } σ H) (k : ∀ σ' H', Mid σ' H' → u D σ' H') : C8.tCut t u D σ H := ⟨Mid, h, k⟩
theorem w_asg (h : te σ H fun x H1 => g x σ H1 D.nx) : tAsg te g D σ H := h
theorem w_name {R : L2.St → Hp → Prop} (q : SetAt σ n v σ') (h : R σ' H) : gName n v σ H R := by
  show R (σ.set n (some v)) H
  rw [q.eq]; exact h
theorem w_var (q : GetAt σ n v) (h : Q v H) : tVar n σ H Q := ⟨v, q.eq, h⟩
theorem w_c (h : Q v H) : tC v σ H Q := h
theorem w_op {r : R2} (h : ta σ H fun x H1 => tb σ H1 fun y H2 => r x y H2 Q) : tOp r ta tb σ H Q := h
theorem w_un {r : V → Hp → VK → Prop} (h : ta σ H fun x H1 => r x H1 Q) : tUn r ta σ H Q := h
theorem w_nil {R : List V → Hp → Prop} (h : R [] H) : tNil σ H R := h
theorem w_cons {tr : TA} {R : List V → Hp → Prop} (h : ta σ H fun x H1 => tr σ H1 fun xs H2 => R (x :: xs) H2) : tCons ta tr σ H R := h
theorem w_call {sp : Sp} {tr : TA} (h : tr σ H fun vs H1 => sp vs H1 Q E) : tCall sp [] E tr σ H Q := by
  show tr σ H fun vs H1 => sp (vs ++ []) H1 Q E
  simpa using h
theorem w_cb {r : List V → Hp → VK → Prop} {tr : TA} (h : tr σ H fun vs H1 => r vs H1 Q) : tCB r tr σ H Q := h
theorem w_tup {tr : TA} (h : tr σ H fun xs H1 => NewT xs H1 Q) : tTup tr σ H Q := h
theorem w_lst {tr : TA} (h : tr σ H fun xs H1 => NewL xs H1 Q) : tLst tr σ H Q := h
theorem w_bm {T : String} {r : V → List V → Hp → VK → Prop} {tr : TA} (h : ta σ H fun x H1 => TyThen K T x H1 (tr σ H1 fun xs H2 => r x xs H2 Q)) : tBM K T r ta tr σ H Q := h
theorem w_bm0 {T : String} {r : V → List V → Hp → VK → Prop} (h : ta σ H fun x H1 => TyThen K T x H1 (r x [] H1 Q)) : tBM0 K T r ta σ H Q := h
theorem w_sl {r : V → Option Int → Option Int → Hp → VK → Prop} {tl th : TO} (h : te σ H fun x H1 => tl σ H1 fun l H2 => th σ H2 fun u H3 => r x l u H3 Q) : tSl r te tl th σ H Q := h
theorem w_nopart {R : Option Int → Hp → Prop} (h : R none H) : tNoPart σ H R := h
theorem w_part {R : Option Int → Hp → Prop} (h : te σ H fun x H1 => ∃ i, x = .int i ∧ R (some i) H1) : tPart te σ H R := h
theorem w_isint {G : Int → Prop} (h : G i) : ∃ k, V.int i = .int k ∧ G k := ⟨i, rfl, h⟩
theorem w_test {R : Bool → Hp → Prop} (h : te σ H fun x H' => ∃ k, x = .bl k ∧ R k H') : tTest te σ H R := h
theorem w_tB {R : Bool → Hp → Prop} (h : te σ H fun x H' => ∃ k, x = .bl k ∧ R k H') : tB te σ H R := h
theorem w_isbl {R : Bool → Hp → Prop} (h : R b H) : ∃ k, V.bl b = .bl k ∧ R k H := ⟨b, rfl, h⟩
theorem w_isbl' {G : Bool → Prop} (h : G b) : ∃ k, V.bl b = .bl k ∧ G k := ⟨b, rfl, h⟩
theorem w_and {R : Bool → Hp → Prop} (h : tt σ H fun c H1 => if c = true then tu σ H1 R else R false H1) : tAnd tt tu σ H R := h
theorem w_or {R : Bool → Hp → Prop} (h : tt σ H fun c H1 => if c = true then R true H1 else tu σ H1 R) : tOr tt tu σ H R := h
theorem w_not {R : Bool → Hp → Prop} (h : tt σ H fun c H1 => R (!c) H1) : tNot tt σ H R := h
/-- both tests leave the heap -/
theorem w_andP {R : Bool → Hp → Prop} (h1 : ∀ R' : Bool → Hp → Prop, R' b H → tt σ H R') (h2 : b = true → ∀ R' : Bool → Hp → Prop, R' c H → tu σ H R') (h : R (b && c) H) : tAnd tt tu σ H R := by
  refine h1 _ ?_
  cases b with
  | true => exact h2 rfl _ h
  | false => exact h
theorem w_orP {R : Bool → Hp → Prop} (h1 : ∀ R' : Bool → Hp → Prop, R' b H → tt σ H R') (h2 : b = false → ∀ R' : Bool → Hp → Prop, R' c H → tu σ H R') (h : R (b || c) H) : tOr tt tu σ H R := by
  refine h1 _ ?_
  cases b with
  | true => exact h
  | false => exact h2 rfl _ h
theorem w_ifexp (h : tt σ H fun c H1 => if c = true then ta σ H1 Q else tb σ H1 Q) : tIf tt ta tb σ H Q := h
theorem w_andV (h : ta σ H fun x H1 => ∃ c, x = .bl c ∧ if c = true then tb σ H1 Q else Q (.bl false) H1) : tAndV ta tb σ H Q := h
theorem w_orV (h : ta σ H fun x H1 => ∃ c, x = .bl c ∧ if c = true then Q (.bl true) H1 else tb σ H1 Q) : tOrV ta tb σ H Q := h
theorem w_andVP (h1 : ∀ R' : VK, R' (.bl b) H → ta σ H R') (h2 : b = true → ∀ R' : VK, R' (.bl c) H → tb σ H R') (h : Q (.bl (b && c)) H) : tAndV ta tb σ H Q := by
  refine h1 _ ⟨b, rfl, ?_⟩
  cases b with
  | true => exact h2 rfl _ h
  | false => exact h
theorem w_orVP (h1 : ∀ R' : VK, R' (.bl b) H → ta σ H R') (h2 : b = false → ∀ R' : VK, R' (.bl c) H → tb σ H R') (h : Q (.bl (b || c)) H) : tOrV ta tb σ H Q := by
  refine h1 _ ⟨b, rfl, ?_⟩
  cases b with
  | true => exact h
  | false => exact h2 rfl _ h
theorem w_notV (h : ta σ H fun x H1 => ∃ c, x = .bl c ∧ Q (.bl (!c)) H1) : tNotV ta σ H Q := h
theorem w_tru {R : Bool → Hp → Prop} (h : ta σ H fun x H' => ∃ k, TruV K x H' k ∧ R k H') : tTruX K ta σ H R := h
theorem w_truI {R : Bool → Hp → Prop} (h : R (i != 0) H) : ∃ k, TruV K (.int i) H k ∧ R k H := ⟨_, rfl, h⟩
theorem w_truB {R : Bool → Hp → Prop} (h : R b H) : ∃ k, TruV K (.bl b) H k ∧ R k H := ⟨_, rfl, h⟩
theorem w_ifs (h : tt σ H fun b H1 => if b = true then t D σ H1 else u D σ H1) : tIfS tt t u D σ H := h
theorem w_next (h : D.nx σ H) : tNext D σ H := h
theorem w_break (h : D.bk σ H) : tBreak D σ H := h
theorem w_cont (h : D.ct σ H) : tCont D σ H := h
theorem w_ret (h : te σ H D.rt) : tRet te D σ H := h
theorem w_retn (h : D.rt .non H) : tRetN D σ H := h
theorem w_drop (h : te σ H fun _ H1 => D.nx σ H1) : tDrop te D σ H := h
theorem w_sub {to ti : TE} {ts : TSet} {R : L2.St → Hp → Prop} (h : to σ H fun o H1 => ti σ H1 fun i H2 => ts o i v H2 fun H3 => R σ H3) : gSub to ti ts v σ H R := h
theorem w_gnil {R : L2.St → Hp → Prop} (h : R σ H) : gNil [] σ H R := ⟨rfl, h⟩
theorem w_gcons {tg : TG} {tu : TGs} {r : List V} {R : L2.St → Hp → Prop} (h : tg v σ H fun σ' H' => tu r σ' H' R) : gCons tg tu (v :: r) σ H R := ⟨v, r, rfl, h⟩
/-! branches -/
theorem w_ite {A B : Prop} (h1 : b = true → A) (h2 : b = false → B) : if b = true then A else B := by
  cases b with
  | true => exact h1 rfl
  | false => exact h2 rfl
theorem w_ifd {P A B : Prop} [Decidable P] (h1 : P → A) (h2 : ¬ P → B) : if decide P = true then A else B := by
  by_cases h : P
  · rw [if_pos (decide_eq_true h)]; exact h1 h
  · rw [if_neg (by simp [h])]; exact h2 h
theorem w_ifnd {P A B : Prop} [Decidable P] (h1 : ¬ P → A) (h2 : P → B) : if (!decide P) = true then A else B := by
  by_cases h : P
  · rw [if_neg (by simp [h])]; exact h2 h
  · rw [if_pos (by simp [h])]; exact h1 h
theorem w_ifT {A B : Prop} (h : A) : if true = true then A else B := by rw [if_pos rfl]; exact h
theorem w_ifF {A B : Prop} (h : B) : if false = true then A else B := by rw [if_neg Bool.false_ne_true]; exact h
theorem w_ifp {P A B : Prop} [Decidable P] (hp : P) (h : A) : if decide P = true then A else B := by rw [if_pos (decide_eq_true hp)]; exact h
theorem w_ifq {P A B : Prop} [Decidable P] (hp : ¬ P) (h : B) : if decide P = true then A else B := by rw [if_neg (by simp [hp])]; exact h
theorem w_bt {A B : Prop} (hb : b = true) (h : A) : if b = true then A else B := by rw [if_pos hb]; exact h
theorem w_bf {A B : Prop} (hb : b = false) (h : B) : if b = true then A else B := by rw [if_neg (by simp [hb])]; exact h
/-! ints -/
theorem w_add (h : Q (.int (i + j)) H) : rPlus K (.int i) (.int j) H Q := .inl ⟨i, j, rfl, rfl, h⟩
theorem w_sub2 (h : Q (.int (i - j)) H) : rMinus (.int i) (.int j) H Q := ⟨i, j, rfl, rfl, h⟩
theorem w_mulL (hi : -(2 ^ 64) < i ∧ i < 2 ^ 64) (h : Q (.int (i * j)) H) : rTimes (.int i) (.int j) H Q := .inl ⟨i, j, rfl, rfl, .inl hi, h⟩
theorem w_mulR (hi : -(2 ^ 64) < j ∧ j < 2 ^ 64) (h : Q (.int (i * j)) H) : rTimes (.int i) (.int j) H Q := .inl ⟨i, j, rfl, rfl, .inr hi, h⟩
theorem w_mod (hj : 0 < j) (h : Q (.int (i % j)) H) : rMod (.int i) (.int j) H Q := ⟨i, j, rfl, rfl, hj, h⟩
theorem w_fdiv (hj : 0 < j ∧ j < 1073741824) (h : Q (.int (i / j)) H) : rFdiv (.int i) (.int j) H Q := ⟨i, j, rfl, rfl, hj, h⟩
theorem w_band (h : Q (.int (Builtin.bitAnd i j)) H) : rAnd (.int i) (.int j) H Q := ⟨i, j, rfl, rfl, h⟩
theorem w_lt (h : Q (.bl (decide (i < j))) H) : rLt (.int i) (.int j) H Q := ⟨i, j, rfl, rfl, h⟩
theorem w_le (h : Q (.bl (decide (i ≤ j))) H) : rLe (.int i) (.int j) H Q := ⟨i, j, rfl, rfl, h⟩
theorem w_gt (h : Q (.bl (decide (j < i))) H) : rGt (.int i) (.int j) H Q := ⟨i, j, rfl, rfl, h⟩
theorem w_ge (h : Q (.bl (decide (j ≤ i))) H) : rGe (.int i) (.int j) H Q := ⟨i, j, rfl, rfl, h⟩
theorem dI (i j : Int) : decide (V.int i = V.int j) = decide (i = j) := by by_cases h : i = j <;> simp [h]
theorem dS (i j : Str) : decide (V.str i = V.str j) = decide (i = j) := by by_cases h : i = j <;> simp [h]
theorem w_eqI (h : Q (.bl (decide (i = j))) H) : rEqX K (.int i) (.int j) H Q := .inl ⟨rfl, by rw [dI]; exact h⟩
theorem w_neI (h : Q (.bl (!decide (i = j))) H) : rNeX K (.int i) (.int j) H Q := .inl ⟨rfl, by rw [dI]; exact h⟩
theorem w_eqS {i j : Str} (h : Q (.bl (decide (i = j))) H) : rEqX K (.str i) (.str j) H Q := .inl ⟨rfl, by rw [dS]; exact h⟩
theorem w_neS {i j : Str} (h : Q (.bl (!decide (i = j))) H) : rNeX K (.str i) (.str j) H Q := .inl ⟨rfl, by rw [dS]; exact h⟩
theorem w_is (h : Q (.bl (decide (x = .non))) H) : rIsNo x .non H Q := ⟨rfl, h⟩
theorem w_isnot (h : Q (.bl (!decide (x = .non))) H) : rNotNo x .non H Q := ⟨rfl, h⟩
theorem w_isN (h : Q (.bl true) H) : rIsNo .non .non H Q := ⟨rfl, h⟩
theorem w_isR (h : Q (.bl false) H) : rIsNo (.ref a) .non H Q := ⟨rfl, h⟩
theorem w_isI (h : Q (.bl false) H) : rIsNo (.int i) .non H Q := ⟨rfl, h⟩
theorem w_isS {z : Str} (h : Q (.bl false) H) : rIsNo (.str z) .non H Q := ⟨rfl, h⟩
theorem w_nsN (h : Q (.bl false) H) : rNotNo .non .non H Q := ⟨rfl, h⟩
theorem w_nsR (h : Q (.bl true) H) : rNotNo (.ref a) .non H Q := ⟨rfl, h⟩
theorem w_nsI (h : Q (.bl true) H) : rNotNo (.int i) .non H Q := ⟨rfl, h⟩
theorem w_nsS {z : Str} (h : Q (.bl true) H) : rNotNo (.str z) .non H Q := ⟨rfl, h⟩
theorem w_int (h : Q (.int i) H) : rIntX [.int i] H Q := .inl ⟨i, rfl, h⟩
theorem w_intb (h : Q (.int (if b then 1 else 0)) H) : rIntX [.bl b] H Q := .inr ⟨b, rfl, h⟩
theorem w_chainLe (hc : ∀ R' : VK, R' (.int j) H → tc σ H R') (h : Q (.bl (b && decide (i ≤ j))) H) : ChainK b tc rLe (.int i) σ H Q := by
  unfold ChainK
  cases b with
  | true => rw [if_pos rfl]; exact hc _ ⟨i, j, rfl, rfl, h⟩
  | false => rw [if_neg Bool.false_ne_true]; exact h
theorem w_chainLt (hc : ∀ R' : VK, R' (.int j) H → tc σ H R') (h : Q (.bl (b && decide (i < j))) H) : ChainK b tc rLt (.int i) σ H Q := by
  unfold ChainK
  cases b with
  | true => rw [if_pos rfl]; exact hc _ ⟨i, j, rfl, rfl, h⟩
  | false => rw [if_neg Bool.false_ne_true]; exact h
theorem w_chain {r r' : R2} (h : ta σ H fun x H1 => tb σ H1 fun y H2 => r x y H2 fun z H3 => ∃ k, z = .bl k ∧ ChainK k tc r' y σ H3 Q) : tChain r r' ta tb tc σ H Q := h
/-! texts -/
theorem w_addS {y z : Str} (hl : y.length + z.length ≤ 100000) (h : Q (.str (y ++ z)) H) : rPlus K (.str y) (.str z) H Q := .inr (.inl ⟨y, z, rfl, rfl, Nat.le_trans hl (by decide), h⟩)
theorem w_repS {z : Str} (h0 : 0 ≤ i) (h1 : i ≤ 100000) (h2 : z.length ≤ 100) (h : Q (.str ⟨(repL z.cps.toList i.toNat).toArray⟩) H) : rTimes (.str z) (.int i) H Q := .inr (.inr ⟨z, i, rfl, rfl, h0, h1, h2, h⟩)
theorem w_lenS {z : Str} (hl : z.length ≤ 100000) (h : Q (.int z.length) H) : rLenX K [.str z] H Q := ⟨.str z, z.length, rfl, ⟨Nat.le_trans hl (by decide), rfl⟩, h⟩
theorem w_ord {z : Str} (hz : z.length = 1) (h : Q (.int (z.cps.getD 0 0 : Nat)) H) : rOrd [.str z] H Q := ⟨z, rfl, hz, h⟩
theorem w_ord1 {k : Nat} (h : Q (.int (k : Int)) H) : rOrd [.str ⟨#[k]⟩] H Q := ⟨_, rfl, rfl, h⟩
theorem w_ixS {z : Str} {k : Nat} (hl : z.length ≤ 100000) (hk : i = (k : Int)) {c : Nat} (hc : z.cps.toList[k]? = some c) (h : Q (.str ⟨#[c]⟩) H) : rIx K (.str z) (.int i) H Q :=
  .inr (.inr ⟨z, i, c, rfl, rfl, Nat.le_trans hl (by decide), by rw [hk]; exact atI_nat hc, h⟩)
theorem w_slS {z : Str} {lo hi : Option Int} (hl : z.length ≤ 100000) (h : Q (.str (cutS z lo hi)) H) : rSlX K (.str z) lo hi H Q := .inr (.inl ⟨z, rfl, Nat.le_trans hl (by decide), h⟩)
theorem w_tyS {z : Str} {P : Prop} (h : P) : TyThen K "str" (.str z) H P := ⟨rfl, h⟩
theorem w_inSg {k : Nat} {z : Str} (h : Q (.bl (decide (k ∈ z.cps.toList))) H) : rInX K false (.str ⟨#[k]⟩) (.str z) H Q := .inr ⟨k, z, rfl, rfl, h⟩
theorem w_ninSg {k : Nat} {z : Str} (h : Q (.bl (!decide (k ∈ z.cps.toList))) H) : rInX K true (.str ⟨#[k]⟩) (.str z) H Q := .inr ⟨k, z, rfl, rfl, h⟩
/-! lists -/
theorem w_newL {vs : List V} (hS : St K L H) (hv : IsAll L vs ds) (hn : vs.length ≤ 1000) (h : ∀ p H', St K (Lg.ls K p ds :: L) H' → Q (.ref p) H') : NewL vs H Q :=
  ⟨Nat.le_trans hn (by decide), fun p hp => h p _ (hS.alloc hp fun F _ q => ⟨vs, rfl, hv.dv q⟩)⟩
theorem w_newLr {vs : List V} (hS : St K L H) (hn : vs.length ≤ 1000) (h : ∀ p H', St K (Lg.own p (.lst vs) :: L) H' → Q (.ref p) H') : NewL vs H Q :=
  ⟨Nat.le_trans hn (by decide), fun p hp => h p _ (hS.alloc hp fun F _ q => rfl)⟩
theorem w_newT {vs : List V} (hS : St K L H) (hv : IsAll L vs ds) (hn : vs.length ≤ 1000) (h : ∀ p H', St K (Lg.dat (.ref p) (.tuple ds) :: L) H' → Q (.ref p) H') : NewT vs H Q :=
  ⟨Nat.le_trans hn (by decide), fun p hp => h p _ (hS.fresh hp fun F hF _ q => .tup (SqT.of upd_same) (DvAll.mono (Ex.new hF) _ _ (hv.dv q)))⟩
theorem w_newTr {vs : List V} (hS : St K L H) (hn : vs.length ≤ 1000) (h : ∀ p H', St K (Lg.own p (.tup vs) :: L) H' → Q (.ref p) H') : NewT vs H Q :=
  ⟨Nat.le_trans hn (by decide), fun p hp => h p _ (hS.alloc hp fun F _ q => rfl)⟩
theorem w_tyL {P : Prop} (hS : St K L H) (hl : LsIn K L a ds) (h : P) : TyThen K "list" (.ref a) H P := by
  obtain ⟨F, xs, _, _, h3, _⟩ := hS.lsin hl
  exact ⟨.inl ⟨rfl, _, SqL.of h3⟩, h⟩
theorem w_app (hS : St K L H) (hp : Put L (Lg.ls K a ds) (Lg.ls K a (ds ++ [d])) L') (hv : Is L v d) (hn : ds.length ≤ 100000) (h : ∀ H', St K L' H' → Q .non H') : rAppend (.ref a) [v] H Q := by
  obtain ⟨F, xs, h1, h2, h3, h4⟩ := hS.lsin (.own hp.mem)
  refine ⟨a, xs, v, rfl, rfl, h3, ?_, h _ (hS.writeP hp fun F' x e q hx hφ => ?_)⟩
  · rw [h4.len]; exact Nat.lt_of_le_of_lt hn (by decide)
  · obtain ⟨ys, rfl, hys⟩ := hφ
    rw [h3] at hx
    cases hx
    exact ⟨_, rfl, hys.app (.cons (hv.dv q) .nil)⟩
theorem w_pop (hS : St K L H) (hp : Put L (Lg.ls K a (ds ++ [d])) (Lg.ls K a ds) L') (h : ∀ v H', St K (.dat v d :: L') H' → Q v H') : rPop (.ref a) [] H Q := by
  obtain ⟨F, xs, h1, h2, h3, h4⟩ := hS.lsin (.own hp.mem)
  have hlen := h4.len
  obtain ⟨v, hv, hd⟩ := h4.get (i := ds.length) (d := d) (by simp)
  have hxs : xs.length - 1 = ds.length := by rw [hlen]; simp
  refine ⟨a, xs, v, rfl, rfl, h3, by rw [hxs]; exact hv, h _ _ ?_⟩
  have hS' := hS.know (v := v) (d := d) fun F' e q => by
    obtain ⟨ys, h5, h6⟩ := LsIn.ok (.own hp.mem) e q
    rw [h3] at h5
    cases h5
    obtain ⟨v', hv', hd'⟩ := h6.get (i := ds.length) (d := d) (by simp)
    rw [hv] at hv'
    cases hv'
    exact hd'
  refine hS'.writeP (.there hp) fun F' x e q hx hφ => ?_
  obtain ⟨ys, rfl, hys⟩ := hφ
  rw [h3] at hx
  cases hx
  refine ⟨_, rfl, ?_⟩
  have := hys.take ds.length
  rw [List.take_left] at this
  rw [List.dropLast_eq_take, hxs]
  exact this
theorem w_setL {k : Nat} (hS : St K L H) (hp : Put L (Lg.ls K a ds) (Lg.ls K a (ds.set k d)) L') (hv : Is L v d) (hk : i = (k : Int)) (hn : k < ds.length) {R : Hp → Prop} (h : ∀ H', St K L' H' → R H') : rSetL (.ref a) (.int i) v H R := by
  obtain ⟨F, xs, h1, h2, h3, h4⟩ := hS.lsin (.own hp.mem)
  refine ⟨a, xs, i, k, rfl, rfl, h3, ?_, h _ (hS.writeP hp fun F' x e q hx hφ => ?_)⟩
  · rw [hk]
    unfold ixN
    rw [if_pos (by omega), if_pos (by rw [h4.len]; omega)]
    simp
  · obtain ⟨ys, rfl, hys⟩ := hφ
    rw [h3] at hx
    cases hx
    exact ⟨_, rfl, hys.set _ (hv.dv q)⟩
theorem w_lenL (hS : St K L H) (hl : LsIn K L a ds) (h : Q (.int ds.length) H) : rLenX K [.ref a] H Q := by
  obtain ⟨F, xs, h1, h2, h3, h4⟩ := hS.lsin hl
  exact ⟨.ref a, ds.length, rfl, .inl ⟨xs, SqL.of h3, h4.len.symm⟩, h⟩
theorem w_lenT (hS : St K L H) (hl : Is L (.ref a) (.tuple ds)) (h : Q (.int ds.length) H) : rLenX K [.ref a] H Q := by
  obtain ⟨xs, h1, h2, _⟩ := hS.tup_parts hl
  exact ⟨.ref a, ds.length, rfl, .inr ⟨xs, h1, h2.symm⟩, h⟩
theorem St.item (hS : St K L H) (hl : LsIn K L a ds) {k : Nat} (hd : ds[k]? = some d) : ∃ xs v, H a = some (.lst xs) ∧ xs[k]? = some v ∧ xs.length = ds.length ∧ St K (.dat v d :: L) H := by
  obtain ⟨F, xs, h1, h2, h3, h4⟩ := hS.lsin hl
  obtain ⟨v, h5, h6⟩ := h4.get hd
  refine ⟨xs, v, h3, h5, h4.len, hS.know fun F' e q => ?_⟩
  obtain ⟨ys, h7, h8⟩ := hl.ok e q
  rw [h3] at h7
  cases h7
  obtain ⟨v', h9, h10⟩ := h8.get hd
  rw [h5] at h9
  cases h9
  exact h10
theorem w_ixL {k : Nat} (hS : St K L H) (hl : LsIn K L a ds) (hk : i = (k : Int)) (hd : ds[k]? = some d) (h : ∀ v, St K (.dat v d :: L) H → Q v H) : rIx K (.ref a) (.int i) H Q := by
  obtain ⟨xs, v, h3, h5, _, h6⟩ := hS.item hl hd
  exact .inl ⟨a, xs, i, v, rfl, rfl, SqL.of h3, by rw [hk]; exact at_of rfl h5, h v h6⟩
theorem w_ixLi {k : Nat} {m : Int} (hS : St K L H) (hl : LsIn K L a ds) (hk : i = (k : Int)) (hd : ds[k]? = some (.int m)) (h : Q (.int m) H) : rIx K (.ref a) (.int i) H Q :=
  w_ixL hS hl hk hd fun v h6 => by rw [h6.int_of]; exact h
theorem w_ixLs {k : Nat} {m : Str} (hS : St K L H) (hl : LsIn K L a ds) (hk : i = (k : Int)) (hd : ds[k]? = some (.str m)) (h : Q (.str m) H) : rIx K (.ref a) (.int i) H Q :=
  w_ixL hS hl hk hd fun v h6 => by rw [h6.str_of]; exact h
theorem w_ixT {k : Nat} (hS : St K L H) (hl : Is L (.ref a) (.tuple ds)) (hk : i = (k : Int)) (hd : ds[k]? = some d) (h : ∀ v, St K (.dat v d :: L) H → Q v H) : rIx K (.ref a) (.int i) H Q := by
  obtain ⟨xs, h1, h2, h3⟩ := hS.tup_parts hl
  obtain ⟨v, h4, h5⟩ := h3 _ _ hd
  exact .inr (.inl ⟨a, xs, i, v, rfl, rfl, h1, by rw [hk]; exact at_of rfl h4, h v h5⟩)
theorem w_ixTi {k : Nat} {m : Int} (hS : St K L H) (hl : Is L (.ref a) (.tuple ds)) (hk : i = (k : Int)) (hd : ds[k]? = some (.int m)) (h : Q (.int m) H) : rIx K (.ref a) (.int i) H Q :=
  w_ixT hS hl hk hd fun v h6 => by rw [h6.int_of]; exact h
theorem w_ixTs {k : Nat} {m : Str} (hS : St K L H) (hl : Is L (.ref a) (.tuple ds)) (hk : i = (k : Int)) (hd : ds[k]? = some (.str m)) (h : Q (.str m) H) : rIx K (.ref a) (.int i) H Q :=
  w_ixT hS hl hk hd fun v h6 => by rw [h6.str_of]; exact h
theorem w_plusL (hS : St K L H) (h1 : LsIn K L a ds) (h2 : LsIn K L p es) (hn : ds.length + es.length ≤ 100000) (h : ∀ q H', St K (Lg.ls K q (ds ++ es) :: L) H' → Q (.ref q) H') : rPlus K (.ref a) (.ref p) H Q := by
  obtain ⟨F, xs, g1, g2, g3, g4⟩ := hS.lsin h1
  obtain ⟨ys, g5, g6⟩ := h2.ok g1 g2
  refine .inr (.inr (.inl ⟨a, p, xs, ys, rfl, rfl, g3, g5, ?_, fun q hq => h q _ (hS.alloc hq fun F' e w => ?_)⟩))
  · rw [g4.len, g6.len]; exact Nat.le_trans hn (by decide)
  · obtain ⟨xs', k1, k2⟩ := h1.ok e w
    obtain ⟨ys', k3, k4⟩ := h2.ok e w
    rw [g3] at k1; cases k1
    rw [g5] at k3; cases k3
    exact ⟨_, rfl, k2.app k4⟩
theorem w_repLs (hS : St K L H) (h1 : LsIn K L a ds) (h0 : i ≤ 100000) (h0' : -100000 ≤ i) (hn : ds.length * i.toNat ≤ 100000) (h : ∀ q H', St K (Lg.ls K q (List.replicate i.toNat ds).flatten :: L) H' → Q (.ref q) H') : rTimes (.ref a) (.int i) H Q := by
  obtain ⟨F, xs, g1, g2, g3, g4⟩ := hS.lsin h1
  refine .inr (.inl ⟨a, i, xs, rfl, rfl, g3, by omega, by omega, ?_, fun q hq => h q _ (hS.alloc hq fun F' e w => ?_)⟩)
  · rw [g4.len]; exact Nat.le_trans hn (by decide)
  · obtain ⟨xs', k1, k2⟩ := h1.ok e w
    rw [g3] at k1; cases k1
    exact ⟨_, rfl, k2.flat _⟩
def cutD (ds : List PyData) (lo hi : Option Int) : List PyData := (ds.drop (HT.sIx ds.length 0 lo)).take (HT.sIx ds.length ds.length hi - HT.sIx ds.length 0 lo)
theorem w_slL {lo hi : Option Int} (hS : St K L H) (h1 : LsIn K L a ds) (h : ∀ q H', St K (Lg.ls K q (cutD ds lo hi) :: L) H' → Q (.ref q) H') : rSlX K (.ref a) lo hi H Q := by
  obtain ⟨F, xs, g1, g2, g3, g4⟩ := hS.lsin h1
  refine .inl ⟨a, xs, rfl, SqL.of g3, fun q hq => h q _ (hS.alloc hq fun F' e w => ?_)⟩
  obtain ⟨xs', k1, k2⟩ := h1.ok e w
  rw [g3] at k1; cases k1
  refine ⟨_, rfl, ?_⟩
  unfold cutV cutD
  rw [g4.len]
  exact (k2.drop _).take _
theorem w_listL (hS : St K L H) (h1 : LsIn K L a ds) (h : ∀ q H', St K (Lg.ls K q ds :: L) H' → Q (.ref q) H') : rListOf K [.ref a] H Q := by
  obtain ⟨F, xs, g1, g2, g3, g4⟩ := hS.lsin h1
  refine ⟨a, xs, rfl, .inl (SqL.of g3), fun q hq => h q _ (hS.alloc hq fun F' e w => ?_)⟩
  obtain ⟨xs', k1, k2⟩ := h1.ok e w
  rw [g3] at k1; cases k1
  exact ⟨_, rfl, k2⟩
theorem w_tupL (hS : St K L H) (h1 : LsIn K L a ds) (h : ∀ q H', St K (Lg.dat (.ref q) (.tuple ds) :: L) H' → Q (.ref q) H') : rTupOf K [.ref a] H Q := by
  obtain ⟨F, xs, g1, g2, g3, g4⟩ := hS.lsin h1
  refine ⟨a, xs, rfl, .inl ⟨SqL.of g3, fun q hq => h q _ (hS.fresh hq fun F' hF' e w => ?_)⟩⟩
  obtain ⟨xs', k1, k2⟩ := h1.ok e w
  rw [g3] at k1; cases k1
  exact .tup (SqT.of upd_same) (DvAll.mono (Ex.new hF') _ _ k2)
theorem w_eqD (hS : St K L H) (h1 : See K L x d) (h2 : See K L y e) (s1 : SeqAt.shaped d = true) (s2 : SeqAt.shaped e = true) (h : Q (.bl (PyData.eqv d e)) H) : rEqX K x y H Q :=
  .inr ⟨d, e, h1.dp hS, h2.dp hS, s1, s2, h⟩
theorem w_neD (hS : St K L H) (h1 : See K L x d) (h2 : See K L y e) (s1 : SeqAt.shaped d = true) (s2 : SeqAt.shaped e = true) (h : Q (.bl (!PyData.eqv d e)) H) : rNeX K x y H Q :=
  .inr ⟨d, e, h1.dp hS, h2.dp hS, s1, s2, h⟩
theorem shaped_self (s1 : SeqAt.shaped d = true) : PyData.eqv d d = true := SeqAt.eqv_refl d (SeqAt.canLay_of_shaped s1)
theorem w_eq1 (hS : St K L H) (h1 : See K L x d) (h2 : See K L y d) (s1 : SeqAt.shaped d = true) (h : Q (.bl true) H) : rEqX K x y H Q :=
  w_eqD hS h1 h2 s1 s1 (by rw [shaped_self s1]; exact h)
theorem w_ne1 (hS : St K L H) (h1 : See K L x d) (h2 : See K L y d) (s1 : SeqAt.shaped d = true) (h : Q (.bl false) H) : rNeX K x y H Q :=
  w_neD hS h1 h2 s1 s1 (by rw [shaped_self s1]; exact h)
theorem ints_ib (ns : List Int) : (ns.map V.int).all flatIB = true := by simp [flatIB]
theorem bls_ib (ns : List Bool) : (ns.map V.bl).all flatIB = true := by simp [flatIB]
theorem w_anyB {bs : List Bool} (hS : St K L H) (h1 : LsIn K L a (bs.map PyData.bool)) (h : Q (.bl (bs.any id)) H) : rAnyX K [.ref a] H Q := by
  obtain ⟨F, xs, g1, g2, g3, g4⟩ := hS.lsin h1
  have e := g4.bls_inv
  subst e
  refine ⟨a, _, rfl, SqL.of g3, bls_ib bs, ?_⟩
  have : (bs.map V.bl).any trV = bs.any id := by rw [List.any_map]; rfl
  rw [this]; exact h
theorem w_allB {bs : List Bool} (hS : St K L H) (h1 : LsIn K L a (bs.map PyData.bool)) (h : Q (.bl (bs.all id)) H) : rAllX K [.ref a] H Q := by
  obtain ⟨F, xs, g1, g2, g3, g4⟩ := hS.lsin h1
  have e := g4.bls_inv
  subst e
  refine ⟨a, _, rfl, SqL.of g3, bls_ib bs, ?_⟩
  have : (bs.map V.bl).all trV = bs.all id := by rw [List.all_map]; rfl
  rw [this]; exact h
theorem w_anyI {ns : List Int} (hS : St K L H) (h1 : LsIn K L a (ns.map PyData.int)) (h : Q (.bl (ns.any (· != 0))) H) : rAnyX K [.ref a] H Q := by
  obtain ⟨F, xs, g1, g2, g3, g4⟩ := hS.lsin h1
  have e := g4.ints_inv
  subst e
  refine ⟨a, _, rfl, SqL.of g3, ints_ib ns, ?_⟩
  have : (ns.map V.int).any trV = ns.any (· != 0) := by rw [List.any_map]; rfl
  rw [this]; exact h
theorem w_join {z : Str} {ys : List Str} (hS : St K L H) (h1 : LsIn K L a (ys.map PyData.str)) (hn : (ys.map (·.length)).sum + ys.length * z.length ≤ 100000) (h : Q (.str (Txt.join z ys)) H) : rJoin K (.str z) [.ref a] H Q := by
  obtain ⟨F, xs, g1, g2, g3, g4⟩ := hS.lsin h1
  exact ⟨z, a, ys, rfl, rfl, .inl (by rw [← g4.strs_inv]; exact SqL.of g3), Nat.le_trans hn (by decide), h⟩
/-! isinstance -/
theorem w_isi {T U : String} (hT : TyX K H x (.type T)) (hk : kitB T U = some b) (h : Q (.bl b) H) : rIsi K [x, .ty U] H Q := ⟨x, .ty U, .type T, .type U, b, rfl, .ty U, hT, kit_ty hk, h⟩
theorem w_isiL {U : String} (hS : St K L H) (hl : LsIn K L a ds) (hk : kitB "list" U = some b) (h : Q (.bl b) H) : rIsi K [.ref a, .ty U] H Q := by
  obtain ⟨F, xs, _, _, h3, _⟩ := hS.lsin hl
  exact w_isi (.base (.lst h3)) hk h
theorem w_isiI {U : String} (hk : kitB "int" U = some b) (h : Q (.bl b) H) : rIsi K [.int i, .ty U] H Q := w_isi (.base (.int i)) hk h
theorem w_isiS {z : Str} {U : String} (hk : kitB "str" U = some b) (h : Q (.bl b) H) : rIsi K [.str z, .ty U] H Q := w_isi (.base (.str z)) hk h
theorem w_isiN {U : String} (hk : kitB "NoneType" U = some b) (h : Q (.bl b) H) : rIsi K [.non, .ty U] H Q := w_isi (.base .non) hk h
theorem w_isiT {U : String} (hS : St K L H) (hl : Is L (.ref a) (.tuple ds)) (hk : kitB "tuple" U = some b) (h : Q (.bl b) H) : rIsi K [.ref a, .ty U] H Q := by
  obtain ⟨xs, h1, h2, _⟩ := hS.tup_parts hl
  rcases h1 with (h1 | ⟨o, h1⟩) | ⟨o, its, n, h1, hc, _⟩
  · exact w_isi (.base (.tup h1)) hk h
  · exact w_isi (.fTuple h1) hk h
  · exact w_isi (.kTuple h1 hc) hk h
end
end Lg

/-! Loops, comprehensions, the draws. -/
namespace Lg
open PySem PySem.Spec PyProof.Rows L2

def iAny (K : PySem.W.Frag) (tl : TE) : TI := fun σ H R => iList K tl σ H R ∨ (iTup K tl σ H R ∨ iStr tl σ H R)
def gUnp (K : PySem.W.Frag) (n : Nat) (t : TGs) : TG := fun v σ H Q => gTup K n t v σ H Q ∨ gUnl K n t v σ H Q
section
variable {X : Cx}
theorem PI.or {tg iter : Expr} {w1 w2 : TI} (h1 : PI X tg iter w1) (h2 : PI X tg iter w2) : PI X tg iter (fun σ H R => w1 σ H R ∨ w2 σ H R) :=
  ⟨fun pins s σ H R I h => h.elim (fun q => h1.run pins s σ H R I q) fun q => h2.run pins s σ H R I q⟩
theorem pi_any {tg l : Expr} {tl : TE} (hl : PE X l tl) : PI X tg l (iAny X.K tl) := PI.or (pi_list hl) (PI.or (pi_tup hl) (pi_str hl))
theorem PG.or {target : Expr} {t u : TG} (h1 : PG X target t) (h2 : PG X target u) : PG X target (fun v σ H Q => t v σ H Q ∨ u v σ H Q) :=
  ⟨fun pins s σ H v w Q I r h => h.elim (fun q => h1.run pins s σ H v w Q I r q) fun q => h2.run pins s σ H v w Q I r q⟩
theorem pg_unp {es : List Expr} {k : Nat} {t : TGs} {n : Nat} {pos : Pos} (hc : X.calm = true) (h : PGs X es t)
    (hn : (assignEach es X.env).length = n := by rfl) (hst : (assignEach es X.env).findIdx? (·.1) = none := by rfl) : PG X (.Tuple es k pos) (gUnp X.K n t) := PG.or (pg_tup hc h hn hst) (pg_unl hc h hn hst)
end

def Rng1 (vs : List V) (H1 : Hp) (R : It → Hp → Prop) : Prop := ∃ j : Int, vs = [.int j] ∧ -(2 ^ 62) ≤ j ∧ j < 2 ^ 62 ∧ R (Itr 0 j.toNat) H1
def Rng2 (vs : List V) (H1 : Hp) (R : It → Hp → Prop) : Prop := ∃ i j : Int, vs = [.int i, .int j] ∧ (-(2 ^ 62) ≤ i ∧ i < 2 ^ 62 ∧ -(2 ^ 62) ≤ j ∧ j < 2 ^ 62) ∧ R (Itr i (j - i).toNat) H1
def Rng3 (vs : List V) (H1 : Hp) (R : It → Hp → Prop) : Prop := ∃ (i j c : Int) (n : Nat), vs = [.int i, .int j, .int c] ∧ RgC i j c n ∧ R (Itc i c n) H1
def Enu (K : PySem.W.Frag) (vs : List V) (H1 : Hp) (R : It → Hp → Prop) : Prop := ∃ a xs, vs = [.ref a] ∧ SqL K H1 a xs ∧ R (Ite K a) H1
def AnyL (K : PySem.W.Frag) (x : V) (H1 : Hp) (R : It → Hp → Prop) : Prop := ∃ a, x = .ref a ∧ (∃ xs, SqL K H1 a xs) ∧ R (Itl K a) H1
def AnyT (K : PySem.W.Frag) (x : V) (H1 : Hp) (R : It → Hp → Prop) : Prop := ∃ a, x = .ref a ∧ (∃ xs, SqT K H1 a xs) ∧ R (Itt K a) H1
def AnyS (v : V) (H1 : Hp) (R : It → Hp → Prop) : Prop := ∃ x, v = .str x ∧ R (Its x) H1
def AnyV (K : PySem.W.Frag) (v : V) (H1 : Hp) (R : It → Hp → Prop) : Prop := AnyL K v H1 R ∨ (AnyT K v H1 R ∨ AnyS v H1 R)
def ForW (J : It) (g : TG) (tb : TS) (D : Ends) (σ : L2.St) (H1 : Hp) : Prop := ∃ W : Nat → Nat → L2.St → Hp → Prop, (∃ m, W 0 m σ H1) ∧ ∀ i m σ H, W i m σ H →
  (J.stop i H ∧ D.nx σ H) ∨ (J.go i H ∧ ∃ N : L2.St → Hp → Prop, (∀ σ' H', N σ' H' → ∃ m', m' < m ∧ W (i + 1) m' σ' H') ∧ ∀ x H', J.yld i H x H' → g x σ H' fun σ2 H2 => tb { D with nx := N, ct := N, bk := D.nx } σ2 H2)
def LcW (J : It) (g : TG) (tt : TT) (te : TE) (vs : List Nat) (σ : L2.St) (H1 : Hp) (Q : VK) : Prop := ∀ D, H1 D = none → ∃ W : Nat → Nat → Hp → Prop, (∃ m, W 0 m (upd H1 D (.lst []))) ∧ ∀ i m H, W i m H →
  (J.stop i H ∧ Q (.ref D) H) ∨ (J.go i H ∧ ∃ Nx : Hp → Prop, (∀ H', Nx H' → ∃ m', m' < m ∧ W (i + 1) m' H') ∧ ∀ x H', J.yld i H x H' → g x (wipe σ vs) H' fun σ2 H2 => wipe σ2 vs = wipe σ vs ∧ tt σ2 H2 fun b H3 =>
    if b = true then te σ2 H3 fun y H4 => ∃ acc, H4 D = some (.lst acc) ∧ acc.length < sizeLine ∧ Nx (upd H4 D (.lst (acc ++ [y]))) else Nx H3)
section
variable {K : PySem.W.Frag} {L L' : List Ent} {H : Hp} {σ σ' : L2.St} {D : Ends} {Q : VK} {E : XK} {ta tb tc te tl : TE} {tt tu : TT} {t u tbody : TS} {g : TG} {i j : Int} {x y v : V} {b c : Bool} {a p : Addr} {ds es : List PyData} {d e : PyData} {n : Nat} {vs : List Nat} {wi : TI}
theorem w_for (h : wi σ H fun J H1 => ForW J g tbody D σ H1) : tFor wi g tbody D σ H := h
theorem w_lc (h : wi σ H fun J H1 => LcW J g tt te vs σ H1 Q) : tLc wi g tt te vs σ H Q := h
/-! the walked thing -/
theorem w_anyL1 {R : It → Hp → Prop} (h : tl σ H fun x H1 => AnyL K x H1 R) : iAny K tl σ H R := .inl h
theorem w_anyT1 {R : It → Hp → Prop} (h : tl σ H fun x H1 => AnyT K x H1 R) : iAny K tl σ H R := .inr (.inl h)
theorem w_anyS1 {R : It → Hp → Prop} (h : tl σ H fun v H1 => AnyS v H1 R) : iAny K tl σ H R := .inr (.inr h)
theorem w_anyVar {n : Nat} {R : It → Hp → Prop} (q : GetAt σ n v) (h : AnyV K v H R) : iAny K (tVar n) σ H R := by
  rcases h with h | h | h
  · exact .inl ⟨v, q.eq, h⟩
  · exact .inr (.inl ⟨v, q.eq, h⟩)
  · exact .inr (.inr ⟨v, q.eq, h⟩)
theorem w_anyC {R : It → Hp → Prop} (h : AnyV K v H R) : iAny K (tC v) σ H R := h
theorem w_vS {z : Str} {R : It → Hp → Prop} (h : R (Its z) H) : AnyV K (.str z) H R := .inr (.inr ⟨z, rfl, h⟩)
theorem w_vL {R : It → Hp → Prop} (hS : St K L H) (hl : LsIn K L a ds) (h : R (Itl K a) H) : AnyV K (.ref a) H R := by
  obtain ⟨F, xs, _, _, h3, _⟩ := hS.lsin hl
  exact .inl ⟨a, rfl, ⟨xs, SqL.of h3⟩, h⟩
theorem w_vT {R : It → Hp → Prop} (hS : St K L H) (hl : Is L (.ref a) (.tuple ds)) (h : R (Itt K a) H) : AnyV K (.ref a) H R := by
  obtain ⟨xs, h1, _⟩ := hS.tup_parts hl
  exact .inr (.inl ⟨a, rfl, ⟨xs, h1⟩, h⟩)
theorem w_itL {R : It → Hp → Prop} (hS : St K L H) (hl : LsIn K L a ds) (h : R (Itl K a) H) : AnyL K (.ref a) H R := by
  obtain ⟨F, xs, _, _, h3, _⟩ := hS.lsin hl
  exact ⟨a, rfl, ⟨xs, SqL.of h3⟩, h⟩
theorem w_itT {R : It → Hp → Prop} (hS : St K L H) (hl : Is L (.ref a) (.tuple ds)) (h : R (Itt K a) H) : AnyT K (.ref a) H R := by
  obtain ⟨xs, h1, _⟩ := hS.tup_parts hl
  exact ⟨a, rfl, ⟨xs, h1⟩, h⟩
theorem w_itS {R : It → Hp → Prop} {z : Str} (h : R (Its z) H) : AnyS (.str z) H R := ⟨z, rfl, h⟩
theorem w_rng1 {ta : TA} {R : It → Hp → Prop} (h : ta σ H fun vs H1 => Rng1 vs H1 R) : iRng1 ta σ H R := h
theorem w_rng2 {ta : TA} {R : It → Hp → Prop} (h : ta σ H fun vs H1 => Rng2 vs H1 R) : iRng2 ta σ H R := h
theorem w_rng3 {ta : TA} {R : It → Hp → Prop} (h : ta σ H fun vs H1 => Rng3 vs H1 R) : iRng3 ta σ H R := h
theorem w_itR1 {R : It → Hp → Prop} (hj : -100000 ≤ j ∧ j ≤ 100000000) (h : R (Itr 0 j.toNat) H) : Rng1 [.int j] H R := ⟨j, rfl, by omega, by omega, h⟩
theorem w_itR2 {R : It → Hp → Prop} (hi : -100000 ≤ i ∧ i ≤ 100000000) (hj : -100000 ≤ j ∧ j ≤ 100000000) (h : R (Itr i (j - i).toNat) H) : Rng2 [.int i, .int j] H R :=
  ⟨i, j, rfl, by omega, h⟩
theorem w_itR3 {R : It → Hp → Prop} {k : Int} {n : Nat} (hc : RgC i j k n) (h : R (Itc i k n) H) : Rng3 [.int i, .int j, .int k] H R := ⟨i, j, k, n, rfl, hc, h⟩
theorem w_enum {ta : TA} {R : It → Hp → Prop} (h : ta σ H fun vs H1 => Enu K vs H1 R) : iEnum K ta σ H R := h
theorem w_itE {R : It → Hp → Prop} (hS : St K L H) (hl : LsIn K L a ds) (h : R (Ite K a) H) : Enu K [.ref a] H R := by
  obtain ⟨F, xs, _, _, h3, _⟩ := hS.lsin hl
  exact ⟨a, xs, rfl, SqL.of h3, h⟩
/-! for -/
theorem w_forL (I : Nat → L2.St → Hp → Prop) (h0 : I 0 σ H) (hI : ∀ i σ H, i ≤ ds.length → I i σ H → ∃ L, St K L H ∧ LsIn K L a ds)
    (hs : ∀ i d v σ H, ds[i]? = some d → I i σ H → (∀ L, St K L H → LsIn K L a ds → St K (.dat v d :: L) H) → g v σ H fun σ2 H2 => tbody { D with nx := I (i + 1), ct := I (i + 1), bk := D.nx } σ2 H2)
    (hd : ∀ σ H, I ds.length σ H → D.nx σ H) : ForW (Itl K a) g tbody D σ H := by
  refine ⟨fun i m σ H => m = ds.length - i ∧ i ≤ ds.length ∧ I i σ H, ⟨ds.length, by simp, Nat.zero_le _, h0⟩, ?_⟩
  rintro i m σ H ⟨rfl, hi, p⟩
  obtain ⟨L, hS, hl⟩ := hI i σ H hi p
  by_cases hlt : i < ds.length
  · obtain ⟨xs, v, h3, h5, hlen, h6⟩ := hS.item hl (k := i) (d := ds[i]) (by simp [hlt])
    refine .inr ⟨⟨xs, v, SqL.of h3, h5⟩, I (i + 1), fun σ' H' p' => ⟨ds.length - (i + 1), by omega, rfl, hlt, p'⟩, fun x H' y => ?_⟩
    obtain ⟨rfl, y⟩ := y
    have hx : xs[i]? = some x := y xs (SqL.of h3)
    have hxv : v = x := by rw [h5] at hx; exact Option.some.inj hx
    subst hxv
    refine hs i ds[i] v σ H' (by simp [hlt]) p fun L2 hS2 hl2 => ?_
    obtain ⟨xs2, v2, k3, k5, _, k6⟩ := hS2.item hl2 (k := i) (d := ds[i]) (by simp [hlt])
    rw [h3] at k3
    cases k3
    rw [h5] at k5
    cases k5
    exact k6
  · have e : i = ds.length := by omega
    subst e
    obtain ⟨xs, h3, h4⟩ := hS.lenl hl
    exact .inl ⟨⟨xs, SqL.of h3, Nat.le_of_eq h4⟩, hd σ H p⟩
theorem w_forT {xs : List V} (hx : xs.length = ds.length) (I : Nat → L2.St → Hp → Prop) (h0 : I 0 σ H) (hI : ∀ i σ H, i ≤ ds.length → I i σ H → SqT K H a xs)
    (hs : ∀ i d v σ H, ds[i]? = some d → xs[i]? = some v → I i σ H → g v σ H fun σ2 H2 => tbody { D with nx := I (i + 1), ct := I (i + 1), bk := D.nx } σ2 H2)
    (hd : ∀ σ H, I ds.length σ H → D.nx σ H) : ForW (Itt K a) g tbody D σ H := by
  refine for_tup (xs := xs) I h0 (fun i σ H hi p => hI i σ H (by omega) p) (fun i x σ H hv p => ?_) (fun σ H p => hd σ H (by rw [← hx]; exact p))
  have hlt : i < ds.length := by
    rw [← hx]
    exact (List.getElem?_eq_some_iff.mp hv).1
  exact hs i ds[i] x σ H (by simp [hlt]) hv p
theorem w_forR {lo : Int} {n : Nat} (I : Nat → L2.St → Hp → Prop) (h0 : I 0 σ H)
    (hs : ∀ i σ H, i < n → I i σ H → g (.int (lo + i)) σ H fun σ2 H2 => tbody { D with nx := I (i + 1), ct := I (i + 1), bk := D.nx } σ2 H2) (hd : ∀ σ H, I n σ H → D.nx σ H) : ForW (Itr lo n) g tbody D σ H :=
  for_range I h0 hs hd
theorem w_forS {z : Str} (I : Nat → L2.St → Hp → Prop) (h0 : I 0 σ H)
    (hs : ∀ i c σ H, z.cps.toList[i]? = some c → I i σ H → g (.str ⟨#[c]⟩) σ H fun σ2 H2 => tbody { D with nx := I (i + 1), ct := I (i + 1), bk := D.nx } σ2 H2) (hd : ∀ σ H, I z.cps.toList.length σ H → D.nx σ H) : ForW (Its z) g tbody D σ H := by
  refine for_it walk_str I h0 (fun _ _ _ _ _ => trivial) (fun i x σ H H' hi p y => ?_) (fun σ H p => hd σ H (by simpa using p))
  obtain ⟨rfl, c, hc, rfl⟩ := y
  exact hs i c σ H' (by simpa using hc) p
/-! comprehensions without tests -/
theorem lc_mk {J : It} {N : Nat} (R : Nat → PyData → Prop) (hN : N ≤ 100000) (hS : St K L H)
    (hgo : ∀ i H es q, i < N → St K (.cell q (.ls K es) :: L) H → J.go i H) (hst : ∀ H es q, St K (.cell q (.ls K es) :: L) H → J.stop N H)
    (hs : ∀ i q es H x H', i < N → es.length = i → St K (.cell q (.ls K es) :: L) H → J.yld i H x H' → ∀ Z : VK, (∀ y e H3, R i e → St K (.dat y e :: .cell q (.ls K es) :: L) H3 → Z y H3) → g x (wipe σ vs) H' fun σ2 H2 => wipe σ2 vs = wipe σ vs ∧ te σ2 H2 Z)
    (h : ∀ q es H', es.length = N → (∀ i e, es[i]? = some e → R i e) → St K (.cell q (.ls K es) :: L) H' → Q (.ref q) H') : LcW J g tYes te vs σ H Q := by
  intro q hq
  refine ⟨fun i m H => m = N - i ∧ i ≤ N ∧ ∃ es, es.length = i ∧ (∀ j e, es[j]? = some e → R j e) ∧ St K (.cell q (.ls K es) :: L) H, ⟨N, by simp, Nat.zero_le _, [], rfl, fun j e z => by simp at z, hS.alloc hq fun F _ _ => ⟨[], rfl, .nil⟩⟩, ?_⟩
  rintro i m H ⟨rfl, hi, es, hlen, hR, hS1⟩
  by_cases hlt : i < N
  · refine .inr ⟨hgo i H es q hlt hS1, fun H' => i + 1 ≤ N ∧ ∃ es, es.length = i + 1 ∧ (∀ j e, es[j]? = some e → R j e) ∧ St K (.cell q (.ls K es) :: L) H', fun H' w => ⟨N - (i + 1), by omega, rfl, w⟩, fun x H' y => ?_⟩
    refine hs i q es H x H' hlt hlen hS1 y _ fun y e H3 hRe hS3 => ?_
    obtain ⟨F, xs, h1, h2, h3, h4⟩ := hS3.lsin (.own (.tail _ (.head _)))
    refine ⟨xs, h3, ?_, by omega, es ++ [e], by simp [hlen], fun j e' he => ?_, ?_⟩
    · rw [h4.len, hlen]
      exact Nat.lt_of_lt_of_le (Nat.lt_of_lt_of_le hlt hN) (by decide)
    · by_cases hj : j < es.length
      · rw [List.getElem?_append_left hj] at he
        exact hR j e' he
      · rw [List.getElem?_append_right (by omega)] at he
        have hj0 : j - es.length = 0 := by
          cases hz : j - es.length with
          | zero => rfl
          | succ n => rw [hz] at he; simp at he
        rw [hj0] at he
        have : j = i := by omega
        subst this
        simp at he
        subst he
        exact hRe
    · have hS4 := hS3.writeP (o := .lst (xs ++ [y])) (ψ := .ls K (es ++ [e])) (.there .here) fun F' x e' q hx hφ => ?_
      · exact hS4.tail
      · obtain ⟨ys, rfl, hys⟩ := hφ
        rw [h3] at hx
        cases hx
        exact ⟨_, rfl, hys.app (.cons (q _ (.head _)) .nil)⟩
  · have e : i = N := by omega
    subst e
    exact .inl ⟨hst H es q hS1, h q es H hlen hR hS1⟩
theorem w_lcL {R : Nat → PyData → Prop} (hS : St K L H) (hl : LsIn K L a ds) (hn : ds.length ≤ 100000)
    (hs : ∀ i d q es v H, ds[i]? = some d → es.length = i → St K (.dat v d :: .cell q (.ls K es) :: L) H → ∀ Z : VK, (∀ y e H3, R i e → St K (.dat y e :: .cell q (.ls K es) :: L) H3 → Z y H3) → g v (wipe σ vs) H fun σ2 H2 => wipe σ2 vs = wipe σ vs ∧ te σ2 H2 Z)
    (h : ∀ q es H', es.length = ds.length → (∀ i e, es[i]? = some e → R i e) → St K (.cell q (.ls K es) :: L) H' → Q (.ref q) H') : LcW (Itl K a) g tYes te vs σ H Q := by
  refine lc_mk R hn hS (fun i H es q hi h1 => ?_) (fun H es q h1 => ?_) (fun i q es H x H' hi hlen h1 y Z hZ => ?_) h
  · obtain ⟨xs, v, h3, h5, _, _⟩ := h1.item hl.cons (k := i) (d := ds[i]) (by simp [hi])
    exact ⟨xs, v, SqL.of h3, h5⟩
  · obtain ⟨xs, h3, h4⟩ := h1.lenl hl.cons
    exact ⟨xs, SqL.of h3, Nat.le_of_eq h4⟩
  · obtain ⟨rfl, y⟩ := y
    obtain ⟨xs, v, h3, h5, _, h6⟩ := h1.item hl.cons (k := i) (d := ds[i]) (by simp [hi])
    have hx := y xs (SqL.of h3)
    rw [h5] at hx
    have hvx := Option.some.inj hx
    subst hvx
    exact hs i ds[i] q es _ H' (by simp [hi]) hlen h6 Z hZ
theorem w_lcR {lo : Int} {n : Nat} {R : Nat → PyData → Prop} (hS : St K L H) (hn : n ≤ 100000)
    (hs : ∀ i q es H, i < n → es.length = i → St K (.cell q (.ls K es) :: L) H → ∀ Z : VK, (∀ y e H3, R i e → St K (.dat y e :: .cell q (.ls K es) :: L) H3 → Z y H3) → g (.int (lo + i)) (wipe σ vs) H fun σ2 H2 => wipe σ2 vs = wipe σ vs ∧ te σ2 H2 Z)
    (h : ∀ q es H', es.length = n → (∀ i e, es[i]? = some e → R i e) → St K (.cell q (.ls K es) :: L) H' → Q (.ref q) H') : LcW (Itr lo n) g tYes te vs σ H Q := by
  refine lc_mk R hn hS (fun i H es q hi h1 => hi) (fun H es q h1 => Nat.le_refl _) (fun i q es H x H' hi hlen h1 y Z hZ => ?_) h
  obtain ⟨rfl, rfl⟩ := y
  exact hs i q es H' hi hlen h1 Z hZ
theorem w_lcR3 {lo c : Int} {n : Nat} {R : Nat → PyData → Prop} (hS : St K L H) (hn : n ≤ 100000)
    (hs : ∀ i q es H, i < n → es.length = i → St K (.cell q (.ls K es) :: L) H → ∀ Z : VK, (∀ y e H3, R i e → St K (.dat y e :: .cell q (.ls K es) :: L) H3 → Z y H3) → g (.int (lo + (i : Nat) * c)) (wipe σ vs) H fun σ2 H2 => wipe σ2 vs = wipe σ vs ∧ te σ2 H2 Z)
    (h : ∀ q es H', es.length = n → (∀ i e, es[i]? = some e → R i e) → St K (.cell q (.ls K es) :: L) H' → Q (.ref q) H') : LcW (Itc lo c n) g tYes te vs σ H Q := by
  refine lc_mk R hn hS (fun i H es q hi h1 => hi) (fun H es q h1 => Nat.le_refl _) (fun i q es H x H' hi hlen h1 y Z hZ => ?_) h
  obtain ⟨rfl, rfl⟩ := y
  exact hs i q es H' hi hlen h1 Z hZ
theorem w_lcS {z : Str} {R : Nat → PyData → Prop} (hS : St K L H) (hn : z.length ≤ 100000)
    (hs : ∀ i k q es H, z.cps.toList[i]? = some k → es.length = i → St K (.cell q (.ls K es) :: L) H → ∀ Z : VK, (∀ y e H3, R i e → St K (.dat y e :: .cell q (.ls K es) :: L) H3 → Z y H3) → g (.str ⟨#[k]⟩) (wipe σ vs) H fun σ2 H2 => wipe σ2 vs = wipe σ vs ∧ te σ2 H2 Z)
    (h : ∀ q es H', es.length = z.cps.toList.length → (∀ i e, es[i]? = some e → R i e) → St K (.cell q (.ls K es) :: L) H' → Q (.ref q) H') : LcW (Its z) g tYes te vs σ H Q := by
  refine lc_mk (N := z.cps.size) R hn hS (fun i H es q hi h1 => hi) (fun H es q h1 => Nat.le_refl _) (fun i q es H x H' hi hlen h1 y Z hZ => ?_) (fun q es H' h1 => h q es H' (by simpa using h1))
  obtain ⟨rfl, k, hk, rfl⟩ := y
  exact hs i k q es H' (by simpa using hk) hlen h1 Z hZ
/-- enumerate: the pair is a new tuple -/
theorem w_lcE {R : Nat → PyData → Prop} (hS : St K L H) (hl : LsIn K L a ds) (hn : ds.length ≤ 100000)
    (hs : ∀ i d q es T H, ds[i]? = some d → es.length = i → St K (.dat (.ref T) (.tuple [.int (i : Nat), d]) :: .cell q (.ls K es) :: L) H → ∀ Z : VK, (∀ y e H3, R i e → St K (.dat y e :: .cell q (.ls K es) :: L) H3 → Z y H3) → g (.ref T) (wipe σ vs) H fun σ2 H2 => wipe σ2 vs = wipe σ vs ∧ te σ2 H2 Z)
    (h : ∀ q es H', es.length = ds.length → (∀ i e, es[i]? = some e → R i e) → St K (.cell q (.ls K es) :: L) H' → Q (.ref q) H') : LcW (Ite K a) g tYes te vs σ H Q := by
  refine lc_mk R hn hS (fun i H es q hi h1 => ?_) (fun H es q h1 => ?_) (fun i q es H x H' hi hlen h1 y Z hZ => ?_) h
  · obtain ⟨xs, v, h3, h5, _, _⟩ := h1.item hl.cons (k := i) (d := ds[i]) (by simp [hi])
    exact ⟨xs, v, SqL.of h3, h5⟩
  · obtain ⟨xs, h3, h4⟩ := h1.lenl hl.cons
    exact ⟨xs, SqL.of h3, Nat.le_of_eq h4⟩
  · obtain ⟨T, x', rfl, hT, rfl, y⟩ := y
    obtain ⟨xs, v, h3, h5, _, h6⟩ := h1.item hl.cons (k := i) (d := ds[i]) (by simp [hi])
    have hx := y xs (SqL.of h3)
    rw [h5] at hx
    have hvx := Option.some.inj hx
    subst hvx
    have h7 := h6.fresh (o := .tup [.int (i : Nat), v]) (v := .ref T) (d := .tuple [.int (i : Nat), ds[i]]) hT fun F hF e q => .tup (SqT.of upd_same) (.cons (.int _) (.cons (Dv.mono (Ex.new hF) _ _ (q _ (.head _))) .nil))
    exact hs i ds[i] q es T _ (by simp [hi]) hlen (h7.to (.cons .here (.cons (.there .here) (.drop .refl)))) Z hZ
/-- targets that unpack -/
theorem zip_ok {F : Hp} : ∀ {xs : List V} {ds : List PyData}, DvAll K F xs ds → ∀ e ∈ List.zipWith Ent.dat xs ds, e.ok K F H
  | _, [], h, e, he => by cases h; cases he
  | _, d :: ds, h, e, he => by
    cases h with
    | cons h1 h2 =>
      rw [List.zipWith_cons_cons] at he
      cases he with
      | head => exact h1
      | tail _ he => exact zip_ok h2 e he
theorem zip_adr : ∀ {xs : List V} {ds : List PyData}, (List.zipWith Ent.dat xs ds ++ L).filterMap Ent.adr = L.filterMap Ent.adr
  | [], _ => rfl
  | _ :: _, [] => rfl
  | x :: xs, d :: ds => zip_adr (xs := xs) (ds := ds)
theorem St.zip {F : Hp} {xs : List V} (hS : St K L H) (h1 : Ex F H) (h2 : ∀ e ∈ L, e.ok K F H) (h3 : DvAll K F xs ds) : St K (List.zipWith Ent.dat xs ds ++ L) H :=
  ⟨⟨F, h1, fun e he => by
    rcases List.mem_append.mp he with he | he
    · exact zip_ok h3 e he
    · exact h2 e he⟩, by rw [zip_adr]; exact hS.nd⟩
theorem St.tup_all (hS : St K L H) (hl : Is L (.ref a) (.tuple ds)) : ∃ xs, SqT K H a xs ∧ xs.length = ds.length ∧ St K (List.zipWith Ent.dat xs ds ++ L) H := by
  obtain ⟨F, h1, h2⟩ := hS.ex
  have := hl.dv h2
  cases this with
  | tup g1 g2 => exact ⟨_, h1.sqT g1, g2.len, hS.zip h1 h2 g2⟩
theorem St.lst_all (hS : St K L H) (hl : LsIn K L a ds) : ∃ xs, H a = some (.lst xs) ∧ xs.length = ds.length ∧ St K (List.zipWith Ent.dat xs ds ++ L) H := by
  obtain ⟨F, xs, h1, h2, h3, h4⟩ := hS.lsin hl
  exact ⟨xs, h3, h4.len, hS.zip h1 h2 h4⟩
theorem w_unpT {tgs : TGs} {R : L2.St → Hp → Prop} (hS : St K L H) (hl : Is L (.ref a) (.tuple ds)) (hn : ds.length = n) (h : ∀ xs, xs.length = ds.length → St K (List.zipWith Ent.dat xs ds ++ L) H → tgs xs σ H R) : gUnp K n tgs (.ref a) σ H R := by
  obtain ⟨xs, h1, h2, h3⟩ := hS.tup_all hl
  exact .inl ⟨a, xs, rfl, h1, by rw [h2, hn], h xs h2 h3⟩
theorem w_unpL {tgs : TGs} {R : L2.St → Hp → Prop} (hS : St K L H) (hl : LsIn K L a ds) (hn : ds.length = n) (h : ∀ xs, xs.length = ds.length → St K (List.zipWith Ent.dat xs ds ++ L) H → tgs xs σ H R) : gUnp K n tgs (.ref a) σ H R := by
  obtain ⟨xs, h1, h2, h3⟩ := hS.lst_all hl
  exact .inr ⟨a, xs, rfl, SqL.of h1, by rw [h2, hn], h xs h2 h3⟩
theorem w_unpT2 {tgs : TGs} {d1 d2 : PyData} {R : L2.St → Hp → Prop} (hS : St K L H) (hl : Is L (.ref a) (.tuple [d1, d2])) (h : ∀ v1 v2, St K (.dat v1 d1 :: .dat v2 d2 :: L) H → tgs [v1, v2] σ H R) : gUnp K 2 tgs (.ref a) σ H R :=
  w_unpT hS hl rfl fun xs hx h3 => match xs, hx, h3 with
    | [_, _], _, h3 => h _ _ h3
theorem w_unpT3 {tgs : TGs} {d1 d2 d3 : PyData} {R : L2.St → Hp → Prop} (hS : St K L H) (hl : Is L (.ref a) (.tuple [d1, d2, d3])) (h : ∀ v1 v2 v3, St K (.dat v1 d1 :: .dat v2 d2 :: .dat v3 d3 :: L) H → tgs [v1, v2, v3] σ H R) : gUnp K 3 tgs (.ref a) σ H R :=
  w_unpT hS hl rfl fun xs hx h3 => match xs, hx, h3 with
    | [_, _, _], _, h3 => h _ _ _ h3

/-! ### the draws of a law -/
def spDraw (K : PySem.W.Frag) : Sp := fun vs H Q _ => ∃ (L : List Ent) (b : Addr) (m : Int), vs = [.ref b, .int m] ∧ St K L H ∧ bx K b ∈ L ∧ 0 < m ∧ ∀ k H', 0 ≤ k → k < m → St K L H' → Q (.int k) H'
theorem w_draw {m : Int} {E : XK} (hS : St K L H) (hb : bx K a ∈ L) (hm : 0 < m) (h : ∀ k H', 0 ≤ k → k < m → St K L H' → Q (.int k) H') : spDraw K [.ref a, .int m] H Q E := ⟨L, a, m, rfl, hS, hb, hm, h⟩
end
end Lg

/-! A law's own cell, digits, draw. -/
namespace Lg
open PySem PySem.Spec PyProof.Rows L2
local macro_rules | `(tactic| walk_at "ar") => `(tactic| first | omega | (simp; done) | (simp; omega) | (simp only [S_len]; omega))
local macro_rules | `(tactic| walk_at "gt") => `(tactic| repeat (first | exact GetAt.here | apply GetAt.there))
local macro_rules | `(tactic| walk_at "st") => `(tactic| repeat (first | exact SetAt.here | apply SetAt.there))
local macro_rules | `(tactic| walk_at "mem") => `(tactic| first | assumption | exact List.mem_cons_self | (apply List.mem_cons_of_mem; walk_at "mem"))
local macro_rules | `(tactic| walk_at "put") => `(tactic| repeat (first | exact Put.here | apply Put.there))
local macro_rules | `(tactic| walk_at "rem") => `(tactic| repeat (first | exact Rem.here | apply Rem.there))
local macro_rules | `(tactic| walk_at "pick") => `(tactic| first | exact Pick.refl | exact Pick.cons (by walk_at "rem") (by walk_at "pick") | (apply Pick.drop; walk_at "pick") | exact Pick.nil)
local macro_rules | `(tactic| walk_at "is") => `(tactic| first | exact Is.int | exact Is.str | exact Is.bl | exact Is.non | assumption | exact Is.dat (by walk_at "mem") | (apply Is.cons; walk_at "is"))
local macro_rules | `(tactic| walk_at "isall") => `(tactic| first | exact IsAll.nil | exact IsAll.cons (by walk_at "is") (by walk_at "isall"))
local macro_rules | `(tactic| walk_at "lsin") => `(tactic| first | assumption | exact LsIn.own (by walk_at "mem") | exact LsIn.dat (by walk_at "mem") | (apply LsIn.cons; walk_at "lsin"))
local macro_rules | `(tactic| walk_at "see") => `(tactic| first | exact See.own (by walk_at "mem") | exact See.is (by walk_at "is"))
local macro_rules | `(tactic| walk_at "w1") => `(tactic| first
  | (with_reducible apply Lg.w_seq)
  | (with_reducible apply Lg.w_asg)
  | ((with_reducible show gName _ _ _ _ _); (with_reducible refine Lg.w_name (by walk_at "st") ?_))
  | ((with_reducible show tVar _ _ _ _); (with_reducible refine Lg.w_var (by walk_at "gt") ?_))
  | (with_reducible apply Lg.w_c)
  | (with_reducible apply Lg.w_op)
  | (with_reducible apply Lg.w_un)
  | (with_reducible apply Lg.w_nil)
  | (with_reducible apply Lg.w_cons)
  | (with_reducible apply Lg.w_call)
  | (with_reducible apply Lg.w_cb)
  | (with_reducible apply Lg.w_tup)
  | (with_reducible apply Lg.w_lst)
  | (with_reducible apply Lg.w_bm)
  | (with_reducible apply Lg.w_bm0)
  | (with_reducible apply Lg.w_sl)
  | (with_reducible apply Lg.w_nopart)
  | (with_reducible apply Lg.w_part)
  | (with_reducible apply Lg.w_isint)
  | (with_reducible apply Lg.w_test)
  | (with_reducible apply Lg.w_tB)
  | (with_reducible apply Lg.w_isbl')
  | (with_reducible apply Lg.w_not)
  | (with_reducible apply Lg.w_tru)
  | (with_reducible apply Lg.w_truI)
  | (with_reducible apply Lg.w_truB)
  | (with_reducible apply Lg.w_ifs)
  | (with_reducible apply Lg.w_next)
  | (with_reducible apply Lg.w_break)
  | (with_reducible apply Lg.w_cont)
  | (with_reducible apply Lg.w_ret)
  | (with_reducible apply Lg.w_retn)
  | (with_reducible apply Lg.w_drop)
  | (with_reducible apply Lg.w_sub)
  | (with_reducible apply Lg.w_gnil)
  | (with_reducible apply Lg.w_gcons)
  | (with_reducible apply Lg.w_ifT)
  | (with_reducible apply Lg.w_ifF)
  | (with_reducible apply Lg.w_add)
  | (with_reducible apply Lg.w_sub2)
  | ((with_reducible show rTimes (V.int _) (V.int _) _ _); (with_reducible refine Lg.w_mulR (by omega) ?_))
  | ((with_reducible show rTimes (V.int _) (V.int _) _ _); (with_reducible refine Lg.w_mulL (by omega) ?_))
  | ((with_reducible show rMod (V.int _) (V.int _) _ _); (with_reducible refine Lg.w_mod (by first | decide | omega) ?_))
  | ((with_reducible show rFdiv (V.int _) (V.int _) _ _); (with_reducible refine Lg.w_fdiv (by first | decide | omega) ?_))
  | (with_reducible apply Lg.w_band)
  | (with_reducible apply Lg.w_lt)
  | (with_reducible apply Lg.w_le)
  | (with_reducible apply Lg.w_gt)
  | (with_reducible apply Lg.w_ge)
  | (with_reducible apply Lg.w_eqI)
  | (with_reducible apply Lg.w_neI)
  | (with_reducible apply Lg.w_eqS)
  | (with_reducible apply Lg.w_neS)
  | (with_reducible apply Lg.w_isN)
  | (with_reducible apply Lg.w_isR)
  | (with_reducible apply Lg.w_isI)
  | (with_reducible apply Lg.w_isS)
  | (with_reducible apply Lg.w_nsN)
  | (with_reducible apply Lg.w_nsR)
  | (with_reducible apply Lg.w_nsI)
  | (with_reducible apply Lg.w_nsS)
  | (with_reducible apply Lg.w_int)
  | (with_reducible apply Lg.w_intb)
  | (with_reducible apply Lg.w_ord1)
  | (with_reducible apply Lg.w_tyS)
  | (with_reducible apply Lg.w_inSg)
  | (with_reducible apply Lg.w_ninSg)
  | ((with_reducible show NewL _ _ _); (with_reducible refine Lg.w_newL (by assumption) (by walk_at "isall") (by simp) ?_); (intro p' H' hS'))
  | ((with_reducible show NewT _ _ _); (with_reducible refine Lg.w_newT (by assumption) (by walk_at "isall") (by simp) ?_); (intro p' H' hS'))
  | ((with_reducible show TyThen _ _ (V.ref _) _ _); (with_reducible refine Lg.w_tyL (by assumption) (by walk_at "lsin") ?_))
  | ((with_reducible show rLenX _ [V.ref _] _ _); (with_reducible refine Lg.w_lenL (by assumption) (by walk_at "lsin") ?_))
  | ((with_reducible show rLenX _ [V.ref _] _ _); (with_reducible refine Lg.w_lenT (by assumption) (by walk_at "is") ?_))
  | ((with_reducible show spDraw _ _ _ _ _); (with_reducible refine Lg.w_draw (by assumption) (by walk_at "mem") (by first | decide | omega) ?_); (intro k' H' hk0' hk1' hS'))
  | ((with_reducible show rSlX _ (V.ref _) _ _ _ _); (with_reducible refine Lg.w_slL (by assumption) (by walk_at "lsin") ?_); (intro p' H' hS'))
  | ((with_reducible show rListOf _ [V.ref _] _ _); (with_reducible refine Lg.w_listL (by assumption) (by walk_at "lsin") ?_); (intro p' H' hS'))
  | (with_reducible apply Lg.w_for)
  | (with_reducible apply Lg.w_lc)
  | ((with_reducible show iAny _ (tVar _) _ _ _); (with_reducible refine Lg.w_anyVar (by walk_at "gt") ?_))
  | (with_reducible apply Lg.w_anyC)
  | (with_reducible apply Lg.w_vS)
  | (with_reducible apply Lg.w_itS)
  | ((with_reducible show AnyV _ (V.ref _) _ _); (with_reducible refine Lg.w_vL (by assumption) (by walk_at "lsin") ?_))
  | ((with_reducible show AnyL _ (V.ref _) _ _); (with_reducible refine Lg.w_itL (by assumption) (by walk_at "lsin") ?_))
  | ((with_reducible show AnyV _ (V.ref _) _ _); (with_reducible refine Lg.w_vT (by assumption) (by walk_at "is") ?_))
  | ((with_reducible show AnyT _ (V.ref _) _ _); (with_reducible refine Lg.w_itT (by assumption) (by walk_at "is") ?_))
  | ((with_reducible show Enu _ [V.ref _] _ _); (with_reducible refine Lg.w_itE (by assumption) (by walk_at "lsin") ?_))
  | ((with_reducible show rPlus _ (V.ref _) (V.ref _) _ _); (with_reducible refine Lg.w_plusL (by assumption) (by walk_at "lsin") (by walk_at "lsin") (by walk_at "ar") ?_); (intro p' H' hS'))
  | ((with_reducible show rTimes (V.ref _) (V.int _) _ _); (with_reducible refine Lg.w_repLs (by assumption) (by walk_at "lsin") (by walk_at "ar") (by walk_at "ar") (by walk_at "ar") ?_); (intro p' H' hS'))
  | ((with_reducible show rLenX _ [V.str _] _ _); (with_reducible refine Lg.w_lenS (by walk_at "ar") ?_))
  | ((with_reducible show rSlX _ (V.str _) _ _ _ _); (with_reducible refine Lg.w_slS (by walk_at "ar") ?_))
  | (with_reducible apply Lg.w_rng1)
  | (with_reducible apply Lg.w_rng2)
  | (with_reducible apply Lg.w_rng3)
  | (with_reducible apply Lg.w_enum)
  | ((with_reducible show Rng1 _ _ _); (with_reducible refine Lg.w_itR1 (by omega) ?_))
  | ((with_reducible show Rng2 _ _ _); (with_reducible refine Lg.w_itR2 (by omega) (by omega) ?_))
  | (with_reducible apply Lg.w_ifexp)
  | (with_reducible apply Lg.w_chain)
  | ((with_reducible show ChainK _ _ _ _ _ _ _); (with_reducible refine Lg.w_chainLe (by (intro R' hR'; walk_at "w"; exact hR')) ?_))
  | ((with_reducible show ChainK _ _ _ _ _ _ _); (with_reducible refine Lg.w_chainLt (by (intro R' hR'; walk_at "w"; exact hR')) ?_))
  | ((with_reducible show tAnd _ _ _ _ _); (with_reducible refine Lg.w_andP (by (intro R' hR'; walk_at "w"; exact hR')) (by (intro hb' R' hR'; walk_at "w"; exact hR')) ?_))
  | ((with_reducible show tOr _ _ _ _ _); (with_reducible refine Lg.w_orP (by (intro R' hR'; walk_at "w"; exact hR')) (by (intro hb' R' hR'; walk_at "w"; exact hR')) ?_))
  | ((with_reducible show tAndV _ _ _ _ _); (with_reducible refine Lg.w_andVP (by (intro R' hR'; walk_at "w"; exact hR')) (by (intro hb' R' hR'; walk_at "w"; exact hR')) ?_))
  | ((with_reducible show tOrV _ _ _ _ _); (with_reducible refine Lg.w_orVP (by (intro R' hR'; walk_at "w"; exact hR')) (by (intro hb' R' hR'; walk_at "w"; exact hR')) ?_))
  | (with_reducible apply Lg.w_notV))
local macro_rules | `(tactic| walk_at "w") => `(tactic| repeat (walk_at "w1"))
section
variable {K : PySem.W.Frag}
def t_cell (K : PySem.W.Frag) : TS :=
    (tSeq (tIfS (tTest (tOp rLt (tVar 1) (tCB (rLenX K) (tCons (tVar 0) tNil)))) (tRet (tOp (rIx K) (tVar 0) (tVar 1))) tNext)
    (tRet (tC (.int 0))))
def t_digits (K : PySem.W.Frag) (sp_l_cell : Sp) : TS :=
    (tSeq (tAsg (tLst tNil) (gName 3))
    (tSeq (tFor (iRng2 (tCons (tVar 1) (tCons (tVar 2) tNil))) (gName 4) (tSeq (tAsg (tCall sp_l_cell [] C8.E0 (tCons (tVar 0) (tCons (tVar 4) tNil))) (gName 5))
    (C8.tCut (tIfS (tTest (tOp rLt (tVar 5) (tC (.int 0)))) (tAsg (tOp rMinus (tC (.int 1)) (tOp rTimes (tC (.int 2)) (tVar 5))) (gName 5)) tNext)
    (tIfS (tTest (tOp rGe (tVar 5) (tC (.int 1000000000000000000)))) (tFor (iRng1 (tCons (tC (.int 60)) tNil)) (gName 6) (tIfS (tTest (tOp rGt (tVar 5) (tC (.int 0)))) (tSeq (tDrop (tBM K "list" rAppend (tVar 3) (tCons (tOp rMod (tCB (rIntX) (tCons (tVar 5) tNil)) (tC (.int 1000))) tNil)))
    (tAsg (tOp rFdiv (tVar 5) (tC (.int 1000))) (gName 5))) tNext)) (tSeq (tAsg (tOp rMod (tCB (rIntX) (tCons (tOp (rPlus K) (tOp (rPlus K) (tOp rTimes (tVar 5) (tC (.int 40692))) (tOp rTimes (tVar 4) (tC (.int 52774)))) (tC (.int 17))) tNil)) (tC (.int 2147483399))) (gName 7))
    (tFor (iRng1 (tCons (tC (.int 12)) tNil)) (gName 6) (tSeq (tAsg (tOp rMod (tCB (rIntX) (tCons (tOp (rPlus K) (tOp (rPlus K) (tOp rTimes (tVar 7) (tC (.int 40014))) (tOp rTimes (tC (.int 5)) (tVar 6))) (tC (.int 3))) tNil)) (tC (.int 2147483563))) (gName 7))
    (tDrop (tBM K "list" rAppend (tVar 3) (tCons (tOp rMod (tCB (rIntX) (tCons (tOp rFdiv (tVar 7) (tC (.int 1009))) tNil)) (tC (.int 1000))) tNil))))))))))
    (tRet (tVar 3))))
def t_draw (K : PySem.W.Frag) : TS :=
    (tSeq (tAsg (tOp (rIx K) (tVar 0) (tC (.int 1))) (gName 2))
    (tSeq (tAsg (tOp (rPlus K) (tVar 2) (tC (.int 1))) (gSub (tVar 0) (tC (.int 1)) rSetL))
    (tSeq (tIfS (tTest (tOp rLt (tVar 2) (tCB (rLenX K) (tCons (tOp (rIx K) (tVar 0) (tC (.int 0))) tNil)))) (tRet (tOp rMod (tCB (rIntX) (tCons (tOp (rIx K) (tOp (rIx K) (tVar 0) (tC (.int 0))) (tVar 2)) tNil)) (tVar 1))) tNext)
    (tRet (tOp rMod (tCB (rIntX) (tCons (tOp (rPlus K) (tOp rTimes (tVar 2) (tC (.int 7))) (tC (.int 3))) tNil)) (tVar 1))))))
/-- some int -/
def spCell (K : PySem.W.Frag) : Sp := fun vs H Q _ => ∃ (a : Addr) (ns : List Int) (k : Int), vs = [.ref a, .int k] ∧ SqL K H a (ns.map V.int) ∧ 0 ≤ k ∧ ∀ n, Q (.int n) H
theorem p_cell (vs : List V) (H : Hp) (Q : VK) (E : XK) (h : spCell K vs H Q E) : vs.length = 2 ∧ t_cell K { nx := fun _ H' => Q .non H', rt := Q } (start ["_law_script", "_law_k"] vs) H := by
  obtain ⟨a, ns, k, rfl, hS, hk, hQ⟩ := h
  refine ⟨rfl, ?_⟩
  unfold t_cell
  show tSeq _ _ _ [some (.ref a), some (.int k)] H
  walk_at "w"
  refine ⟨.ref a, ns.length, rfl, .inl ⟨_, hS, by simp⟩, ?_⟩
  walk_at "w"
  refine w_ifd (fun h => ?_) (fun h => ?_)
  · walk_at "w"
    obtain ⟨j, rfl⟩ := Int.eq_ofNat_of_zero_le hk
    have hj : j < ns.length := by omega
    exact .inl ⟨a, _, _, .int ns[j], rfl, rfl, hS, atI_nat (by simp [hj]), hQ _⟩
  · walk_at "w"
    exact hQ 0
/-- some list of ints -/
def spDigits (K : PySem.W.Frag) : Sp := fun vs H Q _ => ∃ (L : List Ent) (a : Addr) (ns : List Int) (i j : Int), vs = [.ref a, .int i, .int j] ∧ St K L H ∧ Ent.fact (.seq K a ns) ∈ L ∧ 0 ≤ i ∧ i ≤ 100 ∧ -100 ≤ j ∧ j ≤ 100 ∧
  ∀ (p : Addr) (ms : List Int) (H' : Hp), St K (Lg.ls K p (ms.map PyData.int) :: L) H' → Q (.ref p) H'
theorem St.fact_of {L : List Ent} {H : Hp} {φ : Fr} (h : St K L H) (m : Ent.fact φ ∈ L) : φ.p H := by
  obtain ⟨F, h1, h2⟩ := h.ex
  exact φ.mono _ _ h1 (h2 _ m)
theorem p_digits (vs : List V) (H : Hp) (Q : VK) (E : XK) (h : spDigits K vs H Q E) :
    vs.length = 3 ∧ t_digits K (spCell K) { nx := fun _ H' => Q .non H', rt := Q } (start ["_law_script", "_law_first", "_law_last", "_law_digits_here", "_law_k", "_law_cell_here", "_law_turn", "_law_seed"] vs) H := by
  obtain ⟨L, a, ns, i, j, rfl, hS, hm, hi0, hi1, hj0, hj1, hQ⟩ := h
  refine ⟨rfl, ?_⟩
  unfold t_digits
  show tSeq _ _ _ [some (.ref a), some (.int i), some (.int j), none, none, none, none, none] H
  walk_at "w"
  rename_i p H1 hS1
  refine w_forR (fun n σ H' => ∃ (ms : List Int) (v4 v5 v6 v7 : Option V), σ = [some (.ref a), some (.int i), some (.int j), some (.ref p), v4, v5, v6, v7] ∧ St K (Lg.ls K p (ms.map PyData.int) :: L) H' ∧ ms.length ≤ 60 * n) ?_ ?_ ?_
  · exact ⟨[], _, _, _, _, rfl, hS1, by simp⟩
  · rintro n σ H' hn ⟨ms, v4, v5, v6, v7, rfl, hS1, hl⟩
    walk_at "w"
    refine ⟨a, ns, i + n, rfl, (hS1.tail).fact_of hm, by omega, fun c => ?_⟩
    walk_at "w"
    refine w_cut (fun σ H2 => ∃ (c : Int), σ = [some (.ref a), some (.int i), some (.int j), some (.ref p), some (.int (i + n)), some (.int c), v6, v7] ∧ H2 = H') ?_ ?_
    · walk_at "w"
      refine w_ifd (fun h => ?_) (fun h => ?_)
      · walk_at "w"
        exact ⟨_, rfl, rfl⟩
      · walk_at "w"
        exact ⟨_, rfl, rfl⟩
    · rintro σ H2 ⟨c, rfl, rfl⟩
      walk_at "w"
      refine w_ifd (fun h => ?_) (fun h => ?_)
      · walk_at "w"
        refine w_forR (fun m σ H' => ∃ (ms : List Int) (c : Int) (v6 : Option V), σ = [some (.ref a), some (.int i), some (.int j), some (.ref p), some (.int (i + n)), some (.int c), v6, v7] ∧ St K (Lg.ls K p (ms.map PyData.int) :: L) H' ∧ ms.length ≤ 60 * n + m) ?_ ?_ ?_
        · exact ⟨ms, c, _, rfl, hS1, by omega⟩
        · rintro m σ H' hm' ⟨ms, c, v6, rfl, hS1, hl⟩
          replace hm' : m < 60 := hm'
          walk_at "w"
          refine w_ifd (fun h => ?_) (fun h => ?_)
          · walk_at "w"
            refine w_app hS1 .here (d := .int (c % 1000)) .int (by simp; omega) fun H2 hS2 => ?_
            walk_at "w"
            exact ⟨ms ++ [c % 1000], _, _, rfl, by simpa using hS2, by simp; omega⟩
          · walk_at "w"
            exact ⟨ms, c, _, rfl, hS1, by omega⟩
        · rintro σ H' ⟨ms, c, v6, rfl, hS1, hl⟩
          replace hl : ms.length ≤ 60 * n + 60 := hl
          exact ⟨ms, _, _, _, _, rfl, hS1, by omega⟩
      · walk_at "w"
        refine w_forR (fun m σ H' => ∃ (ms : List Int) (c : Int) (v5 v6 : Option V), σ = [some (.ref a), some (.int i), some (.int j), some (.ref p), some (.int (i + n)), v5, v6, some (.int c)] ∧ St K (Lg.ls K p (ms.map PyData.int) :: L) H' ∧ ms.length ≤ 60 * n + m) ?_ ?_ ?_
        · exact ⟨ms, _, _, _, rfl, hS1, by omega⟩
        · rintro m σ H' hm' ⟨ms, c, v5, v6, rfl, hS1, hl⟩
          replace hm' : m < 12 := hm'
          walk_at "w"
          refine w_app hS1 .here (d := .int _) .int (by simp; omega) fun H2 hS2 => ?_
          walk_at "w"
          exact ⟨ms ++ [_], _, _, _, rfl, by simpa using hS2, by simp; omega⟩
        · rintro σ H' ⟨ms, c, v5, v6, rfl, hS1, hl⟩
          replace hl : ms.length ≤ 60 * n + 12 := hl
          exact ⟨ms, _, _, _, _, rfl, hS1, by omega⟩
  · rintro σ H' ⟨ms, v4, v5, v6, v7, rfl, hS1, hl⟩
    walk_at "w"
    exact hQ p ms H' hS1
theorem p_draw (vs : List V) (H : Hp) (Q : VK) (E : XK) (h : spDraw K vs H Q E) : vs.length = 2 ∧ t_draw K { nx := fun _ H' => Q .non H', rt := Q } (start ["_law_box", "_law_many", "_law_at"] vs) H := by
  obtain ⟨L, b, m, rfl, hS, hb, hm, hQ⟩ := h
  refine ⟨rfl, ?_⟩
  unfold t_draw
  show tSeq _ _ _ [some (.ref b), some (.int m), none] H
  obtain ⟨F, o, h1, h2, h3, d, at_, ns, rfl, h4, h5⟩ := hS.cell hb
  have hd : H d = some (.lst (ns.map V.int)) := h1 _ _ h5
  have hne : d ≠ b := fun z => by rw [z, h2] at h5; cases h5
  walk_at "w"
  refine .inl ⟨b, _, 1, .int at_, rfl, rfl, SqL.of h3, rfl, ?_⟩
  walk_at "w"
  refine ⟨b, _, 1, 1, rfl, rfl, h3, rfl, ?_⟩
  have hS2 : St K L (upd H b (.lst [.ref d, .int (at_ + 1)])) := hS.turn hb fun F' x e hx hφ => by
    obtain ⟨d', at', ns', rfl, q1, q2⟩ := hφ
    rw [h3] at hx
    cases hx
    exact ⟨_, _, _, rfl, by omega, q2⟩
  show tSeq _ _ _ _ (upd H b (.lst [.ref d, .int (at_ + 1)]))
  have hd2 : (upd H b (.lst [.ref d, .int (at_ + 1)])) d = some (.lst (ns.map V.int)) := by rw [upd_ne hne]; exact hd
  have hb2 : (upd H b (.lst [.ref d, .int (at_ + 1)])) b = some (.lst [.ref d, .int (at_ + 1)]) := upd_same
  revert hS2 hd2 hb2
  generalize upd H b (.lst [.ref d, .int (at_ + 1)]) = H2
  intro hS2 hd2 hb2
  walk_at "w"
  refine .inl ⟨b, _, 0, .ref d, rfl, rfl, SqL.of hb2, rfl, ?_⟩
  walk_at "w"
  refine ⟨.ref d, ns.length, rfl, .inl ⟨_, SqL.of hd2, by simp⟩, ?_⟩
  walk_at "w"
  refine w_ifd (fun h => ?_) (fun h => ?_)
  · walk_at "w"
    refine .inl ⟨b, _, 0, .ref d, rfl, rfl, SqL.of hb2, rfl, ?_⟩
    walk_at "w"
    obtain ⟨j, rfl⟩ := Int.eq_ofNat_of_zero_le h4
    have hj : j < ns.length := by omega
    refine .inl ⟨d, _, _, .int ns[j], rfl, rfl, SqL.of hd2, atI_nat (by simp [hj]), ?_⟩
    walk_at "w"
    exact hQ _ _ (Int.emod_nonneg _ (by omega)) (Int.emod_lt_of_pos _ hm) hS2
  · walk_at "w"
    exact hQ _ _ (Int.emod_nonneg _ (by omega)) (Int.emod_lt_of_pos _ hm) hS2
/-- [digits, 0]: the box -/
theorem w_newBox {L : List Ent} {H : Hp} {a : Addr} {ms : List Int} {Q : VK} (hS : St K (Lg.ls K a (ms.map PyData.int) :: L) H) (h : ∀ p H', St K (bx K p :: L) H' → Q (.ref p) H') : NewL [.ref a, .int 0] H Q := by
  refine ⟨by show 2 ≤ sizeLine; decide, fun p hp => h p _ ?_⟩
  have h1 := (hS.freeze).alloc (φ := .box K) (o := .lst [.ref a, .int 0]) hp fun F e q => by
    have h2 : Dv K F (.ref a) (.list (ms.map PyData.int)) := q _ (.head _)
    cases h2 with
    | lst g1 g2 => exact ⟨a, 0, ms, rfl, Int.le_refl _, by rw [← g2.ints_inv]; exact g1⟩
  exact h1.to (.cons .here (.drop .refl))
end
end Lg

/-! Texts as lists of codes; data that fits. -/
namespace Lg
open PySem PySem.Spec PyProof.Rows L2
abbrev S (l : List Nat) : Str := ⟨l.toArray⟩
theorem S_tl (l : List Nat) : (S l).cps.toList = l := rfl
theorem S_len (l : List Nat) : (S l).length = l.length := by simp [S, Str.length]
theorem S_app (a b : List Nat) : S a ++ S b = S (a ++ b) := SX.S_cat a b
theorem S_one (c : Nat) : (⟨#[c]⟩ : Str) = S [c] := rfl
theorem S_nil : ("" : Str) = S [] := by decide +kernel
theorem S_inj {a b : List Nat} (h : S a = S b) : a = b := congrArg (fun x : Str => x.cps.toList) h
theorem S_of (x : Str) : x = S x.cps.toList := by cases x; simp [S]
theorem sIx_nat' (n d k : Nat) (z : Int) (h : z = (k : Int)) : HT.sIx n d (some z) = min k n := by rw [h, HT.sIx_nat]
theorem cut_gen {α : Type} (l : List α) (a b : Nat) : (l.drop (min a l.length)).take (min b l.length - min a l.length) = (l.drop a).take (b - a) := by
  by_cases h : a ≤ l.length
  · rw [Nat.min_eq_left h]
    by_cases h2 : b ≤ l.length
    · rw [Nat.min_eq_left h2]
    · have h3 : l.length ≤ b := by omega
      rw [Nat.min_eq_right h3, List.take_of_length_le (l := l.drop a) (i := b - a) (by rw [List.length_drop]; omega), List.take_of_length_le (by rw [List.length_drop]; omega)]
  · have h3 : l.length ≤ a := by omega
    rw [Nat.min_eq_right h3, List.drop_of_length_le (Nat.le_refl _), List.drop_of_length_le h3]
    simp
theorem cutS_nn {l : List Nat} {i j : Int} {a b : Nat} (hi : i = (a : Int)) (hj : j = (b : Int)) : cutS (S l) (some i) (some j) = S ((l.drop a).take (b - a)) := by
  unfold cutS
  rw [S_len, sIx_nat' _ _ a _ hi, sIx_nat' _ _ b _ hj]
  show S ((l.drop (min a l.length)).take (min b l.length - min a l.length)) = S _
  rw [cut_gen]
theorem cutD_nn {ds : List PyData} {i j : Int} {a b : Nat} (hi : i = (a : Int)) (hj : j = (b : Int)) : cutD ds (some i) (some j) = (ds.drop a).take (b - a) := by
  unfold cutD
  rw [sIx_nat' _ _ a _ hi, sIx_nat' _ _ b _ hj, cut_gen]
theorem cutD_no {ds : List PyData} {j : Int} {b : Nat} (hj : j = (b : Int)) : cutD ds none (some j) = ds.take b := by
  unfold cutD
  rw [sIx_nat' _ _ b _ hj, HT.sIx_none]
  have := cut_gen ds 0 b
  simpa using this
theorem cutD_on {ds : List PyData} {i : Int} {a : Nat} (hi : i = (a : Int)) : cutD ds (some i) none = ds.drop a := by
  unfold cutD
  rw [sIx_nat' _ _ a _ hi, HT.sIx_none]
  by_cases h : a ≤ ds.length
  · rw [Nat.min_eq_left h, List.take_of_length_le (by rw [List.length_drop]; omega)]
  · have h3 : ds.length ≤ a := by omega
    rw [Nat.min_eq_right h3, List.drop_of_length_le (Nat.le_refl _), List.drop_of_length_le h3]
    simp
theorem cutD_all {ds : List PyData} : cutD ds none none = ds := by
  unfold cutD
  simp [HT.sIx_none]
theorem rgc_24 {n : Nat} (hn : n ≤ 100000) : RgC 0 (n : Int) 24 ((n + 23) / 24) := by
  refine ⟨by decide, by decide, ?_, ?_⟩
  · unfold Builtin.Range.small Builtin.Range.rangeSize Builtin.Range.rangeFitsLong
    simp
    omega
  · unfold Builtin.Range.rangeSize
    rw [if_pos (by decide)]
    by_cases h : (0 : Int) < n
    · rw [if_pos h]; omega
    · rw [if_neg h]; omega
/-! data of a depth -/
def Fit (n : Nat) (d : PyData) : Prop := d.canLay0 = true ∧ d.depth ≤ n
theorem Fit.shaped {n : Nat} {d : PyData} (h : Fit n d) (hn : n ≤ 64 := by decide) : SeqAt.shaped d = true := by
  show (d.canLay0 && decide (d.depth ≤ 64)) = true
  rw [h.1, Bool.true_and]
  exact decide_eq_true (Nat.le_trans h.2 hn)
theorem Fit.mono {n m : Nat} {d : PyData} (h : Fit n d) (hm : n ≤ m) : Fit m d := ⟨h.1, Nat.le_trans h.2 hm⟩
theorem fit_int (n : Nat) (i : Int) : Fit n (.int i) := ⟨by simp [PyData.canLay0], by simp [PyData.depth]⟩
theorem fit_bool (n : Nat) (i : Bool) : Fit n (.bool i) := ⟨by simp [PyData.canLay0], by simp [PyData.depth]⟩
theorem fit_none (n : Nat) : Fit n .none := ⟨by simp [PyData.canLay0], by simp [PyData.depth]⟩
/-- all codes below 1114112 -/
def Asc (l : List Nat) : Prop := ∀ c ∈ l, c < 1114112
theorem fit_str (n : Nat) {l : List Nat} (h : Asc l) : Fit n (.str (S l)) := by
  refine ⟨?_, by simp [PyData.depth]⟩
  simp only [PyData.canLay0, PyData.strOk]
  rw [← Array.all_toList, List.all_eq_true]
  intro c hc
  exact decide_eq_true (h c hc)
theorem layAll {ds : List PyData} {n : Nat} (h : ∀ d ∈ ds, Fit n d) : PyData.canLayAll0 ds = true ∧ PyData.depthAll ds ≤ n := by
  induction ds with
  | nil => exact ⟨by simp [PyData.canLayAll0], by simp [PyData.depthAll]⟩
  | cons d ds ih =>
    obtain ⟨h1, h2⟩ := ih fun d hd => h d (.tail _ hd)
    obtain ⟨h3, h4⟩ := h d (.head _)
    exact ⟨by simp [PyData.canLayAll0, h1, h3], by simp [PyData.depthAll]; omega⟩
theorem fit_list {n : Nat} {ds : List PyData} (h : ∀ d ∈ ds, Fit n d) : Fit (n + 1) (.list ds) := by
  obtain ⟨h1, h2⟩ := layAll h
  exact ⟨by simp only [PyData.canLay0]; exact h1, by simp only [PyData.depth]; omega⟩
theorem fit_tuple {n : Nat} {ds : List PyData} (h : ∀ d ∈ ds, Fit n d) : Fit (n + 1) (.tuple ds) := by
  obtain ⟨h1, h2⟩ := layAll h
  exact ⟨by simp only [PyData.canLay0]; exact h1, by simp only [PyData.depth]; omega⟩
theorem fit_ints (n : Nat) (ns : List Int) : Fit (n + 1) (.list (ns.map PyData.int)) := fit_list fun d hd => by
  obtain ⟨i, _, rfl⟩ := List.mem_map.mp hd
  exact fit_int n i
theorem Asc.drop {l : List Nat} (h : Asc l) (n : Nat) : Asc (l.drop n) := fun c hc => h c (List.mem_of_mem_drop hc)
theorem Asc.take {l : List Nat} (h : Asc l) (n : Nat) : Asc (l.take n) := fun c hc => h c (List.mem_of_mem_take hc)
theorem Asc.app {l m : List Nat} (h : Asc l) (h' : Asc m) : Asc (l ++ m) := fun c hc => (List.mem_append.mp hc).elim (h c) (h' c)
theorem Asc.rep {l : List Nat} (h : Asc l) (n : Nat) : Asc (repL l n) := fun c hc => by
  unfold repL at hc
  obtain ⟨a, ha, hc⟩ := List.mem_flatten.mp hc
  rw [List.eq_of_mem_replicate ha] at hc
  exact h c hc
theorem repL_len (l : List Nat) (n : Nat) : (repL l n).length = n * l.length := by simp [repL]
theorem repD_one (d : PyData) : ∀ n, (List.replicate n [d]).flatten = List.replicate n d
  | 0 => rfl
  | n + 1 => by rw [List.replicate_succ, List.flatten_cons, repD_one d n]; rfl
theorem rep_ints (i : Int) (n : Nat) : List.replicate n (PyData.int i) = (List.replicate n i).map PyData.int := by simp
theorem joinL_one : ∀ l : List Nat, TL.joinL [] (l.map fun c => [c]) = l
  | [] => rfl
  | [_] => rfl
  | c :: d :: l => by
    have := joinL_one (d :: l)
    show [c] ++ ([] ++ TL.joinL [] ((d :: l).map fun c => [c])) = _
    rw [this]; rfl
theorem join_one (l : List Nat) : Txt.join (S []) (l.map fun c => S [c]) = S l := by
  have := SX.join_S [] (l.map fun c => [c])
  rw [joinL_one, List.map_map] at this
  exact this
/-- a list is its items by place -/
theorem list_by {ds : List PyData} {n : Nat} {f : Nat → PyData} (hl : ds.length = n) (h : ∀ (i : Nat) (e : PyData), ds[i]? = some e → e = f i) : ds = (List.range n).map f := by
  apply List.ext_getElem?
  intro i
  by_cases hi : i < n
  · have h1 : ds[i]? = some ds[i] := by simp [hl, hi]
    rw [h1, h i _ h1]
    simp [hi]
  · rw [List.getElem?_eq_none (by omega), List.getElem?_eq_none (by simp; omega)]
section
variable {K : PySem.W.Frag} {L : List Ent} {H : Hp} {σ : L2.St} {Q : VK} {a : Addr} {i : Int} {n : Nat}
theorem w_ixN {ns : List Int} (hS : St K L H) (hl : LsIn K L a (ns.map PyData.int)) (h0 : 0 ≤ i) (h1 : i < ns.length) (h : Q (.int (ns.getD i.toNat 0)) H) : rIx K (.ref a) (.int i) H Q := by
  have hk : i.toNat < ns.length := by omega
  exact w_ixLi (k := i.toNat) hS hl (by omega) (by simp [List.getD_eq_getElem?_getD, hk]) h
theorem w_ixSg {l : List Nat} {c : Nat} (hl : l.length ≤ 100000) (h0 : 0 ≤ i) (hc : l[i.toNat]? = some c) (h : Q (.str (S [c])) H) : rIx K (.str (S l)) (.int i) H Q :=
  w_ixS (k := i.toNat) (by rw [S_len]; exact hl) (by omega) (by simpa using hc) h
theorem w_unpLi {ns : List Int} {tgs : TGs} {R : L2.St → Hp → Prop} (hS : St K L H) (hl : LsIn K L a (ns.map PyData.int)) (hn : ns.length = n) (h : tgs (ns.map V.int) σ H R) : gUnp K n tgs (.ref a) σ H R := by
  obtain ⟨F, xs, h1, h2, h3, h4⟩ := hS.lsin hl
  have e := h4.ints_inv
  subst e
  exact .inr ⟨a, _, rfl, SqL.of h3, by simpa using hn, h⟩
theorem w_addSS {y z : List Nat} (hl : y.length + z.length ≤ 100000) (h : Q (.str (S (y ++ z))) H) : rPlus K (.str (S y)) (.str (S z)) H Q :=
  w_addS (by rw [S_len, S_len]; exact hl) (by rw [S_app]; exact h)
theorem w_repSS {z : List Nat} (h0 : 0 ≤ i) (h1 : i ≤ 100000) (h2 : z.length ≤ 100) (h : Q (.str (S (repL z i.toNat))) H) : rTimes (.str (S z)) (.int i) H Q :=
  w_repS h0 h1 (by rw [S_len]; exact h2) h
theorem w_lenSS {l : List Nat} (hl : l.length ≤ 100000) (h : Q (.int l.length) H) : rLenX K [.str (S l)] H Q := w_lenS (by rw [S_len]; exact hl) (by rw [S_len]; exact h)
theorem w_eqSS {x y : List Nat} (h : Q (.bl (decide (x = y))) H) : rEqX K (.str (S x)) (.str (S y)) H Q := w_eqS (by
  have : decide (S x = S y) = decide (x = y) := by
    by_cases e : x = y
    · simp [e]
    · rw [decide_eq_false e, decide_eq_false (fun q => e (S_inj q))]
  rw [this]; exact h)
theorem w_joinSS {z : List Nat} {ys : List (List Nat)} (hS : St K L H) (h1 : LsIn K L a (ys.map fun y => PyData.str (S y))) (hn : (ys.map (·.length)).sum + ys.length * z.length ≤ 100000) (h : Q (.str (S (TL.joinL z ys))) H) : rJoin K (.str (S z)) [.ref a] H Q := by
  refine w_join (ys := ys.map S) hS (by simpa [Function.comp_def] using h1) ?_ ?_
  · rw [S_len]
    simpa [Function.comp_def, S_len] using hn
  · rw [SX.join_S]; exact h
theorem kit_ll : kitB "list" "list" = some true := by decide +kernel
theorem kit_tt : kitB "tuple" "tuple" = some true := by decide +kernel
theorem kit_ii : kitB "int" "int" = some true := by decide +kernel
theorem kit_si : kitB "str" "int" = some false := by decide +kernel
theorem kit_ss : kitB "str" "str" = some true := by decide +kernel
theorem kit_is : kitB "int" "str" = some false := by decide +kernel
theorem w_isLL {ds : List PyData} (hS : St K L H) (hl : LsIn K L a ds) (h : Q (.bl true) H) : rIsi K [.ref a, .ty "list"] H Q := w_isiL hS hl kit_ll h
theorem w_isTT {ds : List PyData} (hS : St K L H) (hl : Is L (.ref a) (.tuple ds)) (h : Q (.bl true) H) : rIsi K [.ref a, .ty "tuple"] H Q := w_isiT hS hl kit_tt h
theorem w_isII (h : Q (.bl true) H) : rIsi K [.int i, .ty "int"] H Q := w_isiI kit_ii h
theorem w_isSI {z : Str} (h : Q (.bl false) H) : rIsi K [.str z, .ty "int"] H Q := w_isiS kit_si h
theorem w_isSS {z : Str} (h : Q (.bl true) H) : rIsi K [.str z, .ty "str"] H Q := w_isiS kit_ss h
theorem w_isIS (h : Q (.bl false) H) : rIsi K [.int i, .ty "str"] H Q := w_isiI kit_is h
/-- some int item, with a property of all -/
theorem w_ixLP {ds : List PyData} {P : Int → Prop} (hS : St K L H) (hl : LsIn K L a ds) (h0 : 0 ≤ i) (h1 : i < ds.length) (hP : ∀ d ∈ ds, ∃ m, d = .int m ∧ P m) (h : ∀ m, P m → Q (.int m) H) : rIx K (.ref a) (.int i) H Q := by
  have hk : i.toNat < ds.length := by omega
  obtain ⟨m, hm, hp⟩ := hP ds[i.toNat] (List.getElem_mem hk)
  exact w_ixLi (k := i.toNat) hS hl (by omega) (by rw [List.getElem?_eq_getElem hk, hm]) (h m hp)
/-- the law begins -/
theorem St.begin {ns : List Int} (hO : Only H) (hs : SqL K H a (ns.map V.int)) : St K [Ent.fact (.seq K a ns)] H := by
  refine ⟨⟨H, Ex.rfl, fun e he => ?_⟩, List.nodup_nil⟩
  cases he with
  | head => exact hs
  | tail _ he => cases he
end
end Lg

/-! Raw lists that are owned, lists of owned lists, comprehensions with a test, truth values compared. -/
namespace Lg
open PySem PySem.Spec PyProof.Rows L2
section
variable {K : PySem.W.Frag} {L L' : List Ent} {H : Hp} {σ : L2.St} {Q : VK} {a b : Addr} {i : Int} {k : Nat} {v : V} {xs : List V} {tt : TT} {te : TE} {g : TG} {vs : List Nat}
theorem w_appR (hS : St K L H) (hp : Put L (Lg.own a (.lst xs)) (Lg.own a (.lst (xs ++ [v]))) L') (hn : xs.length ≤ 100000) (h : ∀ H', St K L' H' → Q .non H') : rAppend (.ref a) [v] H Q := by
  have h3 := hS.own hp.mem
  exact ⟨a, xs, v, rfl, rfl, h3, Nat.lt_of_le_of_lt hn (by decide), h _ (hS.writeP hp fun _ _ _ _ _ _ => rfl)⟩
theorem w_tyR {P : Prop} (hS : St K L H) (hm : Lg.own a (.lst xs) ∈ L) (h : P) : TyThen K "list" (.ref a) H P := ⟨.inl ⟨rfl, _, SqL.of (hS.own hm)⟩, h⟩
theorem w_ixR (hS : St K L H) (hm : Lg.own a (.lst xs) ∈ L) (hk : i = (k : Int)) (hx : xs[k]? = some v) (h : Q v H) : rIx K (.ref a) (.int i) H Q :=
  .inl ⟨a, xs, i, v, rfl, rfl, SqL.of (hS.own hm), by rw [hk]; exact at_of rfl hx, h⟩
theorem w_lenR (hS : St K L H) (hm : Lg.own a (.lst xs) ∈ L) (h : Q (.int xs.length) H) : rLenX K [.ref a] H Q :=
  ⟨.ref a, xs.length, rfl, .inl ⟨xs, SqL.of (hS.own hm), rfl⟩, h⟩
theorem w_setLi {ns : List Int} {m : Int} (hS : St K L H) (hp : Put L (Lg.ls K a (ns.map PyData.int)) (Lg.ls K a ((ns.set i.toNat m).map PyData.int)) L') (h0 : 0 ≤ i) (hn : i < ns.length) {R : Hp → Prop} (h : ∀ H', St K L' H' → R H') : rSetL (.ref a) (.int i) (.int m) H R :=
  w_setL (k := i.toNat) (d := .int m) hS (by rw [List.map_set] at hp; exact hp) .int (by omega) (by simp; omega) h
theorem w_setRaw {j : Nat} (hS : St K L H) (hp : Put L (Lg.own a (.lst xs)) (Lg.own a (.lst (xs.set j v))) L') (hj : i = (j : Int)) (hn : j < xs.length) {R : Hp → Prop} (h : ∀ H', St K L' H' → R H') : rSetL (.ref a) (.int i) v H R := by
  refine ⟨a, xs, i, j, rfl, rfl, hS.own hp.mem, ?_, h _ (hS.writeP hp fun _ _ _ _ _ _ => rfl)⟩
  rw [hj]
  unfold ixN
  rw [if_pos (by omega), if_pos (by omega)]
  simp
theorem dB (x y : Bool) : decide (V.bl x = V.bl y) = decide (x = y) := by cases x <;> cases y <;> decide
theorem w_eqB {x y : Bool} (h : Q (.bl (decide (x = y))) H) : rEqX K (.bl x) (.bl y) H Q := .inl ⟨rfl, by rw [dB]; exact h⟩
theorem w_neB {x y : Bool} (h : Q (.bl (!decide (x = y))) H) : rNeX K (.bl x) (.bl y) H Q := .inl ⟨rfl, by rw [dB]; exact h⟩
theorem See.ls {ds : List PyData} (h : LsIn K L a ds) : See K L (.ref a) (.list ds) := by
  cases h with
  | own m => exact .own m
  | dat m => exact .is (.dat m)
theorem St.raw0 (h : St K (Lg.ls K a [] :: L) H) : St K (Lg.own a (.lst []) :: L) H := h.data .here fun F x _ _ _ hφ => by
  obtain ⟨xs, rfl, hx⟩ := hφ
  have := hx.len
  cases xs with
  | nil => rfl
  | cons x xs => simp at this
/-- owned lists of ints, side by side -/
def lsL (K : PySem.W.Frag) (bs : List Addr) (ds : List (List Int)) : List Ent := List.zipWith (fun b (d : List Int) => Lg.ls K b (d.map PyData.int)) bs ds
theorem St.dropA : ∀ {A : List Ent}, St K (A ++ L) H → St K L H
  | [], h => h
  | _ :: _, h => St.dropA (St.tail h)
theorem St.pickL {bs : List Addr} {ds : List (List Int)} {d : List Int} (h : St K (lsL K bs ds ++ L) H) (hb : bs[k]? = some b) (hd : ds[k]? = some d) : St K (Lg.ls K b (d.map PyData.int) :: L) H := by
  have he : (lsL K bs ds)[k]? = some (Lg.ls K b (d.map PyData.int)) := by
    unfold lsL
    rw [List.getElem?_zipWith, hb, hd]
  obtain ⟨hk, e⟩ := List.getElem?_eq_some_iff.mp he
  have h1 : lsL K bs ds = (lsL K bs ds).take k ++ Lg.ls K b (d.map PyData.int) :: (lsL K bs ds).drop (k + 1) := by
    rw [← e, List.getElem_cons_drop, List.take_append_drop]
  rw [h1, List.append_assoc] at h
  have h2 := h.dropA
  have h3 : St K ((lsL K bs ds).drop (k + 1) ++ (Lg.ls K b (d.map PyData.int) :: L)) H := h2.perm (by
    rw [List.cons_append]
    exact List.perm_middle.symm)
  exact h3.dropA
theorem lsL_snoc {bs : List Addr} {ds : List (List Int)} {d : List Int} (h : bs.length = ds.length) : lsL K (bs ++ [b]) (ds ++ [d]) = lsL K bs ds ++ [Lg.ls K b (d.map PyData.int)] := by
  unfold lsL
  rw [List.zipWith_append h]
  rfl
/-- [x for x in ints if test] -/
theorem w_lcFI {ns : List Int} (p : Int → Bool) (hS : St K L H) (hl : LsIn K L a (ns.map PyData.int)) (hn : ns.length ≤ 100000)
    (hs : ∀ (n : Int) (H : Hp) (Z1 : VK) (Z2 : Hp → Prop), (p n = true → Z1 (.int n) H) → (p n = false → Z2 H) → g (.int n) (wipe σ vs) H fun σ2 H2 => wipe σ2 vs = wipe σ vs ∧ tt σ2 H2 fun b H3 => if b = true then te σ2 H3 Z1 else Z2 H3)
    (h : ∀ q H', St K (.cell q (.ls K ((ns.filter p).map PyData.int)) :: L) H' → Q (.ref q) H') : LcW (Itl K a) g tt te vs σ H Q := by
  intro q hq
  refine ⟨fun i m H => m = ns.length - i ∧ i ≤ ns.length ∧ St K (.cell q (.ls K (((ns.take i).filter p).map PyData.int)) :: L) H, ⟨ns.length, by simp, Nat.zero_le _, hS.alloc hq fun F _ _ => ⟨[], rfl, .nil⟩⟩, ?_⟩
  rintro i m H ⟨rfl, hi, hS1⟩
  by_cases hlt : i < ns.length
  · obtain ⟨xs, v, h3, h5, _, h6⟩ := hS1.item hl.cons (k := i) (d := .int ns[i]) (by simp [hlt])
    obtain rfl := h6.int_of
    refine .inr ⟨⟨xs, .int ns[i], SqL.of h3, h5⟩, fun H' => i + 1 ≤ ns.length ∧ St K (.cell q (.ls K (((ns.take (i + 1)).filter p).map PyData.int)) :: L) H', fun H' w => ⟨ns.length - (i + 1), by omega, rfl, w⟩, fun x H' y => ?_⟩
    obtain ⟨rfl, y⟩ := y
    have hx := y xs (SqL.of h3)
    rw [h5] at hx
    have hvx := Option.some.inj hx
    subst hvx
    have e : ns.take (i + 1) = ns.take i ++ [ns[i]] := by rw [List.take_add_one]; simp [hlt]
    refine hs ns[i] H' _ _ (fun hp => ?_) fun hp => ?_
    · obtain ⟨F, ys, h1, h2, h7, h8⟩ := hS1.lsin (.own (.head _))
      refine ⟨ys, h7, ?_, by omega, ?_⟩
      · rw [h8.len]
        refine Nat.lt_of_le_of_lt ?_ (show 100000 < sizeLine by decide)
        rw [List.length_map]
        exact Nat.le_trans (List.length_filter_le _ _) (by simp; omega)
      · refine hS1.writeP (.here) fun F' x e2 q2 hx hφ => ?_
        obtain ⟨zs, rfl, hzs⟩ := hφ
        rw [h7] at hx
        cases hx
        refine ⟨_, rfl, ?_⟩
        rw [e, List.filter_append, List.map_append]
        have : [ns[i]].filter p = [ns[i]] := by simp [hp]
        rw [this]
        exact hzs.app (.cons (.int _) .nil)
    · refine ⟨by omega, ?_⟩
      rw [e, List.filter_append]
      have : [ns[i]].filter p = [] := by simp [hp]
      rw [this, List.append_nil]
      exact hS1
  · have e : i = ns.length := by omega
    subst e
    rw [List.take_length] at hS1
    obtain ⟨xs, h3, h4⟩ := hS1.lenl hl.cons
    exact .inl ⟨⟨xs, SqL.of h3, by rw [h4]; simp⟩, h q H hS1⟩
end
end Lg

/-! repr of data. HandS' promise of a def says nothing of the objects that are just being shown (Around.guards); here it does: FnG, its call, its end. -/
namespace Lg
open PySem PySem.Spec PyProof.Rows L2
/-- a def's promise where nothing is being shown -/
structure FnG (P : Program) (w : World) (K : PySem.W.Frag) (mg : Str → Option Value) (base : Heap) (CX : CXT) (k : Nat) (f : Addr) (fd : FuncData) (ps : List Str) (sp : Sp) : Prop where
  len : ∀ vs H Q E, sp vs H Q E → vs.length = ps.length
  run : ∀ (A : Around) (outer : List Env) (s : Shared) (H : Hp) (args : Args) (us : List Value) (vs : List V) (Q : VK) (E : XK), Room k A → A.guards = some [] → Env0 P w K mg base A outer s H → BindsTo s fd args (ps.zip us) → Vals vs us → sp vs H Q E →
    codeAny (model P w) A (.call (.ref f) args) (CR CX outer P w H s Q E) s
section
variable {P : Program} {w : World} {K : PySem.W.Frag} {mg : Str → Option Value} {base : Heap} {x qual : Str} {params : Arguments} {body : List Stmt} {scope : Scope} {dvs : List V} {kws : List (Str × V)} {f : Addr} {fd : FuncData}
theorem deeper_guards {A : Around} {env : Env} (h : A.guards = some []) : (A.deeper env).guards = some [] := h
theorem okG {CX : CXT} {N ps : List Str} {k : Nat} {sp : Sp} (F : FunD K x qual params body scope dvs kws f fd) (S : FnScope N ps scope) (len : ∀ vs H Q E, sp vs H Q E → vs.length = ps.length)
    (hbody : ∀ (cdv : Value) (A : Around) (outer : List Env) (s : Shared) (H : Hp) (vs : List V) (Q : VK) (E : XK), Room k (A.deeper (envOfC qual scope s.heap.objs.size f cdv)) → (A.deeper (envOfC qual scope s.heap.objs.size f cdv)).guards = some [] → sp vs H Q E →
      ∃ t, PSs (cxOf CX P w K mg base N qual scope f cdv A outer s H E) body t ∧ t { nx := fun _ H' => Q .non H', rt := Q } (start N vs) H) : FnG P w K mg base CX (k + 1) f fd ps sp := by
  obtain ⟨oc, od, dV, kV, doc, pm, an, cdv, ct, osl, rfl, lk, hcd, _, _⟩ := F.ex
  constructor
  · exact len
  intro A outer s H args us vs Q E room still e0 bind rel prom
  have known : K.In s.heap := e0.mod.kin.keeps fun b o e => (e0.bs b o e).1
  have kinds : ∀ y ∈ ps.zip us, scope.names.lookup y.1 = some .local ∨ (scope.names.lookup y.1 = some .cell ∧ ((cellsFrom (s.heap.objs.size + 1) scope.names []).lookup y.1).isSome = true) := by
    intro y hy
    rcases S.par y.1 (List.of_mem_zip hy).1 with q | q
    · exact .inl q
    · exact .inr ⟨q, PySem.W.cellsFrom_some _ _ _ (.inl q)⟩
  refine codeAny_call_function room.depth (known _ _ lk) rfl S.co S.gen rfl (PySem.W.codeRec_of known hcd) (bind _ _ _ _ ?_)
  refine wpAny_newFunctionEnv_cells S.kind kinds fun env he s1 ic => ?_
  subst he
  refine ⟨(e0.mod.nolimit.keeps fun b o e => (e0.bs b o e).1).keeps ic.toInCall.keep, codeAny_func ?_⟩
  obtain ⟨t, ht, hq⟩ := hbody cdv A outer s H vs Q E (room.deeper _) still prom
  refine wpAny_mono (ht.run [] s1 (start N vs) H _ (inv_start S room.hd e0 (len _ _ _ _ prom) rel ic) hq) (fun fl s' hs => ?_) fun e s' hs => hs
  cases fl with
  | ret u =>
    obtain ⟨v, _, H', J, rv, q⟩ := hs
    exact ⟨v, H', J.os, J.bare, J.base, J.hok, rv, q⟩
  | next =>
    obtain ⟨_, H', J, q⟩ := hs
    exact ⟨V.non, H', J.os, J.bare, J.base, J.hok, rfl, q⟩
  | brk => exact hs.elim fun _ h => h.elim fun _ h => h.2.elim
  | cont => exact hs.elim fun _ h => h.elim fun _ h => h.2.elim
/-- a def that may be called where nothing is being shown -/
structure CalG (P : Program) (w : World) (K : PySem.W.Frag) (mg : Str → Option Value) (base : Heap) (k : Nat) (x : Str) (sp : Sp) (dvs : List V) : Prop where
  ex : ∃ (f : Addr) (fd : FuncData) (ps : List Str) (ds : List Value), FnG P w K mg base C8.CX0 k f fd ps sp ∧ mg x = some (.ref f) ∧ PySem.W.keepIn K (.ref f) = true ∧ Binds K fd ps ds ∧ Vals dvs ds
end
section
variable {X : Cx} {k j : Nat} {x : Str} {sp : Sp} {dvs : List V} {p pos : Pos} {e : Expr} {es : List Expr} {t : TA}
theorem pe_cG (c : CalG X.prog X.w X.K X.mg X.base k x sp dvs) (hr : Room j X.A) (hs : X.A.guards = some []) (hk : k ≤ j) (hg : Gl X x) (ha : PA X (e :: es) t)
    (hdb : (x == ("__debug__" : Str)) = false := by decide) (he : starEach (e :: es) X.env = (false, eval e X.env) :: starEach es X.env := by rfl) (hpl : (backTo pos (starEach es X.env)).any (·.1) = false := by rfl) :
    PE X (.Call (.Name x p) (e :: es) [] pos) (tCall sp dvs C8.E0 t) := by
  obtain ⟨f, fd, ps, ds, F, hm, kp, b, d⟩ := c.ex
  refine ⟨fun pins s σ H Q I h => ?_⟩
  refine wpAny_Call_Name_kw (ld_glob I hg hm ?_ hdb)
  refine PySem.W.callWith_K (h₀ := X.base) I.ok.mod.kin kp (thn (ha.run pos pins s σ H _ I h) fun us s1 ⟨vs, H1, I1, r, q⟩ => ⟨I1.kIn, ?_⟩) he hpl
  have r2 : Vals (vs ++ dvs) (us ++ ds) := r.append d
  have hl : (us ++ ds).length = ps.length := by rw [← r2.length]; exact F.len _ _ _ _ q
  refine wpAny_call (codeAny_mono (F.run X.A X.stack s1 H1 ⟨us, []⟩ (us ++ ds) (vs ++ dvs) Q C8.E0 (hr.mono hk) hs I1.env0 (b s1 us I1.kIn hl) r2 q) fun r s' hq => ?_)
  cases r with
  | error e => exact False.elim hq
  | ok fl =>
    cases fl with
    | ret u => exact I1.after hq
    | next => exact False.elim hq
    | brk => exact False.elim hq
    | cont => exact False.elim hq
end
/-- the law's call -/
theorem law_callG {P : Program} {w : World} {K : PySem.W.Frag} {mg mb : Str → Option Value} {CX : CXT} {k : Nat} {fa a : Addr} {fd : FuncData} {x : Str} {sp : Sp} {s₁ : Shared} {vs : List Value} {ns : List Int}
    (KX : K.In s₁.heap) (hns : s₁.heap.Ns mainGlobals mg) (hb : s₁.heap.Ns builtinsNs mb) (hbb : ∀ x : Str, x ≠ "__name__" → mb x = bootBuiltins x) (hlim : s₁.heap.NoLimit) (hg : s₁.gens = #[])
    (ha : s₁.heap.get? a = some { cls := .type "list", data := .seq vs.toArray }) (hi : IntsAre vs ns) (hl : ns.length ≤ sizeLine) (hr : Room k callerA)
    (F : ∀ base : Heap, K.In base → base.Ns mainGlobals mg → FnG P w K mg base CX k fa fd [x] sp) (hbind : ∀ (s : Shared) (u : Value), BindsTo s fd ⟨[u], []⟩ [(x, u)])
    (hsp : ∀ H : Hp, Only H → SqL K H a (ns.map V.int) → sp [.ref a] H (fun v _ => v = .bl true) fun _ _ _ => False)
    (hCX : ∀ H e s', CX [] H s₁ (fun _ _ _ => False) e s' → False) :
    codeAny (model P w) callerA (.call (.ref fa) ⟨[.ref a], []⟩) (fun r s' => r = .ok (.ret (.bool true)) ∧ OldK s₁.heap s'.heap ∧ s'.os = s₁.os ∧ AllBare s'.gens) s₁ := by
  have rv := vals_ints hi
  have main : ∀ H : Hp, Only H → SqL K H a (ns.map V.int) → HOk P w H s₁.heap → (∀ b, b ≠ a → H b = none) → (H a ≠ none → K.lookup a = none) →
      codeAny (model P w) callerA (.call (.ref fa) ⟨[.ref a], []⟩) (fun r s' => r = .ok (.ret (.bool true)) ∧ OldK s₁.heap s'.heap ∧ s'.os = s₁.os ∧ AllBare s'.gens) s₁ := by
    intro H hO hS hok one off
    have plain : ∀ {b : Addr} {o : Obj}, s₁.heap.get? b = some o → (∀ n, o.data ≠ .seq vs.toArray n) → H b = none := fun {b o} e hd => by
      by_cases q : b = a
      · subst q
        rw [ha] at e
        cases e
        exact absurd rfl (hd _)
      · exact one b q
    have ns' : ∀ {b : Addr} {m : Str → Option Value}, s₁.heap.Ns b m → (hidT s₁.heap H).Ns b m := fun {b m} ⟨o, es, ep, e, d, r⟩ => ⟨o, es, ep, hidT_get e (plain e fun n z => by rw [d] at z; cases z), d, r⟩
    have known : K.In (hidT s₁.heap H) := fun b o e => hidT_get (KX b o e) (by
      by_cases q : b = a
      · subst q
        cases z : H b with
        | none => rfl
        | some u => rw [off (by rw [z]; simp)] at e; cases e
      · exact one b q)
    have e0 : Env0 P w K mg (hidT s₁.heap H) callerA [] s₁ H := by
      refine ⟨rfl, ⟨known, ns' hns, ⟨mb, ns' hb, hbb⟩, ?_⟩, fun b o e => of_hidT e, Nat.le_of_eq (hidT_size _ _), trivial, fun b hb => absurd (show b ∈ ([] : List Addr) from hb) (by simp), hok, .of_eq hg⟩
      obtain ⟨mc, h1, h2⟩ := hlim
      exact ⟨mc, ns' h1, h2⟩
    refine codeAny_mono ((F _ known (ns' hns)).run callerA [] s₁ H ⟨[.ref a], []⟩ [.ref a] [.ref a] _ _ hr rfl e0 (hbind s₁ (.ref a)) (.cons rfl .nil) (hsp H hO hS)) fun r s' h => ?_
    match r, h with
    | .error e, h => exact (hCX H e s' h).elim
    | .ok .next, h => exact False.elim h
    | .ok .brk, h => exact False.elim h
    | .ok .cont, h => exact False.elim h
    | .ok (.ret u), h =>
      obtain ⟨v, H', os, bare, un, hok', r', q⟩ := h
      obtain rfl : v = .bl true := q
      obtain rfl : u = Value.bool true := r'
      refine ⟨rfl, OldK.of_keep fun b o e => ?_, os, bare⟩
      rcases hO b with z | ⟨ob, xs, z⟩
      · exact un.keep b o e z (by intro z; exact absurd (show b ∈ ([] : List Addr) from z) (by simp)) (by simp)
      · have e1 := (hok b _ z).1
        have e2 := (hok' b _ (un.frzs b ob _ z)).1
        rw [e] at e1
        cases e1
        exact e2
  cases hk : K.lookup a with
  | some o =>
    have e := KX a o hk
    rw [ha] at e
    cases e
    exact main (fun _ => none) (fun _ => .inl rfl) (.inr ⟨_, vs.toArray, _, hk, rfl, rfl, rfl, by rw [List.size_toArray, hi.length]; exact hl, by simpa using rv⟩) (fun b u z => by have z' : (none : Option HO) = some u := z; cases z') (fun _ _ => rfl) fun z => absurd rfl z
  | none =>
    have at_a : (if a = a then some (HO.frz { cls := .type "list", data := .seq vs.toArray } (.lst (ns.map V.int))) else none) = some (HO.frz { cls := .type "list", data := .seq vs.toArray } (.lst (ns.map V.int))) := if_pos rfl
    refine main (fun b => if b = a then some (.frz { cls := .type "list", data := .seq vs.toArray } (.lst (ns.map V.int))) else none) (fun b => ?_) (.inl (.inr ⟨_, at_a⟩)) (fun b u z => ?_) (fun b q => if_neg q) fun _ => hk
    · by_cases hb : b = a
      · exact .inr ⟨_, _, if_pos hb⟩
      · exact .inl (if_neg hb)
    · by_cases hb : b = a
      · subst hb
        have z' := at_a.symm.trans z
        cases z'
        exact ⟨ha, by rw [List.length_map]; exact hl, vs, _, rv, ha⟩
      · have z' := (if_neg hb).symm.trans z
        cases z'
/-- the end of a law whose defs show data -/
theorem walk_ofG {l : PySem.W.OpenLaw} {n k : Nat} {q : Program} {loose : List Str} {XP : (Str → Option Value) → Heap → Prop} {YP : World → Heap → Prop} {d : DefRec} {CX : CXT} {x : Str}
    (hn : l.most = some n) (hn2 : n ≤ sizeLine) (hdf : d.params.defaults = []) (hr : Room k callerA)
    (F : ∀ (w : World) (mg : Str → Option Value) (fa : Addr) (h : Heap), YP w h → h.Ns mainGlobals mg → mg d.name = some (.ref fa) →
      ∃ (K : PySem.W.Frag) (fd : FuncData) (sp : Sp), K.In h ∧ (∀ (s : Shared) (u : Value), BindsTo s fd ⟨[u], []⟩ [(x, u)]) ∧
        (∀ (H : Hp) (a : Addr) (ns : List Int), ns.length ≤ n → Only H → SqL K H a (ns.map V.int) → sp [.ref a] H (fun v _ => v = .bl true) fun _ _ _ => False) ∧
        ∀ base : Heap, K.In base → base.Ns mainGlobals mg → FnG l.prog w K mg base CX k fa fd [x] sp)
    (hCX : ∀ (H : Hp) (s : Shared) (e : Value) (s' : Shared), CX [] H s (fun _ _ _ => False) e s' → False) :
    PySem.W.WalkO q loose XP YP l.row.toRowW d [] (fun f vs => PySem.call f vs) := by
  refine Att.attach_call hn hdf fun w s₀ s₁ mg mb fa o pm cd doc a vs ns G Y ho hd hcd hmg hobj hints hlen hg => ?_
  obtain ⟨K, fd, sp, KX, hb, hsp, hF⟩ := F w mg fa _ Y G.T.g hmg
  exact law_callG KX G.T.g G.T.b G.T.builtins G.T.nolimit hg hobj hints (Nat.le_trans hlen hn2) hr hF hb (fun H hO hS => hsp H a ns hlen hO hS) fun H e s' => hCX H s₁ e s'
/-! ### repr -/
/-- what may be shown: no dict, ints short -/
structure Shw (n w : Nat) (d : PyData) : Prop where
  lay : d.canLay0 = true
  dep : d.depth ≤ n
  wgt : d.weight ≤ w
  ish : d.intsShort 13 = true
  shw : d.showable = true
theorem Shw.fits {n w : Nat} {d : PyData} (h : Shw n w d) (hn : n ≤ 60) (hw : w ≤ 1048576) : d.shown.length ≤ sizeLine := by
  refine PyData.shown_fits_of_layable0 (B := 13) (by decide) (by decide) ?_ h.ish
  have h1 := h.dep
  have h2 := h.wgt
  unfold PyData.layable0
  rw [h.lay, decide_eq_true (by omega), decide_eq_true (by omega)]
  rfl
theorem Shw.shaped {n w : Nat} {d : PyData} (h : Shw n w d) (hn : n ≤ 60) : SeqAt.shaped d = true := Fit.shaped (n := 60) ⟨h.lay, Nat.le_trans h.dep hn⟩
def rReprX (K : PySem.W.Frag) : List V → Hp → VK → Prop := fun xs H Q => ∃ (v : V) (d : PyData) (n w : Nat), xs = [v] ∧ Dp K H v d ∧ Shw n w d ∧ n ≤ 60 ∧ w ≤ 1048576 ∧ Q (.str d.shown) H
theorem c_repr {X : Cx} (hu : X.A.units + 64 < cLine) (hs : X.A.guards = some []) : CallR X (.builtin "repr") (rReprX X.K) := by
  intro pins s σ H xs us Q I r h
  obtain ⟨v, d, n, w, rfl, hd, sh, hn, hw, q⟩ := h
  obtain ⟨u, rfl, ru⟩ := vals1 r
  obtain ⟨as, rd⟩ := Dp.reads I d v u hd ru
  have hsz := sh.fits hn hw
  have hnd : d.hasDict = false := PyData.hasDict_of_canLay d sh.lay
  have hsw := sh.shw
  cases rd with
  | none => exact PySem.P.repr_of_none ⟨.str _, H, I.tok _, ⟨_, rfl⟩, by simpa only [PyData.shown] using q⟩
  | bool b => exact PySem.P.repr_of_bool ⟨.str _, H, I.tok _, ⟨_, rfl⟩, by simpa only [PyData.shown] using q⟩
  | int i t => exact PySem.P.repr_of_int (by simpa [PyData.showable] using hsw) ⟨.str _, H, I.tok _, ⟨_, rfl⟩, by simpa only [PyData.shown] using q⟩
  | str x t => exact PySem.P.repr_of_str ⟨.str _, H, I.tok _, ⟨_, rfl⟩, by simpa only [PyData.shown] using q⟩ (by simpa only [PyData.shown] using hsz)
  | list h1 h2 h3 h4 =>
    have hdp := sh.dep
    exact repr_of_reads' (.list h1 h2 h3 h4) hsw (PyData.noDict_hsm hnd) hs (by omega) (fun _ _ e => e) (fun h' u tk hk => ⟨.str _, H, I.kept hk, ⟨_, rfl⟩, q⟩) hsz
  | tuple h1 h2 h3 h4 =>
    have hdp := sh.dep
    exact repr_of_reads' (.tuple h1 h2 h3 h4) hsw (PyData.noDict_hsm hnd) hs (by omega) (fun _ _ e => e) (fun h' u tk hk => ⟨.str _, H, I.kept hk, ⟨_, rfl⟩, q⟩) hsz
  | dict => simp [PyData.hasDict] at hnd
section
variable {K : PySem.W.Frag} {L : List Ent} {H : Hp} {Q : VK} {v : V} {d : PyData}
theorem w_repr {n w : Nat} (hS : St K L H) (hv : See K L v d) (sh : Shw n w d) (hn : n ≤ 60) (hw : w ≤ 1048576) (h : Q (.str d.shown) H) : rReprX K [v] H Q := ⟨v, d, n, w, rfl, hv.dp hS, sh, hn, hw, h⟩
theorem log2_le {m k : Nat} (h : m < 2 ^ k) : m.log2 + 1 ≤ k + 1 := by
  refine Nat.succ_le_succ ?_
  rcases Nat.eq_zero_or_pos m with h0 | h0
  · rw [h0]
    exact Nat.le_trans (Nat.le_of_eq (show Nat.log2 0 = 0 by decide +kernel)) (Nat.zero_le _)
  · exact Nat.le_of_lt ((Nat.log2_lt (Nat.pos_iff_ne_zero.mp h0)).mpr h)
theorem sh_int (n : Nat) {w : Nat} {i : Int} (h : i.natAbs < 10 ^ 12) (hw : 42 ≤ w) : Shw n w (.int i) := by
  have h2 : i.natAbs < 2 ^ 40 := Nat.lt_of_lt_of_le h (by decide)
  have h3 := log2_le h2
  refine ⟨by simp [PyData.canLay0], by simp [PyData.depth], ?_, ?_, ?_⟩
  · unfold PyData.weight
    split
    · omega
    · omega
  · unfold PyData.intsShort
    exact decide_eq_true (PyData.shown_int_le h)
  · unfold PyData.showable
    exact decide_eq_true (by omega)
theorem sh_bool (n w : Nat) (b : Bool) : Shw n w (.bool b) := ⟨by simp [PyData.canLay0], by simp [PyData.depth], by simp [PyData.weight], by simp [PyData.intsShort], by simp [PyData.showable]⟩
theorem sh_none (n w : Nat) : Shw n w .none := ⟨by simp [PyData.canLay0], by simp [PyData.depth], by simp [PyData.weight], by simp [PyData.intsShort], by simp [PyData.showable]⟩
theorem sh_str (n : Nat) {w : Nat} {l : List Nat} (h : Asc l) (hw : l.length ≤ w) : Shw n w (.str (S l)) := ⟨(fit_str n h).1, by simp [PyData.depth], by simpa [PyData.weight, S] using hw, by simp [PyData.intsShort], by simp [PyData.showable]⟩
theorem sh_all {n w : Nat} : ∀ {ds : List PyData}, (∀ d ∈ ds, Shw n w d) → PyData.canLayAll0 ds = true ∧ PyData.depthAll ds ≤ n ∧ PyData.weightAll ds ≤ ds.length * (w + 1) ∧ PyData.intsShortAll 13 ds = true ∧ PyData.showableAll ds = true
  | [], _ => by simp [PyData.canLayAll0, PyData.depthAll, PyData.weightAll, PyData.intsShortAll, PyData.showableAll]
  | d :: ds, h => by
    obtain ⟨h1, h2, h3, h4, h5⟩ := sh_all fun e he => h e (.tail _ he)
    obtain ⟨g1, g2, g3, g4, g5⟩ := h d (.head _)
    simp only [PyData.canLayAll0, PyData.depthAll, PyData.weightAll, PyData.intsShortAll, PyData.showableAll, g1, h1, g4, h4, g5, h5, List.length_cons, Nat.add_mul, Bool.and_self]
    refine ⟨trivial, by omega, by omega, trivial, trivial⟩
theorem sh_list {n w m : Nat} {ds : List PyData} (h : ∀ d ∈ ds, Shw n w d) (hm : ds.length * (w + 1) ≤ m) : Shw (n + 1) m (.list ds) := by
  obtain ⟨h1, h2, h3, h4, h5⟩ := sh_all h
  exact ⟨by simpa [PyData.canLay0] using h1, by simp only [PyData.depth]; omega, by simp only [PyData.weight]; omega, by simpa [PyData.intsShort] using h4, by simpa [PyData.showable] using h5⟩
theorem sh_tuple {n w m : Nat} {ds : List PyData} (h : ∀ d ∈ ds, Shw n w d) (hm : ds.length * (w + 1) ≤ m) : Shw (n + 1) m (.tuple ds) := by
  obtain ⟨h1, h2, h3, h4, h5⟩ := sh_all h
  exact ⟨by simpa [PyData.canLay0] using h1, by simp only [PyData.depth]; omega, by simp only [PyData.weight]; omega, by simpa [PyData.intsShort] using h4, by simpa [PyData.showable] using h5⟩
theorem Shw.mono {n w n' w' : Nat} (h : Shw n w d) (hn : n ≤ n') (hw : w ≤ w') : Shw n' w' d := ⟨h.lay, Nat.le_trans h.dep hn, Nat.le_trans h.wgt hw, h.ish, h.shw⟩
end
end Lg

/-! Texts of numbers, find, while, membership in a tuple of flat things, the head with one more Bool. -/
namespace Lg
open PySem PySem.Spec PyProof.Rows L2 PySem.NumText
/-! ### the head: one more Bool of what is written -/
abbrev AlB : Type := He.AlD × Bool
def obsB (n : Nat) (fa : List He.Fa) (fn : List He.DefD) (ex : PySem.W.Frag → Bool) (g : Addr → Option Obj) : AlB := (He.obsDG n fa fn g, ex (He.frG g (He.asD g n)))
def hookB (n : Nat) (fa : List He.Fa) (fn : List He.DefD) (ex : PySem.W.Frag → Bool) : PySem.W.Hook where
  α := AlB
  obs := fun s => obsB n fa fn ex s.heap.get?
  val := fun _ => (He.valD fn, true)
  says := fun _ h => ∃ K : PySem.W.Frag, K.In h ∧ He.SaysD fa fn K ∧ ex K = true
  of := fun _ _ e => ⟨_, He.frG_in, congrArg (fun z : AlB => z.1) e, congrArg (fun z : AlB => z.2) e⟩
  keeps := fun _ _ _ ⟨K, hK, c⟩ k => ⟨K, PySem.W.Frag.In.keeps hK k, c⟩
theorem obsB_eq {n : Nat} {fa : List He.Fa} {fn : List He.DefD} {ex : PySem.W.Frag → Bool} {g : Addr → Option Obj} {s : Shared} (h : ∀ a, g a = s.heap.get? a) : obsB n fa fn ex g = (hookB n fa fn ex).obs s := by
  have e : g = s.heap.get? := funext h
  rw [e] <;> rfl
/-! ### relations -/
def rIntY : List V → Hp → VK → Prop := fun xs H Q => rIntX xs H Q ∨ ∃ a n, xs = [.str a] ∧ PySem.intText? a = some n ∧ a.length ≤ 640 ∧ Q (.int n) H
def rStrX : List V → Hp → VK → Prop := fun xs H Q => (∃ i, xs = [.int i] ∧ i.natAbs.log2 < 1920 ∧ Q (.str (Str.ofString (toString i))) H) ∨ ∃ a, xs = [.str a] ∧ Q (.str a) H
def rFind3 : V → List V → Hp → VK → Prop := fun x xs H Q => ∃ (a b : Str) (i : Int), x = .str a ∧ xs = [.str b, .int i] ∧ Q (.int (Txt.find3 a b i)) H
def rMax2 : List V → Hp → VK → Prop := fun xs H Q => ∃ i j, xs = [.int i, .int j] ∧ Q (.int (if j > i then j else i)) H
def rMin2 : List V → Hp → VK → Prop := fun xs H Q => ∃ i j, xs = [.int i, .int j] ∧ Q (.int (if j < i then j else i)) H
section
variable {X : Cx}
theorem c_int2 : CallR X (.type "int") rIntY := by
  intro pins s σ H xs us Q I r h
  rcases h with h | h
  · exact c_int pins s σ H xs us Q I r h
  · exact call_int_str pins s σ H xs us Q I r h
theorem c_str : CallR X (.type "str") rStrX := by
  intro pins s σ H xs us Q I r h
  rcases h with h | h
  · exact call_str_int pins s σ H xs us Q I r h
  · exact SkE.call_str_str pins s σ H xs us Q I r h
theorem m_find3 : MtR X "str.find" rFind3 := mt_find3
end
section
variable {K : PySem.W.Frag} {L L' : List Ent} {H : Hp} {σ : L2.St} {Q : VK} {a b : Addr} {i : Int} {k : Nat} {v : V} {d : PyData} {ds : List PyData}
theorem w_intI2 (h : Q (.int i) H) : rIntY [.int i] H Q := .inl (w_int h)
theorem w_intT {l : List Nat} {n : Int} (hn : PySem.intText? (S l) = some n) (hl : l.length ≤ 640) (h : Q (.int n) H) : rIntY [.str (S l)] H Q := .inr ⟨_, n, rfl, hn, by rw [S_len]; exact hl, h⟩
/-- the digits of a number -/
def dg (n : Nat) : List Nat := (Nat.toDigits 10 n).map Char.toNat
theorem dg_text (n : Nat) : Str.ofString (toString ((n : Nat) : Int)) = S (dg n) := by
  rw [S_of (Str.ofString (toString ((n : Nat) : Int)))]
  congr 1
  exact PySem.W.KIN.signs_num n
theorem w_strI {n : Nat} (hi : i = (n : Int)) (hn : n < 10 ^ 12) (h : Q (.str (S (dg n))) H) : rStrX [.int i] H Q := by
  refine .inl ⟨i, rfl, ?_, ?_⟩
  · have h2 : i.natAbs < 2 ^ 40 := by
      have : (10 : Nat) ^ 12 ≤ 2 ^ 40 := by decide
      omega
    have := log2_le h2
    omega
  · rw [hi, dg_text]
    exact h
theorem w_strS {z : Str} (h : Q (.str z) H) : rStrX [.str z] H Q := .inr ⟨z, rfl, h⟩
theorem dg_len {n k : Nat} (hk : 1 ≤ k) (hn : n < 10 ^ k) : (dg n).length ≤ k := by
  unfold dg
  rw [List.length_map]
  exact digits10_le hk hn
theorem dg_pos (n : Nat) : 1 ≤ (dg n).length := by
  unfold dg
  rw [List.length_map]
  exact tDigits_len_ge 10 n
theorem dg_ge {n k : Nat} (hn : 10 ^ k ≤ n) : k + 1 ≤ (dg n).length := by
  unfold dg
  rw [List.length_map]
  exact digits10_ge hn
theorem dg_val (n : Nat) : digitsVal (dg n) = n := PySem.W.KIN.val_back n
theorem dg_digits (n : Nat) : AllDigits (dg n) := by
  intro c hc
  obtain ⟨ch, hch, e⟩ := List.mem_map.mp hc
  rw [← e]
  have h := Nat.isDigit_of_mem_toDigits (b := 10) (by decide) (by decide) hch
  have h2 : ch.val ≥ '0'.val ∧ ch.val ≤ '9'.val := by
    simpa [Char.isDigit] using h
  exact ⟨h2.1, h2.2⟩
theorem digitsVal_le : ∀ (cs : List Nat) (acc : Nat), AllDigits cs → cs.foldl (fun acc c => acc * 10 + (c - 48)) acc < (acc + 1) * 10 ^ cs.length
  | [], acc, _ => by simp
  | c :: cs, acc, h => by
    have h1 := digitsVal_le cs (acc * 10 + (c - 48)) fun d hd => h d (.tail _ hd)
    have h2 := h c (.head _)
    refine Nat.lt_of_lt_of_le h1 ?_
    rw [List.length_cons, Nat.pow_succ, Nat.mul_comm (10 ^ cs.length) 10, ← Nat.mul_assoc]
    exact Nat.mul_le_mul_right _ (by omega)
/-- no zero ahead, but of zero -/
theorem dg_head {n : Nat} (h : (dg n).head? = some 48) : (dg n).length = 1 := by
  cases hd : dg n with
  | nil => rw [hd] at h; cases h
  | cons c cs =>
    rw [hd] at h
    have hc : c = 48 := Option.some.inj h
    have h1 := dg_digits n
    rw [hd] at h1
    have h2 := dg_val n
    rw [hd] at h2
    unfold digitsVal at h2
    rw [List.foldl_cons, hc] at h2
    have h3 := digitsVal_le cs 0 fun d hd => h1 d (.tail _ hd)
    have h4 : n < 10 ^ cs.length := by
      rw [← h2]
      simpa using h3
    have h5 : (dg n).length = cs.length + 1 := by rw [hd]; rfl
    rw [← hd, h5]
    by_cases h0 : cs.length = 0
    · omega
    · have := dg_len (n := n) (k := cs.length) (by omega) h4
      omega
theorem int_dg {n : Nat} (hn : n < 10 ^ 10) : PySem.intText? (S (dg n)) = some (n : Int) := by
  rw [← dg_text]
  exact PySem.W.KIN.num_reads (by omega) (by omega)
/-! ### find -/
/-- the place of the first c in l, from i on -/
theorem find_none {l : List Nat} {c k : Nat} (h : c ∉ l.drop k) (hk : k ≤ l.length) : Txt.find3 (S l) (S [c]) (k : Int) = -1 := by
  rcases StrLaws.find3_spec (S l) c (k : Int) with ⟨e, _⟩ | ⟨m, e, h1, h2, h3, _⟩
  · exact e
  · exfalso
    rw [S_len] at h2
    have hf : fromIndex (S l).length (k : Int) = k := by
      unfold fromIndex
      rw [S_len, if_neg (by omega)]
      omega
    rw [hf] at h1
    refine h ?_
    have h4 : l[m]? = some c := by
      have : (S l).cps.getD m 0 = c := h3
      have h5 : l[m]? = some l[m] := List.getElem?_eq_getElem h2
      rw [h5]
      congr 1
      rw [← this]
      simp [S, Array.getD, h2]
    refine List.mem_of_getElem? (i := m - k) ?_
    rw [List.getElem?_drop, show k + (m - k) = m by omega, h4]
theorem find_some {l r : List Nat} {c k m : Nat} (h : l.drop k = r) (hm : r[m]? = some c) (hn : c ∉ r.take m) (hk : k ≤ l.length) : Txt.find3 (S l) (S [c]) (k : Int) = ((k + m : Nat) : Int) := by
  have hml : m < r.length := (List.getElem?_eq_some_iff.mp hm).1
  have hrl : r.length = l.length - k := by rw [← h, List.length_drop]
  have hf : fromIndex (S l).length (k : Int) = k := by
    unfold fromIndex
    rw [S_len, if_neg (by omega)]
    omega
  have hget : ∀ j, j < l.length → (S l).cps.getD j 0 = l.getD j 0 := fun j hj => by simp [S, Array.getD, hj, List.getD_eq_getElem?_getD]
  have hr : ∀ j, r[j]? = l[k + j]? := fun j => by rw [← h, List.getElem?_drop]
  rcases StrLaws.find3_spec (S l) c (k : Int) with ⟨e, h1⟩ | ⟨q, e, h1, h2, h3, h4⟩
  · exfalso
    refine h1 (k + m) (by rw [hf]; omega) (by rw [S_len]; omega) ?_
    rw [hget _ (by omega), List.getD_eq_getElem?_getD, ← hr, hm]
    rfl
  · rw [e]
    rw [hf] at h1 h4
    rw [S_len] at h2
    have h5 : ¬ k + m < q := fun z => by
      refine h4 (k + m) (by omega) z ?_
      rw [hget _ (by omega), List.getD_eq_getElem?_getD, ← hr, hm]
      rfl
    have h6 : ¬ q < k + m := fun z => by
      refine hn ?_
      refine List.mem_of_getElem? (i := q - k) ?_
      rw [List.getElem?_take_of_lt (by omega), hr, show k + (q - k) = q by omega]
      have : l.getD q 0 = c := by rw [← hget _ h2]; exact h3
      rw [← this, List.getD_eq_getElem?_getD, List.getElem?_eq_getElem h2]
      rfl
    congr 1
    omega
theorem w_find3 {l : List Nat} {c : Nat} (h : Q (.int (Txt.find3 (S l) (S [c]) i)) H) : rFind3 (.str (S l)) [.str (S [c]), .int i] H Q := ⟨_, _, i, rfl, rfl, h⟩
/-! ### flat things -/
def dV : V → PyData
  | .int i => .int i
  | .str z => .str z
  | .bl b => .bool b
  | _ => .none
theorem dv_flat {F : Hp} : ∀ {x v : V}, flatV x = true → Dv K F v (dV x) → v = x
  | .int i, _, _, h => by cases h; rfl
  | .str i, _, _, h => by cases h; rfl
  | .bl i, _, _, h => by cases h; rfl
  | .non, _, _, h => by cases h; rfl
theorem dvs_flat {F : Hp} : ∀ {xs vs : List V}, xs.all flatV = true → DvAll K F vs (xs.map dV) → vs = xs
  | [], _, _, h => by cases h; rfl
  | x :: xs, _, f, h => by
    rw [List.all_cons, Bool.and_eq_true] at f
    cases h with
    | cons h1 h2 => rw [dv_flat f.1 h1, dvs_flat f.2 h2]
theorem St.flatT {xs : List V} (hS : St K L H) (hl : Is L (.ref a) (.tuple (xs.map dV))) (hf : xs.all flatV = true) : SqT K H a xs := by
  obtain ⟨F, h1, h2⟩ := hS.ex
  have := hl.dv h2
  cases this with
  | tup hs ha =>
    have e := dvs_flat hf ha
    rw [← e]
    exact h1.sqT hs
theorem w_inT {xs : List V} {x : V} {neg : Bool} (hS : St K L H) (hl : Is L (.ref a) (.tuple (xs.map dV))) (hx : flatV x = true) (hf : xs.all flatV = true) (h : Q (.bl (if neg then !inV x xs else inV x xs)) H) : rInX K neg x (.ref a) H Q :=
  .inl ⟨a, xs, rfl, .inr (hS.flatT hl hf), hx, hf, h⟩
def sV (ys : List (List Nat)) : List V := ys.map fun y => V.str (S y)
theorem inV_s (l : List Nat) : ∀ ys : List (List Nat), inV (.str (S l)) (sV ys) = decide (l ∈ ys)
  | [] => rfl
  | y :: ys => by
    show (eqV (.str (S y)) (.str (S l)) || inV (.str (S l)) (sV ys)) = _
    rw [inV_s l ys]
    show ((S y == S l) || decide (l ∈ ys)) = _
    rw [show (S y == S l) = decide (l = y) from by
      by_cases h : l = y
      · subst h
        simp
      · rw [decide_eq_false h, beq_eq_false_iff_ne]
        exact fun z => h (S_inj z).symm]
    rw [← Bool.decide_or]
    exact decide_eq_decide.mpr List.mem_cons.symm
theorem sV_flat (ys : List (List Nat)) : (sV ys).all flatV = true := by simp [sV, flatV]
theorem sV_dV (ys : List (List Nat)) : (sV ys).map dV = ys.map fun y => PyData.str (S y) := by simp [sV, dV]
theorem w_inTS {l : List Nat} {ys : List (List Nat)} (hS : St K L H) (hl : Is L (.ref a) (.tuple (ys.map fun y => PyData.str (S y)))) (h : Q (.bl (decide (l ∈ ys))) H) : rInX K false (.str (S l)) (.ref a) H Q :=
  w_inT (xs := sV ys) hS (by rw [sV_dV]; exact hl) rfl (sV_flat ys) (by rw [inV_s]; exact h)
theorem w_ninTS {l : List Nat} {ys : List (List Nat)} (hS : St K L H) (hl : Is L (.ref a) (.tuple (ys.map fun y => PyData.str (S y)))) (h : Q (.bl (!decide (l ∈ ys))) H) : rInX K true (.str (S l)) (.ref a) H Q :=
  w_inT (xs := sV ys) hS (by rw [sV_dV]; exact hl) rfl (sV_flat ys) (by rw [inV_s]; exact h)
/-- a tuple that stands in the written part -/
theorem dvs_of : ∀ {F : Hp} (ys : List (List Nat)), DvAll K F (sV ys) (ys.map fun y => PyData.str (S y))
  | _, [] => .nil
  | _, y :: ys => .cons (.str _) (dvs_of ys)
theorem St.tupK {ys : List (List Nat)} (hS : St K L H) (h : ∀ H, SqT K H a (sV ys)) : St K (.dat (.ref a) (.tuple (ys.map fun y => PyData.str (S y))) :: L) H := hS.know fun F _ _ => .tup (h F) (dvs_of ys)
/-! ### while -/
def WB (P : L2.St → Hp → Prop) (μ : L2.St → Nat) (m : Nat) (tb : TS) (D : Ends) (σ : L2.St) (b : Bool) (H1 : Hp) : Prop :=
  if b = true then ∃ N : L2.St → Hp → Prop, (∀ σ' H', N σ' H' → ∃ m', m' < m ∧ (m' = μ σ' ∧ P σ' H')) ∧ tb { D with nx := N, ct := N, bk := D.nx } σ H1 else D.nx σ H1
theorem w_wb {P : L2.St → Hp → Prop} {μ : L2.St → Nat} {m : Nat} {tb : TS} {D : Ends} {c : Bool} (h1 : c = true → tb { D with nx := fun σ' H' => μ σ' < m ∧ P σ' H', ct := fun σ' H' => μ σ' < m ∧ P σ' H', bk := D.nx } σ H) (h2 : c = false → D.nx σ H) : WB P μ m tb D σ c H := by
  unfold WB
  cases c with
  | true => exact ⟨_, fun σ' H' q => ⟨_, q.1, rfl, q.2⟩, h1 rfl⟩
  | false => exact h2 rfl
theorem w_while {c : TT} {tb : TS} {D : Ends} (P : L2.St → Hp → Prop) (μ : L2.St → Nat) (h0 : P σ H) (hs : ∀ σ H, P σ H → c σ H fun b H1 => WB P μ (μ σ) tb D σ b H1) : tWhile c tb D σ H := by
  refine ⟨fun m σ H => m = μ σ ∧ P σ H, ⟨_, rfl, h0⟩, ?_⟩
  rintro m σ H ⟨rfl, p⟩
  exact hs σ H p
end
end Lg

/-! Texts as lists of signs: membership; what is alike; small laws of lists. -/
namespace Lg
open PySem PySem.Spec PyProof.Rows L2 PySem.NumText
section
variable {K : PySem.W.Frag} {L L' : List Ent} {H : Hp} {σ : L2.St} {Q : VK} {a b : Addr} {i : Int} {k : Nat} {v : V} {d : PyData} {ds : List PyData}
theorem w_neg (h : Q (.int (-i)) H) : rU (fun i => .int (-i)) (.int i) H Q := ⟨i, rfl, h⟩
theorem w_inSS {c : Nat} {z : List Nat} (h : Q (.bl (decide (c ∈ z))) H) : rInX K false (.str (S [c])) (.str (S z)) H Q := w_inSg h
theorem w_ninSS {c : Nat} {z : List Nat} (h : Q (.bl (!decide (c ∈ z))) H) : rInX K true (.str (S [c])) (.str (S z)) H Q := w_ninSg h
theorem w_inSS' {c : Nat} {z : List Nat} (h : Q (.bl (decide (c ∈ z))) H) : rInX K false (.str ⟨#[c]⟩) (.str (S z)) H Q := w_inSg h
theorem w_neSS {x y : List Nat} (h : Q (.bl (!decide (x = y))) H) : rNeX K (.str (S x)) (.str (S y)) H Q := w_neS (by
  rw [show decide (S x = S y) = decide (x = y) from decide_eq_decide.mpr ⟨S_inj, fun e => by rw [e]⟩]
  exact h)
def Fr.tupf (K : PySem.W.Frag) (a : Addr) (xs : List V) (ds : List PyData) : Fr := ⟨fun F => SqT K F a xs ∧ DvAll K F xs ds, fun _ _ e h => ⟨e.sqT h.1, DvAll.mono e _ _ h.2⟩⟩
theorem St.tupF (hS : St K L H) (hl : Is L (.ref a) (.tuple ds)) : ∃ xs, SqT K H a xs ∧ St K (.fact (Fr.tupf K a xs ds) :: L) H := by
  obtain ⟨F, h1, h2⟩ := hS.ex
  have := hl.dv h2
  cases this with
  | tup hs ha =>
    refine ⟨_, h1.sqT hs, ⟨F, h1, fun e he => ?_⟩, hS.nd⟩
    cases he with
    | head => exact ⟨hs, ha⟩
    | tail _ he => exact h2 e he
theorem w_listT (hS : St K L H) (hl : Is L (.ref a) (.tuple ds)) (h : ∀ q H', St K (Lg.ls K q ds :: L) H' → Q (.ref q) H') : rListOf K [.ref a] H Q := by
  obtain ⟨xs, h1, hS'⟩ := hS.tupF hl
  refine ⟨a, xs, rfl, .inr h1, fun q hq => ?_⟩
  have h3 := hS'.alloc hq (φ := .ls K ds) (o := .lst xs) (fun F' _ w => ⟨xs, rfl, (w _ (.head _)).2⟩)
  exact h q _ (h3.to (.cons .here (.drop .refl)))
/-- an index that is drawn, into a list of texts -/
theorem w_ixLSP {P : List Nat → Prop} (hS : St K L H) (hl : LsIn K L a ds) (h0 : 0 ≤ i) (h1 : i < ds.length) (hP : ∀ d ∈ ds, ∃ m, d = .str (S m) ∧ P m) (h : ∀ m, P m → Q (.str (S m)) H) : rIx K (.ref a) (.int i) H Q := by
  have hk : i.toNat < ds.length := by omega
  obtain ⟨m, hm, hp⟩ := hP ds[i.toNat] (List.getElem_mem hk)
  exact w_ixLs (k := i.toNat) hS hl (by omega) (by rw [List.getElem?_eq_getElem hk, hm]) (h m hp)
/-- .. into a list of anything -/
theorem w_ixLD {P : PyData → Prop} (hS : St K L H) (hl : LsIn K L a ds) (h0 : 0 ≤ i) (h1 : i < ds.length) (hP : ∀ d ∈ ds, P d) (h : ∀ v d, P d → St K (.dat v d :: L) H → Q v H) : rIx K (.ref a) (.int i) H Q := by
  have hk : i.toNat < ds.length := by omega
  exact w_ixL (k := i.toNat) hS hl (by omega) (List.getElem?_eq_getElem hk) fun v hS2 => h v _ (hP _ (List.getElem_mem hk)) hS2
end
theorem takeWhile_take {α : Type} {p : α → Bool} : ∀ {r : List α} {m : Nat}, (∀ x ∈ r.take m, p x = true) → (∀ x, r[m]? = some x → p x = false) → r.takeWhile p = r.take m
  | [], m, _, _ => by simp
  | x :: r, 0, _, h => by
    have := h x rfl
    simp [this]
  | x :: r, m + 1, h1, h2 => by
    have hx := h1 x (by simp)
    rw [List.takeWhile_cons, if_pos hx, List.take_succ_cons, takeWhile_take (m := m) (fun y hy => h1 y (by rw [List.take_succ_cons]; exact .tail _ hy)) (fun y hy => h2 y (by simpa using hy))]
theorem takeWhile_app {α : Type} {p : α → Bool} {l x : List α} (h1 : ∀ c ∈ l, p c = true) (h2 : ∀ c, x.head? = some c → p c = false) : (l ++ x).takeWhile p = l := by
  rw [takeWhile_take (m := l.length), List.take_left]
  · rw [List.take_left]
    exact h1
  · intro c hc
    rw [List.getElem?_append_right (Nat.le_refl _), Nat.sub_self] at hc
    exact h2 c (by rw [List.head?_eq_getElem?]; exact hc)
end Lg

/-! try with several clauses, each with a name or without; methods that may raise. -/
namespace Lg
open PySem PySem.Spec PyProof.Rows L2
/-- a clause: the class, the slot of its name if it has one, its suite -/
structure Cl where
  c : Value
  i : Option Nat
  ts : Addr → Value → Option Addr → TS
def Cl.at_ (k : Cl) (a : Addr) (σ : L2.St) : L2.St := match k.i with
  | none => σ
  | some i => σ.set i (some (.ref a))
def Cl.off (k : Cl) (σ : L2.St) : L2.St := match k.i with
  | none => σ
  | some i => σ.set i none
def Cl.ends (k : Cl) (D : Ends) : Ends := { nx := fun σ H => D.nx (k.off σ) H, rt := D.rt, bk := fun σ H => D.bk (k.off σ) H, ct := fun σ H => D.ct (k.off σ) H }
/-- what a row of clauses wishes of an exception of the body -/
def wMix (K : PySem.W.Frag) (Wout : WX) (D : Ends) : List Cl → WX
  | [] => Wout
  | k :: r => fun cls d σ H => ∃ b, PySem.W.exmOne K cls k.c = some b ∧ (b = true → ∀ a, H a = none → k.ts a cls d (k.ends D) (k.at_ a σ) H) ∧ (b = false → wMix K Wout D r cls d σ H)
inductive HdsM (X : Cx) : List ExceptHandler → List Cl → Prop
  | nil : HdsM X [] []
  | bare {x : Str} {c : Value} {ts : Addr → Value → Option Addr → TS} {b₀ : Stmt} {suite : List Stmt} {np pos' : Pos} {hds : List ExceptHandler} {l : List Cl} (hc : Names X x c)
      (hsu : ∀ (a : Addr) (oe : Obj) (cls : Value) (d : Option Addr) (pn : List (Addr × Obj)), Zc cls d oe → (∃ vs, oe.data = .fields vs) → PSs (X.suite a ((a, oe) :: pn)) (b₀ :: suite) (ts a cls d)) (r : HdsM X hds l) :
      HdsM X (.ExceptHandler (some (.Name x np)) none (b₀ :: suite) pos' :: hds) (⟨c, none, ts⟩ :: l)
  | as {x n : Str} {i : Nat} {c : Value} {ts : Addr → Value → Option Addr → TS} {b₀ : Stmt} {suite : List Stmt} {np pos' : Pos} {hds : List ExceptHandler} {l : List Cl} (hi : X.N[i]? = some n) (hln : X.env.kindOf n = some .local) (hc : Names X x c)
      (hsu : ∀ (a : Addr) (oe : Obj) (cls : Value) (d : Option Addr) (pn : List (Addr × Obj)), Zc cls d oe → (∃ vs, oe.data = .fields vs) → PSs (X.suite a ((a, oe) :: pn)) (b₀ :: suite) (ts a cls d)) (r : HdsM X hds l) :
      HdsM X (.ExceptHandler (some (.Name x np)) (some n) (b₀ :: suite) pos' :: hds) (⟨c, some i, ts⟩ :: l)
section
variable {X : Cx} {body : List Stmt} {h₀ : ExceptHandler} {hds : List ExceptHandler} {l : List Cl} {pos : Pos} {tb : WX → TS} {Wout : WX}
theorem ps_try_mix (hs : X.stack = X.env :: X.outer) (hf : X.env.frame = some X.env.locals) (hN : X.N.Nodup) (tk : Takes X Wout)
    (hb : ∀ (W : WX) (pn : List (Addr × Obj)) (xe : Value → Shared → Prop), Takes (X.tr pn xe) W → PassesOwn (model X.prog X.w) X.A X.env xe → PSs (X.tr pn xe) body (tb W))
    (hh : HdsM X (h₀ :: hds) l) : PS X (.Try body (h₀ :: hds) [] [] pos) (fun D σ H => tb (wMix X.K Wout D l) D σ H) := by
  refine ⟨fun pins s σ H D I h => ?_⟩
  have ok := I.ok
  have fr : X.A.frames = some (X.env :: X.outer) := by rw [ok.frames, hs]
  have run := (hb (wMix X.K Wout D l) (X.pn ++ pins) (fun e s₁ => wpAny (model X.prog X.w) X.A (noteFrame e X.env) (fun _ s₂ => wpAny (model X.prog X.w) X.A (setFlight e none) (fun _ s₃ =>
    wpAny (model X.prog X.w) X.A (handleBy e X.env (h₀ :: hds)) (SP X pins D) X.xe s₃) X.xe s₂) X.xe s₁) (fun u s' xx => ?_) PassesOwn.looking).run [] s σ H D (I.toTry _) h
  · refine wpAny_Try_except (wpAny_mono run (fun f s1 hsp => ?_) fun e s1 he => he)
    match f, hsp with
    | .next, ⟨σ', H', J', q⟩ => exact wpAny_execs_nil ⟨σ', H', J'.ofTry ok, q⟩
    | .brk, ⟨σ', H', J', q⟩ => exact ⟨σ', H', J'.ofTry ok, q⟩
    | .cont, ⟨σ', H', J', q⟩ => exact ⟨σ', H', J'.ofTry ok, q⟩
    | .ret u, ⟨v, σ', H', J', r, q⟩ => exact ⟨v, σ', H', J'.ofTry ok, r, q⟩
  -- the exception lands here
  obtain ⟨a, B, sI, pins', σ', H', cls, d, rfl, J', nb, up, sky, na, os, ag, w⟩ := xx
  have J : Inv X pins σ' H' sI := J'.ofTry ok
  have sky' : Sky B (X.env :: X.outer) a (Zc cls d) X.env.locals s'.heap := by rw [← hs]; exact sky
  show wpAny (model X.prog X.w) X.A (noteFrame (.ref a) X.env) _ _ _
  refine Sky.land Zc.steady fr hf sky' fun h3 fl3 up3 => ?_
  have J3 : Inv X pins σ' H' { s' with heap := h3 } := J.landed nb fl3.1 (up.trans up3) os ag
  obtain ⟨oe3, vs3, he3, hz3, hd3⟩ := fl3.there
  have off : a ∉ frs (X.env :: X.outer) := fun hm => by
    obtain ⟨_, o', e', hnf⟩ := fl3.2.2.1.mem hm
    rw [he3] at e'
    cases e'
    exact hnf _ hd3
  have nL : a ≠ X.env.locals := fun z => off (List.mem_filterMap.mpr ⟨X.env, List.mem_cons_self, by rw [hf, z]⟩)
  have nF : a ∉ X.fs := fun hm => by
    obtain ⟨e, he, q⟩ := List.mem_filterMap.mp hm
    exact off (List.mem_filterMap.mpr ⟨e, List.mem_cons_of_mem _ he, q⟩)
  have S3 := J3.suite he3 hd3 na nL nF
  have LT : PySem.W.Looks (model X.prog X.w) h3 (typeOf (.ref a)) cls := fun A Q E s k q => wpAny_typeOf_ref (k _ _ he3) (by rw [hz3.1]; exact q)
  have test : ∀ {x : Str} {c : Value} {np : Pos}, Names X x c → ∀ {Q : Value → Shared → Prop} {E : Value → Shared → Prop}, Q c { s' with heap := h3 } → wpAny (model X.prog X.w) (X.A.mark (some (.ref a))) (eval (.Name x np) X.env) Q E { s' with heap := h3 } := fun {x c np} hc {Q E} q => by
    obtain ⟨hg, hdbg, hm | ⟨hm, hv, hnn⟩⟩ := hc
    · exact ld_glob (X := X.suite a ((a, oe3) :: (X.pn ++ pins))) S3 hg hm q hdbg
    · exact ld_blt (X := X.suite a ((a, oe3) :: (X.pn ++ pins))) S3 hg hm hv q hnn hdbg
  have go : ∀ {hds' : List ExceptHandler} {l' : List Cl}, HdsM X hds' l' → wMix X.K Wout D l' cls d σ' H' → wpAny (model X.prog X.w) X.A (handleBy (.ref a) X.env hds') (SP X pins D) X.xe { s' with heap := h3 } := by
    intro hds' l' hk
    induction hk with
    | nil =>
      intro w
      refine wpAny_handleBy_nil ?_
      obtain ⟨k1, k2, k3, oe, vs, T, oT, ts', he, hz, hd, h1, hr⟩ := id fl3
      unfold PySem.passOn
      refine wpAny_bind (wpAny_field he hd h1 ?_)
      rw [if_neg (show ¬ ((Value.ref T == Value.none) = true) from by simp)]
      have fin : wpAny (model X.prog X.w) X.A (setFlight (.ref a) X.env.frame) (fun _ s4 => wpAny (model X.prog X.w) X.A (throw (.ref a) : Sem Flow) (SP X pins D) X.xe s4) X.xe { s' with heap := h3 } := by
        rw [hf]
        refine HandSPX.setFlight_upZ fl3 fun h4 hh4 up4 => wpAny_throw (tk _ _ ?_)
        exact ⟨a, B, sI, pins, σ', H', cls, d, rfl, J, nb, (up.trans up3).trans up4, .inr (.inr (by rw [hs]; exact hh4)), na, os, ag, w⟩
      first
        | exact wpAny_bind (wpAny_pure (wpAny_bind fin))
        | exact wpAny_bind fin
    | @bare x c ts b₀ suite np pos' hds2 l2 hc hsu r ih =>
      rintro ⟨b, hb1, hyes, hno⟩
      refine wpAny_handleBy_cons (codeAny_handlers_test ?_) (by intro q; cases q)
      refine test hc ((PySem.W.exm_one (M := model X.prog X.w) (J3.kIn) LT hb1).here ?_)
      cases b with
      | false => exact ih (hno rfl)
      | true =>
        refine codeAny_handlers_suite ?_
        refine HandSPX.lands_againZ fl3 fun h4 fl4 up4 => ?_
        have J4 : Inv X pins σ' H' { s' with heap := h4 } := J.landed nb fl4.1 ((up.trans up3).trans up4) os ag
        obtain ⟨oe4, vs4, he4, hz4, hd4⟩ := fl4.there
        refine wpAny_mono ((hsu a oe4 cls d (X.pn ++ pins) hz4 ⟨_, hd4⟩).run [] _ _ H' _ (J4.suite he4 hd4 na nL nF) (hyes rfl a na)) (fun f s6 hsp => ?_) fun _ _ z => False.elim z
        match f, hsp with
        | .next, ⟨σ6, H6, S6, q6⟩ => exact ⟨_, _, S6.unsuite ok, q6⟩
        | .brk, ⟨σ6, H6, S6, q6⟩ => exact ⟨_, _, S6.unsuite ok, q6⟩
        | .cont, ⟨σ6, H6, S6, q6⟩ => exact ⟨_, _, S6.unsuite ok, q6⟩
        | .ret u, ⟨v6, σ6, H6, S6, r6, q6⟩ => exact ⟨_, _, _, S6.unsuite ok, r6, q6⟩
    | @as x n i c ts b₀ suite np pos' hds2 l2 hi hln hc hsu r ih =>
      rintro ⟨b, hb1, hyes, hno⟩
      refine wpAny_handleBy_cons (codeAny_handlers_test ?_) (by intro q; cases q)
      refine test hc ((PySem.W.exm_one (M := model X.prog X.w) (J3.kIn) LT hb1).here ?_)
      cases b with
      | false => exact ih (hno rfl)
      | true =>
        refine codeAny_handlers_suite_as ?_
        refine HandSPX.lands_againZ fl3 fun h4 fl4 up4 => ?_
        have J4 : Inv X pins σ' H' { s' with heap := h4 } := J.landed nb fl4.1 ((up.trans up3).trans up4) os ag
        obtain ⟨oe4, vs4, he4, hz4, hd4⟩ := fl4.there
        refine store_ok (X := X.suite a ((a, oe4) :: (X.pn ++ pins))) (v := .ref a) (J4.suite he4 hd4 na nL nF) hN hi (.inl hln) rfl (fun s5 S5 => ?_) (.inr hln)
        refine wpAny_mono ((hsu a oe4 cls d (X.pn ++ pins) hz4 ⟨_, hd4⟩).run [] s5 _ H' _ S5 (hyes rfl a na)) (fun f s6 hsp => ?_) fun _ _ z => False.elim z
        have gone : ∀ {σ6 : L2.St} {H6 : Hp} {Q : Shared → Prop}, Inv (X.suite a ((a, oe4) :: (X.pn ++ pins))) [] σ6 H6 s6 → (∀ s7, Inv X pins (σ6.set i none) H6 s7 → Q s7) →
            wpAny (model X.prog X.w) X.A (do bindName X.env n .none; unbindBehindTheSuite X.env n pos') (fun _ s7 => Q s7) X.xe s6 := fun {σ6 H6 Q} S6 hq => gone_ok (S6.unsuite ok) hN hi hln hq
        match f, hsp with
        | .next, ⟨σ6, H6, S6, q6⟩ => exact gone S6 fun s7 J7 => ⟨_, _, J7, q6⟩
        | .brk, ⟨σ6, H6, S6, q6⟩ => exact gone S6 fun s7 J7 => ⟨_, _, J7, q6⟩
        | .cont, ⟨σ6, H6, S6, q6⟩ => exact gone S6 fun s7 J7 => ⟨_, _, J7, q6⟩
        | .ret u, ⟨v6, σ6, H6, S6, r6, q6⟩ => exact gone S6 fun s7 J7 => ⟨_, _, _, J7, r6, q6⟩
  exact go hh w
end
/-! ### methods that may raise -/
def tMethS (C : Addr) (m : Str) (sp : Sp) (E : L2.St → XK) (ta : TE) (t : TA) : TE := fun σ H Q => ta σ H fun x H1 => ∃ a dx fs, x = .ref a ∧ H1 a = some (.ins C dx fs) ∧ fs.lookup m = none ∧ t σ H1 fun vs H2 => sp (x :: vs) H2 Q (E σ)
section
variable {X : Cx} {CX : CXT} {k : Nat} {f C : Addr} {fd : FuncData} {ps : List Str} {sp : Sp} {E : L2.St → XK} {x m : Str} {p pos apos : Pos} {e o : Expr} {es : List Expr} {ta : TE} {t : TA}
theorem pe_methS {pl : Sem Bool} (he : PE X o ta) (c : Cls X.K C) (hm : Meth X.K C m f) (F : FnOk X.prog X.w X.K X.mg X.base CX k f fd ps sp) (hr : Room k X.A) (hb : Binds X.K fd ps []) (hx : ∀ σ, PassesAt CX X σ (E σ)) (ha : PA X (e :: es) t)
    (hst : starEach (e :: es) X.env = (false, eval e X.env) :: starEach es X.env := by rfl) (hpl : (backTo pos (starEach es X.env)).any (·.1) = false := by rfl)
    (ht : eval (.Call (.Attribute o m apos) (e :: es) [] pos) X.env = (do
      let ov ← eval o X.env
      standAt apos.atName
      let (f, first) ← holding [ov] (getMethod ov m pl)
      callWith pos f first (backTo pos (starEach (e :: es) X.env)) (backToKw pos (keywordEach [] X.env))) := by rfl) :
    PE X (.Call (.Attribute o m apos) (e :: es) [] pos) (tMethS C m sp E ta t) := by
  refine ⟨fun pins s σ H Q I h => ?_⟩
  refine PySem.W.methodCall_KW (pl := pl) (thn (he.run pins s σ H _ I h) fun u s1 ⟨x, H1, I1, rx, a, dx, fs, ex, ea, l, q⟩ => ?_) ht
  subst ex
  obtain rfl : u = Value.ref a := rx
  refine getmeth_ok I1 ea c hm l ?_
  refine PySem.W.callWith_K (first := [.ref a]) (h₀ := X.base) I.ok.mod.kin hm.kp (thn (ha.run pos pins s1 σ H1 _ I1 q) fun us s2 ⟨vs, H2, I2, r, q2⟩ => ⟨I2.kIn, ?_⟩) hst hpl
  exact run_fnS (us := .ref a :: us) (vs := .ref a :: vs) F hr hb (hx σ) I2 (.cons rfl r) q2
theorem pe_methS0 {pl : Sem Bool} (he : PE X o ta) (c : Cls X.K C) (hm : Meth X.K C m f) (F : FnOk X.prog X.w X.K X.mg X.base CX k f fd ps sp) (hr : Room k X.A) (hb : Binds X.K fd ps []) (hx : ∀ σ, PassesAt CX X σ (E σ))
    (ht : eval (.Call (.Attribute o m apos) [] [] pos) X.env = (do
      let ov ← eval o X.env
      standAt apos.atName
      let (f, first) ← holding [ov] (getMethod ov m pl)
      callWith pos f first (backTo pos (starEach [] X.env)) (backToKw pos (keywordEach [] X.env))) := by rfl) :
    PE X (.Call (.Attribute o m apos) [] [] pos) (tMethS C m sp E ta tNil) := by
  refine ⟨fun pins s σ H Q I h => ?_⟩
  refine PySem.W.methodCall_KW (pl := pl) (thn (he.run pins s σ H _ I h) fun u s1 ⟨x, H1, I1, rx, a, dx, fs, ex, ea, l, q⟩ => ?_) ht
  subst ex
  obtain rfl : u = Value.ref a := rx
  refine getmeth_ok I1 ea c hm l ?_
  exact PySem.W.callWith_K0 (first := [.ref a]) I1.kIn hm.kp (run_fnS (us := [.ref a]) (vs := [.ref a]) F hr hb (hx σ) I1 (.cons rfl .nil) q)
/-- C(e, ..), its __init__ may raise -/
def tMakeS (C : Addr) (sp : Sp) (E : L2.St → XK) (t : TA) : TE := fun σ H Q => t σ H fun vs H1 => ∀ x dx, H1 x = none → H1 dx = none → dx ≠ x →
  sp (.ref x :: vs) (upd (upd H1 dx (.own x)) x (.ins C dx [])) (fun v H2 => v = .non ∧ Q (.ref x) H2) (E σ)
theorem pe_makeS (M : Mk X.K C f) (F : FnOk X.prog X.w X.K X.mg X.base CX k f fd ps sp) (hr : Room (k + 1) X.A) (hg : Gl X x) (hm : X.mg x = some (.ref C)) (hb : Binds X.K fd ps []) (hx : ∀ σ, PassesAt CX X σ (E σ))
    (ha : PA X (e :: es) t) (hdb : (x == ("__debug__" : Str)) = false := by decide) (he : starEach (e :: es) X.env = (false, eval e X.env) :: starEach es X.env := by rfl) (hpl : (backTo pos (starEach es X.env)).any (·.1) = false := by rfl) :
    PE X (.Call (.Name x p) (e :: es) [] pos) (tMakeS C sp E t) := by
  refine ⟨fun pins s σ H Q I h => ?_⟩
  refine wpAny_Call_Name_kw (ld_glob I hg hm ?_ hdb)
  refine PySem.W.callWith_K (h₀ := X.base) I.ok.mod.kin M.kp (thn (ha.run pos pins s σ H _ I h) fun us s1 ⟨vs, H1, I1, r, q⟩ => ⟨I1.kIn, ?_⟩) he hpl
  have hq := q (s1.heap.objs.size + 1) s1.heap.objs.size (I1.hok.fresh (Nat.le_succ _)) (I1.hok.fresh (Nat.le_refl _)) (Nat.ne_of_lt (Nat.lt_succ_self _))
  have I2 := Inv.made (C := C) I1
  have r2 : Vals (V.ref (s1.heap.objs.size + 1) :: vs) (Value.ref (s1.heap.objs.size + 1) :: us) := .cons rfl r
  have hl : (Value.ref (s1.heap.objs.size + 1) :: us).length = ps.length := by
    rw [← r2.length]
    exact F.len _ _ _ _ hq
  refine wpAny_call (make_map (f := f) I1.kIn M.makes M.init (beq_iff_eq.mp M.fn) (codeAny_mono (F.run _ X.stack _ _ ⟨Value.ref (s1.heap.objs.size + 1) :: us, []⟩ (Value.ref (s1.heap.objs.size + 1) :: us) _ _ (E σ) (hr.make C us [])
    (I2.env0.make C us []) (by have b2 := hb _ (Value.ref (s1.heap.objs.size + 1) :: us) I2.kIn (by rw [List.append_nil]; exact hl); rw [List.append_nil] at b2; exact b2) r2 hq) fun r s' hq' => ?_))
  match r, hq' with
  | .error e, hq' => exact hx σ pins _ _ e s' I2 hq'
  | .ok (.ret u), hq' =>
    obtain ⟨v, H', I3, rv, ev, q3⟩ := I2.after hq'
    subst ev
    exact ⟨rv, ⟨V.ref (s1.heap.objs.size + 1), H', I3, rfl, q3⟩⟩
  | .ok .next, hq' => exact False.elim hq'
  | .ok .brk, hq' => exact False.elim hq'
  | .ok .cont, hq' => exact False.elim hq'
end
end Lg

/-! Own exceptions over ValueError in the ledger: made with an own __init__, raised, caught, their field read; objects of own classes. -/
namespace Lg
open PySem PySem.Spec PyProof.Rows L2
/-- what is written of an own exception class with an __init__ -/
def oexB (K : PySem.W.Frag) (C : Addr) : Bool := (match K.lookup C with
  | some ⟨.type "type", _, .cls cd, sl⟩ => (match cd.mro, sl.toList with
    | .ref C' :: bm, [_, _, _, _, some (.builtin n), _] => C' == C && (n == "ValueError.__new__" && (!cd.hasDel && (cd.hasDict && PySem.HandSPX.refsVE bm)))
    | _, _ => false)
  | _ => false) && (decide (PySem.W.findIn K (.ref C) "__setattr__" = some (some (.builtin "object.__setattr__"))) && (decide (PySem.W.subIn K (.ref C) (.type "BaseException") = some true) &&
    (decide (PySem.W.typeIn K (.ref C) = some (.type "type")) && PySem.W.keepIn K (.ref C))))
theorem oexB_ok {K : PySem.W.Frag} {C : Addr} (h : oexB K C = true) : OexC K C := by
  unfold oexB at h
  simp only [Bool.and_eq_true, decide_eq_true_eq] at h
  obtain ⟨q, h1, h2, h3, h4⟩ := h
  refine ⟨?_, h1, h2, h3, h4⟩
  split at q
  · rename_i dd cd sl ho
    split at q
    · rename_i C' bm k0 k1 k2 k3 n k5 hm hs
      simp only [Bool.and_eq_true, beq_iff_eq, Bool.not_eq_true'] at q
      obtain ⟨rfl, rfl, hdel, hdc, hr⟩ := q
      obtain ⟨nm, bs, mro, ns, qn, hd, sn, sub, ab, col, del⟩ := cd
      dsimp only at hm hdel hdc
      subst hm hdel hdc
      have hsl : sl = #[k0, k1, k2, k3, some (.builtin "ValueError.__new__"), k5] := by
        obtain ⟨l⟩ := sl
        simp only at hs
        rw [hs]
      subst hsl
      exact ⟨nm, qn, ns, bs, bm, sn, sub, ab, col, dd, k0, k1, k2, k3, k5, ho, hr⟩
    · cases q
  · cases q
section
variable {K : PySem.W.Frag} {L L' : List Ent} {H : Hp} {σ : L2.St} {Q : VK} {a b d C : Addr} {i : Int} {k : Nat} {v : V} {o : HO} {f : Str}
/-- a cell is given up -/
theorem St.del (h : St K (Lg.own a o :: L) H) : St K L (L2.del H a) := by
  obtain ⟨F, h1, h2⟩ := h.ex
  have hFa : F a = none := (h2 _ (.head _)).1
  have nd := h.nd
  have hn : ∀ e ∈ L, e.adr ≠ some a := fun e he q => by
    have : a ∈ L.filterMap Ent.adr := List.mem_filterMap.mpr ⟨e, he, q⟩
    exact (List.nodup_cons.mp (show (a :: L.filterMap Ent.adr).Nodup from nd)).1 this
  refine ⟨⟨F, fun x u hx => ?_, fun e he => ?_⟩, (List.nodup_cons.mp (show (a :: L.filterMap Ent.adr).Nodup from nd)).2⟩
  · have : x ≠ a := fun z => by rw [z, hFa] at hx; cases hx
    rw [L2.del_ne this]
    exact h1 x u hx
  · have he2 := h2 e (.tail _ he)
    cases e with
    | cell c φ =>
      obtain ⟨h3, o', h4, h5⟩ := he2
      have : c ≠ a := fun z => hn _ he (by rw [z]; rfl)
      exact ⟨h3, o', by rw [L2.del_ne this]; exact h4, h5⟩
    | dat v d => exact he2
    | fact φ => exact he2
/-- the promise of such an __init__ that stores its one argument -/
def spExI (K : PySem.W.Frag) (C : Addr) (f : Str) : Sp := fun vs H Q _ => ∃ (L : List Ent) (a : Addr) (v : V), vs = [.ref a, v] ∧ OexC K C ∧ PySem.W.findIn K (.ref C) f = some none ∧ St K (Lg.own a (exo a C none) :: L) H ∧
  ∀ d H', H d = none → St K (Lg.own d (exd d [(f, v)]) :: Lg.own a (exo a C (some d)) :: L) H' → Q .non H'
theorem p_exi {nx : L2.St → Hp → Prop} {rt : VK} (vs : List V) (h : spExI K C f vs H Q (fun _ _ _ => False)) (hnx : ∀ σ H', Q .non H' → nx σ H') : vs.length = 2 ∧ tOst K f (tVar 0) (tVar 1) { nx := nx, rt := rt } (vs.map some) H := by
  obtain ⟨L, a, v, rfl, hC, hno, hS, hQ⟩ := h
  refine ⟨rfl, v, rfl, .ref a, rfl, a, C, rfl, hC, hno, .inl ⟨hS.own (.head _), fun dx hdx hne => hnx _ _ (hQ dx _ hdx ?_)⟩⟩
  have h1 := hS.alloc hdx (φ := .eq (exd dx [(f, v)])) (o := exd dx [(f, v)]) (fun _ _ _ => rfl)
  have h2 := h1.writeP (φ := .eq (exo a C none)) (ψ := .eq (exo a C (some dx))) (o := exo a C (some dx)) (.there .here) (fun _ _ _ _ _ _ => rfl)
  exact h2
/-- C(e) is made -/
theorem w_mkO {ta : TA} {R : XK} (hS : St K L H) (hC : OexC K C) (hno : PySem.W.findIn K (.ref C) f = some none) (ht : ∀ R : List V → Hp → Prop, R [v] H → ta σ H R) (h : ∀ d H', St K (Lg.own d (.xd [(f, v)]) :: L) H' → R (.ref C) (some d) H') : tMkO C (spExI K C f) [] ta σ H R := by
  refine ht _ ⟨by simp, fun a ha => ⟨L, a, v, by simp, hC, hno, ?_, fun d H' hd hS' => ⟨rfl, d, [(f, v)], ?_, ?_, ?_, ?_⟩⟩⟩
  · exact hS.alloc ha (φ := .eq (exo a C none)) (o := exo a C none) (fun _ _ _ => rfl)
  · exact hS'.own (.tail _ (.head _))
  · exact hS'.own (.head _)
  · by_cases q : d = a
    · rw [q, upd_same] at hd
      cases hd
    · rw [upd_ne q] at hd
      exact hd
  · have h1 : St K (Lg.own a (exo a C (some d)) :: Lg.own d (exd d [(f, v)]) :: L) H' := hS'.perm (List.Perm.swap _ _ _)
    have h2 := h1.del
    exact h d _ (h2.writeP (φ := .eq (exd d [(f, v)])) (ψ := .eq (.xd [(f, v)])) (o := .xd [(f, v)]) .here (fun _ _ _ _ _ _ => rfl))
/-- e.f in a suite -/
theorem w_xf {cls : Value} {fs : List (Str × V)} {te : TE} {x : V} (hS : St K L H) (hm : Lg.own d (.xd fs) ∈ L) (hl : fs.lookup f = some v) (ht : ∀ R : VK, R (.ref a) H → te σ H R) (h : Q v H) : tXf a (.ref C) (some d) C f te σ H Q :=
  ht _ ⟨rfl, rfl, d, fs, v, rfl, hS.own hm, hl, h⟩
end
end Lg

/-! Defs, methods, makers that may raise, as constants of the module; raise; what a suite asks of its exception. -/
namespace Lg
open PySem PySem.Spec PyProof.Rows L2
section
variable {P : Program} {w : World} {K : PySem.W.Frag} {mg : Str → Option Value} {base : Heap}
structure CalX (P : Program) (w : World) (K : PySem.W.Frag) (mg : Str → Option Value) (base : Heap) (k : Nat) (x : Str) (sp : Sp) : Prop where
  ex : ∃ (f : Addr) (fd : FuncData) (ps : List Str), FnOk P w K mg base (L2.CX P w) k f fd ps sp ∧ mg x = some (.ref f) ∧ PySem.W.keepIn K (.ref f) = true ∧ Binds K fd ps []
structure MetX (P : Program) (w : World) (K : PySem.W.Frag) (mg : Str → Option Value) (base : Heap) (k : Nat) (C : Addr) (m : Str) (sp : Sp) : Prop where
  ex : ∃ (f : Addr) (fd : FuncData) (ps : List Str), Cls K C ∧ Meth K C m f ∧ FnOk P w K mg base (L2.CX P w) k f fd ps sp ∧ Binds K fd ps []
structure MakX (P : Program) (w : World) (K : PySem.W.Frag) (mg : Str → Option Value) (base : Heap) (k : Nat) (x : Str) (C : Addr) (sp : Sp) : Prop where
  ex : ∃ (f : Addr) (fd : FuncData) (ps : List Str), Mk K C f ∧ FnOk P w K mg base (L2.CX P w) k f fd ps sp ∧ mg x = some (.ref C) ∧ Binds K fd ps []
/-- an own exception whose __init__ stores its argument in f -/
structure Oex (P : Program) (w : World) (K : PySem.W.Frag) (mg : Str → Option Value) (base : Heap) (k : Nat) (x : Str) (C : Addr) (f : Str) : Prop where
  cls : OexC K C
  no : PySem.W.findIn K (.ref C) f = some none
  ex : ∃ (fI : Addr) (fd : FuncData) (ps : List Str), PySem.W.findIn K (.ref C) "__init__" = some (some (.ref fI)) ∧ PySem.W.typeIn K (.ref fI) = some (.type "function") ∧ FnOk P w K mg base C8.CX0 k fI fd ps (spExI K C f) ∧ mg x = some (.ref C) ∧ Binds K fd ps []
/-- an own exception without an __init__ -/
structure Bex (K : PySem.W.Frag) (mg : Str → Option Value) (x : Str) (C : Addr) : Prop where
  q : PySem.W.excIn K C He.veBase "ValueError.__new__" = true
  g : mg x = some (.ref C)
  k : PySem.W.keepIn K (.ref C) = true
  b : PySem.W.subIn K (.ref C) (.type "BaseException") = some true
  t : PySem.W.typeIn K (.ref C) = some (.type "type")
end
def tRaiseO (C : Addr) (sp : Sp) (W : WX) (ta : TA) : TS := fun _ σ H => tMkO C sp [] ta σ H fun cls d H' => W cls d σ H'
def tRaiseB (C : Addr) (W : WX) : TS := fun _ σ H => W (.ref C) none σ H
section
variable {X : Cx} {k j : Nat} {C : Addr} {x m f : Str} {sp : Sp} {W : WX} {p pos apos pos2 : Pos} {e o : Expr} {es : List Expr} {ta : TE} {t : TA}
theorem pe_cX (c : CalX X.prog X.w X.K X.mg X.base k x sp) (hr : Room j X.A) (hk : k ≤ j) (tk : Takes X W) (hg : Gl X x) (ha : PA X (e :: es) t)
    (hdb : (x == ("__debug__" : Str)) = false := by decide) (he : starEach (e :: es) X.env = (false, eval e X.env) :: starEach es X.env := by rfl) (hpl : (backTo pos (starEach es X.env)).any (·.1) = false := by rfl) :
    PE X (.Call (.Name x p) (e :: es) [] pos) (tCallS sp (WE W) t) := by
  obtain ⟨f, fd, ps, F, hm, kp, b⟩ := c.ex
  exact pe_callS F (hr.mono hk) hg hm kp b (fun σ => passAt tk σ) ha hdb he hpl
theorem pe_kX (c : MakX X.prog X.w X.K X.mg X.base k x C sp) (hr : Room j X.A) (hk : k + 1 ≤ j) (tk : Takes X W) (hg : Gl X x) (ha : PA X (e :: es) t)
    (hdb : (x == ("__debug__" : Str)) = false := by decide) (he : starEach (e :: es) X.env = (false, eval e X.env) :: starEach es X.env := by rfl) (hpl : (backTo pos (starEach es X.env)).any (·.1) = false := by rfl) :
    PE X (.Call (.Name x p) (e :: es) [] pos) (tMakeS C sp (WE W) t) := by
  obtain ⟨f, fd, ps, M, F, hm, b⟩ := c.ex
  exact pe_makeS M F (hr.mono hk) hg hm b (fun σ => passAt tk σ) ha hdb he hpl
theorem pe_mX {pl : Sem Bool} (c : MetX X.prog X.w X.K X.mg X.base k C m sp) (hr : Room j X.A) (hk : k ≤ j) (tk : Takes X W) (he : PE X o ta) (ha : PA X (e :: es) t)
    (hst : starEach (e :: es) X.env = (false, eval e X.env) :: starEach es X.env := by rfl) (hpl : (backTo pos (starEach es X.env)).any (·.1) = false := by rfl)
    (ht : eval (.Call (.Attribute o m apos) (e :: es) [] pos) X.env = (do
      let ov ← eval o X.env
      standAt apos.atName
      let (f, first) ← holding [ov] (getMethod ov m pl)
      callWith pos f first (backTo pos (starEach (e :: es) X.env)) (backToKw pos (keywordEach [] X.env))) := by rfl) :
    PE X (.Call (.Attribute o m apos) (e :: es) [] pos) (tMethS C m sp (WE W) ta t) := by
  obtain ⟨f, fd, ps, hc, hm, F, b⟩ := c.ex
  exact pe_methS (pl := pl) he hc hm F (hr.mono hk) b (fun σ => passAt tk σ) ha hst hpl ht
theorem pe_mX0 {pl : Sem Bool} (c : MetX X.prog X.w X.K X.mg X.base k C m sp) (hr : Room j X.A) (hk : k ≤ j) (tk : Takes X W) (he : PE X o ta)
    (ht : eval (.Call (.Attribute o m apos) [] [] pos) X.env = (do
      let ov ← eval o X.env
      standAt apos.atName
      let (f, first) ← holding [ov] (getMethod ov m pl)
      callWith pos f first (backTo pos (starEach [] X.env)) (backToKw pos (keywordEach [] X.env))) := by rfl) :
    PE X (.Call (.Attribute o m apos) [] [] pos) (tMethS C m sp (WE W) ta tNil) := by
  obtain ⟨f, fd, ps, hc, hm, F, b⟩ := c.ex
  exact pe_methS0 (pl := pl) he hc hm F (hr.mono hk) b (fun σ => passAt tk σ) ht
theorem ps_rO (c : Oex X.prog X.w X.K X.mg X.base k x C f) (hc : X.calm = true) (hr : Room j X.A) (hk : k + 1 ≤ j) (tk : Takes X W) (hg : Gl X x) (ha : PA X (e :: es) t)
    (hdb : (x == ("__debug__" : Str)) = false := by decide) (he : starEach (e :: es) X.env = (false, eval e X.env) :: starEach es X.env := by rfl) (hpl : (backTo pos (starEach es X.env)).any (·.1) = false := by rfl) :
    PS X (.Raise (some (.Call (.Name x p) (e :: es) [] pos)) none pos2) (tRaiseO C (spExI X.K C f) W t) := by
  obtain ⟨fI, fd, ps, iC, tI, F, hm, b⟩ := c.ex
  exact ps_raise hc tk (pmk_oex c.cls iC tI F (hr.mono hk) b .nil C8.pass0 hg hm ha hdb he hpl)
theorem ps_rB {jj : Nat} {p2 : Pos} (c : Bex X.K X.mg x C) (hc : X.calm = true) (tk : Takes X W) (hg : Gl X x) (hdb : (x == ("__debug__" : Str)) = false := by decide) :
    PS X (.Raise (some (.Call (.Name x p) [.Constant (.str m) jj p2] [] pos)) none pos2) (tRaiseB C W) := ps_raise hc tk (pmk_own PySem.F.excBase_ValueError c.q c.g c.k (raises_own c.b c.t) hg hdb)
theorem c_max2 {X : Cx} (hc : X.calm = true) : CallR X (.builtin "max") rMax2 := call_max2 hc
theorem c_min2 {X : Cx} (hc : X.calm = true) : CallR X (.builtin "min") rMin2 := call_min2 hc
/-- try: what the body reads, W being what the clauses wish -/
def tTry (tb : WX → TS) (K : PySem.W.Frag) (Wout : WX) (l : List Cl) : TS := fun D σ H => tb (wMix K Wout D l) D σ H
theorem takesF {X : Cx} : Takes X (fun _ _ _ _ => False) := takes_none5
/-! a suite -/
/-- e.f: the exception is of the class at C, its dict at d -/
theorem pe_xfC {a : Addr} {oe : Obj} {cls : Value} {d : Option Addr} {pn : List (Addr × Obj)} {e : Expr} {te : TE} {n : Str} (T : xfB X.K C = true) (hno : PySem.W.findIn X.K (.ref C) n = some none)
    (hz : Zc cls d oe) (hf : ∃ vs, oe.data = .fields vs) (he : PE (X.suite a ((a, oe) :: pn)) e te) (hb : attributeBase e n X.env (eval e X.env) = eval e X.env := by rfl) :
    PE (X.suite a ((a, oe) :: pn)) (.Attribute e n pos) (tXf a cls d C n te) := pe_xf (xfB_ok T) hno hz hf he hb
/-- isinstance(e, c), the exception being of the class at D, without a dict -/
def tIsE (K : PySem.W.Frag) (D a : Addr) (cls : Value) (d : Option Addr) (t : TA) : TE := fun σ H Q => cls = .ref D ∧ d = none ∧ tCB (rIsE K D a) t σ H Q
theorem pe_isE {a D : Addr} {oe : Obj} {cls : Value} {d : Option Addr} {pn : List (Addr × Obj)} {e : Expr} {es : List Expr} {t : TA} (C : ExcC X.K D) (hz : Zc cls d oe) (hf : ∃ vs, oe.data = .fields vs) (hg : Gl X "isinstance") (hm : X.mg "isinstance" = none)
    (ha : PA (X.suite a ((a, oe) :: pn)) (e :: es) t) (he : starEach (e :: es) X.env = (false, eval e X.env) :: starEach es X.env := by rfl) (hpl : (backTo pos (starEach es X.env)).any (·.1) = false := by rfl) :
    PE (X.suite a ((a, oe) :: pn)) (.Call (.Name "isinstance" p) (e :: es) [] pos) (tIsE X.K D a cls d t) := by
  refine ⟨fun pins s σ H Q I h => ?_⟩
  obtain ⟨rfl, rfl, h⟩ := h
  exact (pe_callB (X := X.suite a ((a, oe) :: pn)) (call_isE C hz hf) hg hm (by decide +kernel) ha (by decide) (by decide) he hpl).run pins s σ H Q I h
def excB (K : PySem.W.Frag) (D : Addr) : Bool := decide (PySem.W.findIn K (.ref D) "__getattribute__" = some (some (.builtin "BaseException.__getattribute__"))) && (decide (PySem.W.findIn K (.ref D) "__getattr__" = some none) && (decide (PySem.W.subIn K (.ref D) (.type "BaseException") = some true) &&
  (PySem.W.hasDictIn K D && (decide (PySem.W.findIn K (.ref D) "__class__" = some (some (.builtin "object.__class__"))) && (decide (PySem.W.specialIn K (.builtin "object.__class__") "__get__" = some (some (.builtin "getset_descriptor.__get__"))) &&
  (decide (PySem.W.takesIn K (.builtin "object.__class__") = some true) && decide (PySem.W.mroIn K D (.type "object") = some true)))))))
theorem excB_ok {K : PySem.W.Frag} {D : Addr} (h : excB K D = true) : ExcC K D := by
  unfold excB at h
  simp only [Bool.and_eq_true, decide_eq_true_eq] at h
  obtain ⟨h1, h2, h3, h4, h5, h6, h7, h8⟩ := h
  exact ⟨h1, h2, h3, h4, h5, h6, h7, h8⟩
end
end Lg

/-! Tuples cut and joined, list.pop, fields of objects, makers, methods, raise and try in the ledger. -/
namespace Lg
open PySem PySem.Spec PyProof.Rows L2
section
variable {K : PySem.W.Frag} {L L' : List Ent} {H : Hp} {σ : L2.St} {Q : VK} {a b C dx : Addr} {i : Int} {k : Nat} {v x : V} {d : PyData} {ds es : List PyData} {fs : List (Str × V)} {f m : Str} {ta tv : TE} {t : TA} {D : Ends} {sp : Sp}
theorem w_plusT (hS : St K L H) (h1 : Is L (.ref a) (.tuple ds)) (h2 : Is L (.ref b) (.tuple es)) (hn : ds.length + es.length ≤ 100000) (h : ∀ v H', St K (Lg.dat v (.tuple (ds ++ es)) :: L) H' → Q v H') : rPlus K (.ref a) (.ref b) H Q := by
  obtain ⟨xs, ha, hS1⟩ := hS.tupF h1
  obtain ⟨ys, hb, hS2⟩ := hS1.tupF h2.cons
  obtain ⟨F0, _, hF0⟩ := hS2.ex
  have l1 : xs.length = ds.length := (hF0 _ (.tail _ (.head _))).2.len
  have l2 : ys.length = es.length := (hF0 _ (.head _)).2.len
  refine .inr (.inr (.inr ⟨a, b, xs, ys, rfl, rfl, ha, hb, ?_, fun e => ?_, fun _ e => ?_, fun _ _ p hp => ?_⟩))
  · rw [l1, l2]; exact Nat.le_trans hn (by decide)
  · have : ds = [] := List.length_eq_zero_iff.mp (by rw [← l1, e]; rfl)
    rw [this] at h
    exact h _ _ (hS.learn h2)
  · have : es = [] := List.length_eq_zero_iff.mp (by rw [← l2, e]; rfl)
    rw [this, List.append_nil] at h
    exact h _ _ (hS.learn h1)
  · have h3 := hS2.fresh hp (d := .tuple (ds ++ es)) (v := .ref p) (o := .tup (xs ++ ys)) (fun F hF _ q => .tup (SqT.of upd_same) (DvAll.mono (Ex.new hF) _ _ (DvAll.app (q _ (.tail _ (.head _))).2 (q _ (.head _)).2)))
    exact h _ _ (h3.to (.cons .here (.drop (.drop .refl))))
theorem w_slT {lo hi : Option Int} (hS : St K L H) (h1 : Is L (.ref a) (.tuple ds)) (h : ∀ v H', St K (Lg.dat v (.tuple (cutD ds lo hi)) :: L) H' → Q v H') : rSlX K (.ref a) lo hi H Q := by
  obtain ⟨xs, ha, hS1⟩ := hS.tupF h1
  obtain ⟨F0, _, hF0⟩ := hS1.ex
  have l1 : xs.length = ds.length := (hF0 _ (.head _)).2.len
  refine .inr (.inr ⟨a, xs, rfl, ha, fun e => ?_, fun _ p hp => ?_⟩)
  · have e2 : cutD ds lo hi = ds := by
      unfold cutD
      rw [← l1, e.1, e.2, List.drop_zero, Nat.sub_zero, l1, List.take_length]
    rw [e2] at h
    exact h _ _ (hS.learn h1)
  · have h3 := hS1.fresh hp (d := .tuple (cutD ds lo hi)) (v := .ref p) (o := .tup (cutV xs lo hi)) (fun F hF _ q => .tup (SqT.of upd_same) (DvAll.mono (Ex.new hF) _ _ (by
      have q2 := (q _ (.head _)).2
      unfold cutV cutD
      rw [l1]
      exact (q2.drop _).take _)))
    exact h _ _ (h3.to (.cons .here (.drop .refl)))
theorem w_tupT (hS : St K L H) (h1 : Is L (.ref a) (.tuple ds)) (h : Q (.ref a) H) : rTupOf K [.ref a] H Q := by
  obtain ⟨xs, ha, _⟩ := hS.tupF h1
  exact ⟨a, xs, rfl, .inr ⟨ha, h⟩⟩
theorem St.tf {xs : List V} (hS : St K L H) (hm : Ent.fact (Fr.tupf K a xs ds) ∈ L) : SqT K H a xs ∧ xs.length = ds.length ∧ ∀ (i : Nat) (d : PyData) (v : V), ds[i]? = some d → xs[i]? = some v → St K (.dat v d :: L) H := by
  obtain ⟨F, h1, h2⟩ := hS.ex
  have h3 := h2 _ hm
  refine ⟨h1.sqT h3.1, h3.2.len, fun i d v hd hv => ?_⟩
  obtain ⟨u, hu, hdv⟩ := h3.2.get hd
  rw [hv] at hu
  cases hu
  refine ⟨⟨F, h1, fun e he => ?_⟩, hS.nd⟩
  cases he with
  | head => exact hdv
  | tail _ he => exact h2 e he
/-- a comprehension over a tuple (St.tupF ahead) -/
theorem w_lcT {R : Nat → PyData → Prop} {xs : List V} {g : TG} {te : TE} {vs : List Nat} (hS : St K L H) (hm : Ent.fact (Fr.tupf K a xs ds) ∈ L) (hn : ds.length ≤ 100000)
    (hs : ∀ i d q es v H, ds[i]? = some d → es.length = i → St K (.dat v d :: .cell q (.ls K es) :: L) H → ∀ Z : VK, (∀ y e H3, R i e → St K (.dat y e :: .cell q (.ls K es) :: L) H3 → Z y H3) → g v (wipe σ vs) H fun σ2 H2 => wipe σ2 vs = wipe σ vs ∧ te σ2 H2 Z)
    (h : ∀ q es H', es.length = ds.length → (∀ i e, es[i]? = some e → R i e) → St K (.cell q (.ls K es) :: L) H' → Q (.ref q) H') : LcW (Itt K a) g tYes te vs σ H Q := by
  have hl := (hS.tf hm).2.1
  refine lc_mk R hn hS (fun i H es q hi h1 => ?_) (fun H es q h1 => ?_) (fun i q es H x H' hi hlen h1 y Z hZ => ?_) h
  · exact ⟨xs, xs[i]'(by omega), (h1.tf (.tail _ hm)).1, List.getElem?_eq_getElem (by omega)⟩
  · exact ⟨xs, (h1.tf (.tail _ hm)).1, Nat.le_of_eq hl⟩
  · obtain ⟨rfl, y⟩ := y
    obtain ⟨s1, _, s3⟩ := h1.tf (.tail _ hm)
    exact hs i ds[i] q es _ H' (by simp [hi]) hlen (s3 i ds[i] x (by simp [hi]) (y xs s1)) Z hZ
/-! objects -/
theorem w_fldE (h : ta σ H fun x H1 => ∃ a C dx fs v, x = .ref a ∧ H1 a = some (.ins C dx fs) ∧ Cls K C ∧ NoAttr K C f ∧ fs.lookup f = some v ∧ Q v H1) : tFld K ta f σ H Q := h
theorem w_fld {R : V → Prop} (hS : St K L H) (hm : Lg.own a (.ins C dx fs) ∈ L) (hC : Cls K C) (hn : NoAttr K C f) (hl : fs.lookup f = some v) (h : R v) : ∃ a' C dx fs v, (V.ref a) = .ref a' ∧ H a' = some (.ins C dx fs) ∧ Cls K C ∧ NoAttr K C f ∧ fs.lookup f = some v ∧ R v :=
  ⟨a, C, dx, fs, v, rfl, hS.own hm, hC, hn, hl, h⟩
theorem len_put {g : Str} {y : V} {gs : List (Str × V)} {n : Nat} (h : gs.length ≤ n) : (putF g y gs).length ≤ n + 1 := Nat.le_trans (length_putF _ _ _) (by omega)
theorem w_sfldE (h : tv σ H fun y H1 => ta σ H1 fun x H2 => ∃ a C dx fs, x = .ref a ∧ H2 a = some (.ins C dx fs) ∧ Cls K C ∧ NoAttr K C f ∧ fs.length < 1000 ∧ D.nx σ (upd H2 a (.ins C dx (putF f y fs)))) : sFld K ta tv f D σ H := h
theorem w_sfld {R : Hp → Prop} (hS : St K L H) (hp : Put L (Lg.own a (.ins C dx fs)) (Lg.own a (.ins C dx (putF f v fs))) L') (hC : Cls K C) (hn : NoAttr K C f) (hl : fs.length < 1000) (h : ∀ H', St K L' H' → R H') :
    ∃ a' C dx fs, (V.ref a) = .ref a' ∧ H a' = some (.ins C dx fs) ∧ Cls K C ∧ NoAttr K C f ∧ fs.length < 1000 ∧ R (upd H a' (.ins C dx (putF f v fs))) :=
  ⟨a, C, dx, fs, rfl, hS.own hp.mem, hC, hn, hl, h _ (hS.writeP hp fun _ _ _ _ _ _ => rfl)⟩
theorem w_makeE {E : XK} (h : t σ H fun vs H1 => ∀ x dx, H1 x = none → H1 dx = none → dx ≠ x → sp (.ref x :: (vs ++ [])) (upd (upd H1 dx (.own x)) x (.ins C dx [])) (fun v H2 => v = .non ∧ Q (.ref x) H2) E) : tMake C sp [] E t σ H Q := h
/-- a new object's place -/
theorem St.born (hS : St K L H) (hx : H a = none) (hd : H dx = none) (hne : dx ≠ a) : St K (Lg.own a (.ins C dx []) :: Lg.own dx (.own a) :: L) (upd (upd H dx (.own a)) a (.ins C dx [])) := by
  have h1 := hS.alloc hd (φ := .eq (.own a)) (o := .own a) (fun _ _ _ => rfl)
  exact h1.alloc (by rw [upd_ne (Ne.symm hne)]; exact hx) (φ := .eq (.ins C dx [])) (o := .ins C dx []) (fun _ _ _ => rfl)
theorem w_methE {E : XK} (h : ta σ H fun x H1 => ∃ a dx fs, x = .ref a ∧ H1 a = some (.ins C dx fs) ∧ fs.lookup m = none ∧ t σ H1 fun vs H2 => sp (x :: (vs ++ [])) H2 Q E) : tMeth C m sp [] E ta t σ H Q := h
theorem w_meth {R : Prop} (hS : St K L H) (hm : Lg.own a (.ins C dx fs) ∈ L) (hl : fs.lookup m = none) (h : R) : ∃ a' dx fs, (V.ref a) = .ref a' ∧ H a' = some (.ins C dx fs) ∧ fs.lookup m = none ∧ R := ⟨a, dx, fs, rfl, hS.own hm, hl, h⟩
theorem w_methSE {E : L2.St → XK} (h : ta σ H fun x H1 => ∃ a dx fs, x = .ref a ∧ H1 a = some (.ins C dx fs) ∧ fs.lookup m = none ∧ t σ H1 fun vs H2 => sp (x :: vs) H2 Q (E σ)) : tMethS C m sp E ta t σ H Q := h
theorem w_callS {E : L2.St → XK} (h : t σ H fun vs H1 => sp vs H1 Q (E σ)) : tCallS sp E t σ H Q := h
theorem w_raiseO {W : WX} (h : tMkO C sp [] t σ H fun cls d H' => W cls d σ H') : tRaiseO C sp W t D σ H := h
theorem w_raiseB {W : WX} (h : W (.ref C) none σ H) : tRaiseB C W D σ H := h
theorem w_try {tb : WX → TS} {Wout : WX} {l : List Cl} (h : tb (wMix K Wout D l) D σ H) : tTry tb K Wout l D σ H := h
/-- the last of a list of data -/
theorem w_popL (hS : St K L H) (hp : Put L (Lg.ls K a (ds ++ [d])) (Lg.ls K a ds) L') (h : ∀ v H', St K (Lg.dat v d :: L') H' → Q v H') : rPop (.ref a) [] H Q := by
  obtain ⟨xs, v, h3, h5, h4, h6⟩ := hS.item (.own hp.mem) (k := ds.length) (d := d) (by simp)
  have hlen : xs.length = ds.length + 1 := by rw [h4]; simp
  refine ⟨a, xs, v, rfl, rfl, h3, by rw [hlen]; exact h5, h _ _ ?_⟩
  refine h6.writeP (.there hp) fun F x e q hx hφ => ?_
  obtain ⟨zs, rfl, hzs⟩ := hφ
  rw [h3] at hx
  cases hx
  refine ⟨_, rfl, ?_⟩
  have h7 := hzs.take ds.length
  rw [List.take_left] at h7
  rw [List.dropLast_eq_take, hlen]
  exact h7
end
end Lg

/-! x in (a, b, ..), items of any form. -/
namespace Lg
open PySem PySem.Spec PyProof.Rows L2
def rInT (K : PySem.W.Frag) (neg : Bool) : R2 := fun x y H Q => ∃ d ds, Dp K H x d ∧ Dp K H y (.tuple ds) ∧ SeqAt.shaped d = true ∧ SeqAt.shaped (.tuple ds) = true ∧ Q (.bl (if neg then !(ds.any fun z => PyData.eqv z d) else ds.any fun z => PyData.eqv z d)) H
theorem units65 {k : Nat} {A : Around} (hr : Room k A) : A.units + 66 < cLine := by
  have := hr.un
  omega
theorem shaped_depth {d : PyData} (h : SeqAt.shaped d = true) : d.depth ≤ 64 := by
  unfold SeqAt.shaped at h
  simp only [Bool.and_eq_true, decide_eq_true_eq] at h
  exact h.2
section
variable {X : Cx}
theorem o_inT (hu : X.A.units + 66 < cLine) : OpR X (compareOp .In) (rInT X.K false) := by
  intro pins s σ H x y v u Q I rx ry h
  obtain ⟨d, ds, hd, he, sd, se, q⟩ := h
  obtain ⟨as, r1⟩ := Dp.reads I d x v hd rx
  obtain ⟨bs, r2⟩ := Dp.reads I (.tuple ds) y u he ry
  have := shaped_depth sd
  exact SeqAt.in_tuple_reads r2 r1 (SeqAt.canLay_of_shaped se) (SeqAt.canLay_of_shaped sd) (by omega) ⟨.bl _, H, I, rfl, q⟩
theorem o_notinT (hu : X.A.units + 66 < cLine) : OpR X (compareOp .NotIn) (rInT X.K true) := by
  intro pins s σ H x y v u Q I rx ry h
  obtain ⟨d, ds, hd, he, sd, se, q⟩ := h
  obtain ⟨as, r1⟩ := Dp.reads I d x v hd rx
  obtain ⟨bs, r2⟩ := Dp.reads I (.tuple ds) y u he ry
  have := shaped_depth sd
  exact SeqAt.notIn_tuple_reads r2 r1 (SeqAt.canLay_of_shaped se) (SeqAt.canLay_of_shaped sd) (by omega) ⟨.bl _, H, I, rfl, q⟩
end
section
variable {K : PySem.W.Frag} {L : List Ent} {H : Hp} {Q : VK} {a : Addr} {x : V} {d : PyData} {ds : List PyData} {neg : Bool}
theorem w_inD (hS : St K L H) (hx : See K L x d) (hy : Is L (.ref a) (.tuple ds)) (s1 : SeqAt.shaped d = true) (s2 : SeqAt.shaped (.tuple ds) = true) (h : Q (.bl (if neg then !(ds.any fun z => PyData.eqv z d) else ds.any fun z => PyData.eqv z d)) H) : rInT K neg x (.ref a) H Q :=
  ⟨d, ds, hx.dp hS, hS.dp hy, s1, s2, h⟩
end
end Lg

/-! for over enumerate; lists of lists -/
namespace Lg
open PySem PySem.Spec PyProof.Rows L2
section
variable {K : PySem.W.Frag} {L L' : List Ent} {H : Hp} {Q : VK} {a : Addr} {ds : List PyData} {g : TG} {tbody : TS} {D : Ends} {σ : L2.St}
theorem w_forE (I : Nat → L2.St → Hp → Prop) (h0 : I 0 σ H) (hI : ∀ i σ H, i ≤ ds.length → I i σ H → ∃ L, St K L H ∧ LsIn K L a ds)
    (hs : ∀ i d T σ H H', ds[i]? = some d → I i σ H → (∀ L, St K L H → LsIn K L a ds → St K (.dat (.ref T) (.tuple [.int (i : Nat), d]) :: L) H') → g (.ref T) σ H' fun σ2 H2 => tbody { D with nx := I (i + 1), ct := I (i + 1), bk := D.nx } σ2 H2)
    (hd : ∀ σ H, I ds.length σ H → D.nx σ H) : ForW (Ite K a) g tbody D σ H := by
  refine ⟨fun i m σ H => m = ds.length - i ∧ i ≤ ds.length ∧ I i σ H, ⟨ds.length, by simp, Nat.zero_le _, h0⟩, ?_⟩
  rintro i m σ H ⟨rfl, hi, p⟩
  obtain ⟨L, hS, hl⟩ := hI i σ H hi p
  by_cases hlt : i < ds.length
  · obtain ⟨xs, v, h3, h5, hlen, h6⟩ := hS.item hl (k := i) (d := ds[i]) (by simp [hlt])
    refine .inr ⟨⟨xs, v, SqL.of h3, h5⟩, I (i + 1), fun σ' H' p' => ⟨ds.length - (i + 1), by omega, rfl, hlt, p'⟩, fun x H' y => ?_⟩
    obtain ⟨T, x', rfl, hT, rfl, y⟩ := y
    have hx : xs[i]? = some x' := y xs (SqL.of h3)
    have hxv : v = x' := by rw [h5] at hx; exact Option.some.inj hx
    subst hxv
    refine hs i ds[i] T σ H _ (by simp [hlt]) p fun L2 hS2 hl2 => ?_
    obtain ⟨xs2, v2, k3, k5, _, k6⟩ := hS2.item hl2 (k := i) (d := ds[i]) (by simp [hlt])
    rw [h3] at k3
    cases k3
    rw [h5] at k5
    cases k5
    have h7 := k6.fresh (o := .tup [.int (i : Nat), v]) (v := .ref T) (d := .tuple [.int (i : Nat), ds[i]]) hT fun F hF e q => .tup (SqT.of upd_same) (.cons (.int _) (.cons (Dv.mono (Ex.new hF) _ _ (q _ (.head _))) .nil))
    exact h7.to (.cons .here (.drop .refl))
  · have e : i = ds.length := by omega
    subst e
    obtain ⟨xs, h3, h4⟩ := hS.lenl hl
    exact .inl ⟨⟨xs, SqL.of h3, Nat.le_of_eq h4⟩, hd σ H p⟩
end
end Lg

/-! len(set(texts)): any number of texts, alike ones among them -/
namespace Lg
open PySem PySem.Spec PyProof.Rows L2
abbrev empS (led : Bool) : Obj := { cls := .type "set", dict := none, data := .set #[] 0 (.fresh 0 0 led) }
/-- a set that holds the texts of l, of which there are n -/
def Holds (prog : Program) (w : World) (z : Heap) (S : Addr) (l : List Str) (n : Nat) : Prop := ∃ f : Str → Bool, (∀ k, f k = true ↔ k ∈ l) ∧ z.SetOf (PySem.strKind prog w) S f n ∧ n ≤ l.length ∧ (n = l.length ↔ l.Nodup)
section
variable {prog : Program} {w : World} {A : Around} {R : Result → Shared → Prop} {I : Addr} {fp wr : List Addr} {G : Array GenState → Array GenState → Prop} {n : Nat} {P : Nat → Value → Prop} {T : Nat → Shared → Prop}
theorem Holds.get {z z' : Heap} {S : Addr} {l : List Str} {m : Nat} (h : Holds prog w z S l m) (k : ∀ o, z.get? S = some o → z'.get? S = some o) : Holds prog w z' S l m := by
  obtain ⟨f, h1, ⟨o, es, ep, t, ho, rest⟩, h3⟩ := h
  exact ⟨f, h1, ⟨o, es, ep, t, k _ ho, rest⟩, h3⟩
theorem setLoop (W : WalksS prog w A.in1 I fp wr G n P T) (S : Addr) (out : S ∉ fp) (xs : List Str) (len : xs.length = n) (few : n ≤ 4000)
    (vals : ∀ i v, P i v → ∃ t x, xs[i]? = some x ∧ v = .str x t) :
    ∀ (k i : Nat) (u : Shared), n - i = k → i ≤ n → T i u → (∃ m, Holds prog w u.heap S (xs.take i) m) →
      (∀ u', Moved (S :: wr) G u u' → (∃ m, Holds prog w u'.heap S xs m) → R (.ok (.ret .none)) u') →
      codeAny (model prog w) A (.builtin "set.update.loop" ⟨[.ref S, .ref I], []⟩) R u := by
  have outw : S ∉ wr := fun z => out (W.sub _ z)
  have more : ∀ b ∈ wr, b ∈ S :: wr := fun b hb => .tail _ hb
  intro k
  induction k with
  | zero =>
    intro i u hk hi hT ⟨m, hm⟩ fin
    obtain rfl : i = n := by omega
    refine codeAny_builtin PyProof.Rows.F.entry_set_update_loop ?_
    rw [Around.under_plainId PyProof.Rows.F.plain_set_update_loop _]
    refine wpAny_bind (W.done u _ _ hT fun u' mv => wpAny_pure (fin u' (mv.mono more) ⟨m, ?_⟩))
    rw [← len, List.take_length] at hm
    exact hm.get fun o ho => mv.heap S o outw ho
  | succ k ih =>
    intro i u hk hi hT ⟨m, hm⟩ fin
    have hlt : i < n := by omega
    refine codeAny_builtin PyProof.Rows.F.entry_set_update_loop ?_
    rw [Around.under_plainId PyProof.Rows.F.plain_set_update_loop _]
    refine wpAny_bind (W.item i u _ _ hlt hT fun v u' hP hT' mv => ?_)
    obtain ⟨t, x, hx, rfl⟩ := vals i v hP
    obtain ⟨f, f1, f2, f3, f4⟩ := hm.get (z' := u'.heap) fun o ho => mv.heap S o outw ho
    refine wpAny_bind (wpAny_holding ?_)
    unfold setAdd
    refine wpAny_holding (wpAny_bind ((PySem.strKind prog w).pyHash (k := x) (strKind_is _ _ _ _) ?_))
    have li : (xs.take i).length ≤ 4000 := by rw [List.length_take]; omega
    refine wpAny_setAddHashed_of (knd := PySem.strKind prog w) (s := { u' with toks := u'.toks + 1 }) (strKind_is _ _ _ _) rfl f2 (by unfold scanBound; omega) fun z sb new => ?_
    have tk : xs.take (i + 1) = xs.take i ++ [x] := by rw [List.take_succ, hx]; rfl
    have lt : (xs.take i).length = i := by rw [List.length_take]; omega
    refine wpAny_pure ⟨plainId_quiet PyProof.Rows.F.plain_set_update_loop _, ih (i + 1) _ (by omega) hlt (W.frame _ u' _ _ hT' (Nat.le_succ _) fun b hb o e => ?_) ⟨_, _, ?_, new, ?_⟩ fun u2 mv2 h2 => ?_⟩
    · rw [sb.2 b (fun z => out (by rw [← z]; exact hb))]; exact e
    · intro q
      rw [tk, List.mem_append, Bool.or_eq_true, f1 q, decide_eq_true_eq, List.mem_singleton]
    · rw [tk, List.length_append, List.nodup_append]
      by_cases hf : f x = true
      · rw [if_pos hf]
        refine ⟨by simp; omega, ⟨fun z => ?_, fun z => ?_⟩⟩
        · simp at z; omega
        · exact absurd rfl (z.2.2 x ((f1 x).mp hf) x (List.mem_singleton.mpr rfl))
      · rw [if_neg hf]
        have nx : x ∉ xs.take i := fun z => hf ((f1 x).mpr z)
        refine ⟨by simp; omega, ⟨fun z => ?_, fun z => ?_⟩⟩
        · refine ⟨f4.mp (by simp at z; omega), by simp, fun y hy y' hy' e => ?_⟩
          rw [List.mem_singleton] at hy'
          subst hy'
          subst e
          exact nx hy
        · have := f4.mpr z.1
          simp; omega
    · refine fin u2 (Moved.trans W.gtrans ((mv.mono more).then_heap (Nat.le_succ _) fun b o hb e => ?_) mv2) h2
      rw [sb.2 b (fun z => hb (by rw [z]; exact .head _))]; exact e
end
section
variable {prog : Program} {w : World} {A : Around} {E : Value → Shared → Prop} {u : Shared}
theorem texts_at {us : List Value} {xs : List Str} (h : StrsAre us xs) : ∀ {i : Nat} {v : Value}, us[i]? = some v → ∃ t, v = .str (xs.getD i Str.empty) t := by
  induction h with
  | nil => intro i v e; simp at e
  | cons n t _ ih =>
    intro i v e
    cases i with
    | zero => simp at e; exact ⟨t, e.symm⟩
    | succ i => simpa using ih (by simpa using e)
/-- set(a tuple of texts) -/
theorem setOfTup {l : Addr} {its : Array Value} {xs : List Str} {Q : Value → Shared → Prop} (quiet : A.handled = none) (tup : u.heap.IsTuple l its) (are : StrsAre its.toList xs) (few : xs.length ≤ 4000)
    (fin : ∀ (z : Heap) (tk m : Nat), Holds prog w z u.heap.objs.size xs m → (∀ b o, b < u.heap.objs.size → u.heap.get? b = some o → z.get? b = some o) → Q (.ref u.heap.objs.size) { u with heap := z, toks := tk }) :
    wpAny (model prog w) A (call (.type "set") [.ref l]) Q E u := by
  obtain ⟨c, tl, hmro⟩ := PySem.F.called_set.mro
  have m1 := PySem.F.called_set.made
  have m2 := PySem.F.called_set.sub
  have m3 := PySem.F.called_set.notType
  have m4 := PySem.F.called_set.canCreate
  have m5 := PySem.F.typeCall_set_1 (.ref l)
  refine wpAny_call (codeAny_of_tree (show wpAny _ _ (callAny (.type "set") _) _ _ _ from ?_))
  refine wpAny_pure ⟨Code.quiet_builtin _ (by decide +kernel), codeAny_builtin PySem.F.entry_type_call ?_⟩
  rw [Around.under_plain (weight_type_call_type "set" [.ref l] []) rfl]
  repeat (any_goals (first | assumption | wp_step))
  refine codeAny_mono (code_set_new_1 (.ref l) (E := E) (Q₁ := fun v u1 => ∃ led : Bool, v = .ref u.heap.objs.size ∧ u1 = { u with heap := u.heap.push (empS led) }) fun led => ⟨led, rfl, rfl⟩) fun r u1 hr => ?_
  cases r with
  | error e => exact hr
  | ok fl =>
    cases fl with
    | ret v =>
      obtain ⟨led, rfl, rfl⟩ := hr
      have g1 : (u.heap.push (empS led)).get? u.heap.objs.size = some (empS led) := Heap.get?_push_size _ rfl
      have g2 : Shared.TypeIs { u with heap := u.heap.push (empS led) } (.ref u.heap.objs.size) "set" := ⟨_, g1, rfl⟩
      have g3 := PySem.F.called_set.init.lookup
      have g4 := PySem.F.called_set.init.bind (.ref u.heap.objs.size)
      repeat (any_goals (first | assumption | wp_step))
      refine codeAny_mono (codeAny_call_builtin (R := wants (fun r u2 => r = .none ∧ ∃ z tk m, u2 = { u with heap := z, toks := tk } ∧ Holds prog w z u.heap.objs.size xs m ∧
          (∀ b o, b < u.heap.objs.size → u.heap.get? b = some o → z.get? b = some o)) E) PySem.F.called_set.init.plain PySem.F.entry_set_init (check_set_init_1 g2 ?_)) fun r u2 hr2 => ?_
      · obtain ⟨⟨oc, od, odt, osl⟩, ho, hc, nl, hd⟩ := tup
        dsimp only at hc hd
        subst hc
        subst hd
        have t1 : (u.heap.push (empS led)).get? l = some { cls := .type "tuple", dict := od, data := .seq its nl, slots := osl } := Heap.get?_push_of_some _ ho
        have t2 := PySem.F.sub_tuple_set
        have t3 := PySem.F.sub_tuple_frozenset
        have t4 : (Value.type "tuple" == Value.type "dict") = false := by decide
        have t5 : (u.heap.push (empS led)).IsTuple l its := ⟨_, t1, rfl, nl, rfl⟩
        unfold Builtin.«set.__init__» noKeywords Builtin.Frozenset.updateFrom
        generalize hPI : pyIter = PI
        wp_walk
        subst hPI
        refine wpAny_pyIter_tuple t5 (wpAny_bind (wpAny_runValue ?_))
        have sz : (u.heap.push (empS led)).objs.size = Nat.succ u.heap.objs.size := by rw [Heap.size_push]
        have lt : l < u.heap.objs.size := Heap.lt_size ho
        have len : xs.length = its.size := by rw [← StrsAre.len_eq are, Array.length_toList]
        have ne1 : l ≠ (u.heap.push (empS led)).objs.size := by rw [sz]; exact Nat.ne_of_lt (Nat.lt_succ_of_lt lt)
        have out : u.heap.objs.size ∉ [(u.heap.push (empS led)).objs.size, l] := by
          intro z
          rcases List.mem_cons.mp z with z | z
          · rw [sz] at z
            exact Nat.ne_of_lt (Nat.lt_succ_self _) z
          · rw [List.mem_singleton] at z
            rw [← z] at lt
            exact Nat.lt_irrefl _ lt
        refine setLoop ((Walks.tuple (by simp [quiet]) _ l ne1 its).toS) u.heap.objs.size out xs len (by omega) (fun i v hv => ?_) (its.size - 0) 0 _ (by omega) (Nat.zero_le _)
          ⟨⟨_, Heap.get?_push_size _ rfl, rfl, rfl⟩, (t5.push _)⟩ ⟨0, fun _ => false, fun k => by simp, ?_, by simp, by simp⟩ fun u3 mv h3 => ?_
        · have hv' : its.toList[i]? = some v := by rw [Array.getElem?_toList]; exact hv
          obtain ⟨t, e⟩ := texts_at are hv'
          have il : i < xs.length := by
            have := (List.getElem?_eq_some_iff.mp hv').1
            rw [Array.length_toList] at this
            omega
          exact ⟨t, xs[i], List.getElem?_eq_getElem il, by rw [e, List.getD_eq_getElem?_getD, List.getElem?_eq_getElem il]; rfl⟩
        · exact (PyProof.Rows.setObjOf_fresh (knd := PySem.strKind prog w) led).setOf (Heap.get?_push_of_some _ g1) (by unfold scanBound; omega)
        · obtain ⟨m, h3⟩ := h3
          obtain ⟨z, gz, dz, tz, oz⟩ := u3
          obtain rfl : gz = u.gens := mv.gens
          obtain rfl : dz = u.drawn := mv.drawn
          obtain rfl : oz = u.os := mv.os
          refine wpAny_pure (wpAny_pure ⟨rfl, z, tz, m, rfl, h3, fun b o hb e => ?_⟩)
          refine mv.heap b o (fun z => ?_) (Heap.get?_push_of_some _ (Heap.get?_push_of_some _ e))
          rcases List.mem_cons.mp z with z | z
          · exact Nat.ne_of_lt hb z
          · rw [List.mem_singleton] at z
            rw [z] at hb
            have hb : (u.heap.push (empS led)).objs.size < u.heap.objs.size := hb
            rw [sz] at hb
            exact Nat.lt_irrefl _ (Nat.lt_trans (Nat.lt_succ_self _) hb)
      · cases r with
        | error e => exact hr2
        | ok fl2 =>
          cases fl2 with
          | ret v =>
            obtain ⟨rfl, z, tk, m, rfl, hz, keep⟩ := hr2
            repeat (any_goals (first | assumption | wp_step))
            exact fin z tk m hz keep
          | _ => exact hr2.elim
    | _ => exact hr.elim
end
section
variable {X : Cx}
/-- len(set(a tuple of texts)) -/
def tLenSetT (K : PySem.W.Frag) (ta : TE) : TE := fun σ H Q => ta σ H fun x H1 => ∃ (l : Addr) (xs : List Str), x = .ref l ∧ SqT K H1 l (xs.map V.str) ∧ xs.length ≤ 4000 ∧ ∀ m : Nat, m ≤ xs.length → (m = xs.length ↔ xs.Nodup) → Q (.int m) H1
theorem strs_of {ys : List Str} {us : List Value} (h : Vals (ys.map V.str) us) : StrsAre us ys := by
  induction ys generalizing us with
  | nil => cases h; exact .nil
  | cons y ys ih =>
    cases h with
    | cons r t =>
      obtain ⟨k, rfl⟩ := r
      exact .cons y k (ih t)
theorem pe_lenSetT {a : Expr} {ta : TE} {p p2 q pos : Pos} (hc : X.calm = true) (g1 : Gl X "len") (m1 : X.mg "len" = none) (g2 : Gl X "set") (m2 : X.mg "set" = none) (ha : PE X a ta)
    (na : starEach [a] X.env = (false, eval a X.env) :: starEach [] X.env := by rfl) : PE X (.Call (.Name "len" p) [.Call (.Name "set" p2) [a] [] q] [] pos) (tLenSetT X.K ta) := by
  refine ⟨fun pins u σ H Q I h => ?_⟩
  refine Call_ (ld_blt I g1 m1 boot_len (PyProof.Rows.callWith_builtin1 (PyProof.Rows.args_cons ?_ rfl) rfl rfl))
  refine Call_ (ld_blt I g2 m2 boot_set (PyProof.Rows.callWith_type1 (PyProof.Rows.args_cons (thn (ha.run pins u σ H _ I h) fun v u1 ⟨x, H1, I1, r1, q1⟩ => PyProof.Rows.args_nil ?_) na) na rfl))
  obtain ⟨l, xs, rfl, hq, few, q1⟩ := q1
  cases r1
  obtain ⟨its, r, pl, _⟩ := I1.tuple hq
  refine setOfTup (I1.ok.hd hc) pl (by simpa using strs_of r) few fun z tk m hz keep => PyProof.Rows.args_nil ?_
  obtain ⟨f, _, ⟨o, es, ep, t, ho, hex, hd, _, _, _, hf, hn⟩, le, iff⟩ := hz
  have I2 : Inv X pins σ H1 { u1 with heap := z, toks := tk } := I1.kept fun b o e => keep b o (Heap.lt_size e) e
  exact call_len_set ho hex hd hf (by rw [hn]; omega) ⟨.int m, H1, I2.tok _, ⟨_, by rw [hn]⟩, q1 m le iff⟩
end
end Lg

/-! texts: replace, cuts at a sign (with a limit or without), f-strings, the beginning -/
namespace Lg
open PySem PySem.Spec PyProof.Rows L2 PySem.NumText
section
variable {X : Cx} {e f o : Expr} {te tf to : TE} {es : List Expr} {ta : TA} {pos apos : Pos}
/-- e gives a token out -/
structure PEk (X : Cx) (e : Expr) (t : TE) : Prop where
  run : ∀ (pins : List (Addr × Obj)) (u : Shared) (σ : L2.St) (H : Hp) (Q : VK), Inv X pins σ H u → t σ H Q →
  wpAny (model X.prog X.w) X.A (eval e X.env) (fun v u1 => 1 ≤ u1.toks ∧ EP X pins σ Q v u1) X.xe u
theorem pek_str {x : Str} {j : Nat} : PEk X (.Constant (.str x) j pos) (tC (.str x)) := ⟨fun pins u σ H Q I h => Calls.Constant_str ⟨by show 1 ≤ u.toks + 1; omega, .str x, H, I.tok _, ⟨_, rfl⟩, h⟩⟩
theorem pek_op {op : Operator} {r : R2} (ho : OpR X (binaryOp op) r) (ha : PEk X e te) (hb : PE X f tf) : PEk X (.BinOp e op f pos) (tOp r te tf) := by
  constructor
  intro pins u σ H Q I h
  refine wpAny_BinOp (wpAny_mono (ha.run pins u σ H _ I h) (fun v u1 q => ?_) fun _ _ z => z)
  obtain ⟨hk, x, H1, I1, r1, q1⟩ := q
  refine wpAny_mono (wpAny_toks_of hk (hb.run pins u1 σ H1 _ I1 q1)) (fun w u2 q2 => ?_) fun _ _ z => z.2
  obtain ⟨hk2, y, H2, I2, r2, q2⟩ := q2
  exact wpAny_mono (wpAny_toks_of hk2 (ho pins u2 σ H2 x y v w Q I2 r1 r2 q2)) (fun _ _ z => z) fun _ _ z => z.2
theorem pe_opk {op : Operator} {r : R2} (ho : OpR X (binaryOp op) r) (ha : PEk X e te) (hb : PET X f tf) : PE X (.BinOp e op f pos) (tOp r te tf) := by
  refine ⟨fun pins u σ H Q I h => wpAny_BinOp (wpAny_mono (ha.run pins u σ H _ I h) (fun v u1 q => ?_) fun _ _ z => z)⟩
  obtain ⟨hk, x, H1, I1, r1, q1⟩ := q
  exact thn (hb pins u1 σ H1 _ hk I1 q1) fun w u2 ⟨y, H2, I2, r2, q2⟩ => ho pins u2 σ H2 x y v w Q I2 r1 r2 q2
theorem pa_consk (ha : PEk X e te) (hr : PAT X es ta) (hs : starEach (e :: es) X.env = (false, eval e X.env) :: starEach es X.env := by rfl) : PA X (e :: es) (tCons te ta) := by
  refine ⟨fun p pins u σ H Q I h => ?_⟩
  rw [hs]
  refine Calls.spliced_cons (wpAny_mono (ha.run pins u σ H _ I h) (fun v u1 q => ?_) fun _ _ z => z)
  obtain ⟨hk, x, H1, I1, r1, q1⟩ := q
  exact thn (hr p pins u1 σ H1 _ hk I1 q1) fun us u2 ⟨xs, H2, I2, r2, q2⟩ => ⟨x :: xs, H2, I2, .cons r1 r2, q2⟩
/-- two texts of the module, each with a token of its own -/
def rawB (K : PySem.W.Frag) (n m y z : Str) : Bool := match PySem.W.nsIn K mainGlobals n, PySem.W.nsIn K mainGlobals m with
  | some (some (.str a t)), some (some (.str b k)) => decide (a = y) && (decide (b = z) && (decide (t ≠ 0) && (decide (k ≠ 0) && decide (t ≠ k))))
  | _, _ => false
def Raw2 (mg : Str → Option Value) (n m y z : Str) : Prop := ∃ t k : Tok, mg n = some (.str y t) ∧ mg m = some (.str z k) ∧ t ≠ 0 ∧ k ≠ 0 ∧ t ≠ k
theorem rawB_ok {K : PySem.W.Frag} {h : Heap} {mg : Str → Option Value} (X : K.In h) (G : h.Ns mainGlobals mg) {n m y z : Str} (c : rawB K n m y z = true) : Raw2 mg n m y z := by
  unfold rawB at c
  split at c
  · rename_i a t b k e1 e2
    simp only [Bool.and_eq_true, decide_eq_true_eq] at c
    obtain ⟨rfl, rfl, c1, c2, c3⟩ := c
    exact ⟨t, k, PySem.W.mg_of X G e1, PySem.W.mg_of X G e2, c1, c2, c3⟩
  · cases c
theorem pe_replN {n m y z : Str} {p1 p2 : Pos} (ho : PE X o to) (gn : Gl X n) (gm : Gl X m) (raw : Raw2 X.mg n m y z) (hyz : (y == z) = false := by decide)
    (hst : starEach [.Name n p1, .Name m p2] X.env = [(false, eval (.Name n p1) X.env), (false, eval (.Name m p2) X.env)] := by rfl)
    (hbase : attributeBase o "replace" X.env (eval o X.env) = eval o X.env := by rfl) (hline : (apos.endLine == pos.line) = true := by rfl)
    (hn : (n == ("__debug__" : Str)) = false := by decide) (hm : (m == ("__debug__" : Str)) = false := by decide) :
    PE X (.Call (.Attribute o "replace" apos) [.Name n p1, .Name m p2] [] pos) (CwR.tReplC to y z) := by
  obtain ⟨t, k, m1, m2, t0, k0, tk⟩ := raw
  refine ⟨fun pins u σ H Q I h => PySem.Call_method2 hbase hst hline (thn (ho.run pins u σ H _ I h) fun v u1 q => ?_)⟩
  obtain ⟨v', H1, I1, r1, x, rfl, hb, q⟩ := q
  obtain ⟨tx, rfl⟩ := r1
  refine ⟨"str", _, PySem.F.plainAttrs_str, PySem.F.slot_str_replace, PySem.F.type_str_replace, typeIs_str _ _ _, (fun _ e => nomatch e), ?_⟩
  refine Calls.callWith_builtin rfl (Calls.evalArgs_plain (Calls.spliced_cons (ld_glob I1 gn m1 (Calls.spliced_cons (ld_glob I1 gm m2 (Calls.spliced_nil ?_) hm)) hn)))
  exact PySem.SC.replace t0 k0 tk hyz hb fun t' j => ⟨.str (Txt.replace x y z), H1, I1.tok j, ⟨t', rfl⟩, q⟩
end
/-! ### cuts -/
/-- at most k cuts at c -/
def spM (c : Nat) : Nat → List Nat → List (List Nat)
  | 0, l => [l]
  | k + 1, l => if c ∈ l then l.takeWhile (· != c) :: spM c k ((l.dropWhile (· != c)).drop 1) else [l]
theorem cut_at {c : Nat} : ∀ {l : List Nat}, c ∈ l → l = l.takeWhile (· != c) ++ c :: (l.dropWhile (· != c)).drop 1 ∧ c ∉ l.takeWhile (· != c)
  | [], h => by cases h
  | x :: r, h => by
    by_cases e : x = c
    · subst e
      simp
    · have hr : c ∈ r := by
        cases h with
        | head => exact absurd rfl e
        | tail _ h => exact h
      obtain ⟨h1, h2⟩ := cut_at hr
      have hb : (x != c) = true := by simpa using e
      rw [List.takeWhile_cons_of_pos (p := (· != c)) hb, List.dropWhile_cons_of_pos (p := (· != c)) hb]
      refine ⟨by rw [List.cons_append, ← h1], fun z => ?_⟩
      cases z with
      | head => exact e rfl
      | tail _ z => exact h2 z
/-- where c stands, counted from a -/
def posL (c : Nat) : Nat → List Nat → List Nat
  | _, [] => []
  | a, x :: r => if x = c then a :: posL c (a + 1) r else posL c (a + 1) r
theorem posL_free {c : Nat} : ∀ {l : List Nat} {a : Nat}, c ∉ l → posL c a l = []
  | [], _, _ => rfl
  | x :: r, a, h => by
    have e : ¬ x = c := fun z => h (by rw [z]; exact .head _)
    rw [posL, if_neg e]
    exact posL_free fun z => h (.tail _ z)
theorem posL_app {c : Nat} : ∀ {p r : List Nat} {a : Nat}, c ∉ p → posL c a (p ++ c :: r) = (a + p.length) :: posL c (a + p.length + 1) r
  | [], r, a, _ => by simp [posL]
  | x :: p, r, a, h => by
    have e : ¬ x = c := fun z => h (by rw [z]; exact .head _)
    rw [List.cons_append, posL, if_neg e, posL_app fun z => h (.tail _ z), List.length_cons]
    have e1 : a + 1 + p.length = a + (p.length + 1) := by omega
    rw [e1]
theorem sub_one {l : List Nat} {c i : Nat} : Builtin.Str.subAt (S l) (S [c]) i = decide (l[i]? = some c) := by
  rw [StrLaws.subAt_eq]
  show ((l.drop i).take 1 == [c]) = _
  by_cases h : l[i]? = some c
  · rw [decide_eq_true h]
    obtain ⟨hi, hx⟩ := List.getElem?_eq_some_iff.mp h
    rw [List.drop_eq_getElem_cons hi, hx]
    simp
  · rw [decide_eq_false h]
    cases hd : l.drop i with
    | nil => simp
    | cons x r =>
      have h3 : l[i]? = some x := by
        have := congrArg (fun z => z[0]?) hd
        simpa using this
      rw [h3] at h
      have hx : ¬ x = c := fun z => h (by rw [z])
      simp [hx]
theorem occ_one {l : List Nat} {c k : Nat} : ∀ (r : List Nat) (a : Nat) (found : Array Nat) (free : Nat), l.drop a = r → free ≤ a → found.size ≤ k →
    (forIn (List.range' a (r.length + 1)) (found, free) (StrLaws.occBody (S l) (S [c]) l.length k)).run.fst.toList = found.toList ++ (posL c a r).take (k - found.size)
  | [], a, found, free, hr, hf, hk => by
    have ha : l.length ≤ a := by
      have := congrArg List.length hr
      simp at this
      omega
    rw [List.length_nil, List.range'_succ, List.forIn_cons]
    have hc : ¬ (((found.size < k ∧ free ≤ a) ∧ a + (S [c]).length ≤ l.length) ∧ Builtin.Str.subAt (S l) (S [c]) a = true) := fun z => by
      have := z.1.2
      have e : (S [c]).length = 1 := rfl
      omega
    unfold StrLaws.occBody
    rw [if_neg hc]
    simp [posL]
  | x :: r, a, found, free, hr, hf, hk => by
    have ha : a < l.length := by
      have := congrArg List.length hr
      simp at this
      omega
    have hx : l[a]? = some x := by
      have := congrArg (fun z => z[0]?) hr
      simpa using this
    have hr2 : l.drop (a + 1) = r := by
      have := congrArg (List.drop 1) hr
      simpa [Nat.add_comm] using this
    rw [List.length_cons, List.range'_succ, List.forIn_cons]
    have e : (S [c]).length = 1 := rfl
    have ih := fun f2 fr h1 h2 => occ_one (l := l) (c := c) (k := k) r (a + 1) f2 fr hr2 h1 h2
    unfold StrLaws.occBody at ih ⊢
    by_cases hh : (((found.size < k ∧ free ≤ a) ∧ a + (S [c]).length ≤ l.length) ∧ Builtin.Str.subAt (S l) (S [c]) a = true)
    · rw [if_pos hh]
      have hxc : x = c := by
        have := hh.2
        rw [sub_one, hx] at this
        simpa using this
      show Array.toList (Prod.fst (Id.run (forIn (List.range' (a + 1) (r.length + 1)) (found.push a, a + (S [c]).length) _))) = _
      rw [ih _ _ (by omega) (by rw [Array.size_push]; omega), posL, if_pos hxc, Array.size_push]
      have e2 : k - found.size = (k - (found.size + 1)) + 1 := by have := hh.1.1.1; omega
      rw [e2, List.take_succ_cons]
      simp
    · rw [if_neg hh]
      show Array.toList (Prod.fst (Id.run (forIn (List.range' (a + 1) (r.length + 1)) (found, free) _))) = _
      rw [ih _ _ (by omega) hk, posL]
      by_cases hxc : x = c
      · rw [if_pos hxc]
        have hk2 : k - found.size = 0 := by
          by_cases hlt : found.size < k
          · exact absurd ⟨⟨⟨hlt, hf⟩, by omega⟩, by rw [sub_one, hx, hxc]; simp⟩ hh
          · omega
        rw [hk2]
        simp
      · rw [if_neg hxc]
theorem occ_is {l : List Nat} {c k : Nat} : Builtin.Str.occurrences (S l) (S [c]) 0 l.length k = (posL c 0 l).take k := by
  rw [StrLaws.occ_eq]
  have := occ_one (l := l) (c := c) (k := k) l 0 #[] 0 rfl (Nat.le_refl _) (Nat.zero_le _)
  simpa using this
theorem parts_is {l : List Nat} {c : Nat} : ∀ (k a : Nat), a ≤ l.length → (StrLaws.partsFrom (S l) 1 a ((posL c a (l.drop a)).take k)).map TL.tl = spM c k (l.drop a)
  | 0, a, ha => by
    rw [List.take_zero]
    show [TL.tl (Builtin.Str.strSub (S l) a (S l).length)] = _
    rw [TL.tl_strSub_end]
    rfl
  | k + 1, a, ha => by
    unfold spM
    by_cases h : c ∈ l.drop a
    · rw [if_pos h]
      obtain ⟨h1, h2⟩ := cut_at h
      generalize (l.drop a).takeWhile (· != c) = p at *
      generalize ((l.drop a).dropWhile (· != c)).drop 1 = q at *
      have hl := congrArg List.length h1
      rw [List.length_drop, List.length_append, List.length_cons] at hl
      have hd : q = l.drop (a + p.length + 1) := by
        rw [show a + p.length + 1 = a + (p.length + 1) by omega, ← List.drop_drop, h1]
        simp
      have hp : posL c a (l.drop a) = (a + p.length) :: posL c (a + p.length + 1) (l.drop (a + p.length + 1)) := by
        rw [← hd, h1]
        exact posL_app h2
      rw [hp, List.take_succ_cons]
      show TL.tl (Builtin.Str.strSub (S l) a (a + p.length)) :: (StrLaws.partsFrom (S l) 1 (a + p.length + 1) _).map TL.tl = _
      rw [parts_is k (a + p.length + 1) (by omega), TL.tl_strSub, ← hd]
      congr 1
      show (l.drop a).take (a + p.length - a) = _
      rw [show a + p.length - a = p.length by omega, h1, List.take_left]
    · rw [if_neg h, posL_free h, List.take_nil]
      show [TL.tl (Builtin.Str.strSub (S l) a (S l).length)] = _
      rw [TL.tl_strSub_end]
theorem sub_all {l : List Nat} : Builtin.Str.strSub (S l) 0 (S l).length = S l := by
  have := TL.tl_strSub_end (S l) 0
  rw [List.drop_zero] at this
  rw [← TL.mk_tl (Builtin.Str.strSub (S l) 0 (S l).length), this]
theorem kind1 {c : Nat} (h : c < 256) (x : Str) : ¬ Builtin.Str.strKind x < Builtin.Str.strKind (S [c]) := TL.kind_ok (by simp [S, h])
theorem map_tl {xs : List Str} {ys : List (List Nat)} (h : xs.map TL.tl = ys) : xs = ys.map S := by
  subst h
  rw [List.map_map]
  conv => lhs; rw [← List.map_id xs]
  exact List.map_congr_left fun x _ => (TL.mk_tl x).symm
theorem cuts_is {l : List Nat} {c k : Nat} : StrLaws.partsFrom (S l) 1 0 ((posL c 0 l).take k) = (spM c k l).map S := by
  have := parts_is (l := l) (c := c) k 0 (Nat.zero_le _)
  rw [List.drop_zero] at this
  exact map_tl this
theorem cutS_gen {l : List Nat} {c k : Nat} (hc : c < 256) : (if (decide ((S l).length < (S [c]).length) || decide (Builtin.Str.strKind (S l) < Builtin.Str.strKind (S [c]))) = true then [S l] else
    if (Builtin.Str.occurrences (S l) (S [c]) 0 (S l).length k).isEmpty = true then [S l] else Builtin.Str.partsBetween (S l) (Builtin.Str.occurrences (S l) (S [c]) 0 (S l).length k) (S [c]).length) = (spM c k l).map S := by
  rw [S_len l, occ_is, StrLaws.partsBetween_eq, ← cuts_is]
  have e1 : (S [c]).length = 1 := rfl
  rw [e1]
  have hs : StrLaws.partsFrom (S l) 1 0 [] = [S l] := by
    show [Builtin.Str.strSub (S l) 0 (S l).length] = _
    rw [sub_all]
  by_cases h1 : (decide (l.length < 1) || decide (Builtin.Str.strKind (S l) < Builtin.Str.strKind (S [c]))) = true
  · rw [if_pos h1]
    have hl : l = [] := by
      rw [Bool.or_eq_true, decide_eq_true_eq, decide_eq_true_eq] at h1
      rcases h1 with h1 | h1
      · exact List.length_eq_zero_iff.mp (by omega)
      · exact absurd h1 (kind1 hc _)
    subst hl
    simp only [posL, List.take_nil]
    exact hs.symm
  · rw [if_neg h1]
    by_cases h2 : ((posL c 0 l).take k).isEmpty = true
    · rw [if_pos h2, List.isEmpty_iff.mp h2]
      exact hs.symm
    · rw [if_neg h2]
theorem split_is {l : List Nat} {c : Nat} (hc : c < 256) : Txt.split (S l) (S [c]) = (spM c (l.length + 1) l).map S := by
  have := cutS_gen (l := l) (k := (S l).length + 1) hc
  rw [S_len] at this
  unfold Txt.split
  rw [S_len]
  exact this
theorem splitMax_is {l : List Nat} {c k : Nat} (hc : c < 256) : Txt.splitMax (S l) (S [c]) (k : Int) = (spM c k l).map S := by
  have e : PySem.limitOf (S l) (k : Int) = k := by
    unfold PySem.limitOf
    rw [if_neg (by omega)]
    omega
  unfold Txt.splitMax
  rw [e]
  exact cutS_gen hc
theorem tw_free {c : Nat} : ∀ {l : List Nat}, c ∉ l → l.takeWhile (· != c) = l ∧ l.dropWhile (· != c) = []
  | [], _ => ⟨rfl, rfl⟩
  | x :: r, h => by
    have hb : (x != c) = true := by simpa using fun z => h (by rw [z]; exact .head _)
    obtain ⟨h1, h2⟩ := tw_free (l := r) fun z => h (.tail _ z)
    rw [List.takeWhile_cons_of_pos (p := (· != c)) hb, List.dropWhile_cons_of_pos (p := (· != c)) hb, h1, h2]
    exact ⟨rfl, rfl⟩
theorem part_is {l : List Nat} {c : Nat} : Txt.partition (S l) (S [c]) = (S (l.takeWhile (· != c)), S (if c ∈ l then [c] else []), S ((l.dropWhile (· != c)).drop 1)) := by
  by_cases h : c ∈ l
  · obtain ⟨h1, h2⟩ := cut_at h
    rw [if_pos h]
    refine SX.partition_some (by simp) ?_
    have := TL.par_part1 (s := c) (S := []) (p := l.takeWhile (· != c)) (rest := (l.dropWhile (· != c)).drop 1) (acc := []) h2
    simp only [List.nil_append, List.cons_append] at this
    rw [← h1] at this
    exact this
  · rw [if_neg h, SX.partition_none (by simp) (TL.par_none1 h)]
    obtain ⟨e1, e2⟩ := tw_free h
    rw [e1, e2]
    rfl
theorem starts_is {l : List Nat} {c : Nat} : Txt.startswith (S l) (S [c]) = decide (l.head? = some c) := by
  unfold Txt.startswith
  rw [sub_one, S_len]
  cases l with
  | nil => rfl
  | cons x r =>
    have e1 : 1 ≤ (S (x :: r)).length := by rw [S_len]; simp
    simp
    intro _
    exact e1
theorem remp_is {l : List Nat} {c : Nat} : Txt.removeprefix (S l) (S [c]) = S (if l.head? = some c then l.drop 1 else l) := by
  rw [StrLaws.removeprefix_eq, sub_one, S_len, S_len]
  cases l with
  | nil => simp
  | cons x r =>
    by_cases h : x = c
    · subst h
      simp
    · simp [h]
theorem repl_is {l : List Nat} {a b : Nat} : Txt.replace (S l) (S [a]) (S [b]) = S (l.map fun x => if x = a then b else x) := by
  rw [← TL.mk_tl (Txt.replace (S l) (S [a]) (S [b]))]
  congr 1
  show (Txt.replace (S l) (S [a]) (S [b])).cps.toList.toArray = _
  rw [StrLaws.replace_list (by show 1 ≤ 1; omega)]
  congr 1
  show StrLaws.replL [a] [b] l = _
  induction l with
  | nil => exact StrLaws.replL_nil
  | cons x r ih =>
    by_cases h : x = a
    · rw [StrLaws.replL_hit (by simp) (by simp [h])]
      simp [h, ih]
    · rw [StrLaws.replL_miss (by simpa using h)]
      simp [h, ih]
/-- a number, its sign with it -/
def dgI (i : Int) : List Nat := if i < 0 then 45 :: dg i.natAbs else dg i.natAbs
theorem dgI_text (i : Int) : Str.ofString (toString i) = S (dgI i) := by
  unfold dgI
  cases i with
  | ofNat n => rw [if_neg (by show ¬ ((n : Int) < 0); omega)]; exact dg_text n
  | negSucc m =>
    rw [if_pos (Int.negSucc_lt_zero m)]
    have e : toString (Int.negSucc m) = "-" ++ toString ((m + 1 : Nat) : Int) := rfl
    rw [S_of (Str.ofString (toString (Int.negSucc m)))]
    congr 1
    rw [e, signs_ofString, String.toList_append, List.map_append, ← signs_ofString (toString ((m + 1 : Nat) : Int)), dg_text (m + 1)]
    rfl
end Lg

/-! ### the head's run (printed by tools/split.py) -/
namespace K47
open PySem PySem.Spec PyProof.Rows L2 Lg
def top (i : Nat) : Stmt := PySem.Challenge.pw_sameasnew_k47_log_without_cuts.main.body.getD i (.Pass ⟨0, 0, 0, 0⟩)
def mth (i j : Nat) : Stmt := match top i with
  | .ClassDef (body := b) .. => b.getD j (.Pass ⟨0, 0, 0, 0⟩)
  | _ => .Pass ⟨0, 0, 0, 0⟩
def tab_RESERVED : List Str := ["import", "export", "let", "keep", "fn", "do", "hold", "if", "then", "else", "set", "from", "as"]
abbrev s_piece : Stmt := top 7
abbrev s_encode_record : Stmt := top 8
abbrev s_are_codes : Stmt := top 9
abbrev s_sign : Stmt := top 10
abbrev s_decode_piece : Stmt := top 11
abbrev s_is_block : Stmt := top 23
abbrev s_is_name : Stmt := top 32
abbrev s_is_value : Stmt := top 33
abbrev s_check_entries : Stmt := top 39
abbrev s_value_text : Stmt := top 46
abbrev s_write_record : Stmt := top 47
abbrev s_read_number : Stmt := top 48
abbrev s_read_value : Stmt := top 49
abbrev s_read_values : Stmt := top 50
abbrev s_read_call : Stmt := top 51
abbrev s_read_entries : Stmt := top 52
abbrev s_read : Stmt := top 53
abbrev s_read_record : Stmt := top 54
abbrev s_write_blocks : Stmt := top 56
abbrev s_clear : Stmt := top 57
abbrev s_format_disk : Stmt := top 58
abbrev s_read_text : Stmt := top 59
abbrev s_read_records : Stmt := top 60
abbrev s_good_records : Stmt := top 61
abbrev s_open_log : Stmt := top 62
abbrev s_l_cell : Stmt := top 65
abbrev s_l_digits : Stmt := top 66
abbrev s_l_draw : Stmt := top 67
abbrev s_l_alike : Stmt := top 68
abbrev s_l_value_text : Stmt := top 69
abbrev s_l_record_text : Stmt := top 70
abbrev s_l_pieces : Stmt := top 71
abbrev s_l_used_blocks : Stmt := top 72
abbrev s_l_some_value : Stmt := top 73
abbrev s_l_small_text : Stmt := top 74
abbrev s_l_some_rows : Stmt := top 75
abbrev s_l_entries : Stmt := top 76
abbrev s_l_append : Stmt := top 77
abbrev s_l_one : Stmt := top 78
abbrev s_law : Stmt := top 79
abbrev s_Disk_init : Stmt := mth 24 0
abbrev s_Disk_size : Stmt := mth 24 1
abbrev s_Disk_check_at : Stmt := mth 24 2
abbrev s_Disk_read : Stmt := mth 24 3
abbrev s_Disk_cut : Stmt := mth 24 4
abbrev s_Disk_spend : Stmt := mth 24 5
abbrev s_Disk_write : Stmt := mth 24 6
abbrev s_Disk_flush : Stmt := mth 24 7
abbrev s_Disk_pending_count : Stmt := mth 24 8
abbrev s_Disk_cut_count : Stmt := mth 24 9
abbrev s_Log_init : Stmt := mth 63 0
abbrev s_Log_check_open : Stmt := mth 63 1
abbrev s_Log_records : Stmt := mth 63 2
abbrev s_Log_blocks_of : Stmt := mth 63 3
abbrev s_Log_room : Stmt := mth 63 4
abbrev s_Log_append : Stmt := mth 63 5
abbrev s_Log_sync : Stmt := mth 63 6
abbrev s_Log_free_blocks : Stmt := mth 63 7
abbrev s_OutOfRange : Stmt := mth 14 0
def hd_piece : He.DefD := ⟨("_piece", none), "_piece", "_piece", defArgs s_piece, defBody s_piece, defScope s_piece, [], []⟩
def hd_encode_record : He.DefD := ⟨("encode_record", none), "encode_record", "encode_record", defArgs s_encode_record, defBody s_encode_record, defScope s_encode_record, [], []⟩
def hd_are_codes : He.DefD := ⟨("_are_codes", none), "_are_codes", "_are_codes", defArgs s_are_codes, defBody s_are_codes, defScope s_are_codes, [], []⟩
def hd_sign : He.DefD := ⟨("_sign", none), "_sign", "_sign", defArgs s_sign, defBody s_sign, defScope s_sign, [], []⟩
def hd_decode_piece : He.DefD := ⟨("decode_piece", none), "decode_piece", "decode_piece", defArgs s_decode_piece, defBody s_decode_piece, defScope s_decode_piece, [], []⟩
def hd_is_block : He.DefD := ⟨("_is_block", none), "_is_block", "_is_block", defArgs s_is_block, defBody s_is_block, defScope s_is_block, [], []⟩
def hd_is_name : He.DefD := ⟨("is_name", none), "is_name", "is_name", defArgs s_is_name, defBody s_is_name, defScope s_is_name, [], []⟩
def hd_is_value : He.DefD := ⟨("is_value", none), "is_value", "is_value", defArgs s_is_value, defBody s_is_value, defScope s_is_value, [], []⟩
def hd_check_entries : He.DefD := ⟨("check_entries", none), "check_entries", "check_entries", defArgs s_check_entries, defBody s_check_entries, defScope s_check_entries, [], []⟩
def hd_value_text : He.DefD := ⟨("_value_text", none), "_value_text", "_value_text", defArgs s_value_text, defBody s_value_text, defScope s_value_text, [], []⟩
def hd_write_record : He.DefD := ⟨("write_record", none), "write_record", "write_record", defArgs s_write_record, defBody s_write_record, defScope s_write_record, [], []⟩
def hd_read_number : He.DefD := ⟨("_read_number", none), "_read_number", "_read_number", defArgs s_read_number, defBody s_read_number, defScope s_read_number, [], []⟩
def hd_read_value : He.DefD := ⟨("_read_value", none), "_read_value", "_read_value", defArgs s_read_value, defBody s_read_value, defScope s_read_value, [], []⟩
def hd_read_values : He.DefD := ⟨("_read_values", none), "_read_values", "_read_values", defArgs s_read_values, defBody s_read_values, defScope s_read_values, [], []⟩
def hd_read_call : He.DefD := ⟨("_read_call", none), "_read_call", "_read_call", defArgs s_read_call, defBody s_read_call, defScope s_read_call, [], []⟩
def hd_read_entries : He.DefD := ⟨("_read_entries", none), "_read_entries", "_read_entries", defArgs s_read_entries, defBody s_read_entries, defScope s_read_entries, [], []⟩
def hd_read : He.DefD := ⟨("_read", none), "_read", "_read", defArgs s_read, defBody s_read, defScope s_read, [], []⟩
def hd_read_record : He.DefD := ⟨("read_record", none), "read_record", "read_record", defArgs s_read_record, defBody s_read_record, defScope s_read_record, [], []⟩
def hd_write_blocks : He.DefD := ⟨("_write_blocks", none), "_write_blocks", "_write_blocks", defArgs s_write_blocks, defBody s_write_blocks, defScope s_write_blocks, [], []⟩
def hd_clear : He.DefD := ⟨("_clear", none), "_clear", "_clear", defArgs s_clear, defBody s_clear, defScope s_clear, [], []⟩
def hd_format_disk : He.DefD := ⟨("format_disk", none), "format_disk", "format_disk", defArgs s_format_disk, defBody s_format_disk, defScope s_format_disk, [], []⟩
def hd_read_text : He.DefD := ⟨("_read_text", none), "_read_text", "_read_text", defArgs s_read_text, defBody s_read_text, defScope s_read_text, [], []⟩
def hd_read_records : He.DefD := ⟨("_read_records", none), "_read_records", "_read_records", defArgs s_read_records, defBody s_read_records, defScope s_read_records, [], []⟩
def hd_good_records : He.DefD := ⟨("_good_records", none), "_good_records", "_good_records", defArgs s_good_records, defBody s_good_records, defScope s_good_records, [], []⟩
def hd_open_log : He.DefD := ⟨("open_log", none), "open_log", "open_log", defArgs s_open_log, defBody s_open_log, defScope s_open_log, [], []⟩
def hd_l_cell : He.DefD := ⟨("_law_cell", none), "_law_cell", "_law_cell", defArgs s_l_cell, defBody s_l_cell, defScope s_l_cell, [], []⟩
def hd_l_digits : He.DefD := ⟨("_law_digits", none), "_law_digits", "_law_digits", defArgs s_l_digits, defBody s_l_digits, defScope s_l_digits, [], []⟩
def hd_l_draw : He.DefD := ⟨("_law_draw", none), "_law_draw", "_law_draw", defArgs s_l_draw, defBody s_l_draw, defScope s_l_draw, [], []⟩
def hd_l_alike : He.DefD := ⟨("_law_alike", none), "_law_alike", "_law_alike", defArgs s_l_alike, defBody s_l_alike, defScope s_l_alike, [], []⟩
def hd_l_value_text : He.DefD := ⟨("_law_value_text", none), "_law_value_text", "_law_value_text", defArgs s_l_value_text, defBody s_l_value_text, defScope s_l_value_text, [], []⟩
def hd_l_record_text : He.DefD := ⟨("_law_record_text", none), "_law_record_text", "_law_record_text", defArgs s_l_record_text, defBody s_l_record_text, defScope s_l_record_text, [], []⟩
def hd_l_pieces : He.DefD := ⟨("_law_pieces", none), "_law_pieces", "_law_pieces", defArgs s_l_pieces, defBody s_l_pieces, defScope s_l_pieces, [], []⟩
def hd_l_used_blocks : He.DefD := ⟨("_law_used_blocks", none), "_law_used_blocks", "_law_used_blocks", defArgs s_l_used_blocks, defBody s_l_used_blocks, defScope s_l_used_blocks, [], []⟩
def hd_l_some_value : He.DefD := ⟨("_law_some_value", none), "_law_some_value", "_law_some_value", defArgs s_l_some_value, defBody s_l_some_value, defScope s_l_some_value, [], []⟩
def hd_l_small_text : He.DefD := ⟨("_law_small_text", none), "_law_small_text", "_law_small_text", defArgs s_l_small_text, defBody s_l_small_text, defScope s_l_small_text, [], []⟩
def hd_l_some_rows : He.DefD := ⟨("_law_some_rows", none), "_law_some_rows", "_law_some_rows", defArgs s_l_some_rows, defBody s_l_some_rows, defScope s_l_some_rows, [], []⟩
def hd_l_entries : He.DefD := ⟨("_law_entries", none), "_law_entries", "_law_entries", defArgs s_l_entries, defBody s_l_entries, defScope s_l_entries, [], []⟩
def hd_l_append : He.DefD := ⟨("_law_append", none), "_law_append", "_law_append", defArgs s_l_append, defBody s_l_append, defScope s_l_append, [], []⟩
def hd_l_one : He.DefD := ⟨("_law_one", none), "_law_one", "_law_one", defArgs s_l_one, defBody s_l_one, defScope s_l_one, [], []⟩
def hd_law : He.DefD := ⟨("law", none), "law", "law", defArgs s_law, defBody s_law, defScope s_law, [], []⟩
def hd_Disk_init : He.DefD := ⟨("Disk", some "__init__"), "__init__", "Disk.__init__", defArgs s_Disk_init, defBody s_Disk_init, defScope s_Disk_init, [], []⟩
def hd_Disk_size : He.DefD := ⟨("Disk", some "size"), "size", "Disk.size", defArgs s_Disk_size, defBody s_Disk_size, defScope s_Disk_size, [], []⟩
def hd_Disk_check_at : He.DefD := ⟨("Disk", some "_check_at"), "_check_at", "Disk._check_at", defArgs s_Disk_check_at, defBody s_Disk_check_at, defScope s_Disk_check_at, [], []⟩
def hd_Disk_read : He.DefD := ⟨("Disk", some "read"), "read", "Disk.read", defArgs s_Disk_read, defBody s_Disk_read, defScope s_Disk_read, [], []⟩
def hd_Disk_cut : He.DefD := ⟨("Disk", some "_cut"), "_cut", "Disk._cut", defArgs s_Disk_cut, defBody s_Disk_cut, defScope s_Disk_cut, [], []⟩
def hd_Disk_spend : He.DefD := ⟨("Disk", some "_spend"), "_spend", "Disk._spend", defArgs s_Disk_spend, defBody s_Disk_spend, defScope s_Disk_spend, [], []⟩
def hd_Disk_write : He.DefD := ⟨("Disk", some "write"), "write", "Disk.write", defArgs s_Disk_write, defBody s_Disk_write, defScope s_Disk_write, [], []⟩
def hd_Disk_flush : He.DefD := ⟨("Disk", some "flush"), "flush", "Disk.flush", defArgs s_Disk_flush, defBody s_Disk_flush, defScope s_Disk_flush, [], []⟩
def hd_Disk_pending_count : He.DefD := ⟨("Disk", some "pending_count"), "pending_count", "Disk.pending_count", defArgs s_Disk_pending_count, defBody s_Disk_pending_count, defScope s_Disk_pending_count, [], []⟩
def hd_Disk_cut_count : He.DefD := ⟨("Disk", some "cut_count"), "cut_count", "Disk.cut_count", defArgs s_Disk_cut_count, defBody s_Disk_cut_count, defScope s_Disk_cut_count, [], []⟩
def hd_Log_init : He.DefD := ⟨("Log", some "__init__"), "__init__", "Log.__init__", defArgs s_Log_init, defBody s_Log_init, defScope s_Log_init, [], []⟩
def hd_Log_check_open : He.DefD := ⟨("Log", some "check_open"), "check_open", "Log.check_open", defArgs s_Log_check_open, defBody s_Log_check_open, defScope s_Log_check_open, [], []⟩
def hd_Log_records : He.DefD := ⟨("Log", some "records"), "records", "Log.records", defArgs s_Log_records, defBody s_Log_records, defScope s_Log_records, [], []⟩
def hd_Log_blocks_of : He.DefD := ⟨("Log", some "_blocks_of"), "_blocks_of", "Log._blocks_of", defArgs s_Log_blocks_of, defBody s_Log_blocks_of, defScope s_Log_blocks_of, [], []⟩
def hd_Log_room : He.DefD := ⟨("Log", some "room"), "room", "Log.room", defArgs s_Log_room, defBody s_Log_room, defScope s_Log_room, [], []⟩
def hd_Log_append : He.DefD := ⟨("Log", some "append"), "append", "Log.append", defArgs s_Log_append, defBody s_Log_append, defScope s_Log_append, [], []⟩
def hd_Log_sync : He.DefD := ⟨("Log", some "sync"), "sync", "Log.sync", defArgs s_Log_sync, defBody s_Log_sync, defScope s_Log_sync, [], []⟩
def hd_Log_free_blocks : He.DefD := ⟨("Log", some "free_blocks"), "free_blocks", "Log.free_blocks", defArgs s_Log_free_blocks, defBody s_Log_free_blocks, defScope s_Log_free_blocks, [], []⟩
def hd_OutOfRange : He.DefD := ⟨("OutOfRange", some "__init__"), "__init__", "OutOfRange.__init__", defArgs s_OutOfRange, defBody s_OutOfRange, defScope s_OutOfRange, [], []⟩
def hfn : List He.DefD := [hd_piece, hd_encode_record, hd_are_codes, hd_sign, hd_decode_piece, hd_is_block, hd_is_name, hd_is_value, hd_check_entries, hd_value_text, hd_write_record, hd_read_number, hd_read_value, hd_read_values, hd_read_call, hd_read_entries, hd_read, hd_read_record, hd_write_blocks, hd_clear, hd_format_disk, hd_read_text, hd_read_records, hd_good_records, hd_open_log, hd_l_cell, hd_l_digits, hd_l_draw, hd_l_alike, hd_l_value_text, hd_l_record_text, hd_l_pieces, hd_l_used_blocks, hd_l_some_value, hd_l_small_text, hd_l_some_rows, hd_l_entries, hd_l_append, hd_l_one, hd_law, hd_Disk_init, hd_Disk_size, hd_Disk_check_at, hd_Disk_read, hd_Disk_cut, hd_Disk_spend, hd_Disk_write, hd_Disk_flush, hd_Disk_pending_count, hd_Disk_cut_count, hd_Log_init, hd_Log_check_open, hd_Log_records, hd_Log_blocks_of, hd_Log_room, hd_Log_append, hd_Log_sync, hd_Log_free_blocks, hd_OutOfRange]
def hfa : List He.Fa := [.int "PIECE" 24, .free "len", .int "RECORD" 83, .free "ord", .free "enumerate", .free "range", .int "PERCENT" 37, .str "SIGNS" " !\"#$&'()*+,-./0123456789:;<=>?@ABCDEFGHIJKLMNOPQRSTUVWXYZ[\\]^_`abcdefghijklmnopqrstuvwxyz{|}~", .free "any", .int "BLOCK" 32, .int "NAME_MOST" 6, .free "all", .str "LETTERS" "abcdefghijklmnopqrstuvwxyz", .glo "RESERVED", .free "isinstance", .free "str", .int "STRING_MOST" 20, .str "QUOTE" "\"", .free "int", .int "NUMBER_MOST" 99999, .glo "OutOfRange", .int "ENTRIES_MOST" 3, .free "set", .free "list", .str "DIGITS" "0123456789", .free "tuple", .int "ARGUMENTS_MOST" 3, .int "NUMBERS_MOST" 9999, .int "HOLDERS_MOST" 3, .int "TEXT_MOST" 600, .int "SOURCES_MOST" 8, .int "PIECES_MOST" 30, .glo "Log", .glo "NotKept", .exc "NotKept", .free "repr", .free "sum", .glo "LogFull", .glo "Disk", .int "BLOCKS_LEAST" 8, .int "BLOCKS_MOST" 400, .glo "PowerCut", .exc "PowerCut", .glo "NotOpen", .exc "NotOpen", .exc "LogFull", .cls "Disk", .mkr "Disk", .cls "Log", .mkr "Log", .meth "Disk" "size", .meth "Disk" "_check_at", .meth "Disk" "read", .meth "Disk" "_cut", .meth "Disk" "_spend", .meth "Disk" "write", .meth "Disk" "flush", .meth "Disk" "pending_count", .meth "Disk" "cut_count", .meth "Log" "check_open", .meth "Log" "records", .meth "Log" "_blocks_of", .meth "Log" "room", .meth "Log" "append", .meth "Log" "sync", .meth "Log" "free_blocks", .noat "Disk" "_torn", .noat "Disk" "_left", .noat "Disk" "_cuts", .noat "Disk" "_pending", .noat "Disk" "_blocks", .noat "Log" "_cuts", .noat "Log" "_end", .noat "Log" "_records", .noat "Log" "_disk", .meth "OutOfRange" "__init__", .noat "OutOfRange" "name", .exm "LogFull" "OutOfRange" false, .exm "LogFull" "LogFull" true, .exm "NotKept" "OutOfRange" false, .exm "NotKept" "LogFull" false, .exm "NotOpen" "OutOfRange" false, .exm "NotOpen" "LogFull" false, .exm "OutOfRange" "OutOfRange" true, .exm "OutOfRange" "LogFull" false, .exm "PowerCut" "OutOfRange" false, .exm "PowerCut" "LogFull" false, .glo "_piece", .glo "encode_record", .glo "_are_codes", .glo "_sign", .glo "decode_piece", .glo "_is_block", .glo "is_name", .glo "is_value", .glo "check_entries", .glo "_value_text", .glo "write_record", .glo "_read_number", .glo "_read_value", .glo "_read_values", .glo "_read_call", .glo "_read_entries", .glo "_read", .glo "read_record", .glo "_write_blocks", .glo "_clear", .glo "format_disk", .glo "_read_text", .glo "_read_records", .glo "_good_records", .glo "open_log", .glo "_law_cell", .glo "_law_digits", .glo "_law_draw", .glo "_law_alike", .glo "_law_value_text", .glo "_law_record_text", .glo "_law_pieces", .glo "_law_used_blocks", .glo "_law_some_value", .glo "_law_small_text", .glo "_law_some_rows", .glo "_law_entries", .glo "_law_append", .glo "_law_one", .glo "law"]
def tabl (K : PySem.W.Frag) : List Bool := [He.tupB K "RESERVED" (tab_RESERVED.map He.Dv.str), rawB K "NEWLINE" "BAR" "\n" "|", rawB K "BAR" "NEWLINE" "|" "\n", oexB K (He.ga K "OutOfRange")]
def tabs (K : PySem.W.Frag) : Bool := (tabl K).all id
abbrev R : PySem.W.OpenRow := PySem.W.OpenLaw.row PySem.Challenge.rw_sameasnew_k47_log_without_cuts
abbrev hk : PySem.W.Hook := hookB 4 hfa hfn tabs
def ob (s : PySem.W.SharedT) : AlB := obsB 4 hfa hfn tabs (HandSHeadRun.getT s)
theorem ob_eq (s : PySem.W.SharedT) : ob s = hk.obs s.abs := obsB_eq (HandSHeadRun.getT_eq s)
def loose0 : List Str := ["_wall", "PIECE", "PIECES_MOST", "RECORD", "PERCENT", "SIGNS", "_piece", "encode_record", "_are_codes", "_sign", "decode_piece", "ModuleError", "OutOfRange", "NotKept", "NotOpen", "LogFull", "PowerCut", "BLOCK", "BLOCKS_LEAST", "BLOCKS_MOST"]
def loose1 : List Str := ["_is_block", "Disk", "NAME_MOST", "NUMBER_MOST", "STRING_MOST", "RESERVED", "LETTERS", "QUOTE", "is_name", "is_value", "TEXT_MOST", "SOURCES_MOST", "ENTRIES_MOST", "ARGUMENTS_MOST", "check_entries", "DIGITS", "NUMBERS_MOST", "HOLDERS_MOST", "NEWLINE", "BAR"]
def loose2 : List Str := ["_value_text", "write_record", "_read_number", "_read_value", "_read_values", "_read_call", "_read_entries", "_read", "read_record", "_write_blocks", "_clear", "format_disk", "_read_text", "_read_records", "_good_records", "open_log", "Log", "_law_cell", "_law_digits", "_law_draw"]
def loose3 : List Str := ["_law_alike", "_law_value_text", "_law_record_text", "_law_pieces", "_law_used_blocks", "_law_some_value", "_law_small_text", "_law_some_rows", "_law_entries", "_law_append", "_law_one"]
def loose : List Str := loose0 ++ loose1 ++ loose2 ++ loose3
theorem run (w : World) : HandSHeadRun.RunEq R (PySem.W.view R.prog [79]) hk ob 6000 loose w := by
  intro os
  kernel_rfl
end K47

/-! texts: the rules over the ledger -/
namespace Lg
open PySem PySem.Spec PyProof.Rows L2
def rSplit1 : V → List V → Hp → VK → Prop := fun x xs H Q => ∃ a b, x = .str a ∧ xs = [.str b] ∧ (b.length == 0) = false ∧ a.length + 2 ≤ sizeLine ∧ rNewStrs (Txt.split a b) H Q
def rSplitM : V → List V → Hp → VK → Prop := fun x xs H Q => ∃ (a b : Str) (k : Int), x = .str a ∧ xs = [.str b, .int k] ∧ (b.length == 0) = false ∧ -(2 ^ 63) ≤ k ∧ k < 2 ^ 63 ∧ a.length + 2 ≤ sizeLine ∧ rNewStrs (Txt.splitMax a b k) H Q
def rPartX : V → List V → Hp → VK → Prop := fun x xs H Q => ∃ a b, x = .str a ∧ xs = [.str b] ∧ (b.length == 0) = false ∧ a.length ≤ sizeLine ∧
  ∀ p, H p = none → Q (.ref p) (upd H p (.tup [.str (Txt.partition a b).1, .str (Txt.partition a b).2.1, .str (Txt.partition a b).2.2]))
def rStarts : V → List V → Hp → VK → Prop := fun x xs H Q => ∃ a b, x = .str a ∧ xs = [.str b] ∧ Q (.bl (Txt.startswith a b)) H
def rRemp : V → List V → Hp → VK → Prop := fun x xs H Q => ∃ a b, x = .str a ∧ xs = [.str b] ∧ a.length ≤ sizeLine ∧ Q (.str (Txt.removeprefix a b)) H
def tFS (ts : List TE) : TE := fun σ H Q => tJs ts Str.empty σ H fun out H1 => Q (.str out) H1
section
variable {X : Cx}
theorem m_split1 : MtR X "str.split" rSplit1 := mt_split
theorem m_splitM : MtR X "str.split" rSplitM := mt_splitMax
theorem m_part : MtR X "str.partition" rPartX := mt_partition
theorem m_starts : MtR X "str.startswith" rStarts := mt_startswith
theorem m_remp : MtR X "str.removeprefix" rRemp := mt_removeprefix
theorem pe_fs {v1 v2 : Expr} {rest : List Expr} {ts : List TE} {pos : Pos} (h : PJ X (v1 :: v2 :: rest) ts) : PE X (.JoinedStr (v1 :: v2 :: rest) pos) (tFS ts) := pe_joined h
end
section
variable {K : PySem.W.Frag} {L : List Ent} {H : Hp} {σ : L2.St} {Q : VK} {a : Addr} {i : Int} {k c : Nat} {l : List Nat} {v : V} {d : PyData} {ds : List PyData}
abbrev sD (x : List Nat) : PyData := .str (S x)
theorem strs_ls {xs : List (List Nat)} {F : Hp} : DvAll K F (xs.map fun x => V.str (S x)) (xs.map sD) := by
  induction xs with
  | nil => exact .nil
  | cons x xs ih => exact .cons (.str _) ih
theorem w_newStrs {xs : List (List Nat)} {ys : List Str} (hS : St K L H) (e : ys = xs.map S) (h : ∀ p H', St K (Lg.ls K p (xs.map sD) :: L) H' → Q (.ref p) H') : rNewStrs ys H Q := by
  subst e
  intro p hp
  refine h p _ (hS.alloc hp fun F _ _ => ⟨_, rfl, ?_⟩)
  rw [List.map_map]
  exact strs_ls
theorem w_split1 (hS : St K L H) (hl : l.length ≤ 100000) (hc : c < 256) (h : ∀ p H', St K (Lg.ls K p ((spM c (l.length + 1) l).map sD) :: L) H' → Q (.ref p) H') : rSplit1 (.str (S l)) [.str (S [c])] H Q :=
  ⟨_, _, rfl, rfl, by rw [S_len]; rfl, by rw [S_len, sizeLine_eq]; omega, w_newStrs hS (split_is hc) h⟩
theorem w_splitM (hS : St K L H) (hl : l.length ≤ 100000) (hc : c < 256) (hk : i = (k : Int)) (hk2 : k ≤ 1000) (h : ∀ p H', St K (Lg.ls K p ((spM c k l).map sD) :: L) H' → Q (.ref p) H') : rSplitM (.str (S l)) [.str (S [c]), .int i] H Q :=
  ⟨_, _, i, rfl, rfl, by rw [S_len]; rfl, by omega, by omega, by rw [S_len, sizeLine_eq]; omega, w_newStrs hS (by rw [hk]; exact splitMax_is hc) h⟩
theorem w_partn (hS : St K L H) (hl : l.length ≤ 100000) (h : ∀ p H', St K (Lg.dat (.ref p) (.tuple [sD (l.takeWhile (· != c)), sD (if c ∈ l then [c] else []), sD ((l.dropWhile (· != c)).drop 1)]) :: L) H' → Q (.ref p) H') : rPartX (.str (S l)) [.str (S [c])] H Q := by
  refine ⟨_, _, rfl, rfl, by rw [S_len]; rfl, by rw [S_len, sizeLine_eq]; omega, fun p hp => h p _ ?_⟩
  rw [part_is]
  exact hS.fresh hp fun F hF _ _ => .tup (SqT.of upd_same) (.cons (.str _) (.cons (.str _) (.cons (.str _) .nil)))
theorem w_starts (h : Q (.bl (decide (l.head? = some c))) H) : rStarts (.str (S l)) [.str (S [c])] H Q := ⟨_, _, rfl, rfl, by rw [starts_is]; exact h⟩
theorem w_remp (hl : l.length ≤ 100000) (h : Q (.str (S (if l.head? = some c then l.drop 1 else l))) H) : rRemp (.str (S l)) [.str (S [c])] H Q := ⟨_, _, rfl, rfl, by rw [S_len, sizeLine_eq]; omega, by rw [remp_is]; exact h⟩
theorem w_truS {R : Bool → Hp → Prop} (hl : l.length ≤ 100000) (h : R (!l.isEmpty) H) : ∃ k, TruV K (.str (S l)) H k ∧ R k H := by
  refine ⟨_, ⟨by rw [S_len, sizeLine_eq]; omega, ?_⟩, h⟩
  rw [S_len]
  cases l with
  | nil => rfl
  | cons x r =>
    show true = (((x :: r).length : Int) != 0)
    rw [List.length_cons]
    symm
    rw [bne_iff_ne]
    omega
theorem w_replC {to : TE} {y z : Nat} (h : to σ H fun v H1 => ∃ l : List Nat, v = .str (S l) ∧ l.length ≤ 100000 ∧ Q (.str (S (l.map fun x => if x = y then z else x))) H1) (mono : ∀ R R' : VK, (∀ v H1, R v H1 → R' v H1) → to σ H R → to σ H R') : CwR.tReplC to (S [y]) (S [z]) σ H Q := by
  refine mono _ _ (fun v H1 ⟨l, e, hl, q⟩ => ?_) h
  refine ⟨S l, e, ?_, by rw [repl_is]; exact q⟩
  rw [S_len, S_len]
  show l.length + (l.length + 1) * 1 ≤ _
  omega
theorem w_strN (hn : i.natAbs < 10 ^ 12) (h : Q (.str (S (dgI i))) H) : rStrX [.int i] H Q := by
  refine .inl ⟨i, rfl, ?_, by rw [dgI_text]; exact h⟩
  have h2 : i.natAbs < 2 ^ 40 := by
    have : (10 : Nat) ^ 12 ≤ 2 ^ 40 := by decide
    omega
  have := log2_le h2
  omega
theorem w_fs {ts : List TE} (h : tJs ts (S []) σ H fun out H1 => Q (.str out) H1) : tFS ts σ H Q := h
theorem w_js0 {R : Str → Hp → Prop} {x : Str} (h : R x H) : tJs [] x σ H R := h
theorem w_js {t : TE} {ts : List TE} {R : Str → Hp → Prop} (h : t σ H fun x H1 => ∃ y : Str, x = .str y ∧ (S l ++ y).length ≤ sizeLine ∧ tJs ts (S l ++ y) σ H1 R) : tJs (t :: ts) (S l) σ H R := h
theorem w_jsS {m : List Nat} {ts : List TE} {R : Str → Hp → Prop} (hm : l.length + m.length ≤ 100000) (h : tJs ts (S (l ++ m)) σ H R) : ∃ y : Str, V.str (S m) = .str y ∧ (S l ++ y).length ≤ sizeLine ∧ tJs ts (S l ++ y) σ H R := by
  have e : S l ++ S m = S (l ++ m) := SX.S_cat l m
  refine ⟨_, rfl, ?_, ?_⟩
  · rw [e, S_len, List.length_append, sizeLine_eq]
    omega
  · rw [e]; exact h
theorem w_fmt {te : TE} (h : te σ H fun x H1 => (∃ y : Str, x = .str y ∧ y.length ≤ sizeLine ∧ Q (.str y) H1) ∨ ∃ i : Int, x = .int i ∧ i.natAbs.log2 < 1920 ∧ Q (.str (toString i)) H1) : tFmt te σ H Q := h
theorem w_fmtS (hl : l.length ≤ 100000) (h : Q (.str (S l)) H) : (∃ y : Str, V.str (S l) = .str y ∧ y.length ≤ sizeLine ∧ Q (.str y) H) ∨ ∃ i : Int, V.str (S l) = .int i ∧ i.natAbs.log2 < 1920 ∧ Q (.str (toString i)) H :=
  .inl ⟨_, rfl, by rw [S_len, sizeLine_eq]; omega, h⟩
theorem w_fmtI (hn : i.natAbs < 10 ^ 12) (h : Q (.str (S (dgI i))) H) : (∃ y : Str, V.int i = .str y ∧ y.length ≤ sizeLine ∧ Q (.str y) H) ∨ ∃ j : Int, V.int i = .int j ∧ j.natAbs.log2 < 1920 ∧ Q (.str (toString j)) H := by
  refine .inr ⟨i, rfl, ?_, ?_⟩
  · have h2 : i.natAbs < 2 ^ 40 := by
      have : (10 : Nat) ^ 12 ≤ 2 ^ 40 := by decide
      omega
    have := log2_le h2
    omega
  · have e := dgI_text i
    show Q (.str (Str.ofString (toString i))) H
    rw [e]; exact h
theorem w_lenSet {ta : TE} {xs : List (List Nat)} (h : ta σ H fun x H1 => ∃ (l : Addr) (xs : List Str), x = .ref l ∧ SqT K H1 l (xs.map V.str) ∧ xs.length ≤ 4000 ∧ ∀ m : Nat, m ≤ xs.length → (m = xs.length ↔ xs.Nodup) → Q (.int m) H1) : tLenSetT K ta σ H Q := h
theorem S_nodup {xs : List (List Nat)} : (xs.map S).Nodup ↔ xs.Nodup := by
  constructor
  · intro h
    rw [List.nodup_iff_pairwise_ne] at h ⊢
    rw [List.pairwise_map] at h
    exact h.imp fun z e => z (by rw [e])
  · intro h
    rw [List.nodup_iff_pairwise_ne] at h ⊢
    rw [List.pairwise_map]
    exact h.imp fun z e => z (S_inj e)
theorem strs_back {F : Hp} : ∀ {vs : List V} {xs : List (List Nat)}, DvAll K F vs (xs.map sD) → vs = (xs.map S).map V.str
  | _, [], h => by cases h; rfl
  | _, x :: xs, h => by
    cases h with
    | cons h1 h2 => cases h1; simp [strs_back h2]
theorem w_lenSetT {xs : List (List Nat)} (hS : St K L H) (hl : Is L (.ref a) (.tuple (xs.map sD))) (few : xs.length ≤ 4000) (h : ∀ m : Nat, m ≤ xs.length → (m = xs.length ↔ xs.Nodup) → Q (.int m) H) :
    ∃ (l : Addr) (xs : List Str), V.ref a = .ref l ∧ SqT K H l (xs.map V.str) ∧ xs.length ≤ 4000 ∧ ∀ m : Nat, m ≤ xs.length → (m = xs.length ↔ xs.Nodup) → Q (.int m) H := by
  obtain ⟨F, h1, h2⟩ := hS.is_of hl
  cases h2 with
  | tup g1 g2 =>
    rw [strs_back g2] at g1
    refine ⟨a, xs.map S, rfl, h1.sqT g1, by rw [List.length_map]; exact few, fun m hm hi => ?_⟩
    rw [List.length_map] at hm hi
    exact h m hm (hi.trans S_nodup)
end
end Lg

/-! len(set(a list of texts)) -/
namespace Lg
open PySem PySem.Spec PyProof.Rows L2
section
variable {prog : Program} {w : World} {A : Around} {E : Value → Shared → Prop} {u : Shared}
/-- set(a list of texts) -/
theorem setOfLst {l : Addr} {its : Array Value} {xs : List Str} {Q : Value → Shared → Prop} (quiet : A.handled = none) (lst : u.heap.IsList l its) (are : StrsAre its.toList xs) (few : xs.length ≤ 4000)
    (fin : ∀ (z : Heap) (tk m : Nat), Holds prog w z u.heap.objs.size xs m → (∀ b o, b < u.heap.objs.size → u.heap.get? b = some o → z.get? b = some o) → Q (.ref u.heap.objs.size) { u with heap := z, toks := tk }) :
    wpAny (model prog w) A (call (.type "set") [.ref l]) Q E u := by
  obtain ⟨c, tl, hmro⟩ := PySem.F.called_set.mro
  have m1 := PySem.F.called_set.made
  have m2 := PySem.F.called_set.sub
  have m3 := PySem.F.called_set.notType
  have m4 := PySem.F.called_set.canCreate
  have m5 := PySem.F.typeCall_set_1 (.ref l)
  refine wpAny_call (codeAny_of_tree (show wpAny _ _ (callAny (.type "set") _) _ _ _ from ?_))
  refine wpAny_pure ⟨Code.quiet_builtin _ (by decide +kernel), codeAny_builtin PySem.F.entry_type_call ?_⟩
  rw [Around.under_plain (weight_type_call_type "set" [.ref l] []) rfl]
  repeat (any_goals (first | assumption | wp_step))
  refine codeAny_mono (code_set_new_1 (.ref l) (E := E) (Q₁ := fun v u1 => ∃ led : Bool, v = .ref u.heap.objs.size ∧ u1 = { u with heap := u.heap.push (empS led) }) fun led => ⟨led, rfl, rfl⟩) fun r u1 hr => ?_
  cases r with
  | error e => exact hr
  | ok fl =>
    cases fl with
    | ret v =>
      obtain ⟨led, rfl, rfl⟩ := hr
      have g1 : (u.heap.push (empS led)).get? u.heap.objs.size = some (empS led) := Heap.get?_push_size _ rfl
      have g2 : Shared.TypeIs { u with heap := u.heap.push (empS led) } (.ref u.heap.objs.size) "set" := ⟨_, g1, rfl⟩
      have g3 := PySem.F.called_set.init.lookup
      have g4 := PySem.F.called_set.init.bind (.ref u.heap.objs.size)
      repeat (any_goals (first | assumption | wp_step))
      refine codeAny_mono (codeAny_call_builtin (R := wants (fun r u2 => r = .none ∧ ∃ z tk m, u2 = { u with heap := z, toks := tk } ∧ Holds prog w z u.heap.objs.size xs m ∧
          (∀ b o, b < u.heap.objs.size → u.heap.get? b = some o → z.get? b = some o)) E) PySem.F.called_set.init.plain PySem.F.entry_set_init (check_set_init_1 g2 ?_)) fun r u2 hr2 => ?_
      · obtain ⟨⟨oc, od, odt, osl⟩, ho, hc, nl, hd⟩ := lst
        dsimp only at hc hd
        subst hc
        subst hd
        have t1 : (u.heap.push (empS led)).get? l = some { cls := .type "list", dict := od, data := .seq its nl, slots := osl } := Heap.get?_push_of_some _ ho
        have t2 := PySem.F.sub_list_set
        have t3 := PySem.F.sub_list_frozenset
        have t4 : (Value.type "list" == Value.type "dict") = false := by decide
        have t5 : (u.heap.push (empS led)).IsList l its := ⟨_, t1, rfl, nl, rfl⟩
        unfold Builtin.«set.__init__» noKeywords Builtin.Frozenset.updateFrom
        generalize hPI : pyIter = PI
        wp_walk
        subst hPI
        refine wpAny_pyIter_list t5 (wpAny_bind (wpAny_runValue ?_))
        have sz : (u.heap.push (empS led)).objs.size = Nat.succ u.heap.objs.size := by rw [Heap.size_push]
        have lt : l < u.heap.objs.size := Heap.lt_size ho
        have len : xs.length = its.size := by rw [← StrsAre.len_eq are, Array.length_toList]
        have ne1 : l ≠ (u.heap.push (empS led)).objs.size := by rw [sz]; exact Nat.ne_of_lt (Nat.lt_succ_of_lt lt)
        have out : u.heap.objs.size ∉ [(u.heap.push (empS led)).objs.size, l] := by
          intro z
          rcases List.mem_cons.mp z with z | z
          · rw [sz] at z
            exact Nat.ne_of_lt (Nat.lt_succ_self _) z
          · rw [List.mem_singleton] at z
            rw [← z] at lt
            exact Nat.lt_irrefl _ lt
        refine setLoop ((Walks.list (by simp [quiet]) _ l ne1 its).toS) u.heap.objs.size out xs len (by omega) (fun i v hv => ?_) (its.size - 0) 0 _ (by omega) (Nat.zero_le _)
          ⟨⟨_, Heap.get?_push_size _ rfl, rfl, rfl⟩, (t5.push _)⟩ ⟨0, fun _ => false, fun k => by simp, ?_, by simp, by simp⟩ fun u3 mv h3 => ?_
        · have hv' : its.toList[i]? = some v := by rw [Array.getElem?_toList]; exact hv
          obtain ⟨t, e⟩ := texts_at are hv'
          have il : i < xs.length := by
            have := (List.getElem?_eq_some_iff.mp hv').1
            rw [Array.length_toList] at this
            omega
          exact ⟨t, xs[i], List.getElem?_eq_getElem il, by rw [e, List.getD_eq_getElem?_getD, List.getElem?_eq_getElem il]; rfl⟩
        · exact (PyProof.Rows.setObjOf_fresh (knd := PySem.strKind prog w) led).setOf (Heap.get?_push_of_some _ g1) (by unfold scanBound; omega)
        · obtain ⟨m, h3⟩ := h3
          obtain ⟨z, gz, dz, tz, oz⟩ := u3
          obtain rfl : gz = u.gens := mv.gens
          obtain rfl : dz = u.drawn := mv.drawn
          obtain rfl : oz = u.os := mv.os
          refine wpAny_pure (wpAny_pure ⟨rfl, z, tz, m, rfl, h3, fun b o hb e => ?_⟩)
          refine mv.heap b o (fun z => ?_) (Heap.get?_push_of_some _ (Heap.get?_push_of_some _ e))
          rcases List.mem_cons.mp z with z | z
          · exact Nat.ne_of_lt hb z
          · rw [List.mem_singleton] at z
            rw [z] at hb
            have hb : (u.heap.push (empS led)).objs.size < u.heap.objs.size := hb
            rw [sz] at hb
            exact Nat.lt_irrefl _ (Nat.lt_trans (Nat.lt_succ_self _) hb)
      · cases r with
        | error e => exact hr2
        | ok fl2 =>
          cases fl2 with
          | ret v =>
            obtain ⟨rfl, z, tk, m, rfl, hz, keep⟩ := hr2
            repeat (any_goals (first | assumption | wp_step))
            exact fin z tk m hz keep
          | _ => exact hr2.elim
    | _ => exact hr.elim
end
section
variable {X : Cx}
/-- len(set(a list of texts)) -/
def tLenSetL (K : PySem.W.Frag) (ta : TE) : TE := fun σ H Q => ta σ H fun x H1 => ∃ (l : Addr) (xs : List Str), x = .ref l ∧ SqL K H1 l (xs.map V.str) ∧ xs.length ≤ 4000 ∧ ∀ m : Nat, m ≤ xs.length → (m = xs.length ↔ xs.Nodup) → Q (.int m) H1
theorem pe_lenSetL {a : Expr} {ta : TE} {p p2 q pos : Pos} (hc : X.calm = true) (g1 : Gl X "len") (m1 : X.mg "len" = none) (g2 : Gl X "set") (m2 : X.mg "set" = none) (ha : PE X a ta)
    (na : starEach [a] X.env = (false, eval a X.env) :: starEach [] X.env := by rfl) : PE X (.Call (.Name "len" p) [.Call (.Name "set" p2) [a] [] q] [] pos) (tLenSetL X.K ta) := by
  refine ⟨fun pins u σ H Q I h => ?_⟩
  refine Call_ (ld_blt I g1 m1 boot_len (PyProof.Rows.callWith_builtin1 (PyProof.Rows.args_cons ?_ rfl) rfl rfl))
  refine Call_ (ld_blt I g2 m2 boot_set (PyProof.Rows.callWith_type1 (PyProof.Rows.args_cons (thn (ha.run pins u σ H _ I h) fun v u1 ⟨x, H1, I1, r1, q1⟩ => PyProof.Rows.args_nil ?_) na) na rfl))
  obtain ⟨l, xs, rfl, hq, few, q1⟩ := q1
  cases r1
  obtain ⟨its, r, pl, _⟩ := I1.list hq
  refine setOfLst (I1.ok.hd hc) pl.isList (by simpa using strs_of r) few fun z tk m hz keep => PyProof.Rows.args_nil ?_
  obtain ⟨f, _, ⟨o, es, ep, t, ho, hex, hd, _, _, _, hf, hn⟩, le, iff⟩ := hz
  have I2 : Inv X pins σ H1 { u1 with heap := z, toks := tk } := I1.kept fun b o e => keep b o (Heap.lt_size e) e
  exact call_len_set ho hex hd hf (by rw [hn]; omega) ⟨.int m, H1, I2.tok _, ⟨_, by rw [hn]⟩, q1 m le iff⟩
def tLenSetX (K : PySem.W.Frag) (ta : TE) : TE := fun σ H Q => tLenSetT K ta σ H Q ∨ tLenSetL K ta σ H Q
theorem pe_lenSetX {a : Expr} {ta : TE} {p p2 q pos : Pos} (hc : X.calm = true) (g1 : Gl X "len") (m1 : X.mg "len" = none) (g2 : Gl X "set") (m2 : X.mg "set" = none) (ha : PE X a ta)
    (na : starEach [a] X.env = (false, eval a X.env) :: starEach [] X.env := by rfl) : PE X (.Call (.Name "len" p) [.Call (.Name "set" p2) [a] [] q] [] pos) (tLenSetX X.K ta) :=
  ⟨fun pins u σ H Q I h => h.elim (fun h => (pe_lenSetT hc g1 m1 g2 m2 ha na).run pins u σ H Q I h) fun h => (pe_lenSetL hc g1 m1 g2 m2 ha na).run pins u σ H Q I h⟩
end
section
variable {K : PySem.W.Frag} {L : List Ent} {H : Hp} {σ : L2.St} {Q : VK} {a : Addr} {n : Nat}
theorem w_lenSetLV {xs : List (List Nat)} (q : GetAt σ n (.ref a)) (hS : St K L H) (hl : LsIn K L a (xs.map sD)) (few : xs.length ≤ 4000) (h : ∀ m : Nat, m ≤ xs.length → (m = xs.length ↔ xs.Nodup) → Q (.int m) H) : tLenSetX K (tVar n) σ H Q := by
  obtain ⟨F, vs, _, _, h3, h4⟩ := hS.lsin hl
  rw [strs_back h4] at h3
  refine .inr ⟨_, q.eq, a, xs.map S, rfl, SqL.of h3, by rw [List.length_map]; exact few, fun m hm hi => ?_⟩
  rw [List.length_map] at hm hi
  exact h m hm (hi.trans S_nodup)
theorem w_lenSetTV {xs : List (List Nat)} (q : GetAt σ n (.ref a)) (hS : St K L H) (hl : Is L (.ref a) (.tuple (xs.map sD))) (few : xs.length ≤ 4000) (h : ∀ m : Nat, m ≤ xs.length → (m = xs.length ↔ xs.Nodup) → Q (.int m) H) : tLenSetX K (tVar n) σ H Q :=
  .inl ⟨_, q.eq, w_lenSetT hS hl few h⟩
end
end Lg

/-! a written text replaced in what gives a token out; list.extend; sum; truth of lists; pairs of owned lists -/
namespace Lg
open PySem PySem.Spec PyProof.Rows L2
section
variable {X : Cx} {e f o : Expr} {te tf to : TE} {es : List Expr} {ta : TA} {pos apos : Pos}
/-- a row of parts that gives a token out -/
structure PAk (X : Cx) (es : List Expr) (t : TA) : Prop where
  run : ∀ (p : Pos) (pins : List (Addr × Obj)) (u : Shared) (σ : L2.St) (H : Hp) (Q : List V → Hp → Prop), Inv X pins σ H u → t σ H Q →
  wpAny (model X.prog X.w) X.A (spliced (backTo p (starEach es X.env))) (fun vs u1 => 1 ≤ u1.toks ∧ AP X pins σ Q vs u1) X.xe u
theorem pak_cons (ha : PEk X e te) (hr : PA X es ta) (hs : starEach (e :: es) X.env = (false, eval e X.env) :: starEach es X.env := by rfl) : PAk X (e :: es) (tCons te ta) := by
  constructor
  intro p pins u σ H Q I h
  rw [hs]
  refine Calls.spliced_cons (wpAny_mono (ha.run pins u σ H _ I h) (fun v u1 q => ?_) fun _ _ z => z)
  obtain ⟨hk, x, H1, I1, r1, q1⟩ := q
  refine wpAny_mono (wpAny_toks_of hk (hr.run p pins u1 σ H1 _ I1 q1)) (fun us u2 q2 => ?_) fun _ _ z => z.2
  obtain ⟨hk2, xs, H2, I2, r2, q2⟩ := q2
  exact ⟨hk2, x :: xs, H2, I2, .cons r1 r2, q2⟩
theorem pak_str {x : Str} {j : Nat} {q : Pos} (hr : PA X es ta) : PAk X (.Constant (.str x) j q :: es) (tCons (tC (.str x)) ta) := pak_cons pek_str hr rfl
theorem pek_lst (h : PAk X es ta) : PEk X (.List es pos) (tLst ta) := by
  constructor
  intro pins u σ H Q I hq
  refine wpAny_List_spliced (wpAny_mono (h.run pos pins u σ H _ I hq) (fun us u1 q => ?_) fun _ _ z => z)
  obtain ⟨hk, xs, H1, I1, r, z, q⟩ := q
  refine ⟨by rw [← r.length]; exact z, ?_⟩
  have hf : H1 u1.heap.objs.size = none := I1.hok.fresh (Nat.le_refl _)
  exact ⟨hk, .ref u1.heap.objs.size, upd H1 u1.heap.objs.size (.lst xs), I1.laid (t' := u1.toks) (fun b w e => Heap.get?_push_of_some _ e) (Nat.le_refl _) ⟨z, us, 0, r, Heap.get?_push_size _ rfl⟩, rfl, q _ hf⟩
theorem pek_ix {b : Expr} {tb : TE} {r : R2} (hr : IxR X r) (ha : PEk X e te) (hb : PE X b tb) (hs : PlainIx b) : PEk X (.Subscript e b pos) (tOp r te tb) := by
  constructor
  intro pins u σ H Q I h
  refine Subscript_ (wpAny_mono (ha.run pins u σ H _ I h) (fun v u1 q => ?_) fun _ _ z => z)
  obtain ⟨hk, x, H1, I1, r1, q1⟩ := q
  refine wpAny_mono (wpAny_toks_of hk (hb.run pins u1 σ H1 _ I1 q1)) (fun w u2 q2 => ?_) fun _ _ z => z.2
  obtain ⟨hk2, y, H2, I2, r2, q2⟩ := q2
  exact wpAny_mono (wpAny_toks_of hk2 (hr e b pins u2 σ H2 x y v w Q I2 r1 r2 q2 (hs _ _))) (fun _ _ z => z) fun _ _ z => z.2
theorem pek_ixs {b : Expr} {tb : TE} (ha : PEk X e te) (hb : PE X b tb) (hs : PlainIx b) : PEk X (.Subscript e b pos) (tOp (rIx X.K) te tb) := pek_ix ix_seq ha hb hs
theorem pe_replK {y z : Str} {j k : Nat} {c0 c1 : Pos} (ho : PEk X o to) (hyz : (y == z) = false := by decide)
    (hst : starEach [.Constant (.str y) j c0, .Constant (.str z) k c1] X.env = [(false, eval (.Constant (.str y) j c0) X.env), (false, eval (.Constant (.str z) k c1) X.env)] := by rfl)
    (hbase : attributeBase o "replace" X.env (eval o X.env) = eval o X.env := by rfl) (hline : (apos.endLine == pos.line) = true := by rfl) :
    PE X (.Call (.Attribute o "replace" apos) [.Constant (.str y) j c0, .Constant (.str z) k c1] [] pos) (CwR.tReplC to y z) := by
  refine ⟨fun pins u σ H Q I h => PySem.Call_method2 hbase hst hline (wpAny_mono (ho.run pins u σ H _ I h) (fun v u1 q => ?_) fun _ _ z => z)⟩
  obtain ⟨hk, v', H1, I1, r1, x, rfl, hb, q⟩ := q
  obtain ⟨tx, rfl⟩ := r1
  refine ⟨"str", _, PySem.F.plainAttrs_str, PySem.F.slot_str_replace, PySem.F.type_str_replace, typeIs_str _ _ _, (fun _ e => nomatch e), ?_⟩
  refine Calls.callWith_builtin rfl (Calls.evalArgs_plain (Calls.spliced_cons (Calls.Constant_str (Calls.spliced_cons (Calls.Constant_str (Calls.spliced_nil ?_))))))
  exact PySem.SC.replace (show u1.toks ≠ 0 by omega) (show u1.toks + 1 ≠ 0 by omega) (show u1.toks ≠ u1.toks + 1 by omega) hyz hb fun t' n => ⟨.str (Txt.replace x y z), H1, I1.tok n, ⟨t', rfl⟩, q⟩
/-- the same where the text is taken out of a row: all that is looked up is looked up here -/
theorem pe_replS {y z : Str} {j k : Nat} {c0 c1 p2 : Pos} {a b : Expr} (ho : PEk X (.Subscript a b p2) to) (hyz : (y == z) = false := by decide) (hline : (apos.endLine == pos.line) = true := by rfl) :
    PE X (.Call (.Attribute (.Subscript a b p2) "replace" apos) [.Constant (.str y) j c0, .Constant (.str z) k c1] [] pos) (CwR.tReplC to y z) :=
  pe_replK ho hyz rfl rfl hline
end
section
variable {K : PySem.W.Frag} {L L' : List Ent} {H : Hp} {Q : VK} {a b : Addr} {ds es : List PyData}
theorem w_extend (hS : St K L H) (hp : Put L (Lg.ls K a ds) (Lg.ls K a (ds ++ es)) L') (hb : LsIn K L b es) (hn : ds.length + es.length ≤ 100000) (h : ∀ H', St K L' H' → Q .non H') : rExtend (.ref a) [.ref b] H Q := by
  obtain ⟨F, xs, e1, e2, h3, h4⟩ := hS.lsin (.own hp.mem)
  obtain ⟨F2, zs, _, _, k3, k4⟩ := hS.lsin hb
  refine ⟨a, b, xs, zs, rfl, rfl, h3, k3, ?_, h _ ?_⟩
  · rw [h4.len, k4.len, sizeLine_eq]; omega
  · refine hS.writeP hp fun F' x e q hx hφ => ?_
    obtain ⟨vs, rfl, hvs⟩ := hφ
    rw [h3] at hx
    cases hx
    obtain ⟨ws, m1, m2⟩ := hb.ok e q
    rw [k3] at m1
    cases m1
    exact ⟨_, rfl, hvs.app m2⟩
theorem w_sum {ns : List Int} (hS : St K L H) (hl : LsIn K L a (ns.map PyData.int)) (h : Q (.int ns.sum) H) : rSum K [.ref a] H Q := by
  obtain ⟨F, xs, _, _, h3, h4⟩ := hS.lsin hl
  rw [h4.ints_inv] at h3
  exact ⟨a, ns, rfl, SqL.of h3, h⟩
theorem truL_ok (hS : St K L H) (hl : LsIn K L a ds) : TruV K (.ref a) H (!ds.isEmpty) := by
  obtain ⟨F, xs, _, _, h3, h4⟩ := hS.lsin hl
  refine .inl ⟨xs, SqL.of h3, ?_⟩
  have := h4.len
  cases xs <;> cases ds <;> simp at this ⊢
theorem w_neBl {x y : Bool} (h : Q (.bl (!decide (x = y))) H) : rNeX K (.bl x) (.bl y) H Q := .inl ⟨rfl, by
  have e : decide (V.bl x = V.bl y) = decide (x = y) := by cases x <;> cases y <;> rfl
  rw [e]; exact h⟩
end
end Lg

/-! while by a number that the ledger tells; the last of a list; texts joined with nothing -/
namespace Lg
open PySem PySem.Spec PyProof.Rows L2
section
variable {K : PySem.W.Frag} {L : List Ent} {σ : L2.St} {H : Hp} {Q : VK} {a : Addr} {ds : List PyData} {d : PyData}
def WBN (P : Nat → L2.St → Hp → Prop) (m : Nat) (tb : TS) (D : Ends) (σ : L2.St) (b : Bool) (H1 : Hp) : Prop :=
  if b = true then ∃ N : L2.St → Hp → Prop, (∀ σ' H', N σ' H' → ∃ m', m' < m ∧ P m' σ' H') ∧ tb { D with nx := N, ct := N, bk := D.nx } σ H1 else D.nx σ H1
theorem w_wbn {P : Nat → L2.St → Hp → Prop} {m : Nat} {tb : TS} {D : Ends} {c : Bool} (h1 : c = true → tb { D with nx := fun σ' H' => ∃ m', m' < m ∧ P m' σ' H', ct := fun σ' H' => ∃ m', m' < m ∧ P m' σ' H', bk := D.nx } σ H) (h2 : c = false → D.nx σ H) : WBN P m tb D σ c H := by
  unfold WBN
  cases c with
  | true => exact ⟨_, fun _ _ z => z, h1 rfl⟩
  | false => exact h2 rfl
theorem w_whileN {c : TT} {tb : TS} {D : Ends} (P : Nat → L2.St → Hp → Prop) (m0 : Nat) (h0 : P m0 σ H) (hs : ∀ m σ H, P m σ H → c σ H fun b H1 => WBN P m tb D σ b H1) : tWhile c tb D σ H := ⟨P, ⟨m0, h0⟩, hs⟩
theorem w_ixM1 {i : Int} (hS : St K L H) (hl : LsIn K L a (ds ++ [d])) (hi : i = -1) (h : ∀ v, St K (.dat v d :: L) H → Q v H) : rIx K (.ref a) (.int i) H Q := by
  subst hi
  obtain ⟨xs, v, h3, h5, hlen, h6⟩ := hS.item hl (k := ds.length) (d := d) (by simp)
  refine .inl ⟨a, xs, -1, v, rfl, rfl, SqL.of h3, ?_, h v h6⟩
  have hn : xs.length = ds.length + 1 := by simpa using hlen
  have e : ixN xs.length (-1) = some ds.length := by
    unfold ixN
    rw [if_neg (by decide), if_pos (by omega)]
    congr 1
    omega
  unfold atI
  rw [e]
  exact h5
theorem w_ixM1i {i m : Int} (hS : St K L H) (hl : LsIn K L a (ds ++ [.int m])) (hi : i = -1) (h : Q (.int m) H) : rIx K (.ref a) (.int i) H Q :=
  w_ixM1 hS hl hi fun v h6 => by rw [h6.int_of]; exact h
theorem w_ixM1s {i : Int} {m : Str} (hS : St K L H) (hl : LsIn K L a (ds ++ [.str m])) (hi : i = -1) (h : Q (.str m) H) : rIx K (.ref a) (.int i) H Q :=
  w_ixM1 hS hl hi fun v h6 => by rw [h6.str_of]; exact h
theorem joinL_nil : ∀ ys : List (List Nat), TL.joinL [] ys = ys.flatten
  | [] => rfl
  | [y] => by simp [TL.joinL]
  | y :: z :: ys => by
    have := joinL_nil (z :: ys)
    show y ++ ([] ++ TL.joinL [] (z :: ys)) = _
    rw [this]
    rfl
end
end Lg

/-! [x for x in list if test]: any data -/
namespace Lg
open PySem PySem.Spec PyProof.Rows L2
section
variable {K : PySem.W.Frag} {L : List Ent} {σ : L2.St} {H : Hp} {Q : VK} {a : Addr} {ds : List PyData} {g : TG} {tt : TT} {te : TE} {vs : List Nat}
theorem w_lcFD (p : PyData → Bool) (hS : St K L H) (hl : LsIn K L a ds) (hn : ds.length ≤ 100000)
    (hs : ∀ (v : V) (d : PyData) (H : Hp) (L' : List Ent) (Z1 : VK) (Z2 : Hp → Prop), d ∈ ds → St K (.dat v d :: L') H → (p d = true → Z1 v H) → (p d = false → Z2 H) → g v (wipe σ vs) H fun σ2 H2 => wipe σ2 vs = wipe σ vs ∧ tt σ2 H2 fun b H3 => if b = true then te σ2 H3 Z1 else Z2 H3)
    (h : ∀ q H', St K (.cell q (.ls K (ds.filter p)) :: L) H' → Q (.ref q) H') : LcW (Itl K a) g tt te vs σ H Q := by
  intro q hq
  refine ⟨fun i m H => m = ds.length - i ∧ i ≤ ds.length ∧ St K (.cell q (.ls K ((ds.take i).filter p)) :: L) H, ⟨ds.length, by simp, Nat.zero_le _, hS.alloc hq fun F _ _ => ⟨[], rfl, .nil⟩⟩, ?_⟩
  rintro i m H ⟨rfl, hi, hS1⟩
  by_cases hlt : i < ds.length
  · obtain ⟨xs, v, h3, h5, _, h6⟩ := hS1.item hl.cons (k := i) (d := ds[i]) (by simp [hlt])
    refine .inr ⟨⟨xs, v, SqL.of h3, h5⟩, fun H' => i + 1 ≤ ds.length ∧ St K (.cell q (.ls K ((ds.take (i + 1)).filter p)) :: L) H', fun H' w => ⟨ds.length - (i + 1), by omega, rfl, w⟩, fun x H' y => ?_⟩
    obtain ⟨rfl, y⟩ := y
    have hx := y xs (SqL.of h3)
    rw [h5] at hx
    have hvx := Option.some.inj hx
    subst hvx
    have e : ds.take (i + 1) = ds.take i ++ [ds[i]] := by rw [List.take_add_one]; simp [hlt]
    refine hs v ds[i] H' _ _ _ (List.getElem_mem hlt) h6 (fun hp => ?_) fun hp => ?_
    · obtain ⟨F, ys, h1, h2, h7, h8⟩ := hS1.lsin (.own (.head _))
      refine ⟨ys, h7, ?_, by omega, ?_⟩
      · rw [h8.len]
        refine Nat.lt_of_le_of_lt ?_ (show 100000 < sizeLine by decide)
        exact Nat.le_trans (List.length_filter_le _ _) (by simp; omega)
      · rw [e, List.filter_append]
        have : [ds[i]].filter p = [ds[i]] := by simp [hp]
        rw [this]
        have h9 := h6.writeP (o := .lst (ys ++ [v])) (ψ := .ls K ((ds.take i).filter p ++ [ds[i]])) (.there .here) fun F' x e2 q2 hx hφ => ?_
        · exact h9.tail
        · obtain ⟨zs, rfl, hzs⟩ := hφ
          rw [h7] at hx
          cases hx
          exact ⟨_, rfl, hzs.app (.cons (q2 _ (.head _)) .nil)⟩
    · refine ⟨by omega, ?_⟩
      rw [e, List.filter_append]
      have : [ds[i]].filter p = [] := by simp [hp]
      rw [this, List.append_nil]
      exact hS1
  · have e : i = ds.length := by omega
    subst e
    rw [List.take_length] at hS1
    obtain ⟨xs, h3, h4⟩ := hS1.lenl hl.cons
    exact .inl ⟨⟨xs, SqL.of h3, by rw [h4]; simp⟩, h q H hS1⟩
end
end Lg

/-! k45: records, their texts, and what is read of a text: plain -/
namespace K45
open PySem PySem.NumText Lg
def letters : List Nat := [97, 98, 99, 100, 101, 102, 103, 104, 105, 106, 107, 108, 109, 110, 111, 112, 113, 114, 115, 116, 117, 118, 119, 120, 121, 122]
def resL : List (List Nat) := [[105, 109, 112, 111, 114, 116], [101, 120, 112, 111, 114, 116], [108, 101, 116], [107, 101, 101, 112], [102, 110], [100, 111], [104, 111, 108, 100], [105, 102], [116, 104, 101, 110], [101, 108, 115, 101], [115, 101, 116], [102, 114, 111, 109], [97, 115]]
def isName (l : List Nat) : Bool := (decide ((1 : Int) ≤ (l.length : Int)) && decide ((l.length : Int) ≤ 6)) && (l.all (fun c => decide (c ∈ letters)) && !decide (l ∈ resL))
def strVal (l : List Nat) : Bool := decide (l.length ≤ 20) && (!decide (34 ∈ l) && !decide (10 ∈ l))
/-- a value: a number or a text -/
inductive Va where
  | i (n : Int)
  | s (l : List Nat)
deriving DecidableEq
def Va.d : Va → PyData
  | .i n => .int n
  | .s l => .str (S l)
def Va.t : Va → List Nat
  | .i n => dgI n
  | .s l => 34 :: (l ++ [34])
def Va.ok : Va → Bool
  | .i n => decide (-99999 ≤ n) && decide (n ≤ 99999)
  | .s l => strVal l
abbrev zent : List Nat := [101, 110, 116, 114, 105, 101, 115]
abbrev ztext : List Nat := [116, 101, 120, 116]
abbrev zrem : List Nat := [114, 101, 109, 111, 118, 101]
abbrev zupd : List Nat := [117, 112, 100, 97, 116, 101]
abbrev zcall : List Nat := [99, 97, 108, 108]
/-- parts with a blank between them -/
def jn : List (List Nat) → List Nat
  | [] => []
  | [p] => p
  | p :: q :: r => p ++ 32 :: jn (q :: r)
inductive Rec where
  | ent (ns : List (List Nat))
  | txt (m t : List Nat)
  | rem (m : List Nat)
  | upd (n : Nat)
  | cal (h k : Nat) (m f : List Nat) (vs : List Va)
deriving DecidableEq
def Rec.d : Rec → PyData
  | .ent ns => .tuple [sD zent, .tuple (ns.map sD)]
  | .txt m t => .tuple [sD ztext, sD m, sD t]
  | .rem m => .tuple [sD zrem, sD m]
  | .upd n => .tuple [sD zupd, .int n]
  | .cal h k m f vs => .tuple [sD zcall, .int h, .int k, sD m, sD f, .tuple (vs.map Va.d)]
def head (h k : Nat) (m f : List Nat) : List Nat := zcall ++ 32 :: (dg h ++ 32 :: (dg k ++ 32 :: (m ++ 32 :: f)))
def Rec.t : Rec → List Nat
  | .ent ns => jn (zent :: ns)
  | .txt m t => ztext ++ 32 :: (m ++ 32 :: t.map fun x => if x = 10 then 124 else x)
  | .rem m => zrem ++ 32 :: m
  | .upd n => zupd ++ 32 :: dg n
  | .cal h k m f vs => jn (head h k m f :: vs.map Va.t)
/-- numbers that are not too great to be written -/
def Rec.few : Rec → Bool
  | .upd n => decide (n < 1000000)
  | .cal h k _ _ vs => decide (h < 1000000) && (decide (k < 1000000) && vs.all fun | .i n => decide (n.natAbs < 1000000) | .s _ => true)
  | _ => true
def figs : List Nat := [48, 49, 50, 51, 52, 53, 54, 55, 56, 57]
def readNum (l : List Nat) (most : Nat) : Option Nat :=
  if (l.isEmpty || (l.any (fun c => !decide (c ∈ figs)) || decide ((dg most).length < l.length))) = true then none
  else if (decide (l.head? = some 48) && decide (1 < l.length)) = true then none
  else if digitsVal l ≤ most then some (digitsVal l) else none
def readVal (l : List Nat) : Option (Va × List Nat) :=
  if l.head? = some 34 then
    if 34 ∈ l.drop 1 then some (.s ((l.drop 1).takeWhile (· != 34)), ((l.drop 1).dropWhile (· != 34)).drop 1) else none
  else
    match readNum (if (l.takeWhile (· != 32)).head? = some 45 then (l.takeWhile (· != 32)).drop 1 else l.takeWhile (· != 32)) 99999 with
    | none => none
    | some n => some (.i (if (l.takeWhile (· != 32)).head? = some 45 then -(n : Int) else n), (if 32 ∈ l then [32] else []) ++ (l.dropWhile (· != 32)).drop 1)
def readVals : Nat → List Nat → Option (List Va)
  | 0, _ => none
  | _ + 1, [] => some []
  | n + 1, c :: r => if c = 32 then
      match readVal r with
      | none => none
      | some (v, rest) => match readVals n rest with
        | none => none
        | some vs => some (v :: vs)
    else none
def readTl (tl : List (List Nat)) : Option (List Va) := match tl with
  | [] => readVals 1 []
  | w4 :: _ => readVals (w4.length + 2) (32 :: w4)
def readCallW (ws : List (List Nat)) : Option Rec :=
  match ws with
  | w0 :: w1 :: w2 :: w3 :: tl =>
    match readNum w0 2, readNum w1 9999, readTl tl with
    | some h, some k, some vs => if (isName w2 && isName w3) = true then
        if (decide (vs.length ≤ 3) && vs.all Va.ok) = true then some (.cal h k w2 w3 vs) else none
      else none
    | _, _, _ => none
  | _ => none
def entOK (xs : List (List Nat)) : Bool := decide (1 ≤ xs.length) && (decide (xs.length ≤ 3) && (decide xs.Nodup && xs.all isName))
def readR (w rest : List Nat) : Option Rec :=
  if w = zent then (if entOK (spM 32 (rest.length + 1) rest) = true then some (.ent (spM 32 (rest.length + 1) rest)) else none)
  else if w = zcall then readCallW (spM 32 4 rest)
  else if w = zrem then (if isName rest = true then some (.rem rest) else none)
  else if w = zupd then (match readNum rest 8 with | none => none | some n => some (.upd n))
  else if w = ztext then
    (if (isName (rest.takeWhile (· != 32)) && decide (((rest.dropWhile (· != 32)).drop 1).length ≤ 600)) = true then some (.txt (rest.takeWhile (· != 32)) (((rest.dropWhile (· != 32)).drop 1).map fun x => if x = 124 then 10 else x)) else none)
  else none
def readRec (l : List Nat) : Option Rec :=
  match readR (l.takeWhile (· != 32)) ((l.dropWhile (· != 32)).drop 1) with
  | none => none
  | some r => if r.t = l then some r else none
theorem readRec_t {l : List Nat} {r : Rec} (h : readRec l = some r) : r.t = l := by
  unfold readRec at h
  split at h
  · cases h
  · split at h
    · cases h; assumption
    · cases h
theorem readNum_le {l : List Nat} {m n : Nat} (h : readNum l m = some n) : n ≤ m := by
  unfold readNum at h
  split at h
  · cases h
  split at h
  · cases h
  split at h
  · cases h; assumption
  · cases h
theorem readVal_few {l : List Nat} {v : Va} {r : List Nat} (h : readVal l = some (v, r)) : (match v with | .i n => n.natAbs ≤ 99999 | .s _ => True) ∧ r.length ≤ l.length := by
  unfold readVal at h
  have hd : ∀ (c : Nat) (x : List Nat), (x.dropWhile (· != c)).length ≤ x.length := fun c x => by
    have := List.IsSuffix.length_le (List.dropWhile_suffix (l := x) (· != c))
    exact this
  split at h
  · split at h
    · cases h
      refine ⟨trivial, ?_⟩
      have := hd 34 (l.drop 1)
      simp at this ⊢
      omega
    · cases h
  · split at h
    · cases h
    · rename_i n hn
      have := readNum_le hn
      cases h
      refine ⟨?_, ?_⟩
      · dsimp only
        split <;> omega
      · by_cases h32 : 32 ∈ l
        · have h2 := congrArg List.length (cut_at h32).1
          rw [List.length_append, List.length_cons] at h2
          rw [if_pos h32, List.length_append]
          show 1 + _ ≤ _
          omega
        · rw [if_neg h32, (tw_free h32).2]
          simp
theorem readVals_few : ∀ (n : Nat) {l : List Nat} {vs : List Va}, readVals n l = some vs → (vs.all fun | .i n => decide (n.natAbs < 1000000) | .s _ => true) = true
  | 0, _, _, h => by cases h
  | n + 1, [], vs, h => by cases h; rfl
  | n + 1, c :: r, vs, h => by
    unfold readVals at h
    split at h
    · split at h
      · cases h
      · rename_i v rest hv
        split at h
        · cases h
        · rename_i ws hw
          cases h
          rw [List.all_cons, Bool.and_eq_true]
          refine ⟨?_, readVals_few n hw⟩
          have := (readVal_few hv).1
          cases v with
          | i k => simp at this ⊢; omega
          | s l => rfl
    · cases h
theorem readR_few {w rest : List Nat} {r : Rec} (h : readR w rest = some r) : r.few = true := by
  unfold readR at h
  split at h
  · split at h
    · cases h; rfl
    · cases h
  split at h
  · unfold readCallW at h
    split at h
    · split at h
      · rename_i hh k vs e1 e2 e3
        split at h
        · split at h
          · cases h
            have h1 := readNum_le e1
            have h2 := readNum_le e2
            have h3 : (vs.all fun | .i n => decide (n.natAbs < 1000000) | .s _ => true) = true := by
              unfold readTl at e3
              split at e3
              · exact readVals_few _ e3
              · exact readVals_few _ e3
            show (decide (hh < 1000000) && (decide (k < 1000000) && _)) = true
            rw [decide_eq_true (by omega), decide_eq_true (by omega)]
            simpa using h3
          · cases h
        · cases h
      · cases h
    · cases h
  split at h
  · split at h
    · cases h; rfl
    · cases h
  split at h
  · split at h
    · cases h
    · rename_i n hn
      cases h
      have := readNum_le hn
      simp [Rec.few]
      omega
  split at h
  · split at h
    · cases h; rfl
    · cases h
  · cases h
theorem readRec_few {l : List Nat} {r : Rec} (h : readRec l = some r) : r.few = true := by
  unfold readRec at h
  split at h
  · cases h
  · rename_i r' hr
    split at h
    · cases h; exact readR_few hr
    · cases h
theorem blank_none (l : List Nat) : readRec (32 :: l) = none := by
  unfold readRec
  rw [List.takeWhile_cons_of_neg (by simp)]
  have : ∀ rest, readR [] rest = none := fun rest => by
    unfold readR
    rw [if_neg (by decide), if_neg (by decide), if_neg (by decide), if_neg (by decide), if_neg (by decide)]
  rw [this]
theorem mem_figs {c : Nat} : c ∈ figs ↔ 48 ≤ c ∧ c ≤ 57 := by
  unfold figs
  simp only [List.mem_cons, List.mem_nil_iff, or_false]
  omega
theorem dg_most {n m : Nat} (h : n ≤ m) : (dg n).length ≤ (dg m).length := by
  have h1 := dg_pos m
  refine dg_len h1 (Nat.lt_of_le_of_lt h ?_)
  apply Classical.byContradiction
  intro z
  have := dg_ge (n := m) (k := (dg m).length) (by omega)
  omega
theorem readNum_dg {n m : Nat} (h : n ≤ m) : readNum (dg n) m = some n := by
  unfold readNum
  have h1 := dg_pos n
  have h2 := dg_most h
  have h3 := dg_digits n
  rw [if_neg, if_neg, dg_val, if_pos h]
  · rw [Bool.and_eq_true, decide_eq_true_eq, decide_eq_true_eq]
    rintro ⟨z, z2⟩
    have := dg_head z
    omega
  · rw [Bool.or_eq_true, Bool.or_eq_true, decide_eq_true_eq]
    rintro (z | z | z)
    · rw [List.isEmpty_iff] at z
      rw [z] at h1
      simp at h1
    · rw [List.any_eq_true] at z
      obtain ⟨c, hc, z⟩ := z
      have := h3 c hc
      rw [Bool.not_eq_true', decide_eq_false_iff_not] at z
      exact z (mem_figs.mpr this)
    · omega
theorem tw_app {c : Nat} : ∀ {p r : List Nat}, c ∉ p → (p ++ c :: r).takeWhile (· != c) = p ∧ (p ++ c :: r).dropWhile (· != c) = c :: r
  | [], r, _ => by simp
  | x :: p, r, h => by
    have hb : (x != c) = true := by simpa using fun z => h (by rw [z]; exact .head _)
    obtain ⟨h1, h2⟩ := tw_app (p := p) (r := r) fun z => h (.tail _ z)
    rw [List.cons_append, List.takeWhile_cons_of_pos (p := (· != c)) hb, List.dropWhile_cons_of_pos (p := (· != c)) hb, h1, h2]
    exact ⟨rfl, rfl⟩
theorem dgI_free {n : Int} : 32 ∉ dgI n ∧ 34 ∉ dgI n := by
  have h1 := dg_digits n.natAbs
  have h2 : ∀ c, c = 32 ∨ c = 34 → c ∉ dg n.natAbs := fun c hc z => by
    have := h1 c z
    omega
  unfold dgI
  by_cases h : n < 0
  · rw [if_pos h]
    refine ⟨fun z => ?_, fun z => ?_⟩
    · rcases List.mem_cons.mp z with z | z
      · cases z
      · exact h2 _ (by simp) z
    · rcases List.mem_cons.mp z with z | z
      · cases z
      · exact h2 _ (by simp) z
  · rw [if_neg h]
    exact ⟨h2 _ (by simp), h2 _ (by simp)⟩
theorem dg_cons (n : Nat) : ∃ c r, dg n = c :: r ∧ 48 ≤ c ∧ c ≤ 57 := by
  have h1 := dg_pos n
  have h2 := dg_digits n
  cases hd : dg n with
  | nil => rw [hd] at h1; simp at h1
  | cons c r =>
    rw [hd] at h2
    exact ⟨c, r, rfl, h2 c (.head _)⟩
def Tail (t : List Nat) : Prop := t = [] ∨ ∃ r, t = 32 :: r
theorem readVal_t {v : Va} (ok : v.ok = true) {t : List Nat} (ht : Tail t) : readVal (v.t ++ t) = some (v, t) := by
  unfold readVal
  cases v with
  | s l =>
    have h34 : 34 ∉ l := by
      simp only [Va.ok, strVal, Bool.and_eq_true, Bool.not_eq_true', decide_eq_false_iff_not] at ok
      exact ok.2.1
    have e : (Va.s l).t ++ t = 34 :: (l ++ 34 :: t) := by simp [Va.t]
    rw [e, if_pos (by rfl)]
    obtain ⟨h1, h2⟩ := tw_app (c := 34) (p := l) (r := t) h34
    rw [List.drop_succ_cons, List.drop_zero, h1, h2, if_pos (by simp)]
    rfl
  | i n =>
    have e : (Va.i n).t = dgI n := rfl
    rw [e]
    simp only [Va.ok, Bool.and_eq_true, decide_eq_true_eq] at ok
    obtain ⟨f1, f2⟩ := dgI_free (n := n)
    obtain ⟨c, r, hc, hc1, hc2⟩ := dg_cons n.natAbs
    have tw : (dgI n ++ t).takeWhile (· != 32) = dgI n ∧ (if 32 ∈ dgI n ++ t then [32] else []) ++ ((dgI n ++ t).dropWhile (· != 32)).drop 1 = t := by
      rcases ht with rfl | ⟨r, rfl⟩
      · rw [List.append_nil, (tw_free f1).1, (tw_free f1).2, if_neg f1]
        exact ⟨rfl, rfl⟩
      · rw [(tw_app f1).1, (tw_app f1).2, if_pos (by simp)]
        exact ⟨rfl, rfl⟩
    have hh : ¬ (dgI n ++ t).head? = some 34 := by
      unfold dgI
      by_cases h : n < 0
      · rw [if_pos h]; simp
      · rw [if_neg h, hc]
        simp
        omega
    rw [if_neg hh, tw.1, tw.2]
    unfold dgI
    by_cases h : n < 0
    · rw [if_pos h]
      simp only [List.head?_cons, if_true, List.drop_succ_cons, List.drop_zero]
      rw [readNum_dg (by omega)]
      simp
      omega
    · rw [if_neg h, hc]
      have h45 : ¬ (c :: r).head? = some 45 := by simp; omega
      rw [if_neg h45, ← hc, readNum_dg (by omega)]
      dsimp only
      rw [hc, if_neg h45]
      congr 3
      omega
def vals (vs : List Va) (t : List Nat) : List Nat := match vs with
  | [] => t
  | v :: vs => 32 :: (v.t ++ vals vs t)
theorem vals_tail (vs : List Va) {t : List Nat} (h : Tail t) : Tail (vals vs t) := by
  cases vs with
  | nil => exact h
  | cons v vs => exact .inr ⟨_, rfl⟩
theorem readVals_t : ∀ (vs : List Va) (k : Nat), vs.all Va.ok = true → (vals vs []).length < k → readVals k (vals vs []) = some vs
  | [], k + 1, _, _ => rfl
  | v :: vs, k + 1, h, hk => by
    rw [List.all_cons, Bool.and_eq_true] at h
    have ih := readVals_t vs k h.2 (by
      have : (vals (v :: vs) []).length = 1 + (v.t.length + (vals vs []).length) := by simp [vals]; omega
      omega)
    show (if 32 = 32 then _ else _) = _
    rw [if_pos rfl, readVal_t h.1 (vals_tail vs (.inl rfl))]
    dsimp only
    rw [ih]
  | _, 0, _, hk => by omega
theorem readVal_nil : readVal [] = none := by decide
theorem readVals_b : ∀ (vs : List Va) (k : Nat), vs.all Va.ok = true → readVals k (vals vs [32]) = none
  | _, 0, _ => rfl
  | [], k + 1, _ => by
    show (if 32 = 32 then _ else _) = _
    rw [if_pos rfl, readVal_nil]
  | v :: vs, k + 1, h => by
    rw [List.all_cons, Bool.and_eq_true] at h
    have ih := readVals_b vs k h.2
    show (if 32 = 32 then _ else _) = _
    rw [if_pos rfl, readVal_t h.1 (vals_tail vs (.inr ⟨_, rfl⟩))]
    dsimp only
    rw [ih]
theorem spM_app {k : Nat} {p r : List Nat} (h : 32 ∉ p) : spM 32 (k + 1) (p ++ 32 :: r) = p :: spM 32 k r := by
  rw [spM, if_pos (by simp), (tw_app h).1, (tw_app h).2]
  rfl
theorem spM_free {k : Nat} {p : List Nat} (h : 32 ∉ p) : spM 32 k p = [p] := by
  cases k with
  | zero => rfl
  | succ k => rw [spM, if_neg h]
theorem jn_vals (vs : List Va) (p : List Nat) : jn (p :: vs.map Va.t) = p ++ vals vs [] := by
  induction vs generalizing p with
  | nil => simp [jn, vals]
  | cons v vs ih =>
    show p ++ 32 :: jn (v.t :: vs.map Va.t) = _
    rw [ih]
    rfl
theorem vals_b (vs : List Va) : vals vs [] ++ [32] = vals vs [32] := by
  induction vs with
  | nil => rfl
  | cons v vs ih =>
    show (32 :: (v.t ++ vals vs [])) ++ [32] = 32 :: (v.t ++ vals vs [32])
    rw [← ih]
    simp
theorem dg_free (n : Nat) : 32 ∉ dg n := fun z => by
  have := dg_digits n 32 z
  omega
/-- the call's text, its end left open -/
theorem call_words {h k : Nat} {m f t : List Nat} (hm : 32 ∉ m) (hf : 32 ∉ f) (ht : Tail t) : ∃ tl, spM 32 4 (dg h ++ 32 :: (dg k ++ 32 :: (m ++ 32 :: (f ++ t)))) = dg h :: dg k :: m :: f :: tl ∧ ((t = [] ∧ tl = []) ∨ ∃ r, t = 32 :: r ∧ tl = [r]) := by
  rw [spM_app (dg_free h), spM_app (dg_free k), spM_app hm]
  rcases ht with rfl | ⟨r, rfl⟩
  · rw [List.append_nil, spM_free hf]
    exact ⟨[], rfl, .inl ⟨rfl, rfl⟩⟩
  · rw [spM_app hf]
    exact ⟨[r], rfl, .inr ⟨r, rfl, rfl⟩⟩
def two : List (List Nat) := [[97], [97, 98, 99, 100, 101, 102]]
def fs : List (List Nat) := [[102], [97, 98, 99, 100, 101, 102]]
def ents : List (List (List Nat)) := [[[97]], [[97, 98, 99, 100, 101, 102], [98]], [[99], [97], [98]]]
def Va.fit : Va → Prop
  | .i _ => True
  | .s l => ∀ c ∈ l, c < 1114112
/-- what the law draws -/
def Rec.dr : Rec → Prop
  | .ent ns => ns ∈ ents
  | .txt m t => m ∈ two ∧ 124 ∉ t ∧ t.length ≤ 600 ∧ ∀ c ∈ t, c < 1114112
  | .rem m => m ∈ two
  | .upd n => n < 9
  | .cal h k m f vs => h < 3 ∧ k ≤ 9999 ∧ m = [97] ∧ f ∈ fs ∧ vs.length ≤ 3 ∧ ∀ v ∈ vs, v.ok = true ∧ v.fit
theorem two_ok : ∀ m ∈ two, isName m = true ∧ 32 ∉ m := by decide
theorem fs_ok : ∀ m ∈ fs, isName m = true ∧ 32 ∉ m := by decide
theorem ents_read : ∀ ns ∈ ents, readRec (Rec.ent ns).t = some (.ent ns) ∧ readRec ((Rec.ent ns).t ++ [32]) = none := by decide +kernel
theorem rem_read : ∀ m ∈ two, readRec (Rec.rem m).t = some (.rem m) ∧ readRec ((Rec.rem m).t ++ [32]) = none := by decide +kernel
theorem upd_read : ∀ n : Fin 9, readRec (Rec.upd n).t = some (.upd n) ∧ readRec ((Rec.upd n).t ++ [32]) = none := by decide +kernel
theorem call_t {h k : Nat} {m f : List Nat} {vs : List Va} {t : List Nat} : (Rec.cal h k m f vs).t ++ t = zcall ++ 32 :: (dg h ++ 32 :: (dg k ++ 32 :: (m ++ 32 :: (f ++ (vals vs [] ++ t))))) := by
  show jn (head h k m f :: vs.map Va.t) ++ t = _
  rw [jn_vals]
  simp [head]
theorem call_read {h k : Nat} {m f : List Nat} {vs : List Va} (dr : (Rec.cal h k m f vs).dr) : readRec (Rec.cal h k m f vs).t = some (.cal h k m f vs) ∧ readRec ((Rec.cal h k m f vs).t ++ [32]) = none := by
  obtain ⟨hh, hk, rfl, hf, hl, hv⟩ := dr
  obtain ⟨f1, f2⟩ := fs_ok f hf
  have hv' : vs.all Va.ok = true := by
    rw [List.all_eq_true]
    exact fun v hm => (hv v hm).1
  have hm : isName [97] = true := by decide
  have gen : ∀ t, readR ((zcall ++ 32 :: t).takeWhile (· != 32)) (((zcall ++ 32 :: t).dropWhile (· != 32)).drop 1) = readCallW (spM 32 4 t) := by
    intro t
    rw [(tw_app (c := 32) (p := zcall) (r := t) (by decide)).1, (tw_app (c := 32) (p := zcall) (r := t) (by decide)).2]
    unfold readR
    rw [if_neg (by decide), if_pos rfl]
    rfl
  refine ⟨?_, ?_⟩
  · unfold readRec
    have e := call_t (h := h) (k := k) (m := [97]) (f := f) (vs := vs) (t := [])
    rw [List.append_nil, List.append_nil] at e
    rw [e, gen]
    obtain ⟨tl, h1, h2⟩ := call_words (h := h) (k := k) (m := [97]) (f := f) (by decide) f2 (vals_tail vs (.inl rfl))
    rw [h1]
    have h3 : readTl tl = some vs := by
      rcases h2 with ⟨h2, rfl⟩ | ⟨r, h2, rfl⟩
      · cases vs with
        | nil => rfl
        | cons v vs => cases h2
      · unfold readTl
        dsimp only
        rw [← h2]
        refine readVals_t vs _ hv' ?_
        rw [h2]
        simp
    unfold readCallW
    dsimp only
    rw [readNum_dg (by omega), readNum_dg hk, h3]
    dsimp only
    rw [hm, f1, hv', decide_eq_true hl]
    simp only [Bool.and_self, if_true]
    rw [← e, if_pos rfl]
  · unfold readRec
    rw [call_t, gen, vals_b]
    obtain ⟨tl, h1, h2⟩ := call_words (h := h) (k := k) (m := [97]) (f := f) (by decide) f2 (vals_tail vs (t := [32]) (.inr ⟨_, rfl⟩))
    rw [h1]
    have h3 : readTl tl = none := by
      rcases h2 with ⟨h2, rfl⟩ | ⟨r, h2, rfl⟩
      · cases vs with
        | nil => cases h2
        | cons v vs => cases h2
      · unfold readTl
        dsimp only
        rw [← h2]
        exact readVals_b vs _ hv'
    unfold readCallW
    dsimp only
    rw [readNum_dg (by omega), readNum_dg hk, h3]
theorem txt_read {m t : List Nat} (dr : (Rec.txt m t).dr) : readRec (Rec.txt m t).t = some (.txt m t) := by
  obtain ⟨hm, h124, hl, _⟩ := dr
  obtain ⟨m1, m2⟩ := two_ok m hm
  unfold readRec
  have e : (Rec.txt m t).t = ztext ++ 32 :: (m ++ 32 :: t.map fun x => if x = 10 then 124 else x) := rfl
  rw [e, (tw_app (c := 32) (p := ztext) (by decide)).1, (tw_app (c := 32) (p := ztext) (by decide)).2]
  unfold readR
  rw [if_neg (by decide), if_neg (by decide), if_neg (by decide), if_neg (by decide), if_pos rfl]
  rw [List.drop_succ_cons, List.drop_zero, (tw_app m2).1, (tw_app m2).2, List.drop_succ_cons, List.drop_zero, m1, List.length_map, decide_eq_true hl]
  have back : (t.map fun x => if x = 10 then 124 else x).map (fun x => if x = 124 then 10 else x) = t := by
    rw [List.map_map]
    conv => rhs; rw [← List.map_id t]
    refine List.map_congr_left fun x hx => ?_
    have : ¬ x = 124 := fun z => h124 (by rw [← z]; exact hx)
    show (if (if x = 10 then 124 else x) = 124 then 10 else (if x = 10 then 124 else x)) = x
    by_cases h : x = 10
    · rw [if_pos h, if_pos rfl, h]
    · rw [if_neg h, if_neg this]
  rw [back]
  simp [e]
theorem read_dr {r : Rec} (h : r.dr) : readRec r.t = some r := by
  cases r with
  | ent ns => exact (ents_read ns h).1
  | txt m t => exact txt_read h
  | rem m => exact (rem_read m h).1
  | upd n => exact (upd_read ⟨n, h⟩).1
  | cal h' k m f vs => exact (call_read h).1
theorem read_b {r : Rec} (h : r.dr) (ht : ∀ m t, r ≠ .txt m t) : readRec (r.t ++ [32]) = none := by
  cases r with
  | ent ns => exact (ents_read ns h).2
  | txt m t => exact absurd rfl (ht m t)
  | rem m => exact (rem_read m h).2
  | upd n => exact (upd_read ⟨n, h⟩).2
  | cal h' k m f vs => exact (call_read h).2
end K45

/-! k46, k47, k48: the blocks of records, and what is read of a disk: plain -/
namespace Blk
open PySem PySem.Spec PySem.NumText Lg K45
abbrev intsD (ns : List Int) : List PyData := ns.map PyData.int
def codes (l : List Nat) : List Int := l.map fun (c : Nat) => (c : Int)
@[simp] theorem codes_len (l : List Nat) : (codes l).length = l.length := by simp [codes]
def piece (k m num : Int) (l : List Nat) : List Int := [83, k, m, num / 256, num % 256, (l.length : Int)] ++ codes l ++ List.replicate (25 - l.length) 0 ++ [83]
def chunk (l : List Nat) (k : Nat) : List Nat := (l.drop (24 * k)).take 24
def many (l : List Nat) : Nat := (l.length + 23) / 24
def enc (num : Int) (l : List Nat) : List PyData := (List.range (many l)).map fun (k : Nat) => .list (intsD (piece (k : Int) (many l) num (chunk l k)))
def okB (c : Int) : Bool := decide (32 ≤ c) && decide (c ≤ 126) && !decide (c = 37)
def signs : List Nat := (List.range' 32 95).filter (· ≠ 37)
theorem signs_pre {c : Nat} (h0 : 32 ≤ c) (h1 : c < 37) : signs[c - 32]? = some c := by
  have : c = 32 ∨ c = 33 ∨ c = 34 ∨ c = 35 ∨ c = 36 := by omega
  rcases this with rfl | rfl | rfl | rfl | rfl <;> decide +kernel
theorem signs_post' : ∀ k : Fin 89, signs[k.1 + 5]? = some (k.1 + 38) := by decide +kernel
theorem signs_post {c : Nat} (h0 : 37 < c) (h1 : c ≤ 126) : signs[c - 33]? = some c := by
  have := signs_post' ⟨c - 38, by omega⟩
  simp only at this
  rw [show c - 38 + 5 = c - 33 by omega, show c - 38 + 38 = c by omega] at this
  exact this
theorem signs_asc : Asc signs := by
  have : ∀ c ∈ signs, c < 1114112 := by decide +kernel
  exact this
theorem signs_eq : (" !\"#$&'()*+,-./0123456789:;<=>?@ABCDEFGHIJKLMNOPQRSTUVWXYZ[\\]^_`abcdefghijklmnopqrstuvwxyz{|}~" : Str) = S signs := by decide +kernel
theorem signs_len : signs.length = 94 := by decide +kernel
theorem mask255 {i : Int} (h : 0 ≤ i) : Builtin.bitAnd i 255 = i % 256 := Bits.bitAnd_mask 8 h
def dec (b : List Int) : PyData :=
  if b.getD 0 0 ≠ 83 ∨ b.getD 31 0 ≠ 83 then .none
  else if b.getD 2 0 ≤ b.getD 1 0 ∨ ¬ (1 ≤ b.getD 5 0 ∧ b.getD 5 0 ≤ 24) ∨ ((b.drop (6 + (b.getD 5 0).toNat)).take (31 - (6 + (b.getD 5 0).toNat))).any (· != 0) = true then .none
  else if ((b.drop 6).take (b.getD 5 0).toNat).all okB = false then .none
  else .tuple [.int (b.getD 1 0), .int (b.getD 2 0), .int (b.getD 3 0 * 256 + b.getD 4 0), .str (S (((b.drop 6).take (b.getD 5 0).toNat).map Int.toNat))]
theorem piece_cons (k m num : Int) (l : List Nat) : piece k m num l = 83 :: k :: m :: num / 256 :: num % 256 :: (l.length : Int) :: (codes l ++ (List.replicate (25 - l.length) 0 ++ [83])) := by
  simp [piece]
theorem piece_len {k m num : Int} {l : List Nat} (h : l.length ≤ 24) : (piece k m num l).length = 32 := by
  rw [piece_cons]; simp; omega
theorem piece_31 {k m num : Int} {l : List Nat} (h : l.length ≤ 24) : (piece k m num l).getD 31 0 = 83 := by
  have e : piece k m num l = ([83, k, m, num / 256, num % 256, (l.length : Int)] ++ codes l ++ List.replicate (25 - l.length) 0) ++ [83] := rfl
  have hl : ([83, k, m, num / 256, num % 256, (l.length : Int)] ++ codes l ++ List.replicate (25 - l.length) (0 : Int)).length = 31 := by simp; omega
  rw [List.getD_eq_getElem?_getD, e, List.getElem?_append_right (by omega), hl]
  rfl
theorem dec_piece {k m num : Int} {l : List Nat} (h0 : 1 ≤ l.length) (h1 : l.length ≤ 24) (hk : k < m) (hc : ∀ c ∈ l, c ∈ signs) : dec (piece k m num l) = .tuple [.int k, .int m, .int num, .str (S l)] := by
  have e0 : (piece k m num l).getD 0 0 = 83 := by rw [piece_cons]; rfl
  have e1 : (piece k m num l).getD 1 0 = k := by rw [piece_cons]; rfl
  have e2 : (piece k m num l).getD 2 0 = m := by rw [piece_cons]; rfl
  have e3 : (piece k m num l).getD 3 0 = num / 256 := by rw [piece_cons]; rfl
  have e4 : (piece k m num l).getD 4 0 = num % 256 := by rw [piece_cons]; rfl
  have e5 : (piece k m num l).getD 5 0 = (l.length : Int) := by rw [piece_cons]; rfl
  have d6 : (piece k m num l).drop 6 = codes l ++ (List.replicate (25 - l.length) 0 ++ [83]) := by rw [piece_cons]; rfl
  have t6 : ((piece k m num l).drop 6).take l.length = codes l := by
    rw [d6, List.take_append_of_le_length (by simp), List.take_of_length_le (by simp)]
  have d7 : ((piece k m num l).drop (6 + l.length)).take (31 - (6 + l.length)) = List.replicate (25 - l.length) 0 := by
    rw [← List.drop_drop, d6, List.drop_left' (by simp), List.take_append_of_le_length (by simp; omega), List.take_of_length_le (by simp; omega)]
  have ok : (codes l).all okB = true := List.all_eq_true.mpr fun c hc' => by
    obtain ⟨n, hn, rfl⟩ := List.mem_map.mp hc'
    have h2 := hc n hn
    unfold signs at h2
    simp [List.mem_filter] at h2
    unfold okB
    simp
    omega
  unfold dec
  rw [e0, piece_31 h1, e1, e2, e3, e4, e5, Int.toNat_natCast, d7, t6, ok, if_neg (by decide), if_neg, if_neg (by decide)]
  · have e6 : num / 256 * 256 + num % 256 = num := by omega
    have e7 : (codes l).map Int.toNat = l := by simp [codes, Function.comp_def]
    rw [e6, e7]
  · intro q
    rcases q with q | q | q
    · omega
    · exact q ⟨by omega, by omega⟩
    · simp at q
theorem chunk_len {l : List Nat} {i : Nat} (h : i < many l) : 1 ≤ (chunk l i).length ∧ (chunk l i).length ≤ 24 := by
  unfold chunk many at *
  simp
  omega
theorem chunk_mem {l : List Nat} {i c : Nat} (h : c ∈ chunk l i) : c ∈ l := List.mem_of_mem_drop (List.mem_of_mem_take h)
/-- a block as a piece: place, count, number, text -/
def decP (b : List Int) : Option (Int × Int × Int × List Nat) :=
  if b.getD 0 0 ≠ 83 ∨ b.getD 31 0 ≠ 83 then none
  else if b.getD 2 0 ≤ b.getD 1 0 ∨ ¬ (1 ≤ b.getD 5 0 ∧ b.getD 5 0 ≤ 24) ∨ ((b.drop (6 + (b.getD 5 0).toNat)).take (31 - (6 + (b.getD 5 0).toNat))).any (· != 0) = true then none
  else if ((b.drop 6).take (b.getD 5 0).toNat).all okB = false then none
  else some (b.getD 1 0, b.getD 2 0, b.getD 3 0 * 256 + b.getD 4 0, ((b.drop 6).take (b.getD 5 0).toNat).map Int.toNat)
def pD : Option (Int × Int × Int × List Nat) → PyData
  | none => .none
  | some (p, m, n, t) => .tuple [.int p, .int m, .int n, .str (S t)]
theorem dec_is (b : List Int) : dec b = pD (decP b) := by
  unfold dec decP
  split
  · rfl
  split
  · rfl
  split
  · rfl
  · rfl
theorem decP_piece {k m num : Int} {l : List Nat} (h0 : 1 ≤ l.length) (h1 : l.length ≤ 24) (hk : k < m) (hc : ∀ c ∈ l, c ∈ signs) : decP (piece k m num l) = some (k, m, num, l) := by
  have h := dec_piece (num := num) h0 h1 hk hc
  rw [dec_is] at h
  cases hd : decP (piece k m num l) with
  | none => rw [hd] at h; cases h
  | some q =>
    obtain ⟨a, b, c, t⟩ := q
    rw [hd] at h
    simp only [pD, PyData.tuple.injEq, List.cons.injEq, PyData.int.injEq, PyData.str.injEq] at h
    obtain ⟨rfl, rfl, rfl, e, _⟩ := h
    rw [S_inj e]
theorem decP_zero : decP (List.replicate 32 0) = none := by decide +kernel
/-- the blocks of a record -/
def encB (num : Nat) (l : List Nat) : List (List Int) := (List.range (many l)).map fun (k : Nat) => piece (k : Int) (many l) num (chunk l k)
/-- the pieces from a place on; ts: the texts so far, m: how many there have to be -/
def rdT (D : List (List Int)) (first num : Nat) : Nat → List (List Nat) → Int → Option (List Nat × Int)
  | 0, _, _ => none
  | f + 1, ts, m =>
    if (ts.length : Int) < m then
      if first + ts.length = D.length then none
      else match decP (D.getD (first + ts.length) []) with
        | none => none
        | some (p, k, n, t) =>
          if p ≠ ts.length ∨ n ≠ num ∨ (ts ≠ [] ∧ k ≠ m) then none
          else if ts ≠ [] ∧ (ts.getLastD []).length < 24 then none
          else rdT D first num f (ts ++ [t]) k
    else if 30 < m then none else some (ts.flatten, m)
def readText (D : List (List Int)) (first num : Nat) : Option (List Nat × Int) := rdT D first num (D.length + 2) [] 1
theorem encB_len {n : Nat} {l : List Nat} : (encB n l).length = many l := by simp [encB]
theorem encB_at {n k : Nat} {l : List Nat} (h : k < many l) : (encB n l)[k]? = some (piece (k : Int) (many l) n (chunk l k)) := by
  unfold encB
  simp [h]
theorem chunk_full {l : List Nat} {k : Nat} (h : k + 1 < many l) : (chunk l k).length = 24 := by
  unfold chunk many at *
  simp
  omega
theorem chunks_all (l : List Nat) : ∀ n, ((List.range n).map (chunk l)).flatten = l.take (24 * n)
  | 0 => by simp
  | n + 1 => by
    rw [List.range_succ, List.map_append, List.flatten_append, chunks_all l n]
    show l.take (24 * n) ++ [chunk l n].flatten = _
    rw [List.flatten_cons, List.flatten_nil, List.append_nil]
    unfold chunk
    rw [Nat.mul_add, Nat.mul_one, List.take_add]
theorem chunks_whole (l : List Nat) : ((List.range (many l)).map (chunk l)).flatten = l := by
  rw [chunks_all, List.take_of_length_le]
  unfold many
  omega
/-- a record that stands there is read -/
theorem readText_ok {D : List (List Int)} {first n : Nat} {l : List Nat} (h1 : 1 ≤ l.length) (h2 : l.length ≤ 720) (hc : ∀ c ∈ l, c ∈ signs) (hD : ∀ k, k < many l → D[first + k]? = (encB n l)[k]?) : readText D first n = some (l, (many l : Int)) := by
  have hm1 : 1 ≤ many l := by unfold many; omega
  have hm30 : many l ≤ 30 := by unfold many; omega
  have hDl : first + many l ≤ D.length := by
    have := hD (many l - 1) (by omega)
    rw [encB_at (by omega)] at this
    have := (List.getElem?_eq_some_iff.mp this).1
    omega
  have at_ : ∀ k, k < many l → D.getD (first + k) [] = piece (k : Int) (many l) n (chunk l k) := fun k hk => by
    rw [List.getD_eq_getElem?_getD, hD k hk, encB_at hk]
    rfl
  have go : ∀ (j k f : Nat) (m : Int), many l - k = j → k ≤ many l → j < f → (k = 0 → m = 1) → (0 < k → m = many l) → rdT D first n f ((List.range k).map (chunk l)) m = some (l, (many l : Int)) := by
    intro j
    induction j with
    | zero =>
      intro k f m hj hk hf m0 m1
      obtain ⟨f, rfl⟩ : ∃ g, f = g + 1 := ⟨f - 1, by omega⟩
      have hkm : k = many l := by omega
      subst hkm
      have hm := m1 (by omega)
      unfold rdT
      rw [if_neg (by simp; omega), if_neg (by omega), chunks_whole, hm]
    | succ j ih =>
      intro k f m hj hk hf m0 m1
      obtain ⟨f, rfl⟩ : ∃ g, f = g + 1 := ⟨f - 1, by omega⟩
      have hkl : k < many l := by omega
      obtain ⟨c1, c2⟩ := chunk_len hkl
      have hp := decP_piece (k := (k : Int)) (m := (many l : Int)) (num := (n : Int)) c1 c2 (by omega) fun c hx => hc c (chunk_mem hx)
      unfold rdT
      have hlen : ((List.range k).map (chunk l)).length = k := by simp
      rw [hlen, if_pos, if_neg (by omega), at_ k hkl, hp]
      · dsimp only
        rw [if_neg, if_neg]
        · have e : (List.range k).map (chunk l) ++ [chunk l k] = (List.range (k + 1)).map (chunk l) := by
            rw [List.range_succ, List.map_append]
            rfl
          rw [e]
          exact ih (k + 1) f _ (by omega) (by omega) (by omega) (by omega) fun _ => rfl
        · rintro ⟨z1, z2⟩
          have hk0 : 0 < k := by
            cases k with
            | zero => exact absurd rfl z1
            | succ k => omega
          obtain ⟨k', rfl⟩ : ∃ k', k = k' + 1 := ⟨k - 1, by omega⟩
          have : ((List.range (k' + 1)).map (chunk l)).getLastD [] = chunk l k' := by
            rw [List.range_succ, List.map_append]
            simp
          rw [this, chunk_full hkl] at z2
          omega
        · rintro (z | z | ⟨z1, z2⟩)
          · exact z rfl
          · exact z rfl
          · have hk0 : 0 < k := by
              cases k with
              | zero => exact absurd rfl z1
              | succ k => omega
            exact z2 (m1 hk0).symm
      · by_cases hk0 : k = 0
        · rw [m0 hk0, hk0]; decide
        · rw [m1 (by omega)]; omega
  exact go (many l) 0 (D.length + 2) 1 (by omega) (by omega) (by omega) (fun _ => rfl) (by omega)
end Blk

/-! k46, k47, k48: what is read of a disk, and which records are good: plain -/
namespace Blk
open PySem PySem.Spec PySem.NumText Lg K45
theorem decP_some {b : List Int} {p k n : Int} {t : List Nat} (h : decP b = some (p, k, n, t)) : p < k ∧ t.length ≤ 24 := by
  unfold decP at h
  split at h
  · cases h
  split at h
  · cases h
  split at h
  · cases h
  rename_i h1 h2 h3
  cases h
  refine ⟨?_, ?_⟩
  · have := fun z => h2 (.inl z)
    omega
  · rw [List.length_map, List.length_take]
    have : 1 ≤ b.getD 5 0 ∧ b.getD 5 0 ≤ 24 := Classical.byContradiction fun z => h2 (.inr (.inl z))
    omega
theorem rdT_some {D : List (List Int)} {first n : Nat} : ∀ (f : Nat) {ts : List (List Nat)} {m : Int} {l : List Nat} {k : Int}, rdT D first n f ts m = some (l, k) → (ts = [] → m = 1) → (ts.length : Int) ≤ m → (∀ t ∈ ts, t.length ≤ 24) → first + ts.length ≤ D.length → 1 ≤ k ∧ k ≤ 30 ∧ first + k.toNat ≤ D.length ∧ l.length ≤ 720
  | 0, _, _, _, _, h, _, _, _, _ => by cases h
  | f + 1, ts, m, l, k, h, h0, h1, h2, h3 => by
    unfold rdT at h
    split at h
    · split at h
      · cases h
      · rename_i hm hD
        split at h
        · cases h
        · rename_i p k' n' t hd
          obtain ⟨d1, d2⟩ := decP_some hd
          split at h
          · cases h
          · rename_i hp
            split at h
            · cases h
            · have hp' : p = ts.length := Classical.byContradiction fun z => hp (.inl z)
              refine rdT_some f h (fun z => ?_) ?_ (fun x hx => ?_) ?_
              · simp at z
              · simp; omega
              · rcases List.mem_append.mp hx with hx | hx
                · exact h2 x hx
                · simp only [List.mem_cons, List.mem_nil_iff, or_false] at hx
                  subst hx
                  exact d2
              · simp; omega
    · split at h
      · cases h
      · rename_i hm h30
        cases h
        have hne : ts ≠ [] := by
          rintro rfl
          have := h0 rfl
          simp at hm
          omega
        have h1' : 1 ≤ ts.length := by
          cases ts with
          | nil => exact absurd rfl hne
          | cons _ _ => simp
        refine ⟨by omega, by omega, by omega, ?_⟩
        have : ts.flatten.length ≤ 24 * ts.length := by
          clear h0 h1 h3 hm h30 hne h1'
          induction ts with
          | nil => simp
          | cons t ts ih =>
            have h4 := h2 t (.head _)
            have h5 := ih fun x hx => h2 x (.tail _ hx)
            simp only [List.flatten_cons, List.length_append, List.length_cons]
            omega
        omega
theorem readText_some {D : List (List Int)} {first n : Nat} {l : List Nat} {k : Int} (h : readText D first n = some (l, k)) (hf : first ≤ D.length) : 1 ≤ k ∧ k ≤ 30 ∧ first + k.toNat ≤ D.length ∧ l.length ≤ 720 :=
  rdT_some _ h (fun _ => rfl) (by simp) (fun _ h => by cases h) (by simpa using hf)
def isEnt : Rec → Bool
  | .ent _ => true
  | _ => false
/-- what _read_records reads: the records, and where each one ends -/
def rdL (D : List (List Int)) : Nat → List Rec → List Nat → Option (List Nat × Int) → List Rec × List Nat
  | 0, rs, es, _ => (rs, es)
  | _ + 1, rs, es, none => (rs, es)
  | f + 1, rs, es, some (t, m) => match readRec t with
    | none => (rs, es)
    | some r => if isEnt r ≠ rs.isEmpty then (rs, es)
      else rdL D f (rs ++ [r]) (es ++ [es.getLastD 0 + m.toNat]) (readText D (es.getLastD 0 + m.toNat) (rs.length + 1))
def readLog (D : List (List Int)) : List Rec × List Nat := rdL D (D.length + 1) [] [0] (readText D 0 0)
/-- one more record: the names that are changed, and the calls of each holder; none: it does not fit -/
def gst1 (s : List (List Nat) × List Int) (r : Rec) : Option (List (List Nat) × List Int) := match r with
  | .ent _ => some s
  | .txt m _ => some (s.1 ++ [m], s.2)
  | .rem m => some (s.1 ++ [m], s.2)
  | .upd n => if n ≠ s.1.length ∨ ¬ s.1.Nodup then none else some ([], s.2)
  | .cal h k _ _ _ => if s.1 ≠ [] ∨ (k : Int) ≠ s.2.getD h 0 then none else some (s.1, s.2.set h ((k : Int) + 1))
def goodGo : Nat → List Rec → List (List Nat) × List Int → Nat
  | at', [], s => at' - s.1.length
  | at', r :: rs, s => match gst1 s r with
    | none => at' - s.1.length
    | some s' => goodGo (at' + 1) rs s'
def good (rs : List Rec) : Nat := goodGo 0 rs ([], [0, 0, 0])
def gst : List Rec → List (List Nat) × List Int → Option (List (List Nat) × List Int)
  | [], s => some s
  | r :: rs, s => match gst1 s r with
    | none => none
    | some s' => gst rs s'
theorem gst_app {rs ss : List Rec} {s s' : List (List Nat) × List Int} (h : gst rs s = some s') : gst (rs ++ ss) s = gst ss s' := by
  induction rs generalizing s with
  | nil => cases h; rfl
  | cons r rs ih =>
    unfold gst at h
    rw [List.cons_append]
    conv => lhs; unfold gst
    split at h
    · cases h
    · exact ih h
theorem goodGo_gst {rs : List Rec} {n : Nat} {s s' : List (List Nat) × List Int} (h : gst rs s = some s') : goodGo n rs s = n + rs.length - s'.1.length := by
  induction rs generalizing s n with
  | nil => cases h; rfl
  | cons r rs ih =>
    unfold gst at h
    unfold goodGo
    split at h
    · cases h
    · rw [ih h, List.length_cons]
      congr 1
      omega
theorem good_whole {rs : List Rec} {cs : List Int} (h : gst rs ([], [0, 0, 0]) = some ([], cs)) : good rs = rs.length := by
  unfold good
  rw [goodGo_gst h]
  simp
/-- blocks of records behind one another -/
def blk : Nat → List Rec → List (List Int)
  | _, [] => []
  | n, r :: rs => encB n r.t ++ blk (n + 1) rs
theorem blk_app {n : Nat} {rs ss : List Rec} : blk n (rs ++ ss) = blk n rs ++ blk (n + rs.length) ss := by
  induction rs generalizing n with
  | nil => simp [blk]
  | cons r rs ih =>
    rw [List.cons_append, blk, blk, ih, List.append_assoc, List.length_cons]
    congr 3
    omega
/-- a record that can be written and read -/
structure Fine (r : Rec) : Prop where
  few : r.few = true
  t0 : 1 ≤ r.t.length
  t1 : r.t.length ≤ 720
  sg : ∀ c ∈ r.t, c ∈ signs
  rd : readRec r.t = some r
def Z (n : Nat) : List (List Int) := List.replicate n (List.replicate 32 0)
theorem readText_Z {X : List (List Int)} {n k : Nat} : readText (X ++ Z n) X.length k = none := by
  unfold readText rdT
  rw [if_pos (by decide)]
  cases n with
  | zero => rw [if_pos (by simp [Z])]
  | succ n =>
    rw [if_neg (by simp [Z])]
    have e : (X ++ Z (n + 1)).getD (X.length + ([] : List (List Nat)).length) [] = List.replicate 32 0 := by
      rw [List.getD_eq_getElem?_getD, List.getElem?_append_right (by simp)]
      simp [Z, List.replicate_succ]
    rw [e, decP_zero]
theorem many_pos {l : List Nat} (h : 1 ≤ l.length) : 1 ≤ many l := by unfold many; omega
def endsOf : Nat → List Rec → List Nat
  | _, [] => []
  | e, r :: rs => (e + many r.t) :: endsOf (e + many r.t) rs
theorem rdL_blk {D : List (List Int)} : ∀ (rs : List Rec) (pre : List Rec) (X : List (List Int)) (es : List Nat) (Y : List (List Int)) (f : Nat), D = X ++ blk pre.length rs ++ Y → es.getLastD 0 = X.length → (∀ r ∈ rs, Fine r) → (∀ (r : Rec) (i : Nat), rs[i]? = some r → isEnt r = (pre.isEmpty && decide (i = 0))) → rs.length < f → readText D (X.length + (blk pre.length rs).length) (pre.length + rs.length) = none →
    rdL D f pre es (readText D X.length pre.length) = (pre ++ rs, es ++ endsOf X.length rs)
  | [], pre, X, es, Y, f, hD, he, hf, hi, hl, hn => by
    simp only [blk, List.length_nil, Nat.add_zero] at hn
    rw [hn]
    cases f with
    | zero => simp at hl
    | succ f => simp [rdL, endsOf]
  | r :: rs, pre, X, es, Y, f, hD, he, hf, hi, hl, hn => by
    obtain ⟨f, rfl⟩ : ∃ g, f = g + 1 := ⟨f - 1, by simp at hl; omega⟩
    have fr := hf r (.head _)
    have e1 : readText D X.length pre.length = some (r.t, (many r.t : Int)) := by
      refine readText_ok fr.t0 fr.t1 fr.sg fun k hk => ?_
      rw [hD, blk, List.append_assoc, List.append_assoc, List.getElem?_append_right (by omega), show X.length + k - X.length = k by omega, List.getElem?_append_left (by rw [encB_len]; exact hk)]
    rw [e1]
    unfold rdL
    rw [fr.rd]
    dsimp only
    have h0 := hi r 0 rfl
    simp only [decide_true, Bool.and_true] at h0
    rw [h0, if_neg (by simp), he, Int.toNat_natCast]
    have ih := rdL_blk (D := D) rs (pre ++ [r]) (X ++ encB pre.length r.t) (es ++ [X.length + many r.t]) Y f (by
      rw [hD, blk, List.length_append, List.length_singleton]
      simp) (by simp [encB_len]) (fun x hx => hf x (.tail _ hx)) (fun x i hx => by
        have := hi x (i + 1) (by simpa using hx)
        rw [this]
        simp) (by simp at hl; omega) (by
        rw [blk] at hn
        simp only [List.length_append, List.length_cons, List.length_nil, Nat.zero_add] at hn ⊢
        rw [← Nat.add_assoc] at hn
        rw [show pre.length + 1 + rs.length = pre.length + (rs.length + 1) by omega]
        exact hn)
    rw [List.length_append, encB_len, List.length_append, List.length_singleton] at ih
    rw [ih]
    simp [endsOf]
end Blk

/-! k46, k47, k48: what holds of what is read; a log that was written is read: plain -/
namespace Blk
open PySem PySem.Spec PySem.NumText Lg K45
def holdOK : Rec → Prop
  | .cal h _ _ _ _ => h < 3
  | _ => True
theorem readCallW_hold {ws : List (List Nat)} {r : Rec} (h : readCallW ws = some r) : holdOK r := by
  unfold readCallW at h
  split at h
  · rename_i w0 w1 w2 w3 tl
    cases h0 : readNum w0 2 with
    | none => rw [h0] at h; cases h
    | some a =>
      cases h1 : readNum w1 9999 with
      | none => rw [h0, h1] at h; cases h
      | some k =>
        cases h2 : readTl tl with
        | none => rw [h0, h1, h2] at h; cases h
        | some vs =>
          rw [h0, h1, h2] at h
          dsimp only at h
          split at h
          · split at h
            · cases h
              have := readNum_le h0
              show a < 3
              omega
            · cases h
          · cases h
  · cases h
theorem readR_hold {w rest : List Nat} {r : Rec} (h : readR w rest = some r) : holdOK r := by
  unfold readR at h
  split at h
  · split at h
    · cases h; trivial
    · cases h
  split at h
  · exact readCallW_hold h
  split at h
  · split at h
    · cases h; trivial
    · cases h
  split at h
  · split at h
    · cases h
    · cases h; trivial
  split at h
  · split at h
    · cases h; trivial
    · cases h
  · cases h
theorem readRec_hold {l : List Nat} {r : Rec} (h : readRec l = some r) : holdOK r := by
  unfold readRec at h
  split at h
  · cases h
  · rename_i r' h1
    split at h
    · cases h
      exact readR_hold h1
    · cases h
/-- what holds of what is read of a log -/
structure LogI (D : List (List Int)) (rs : List Rec) (es : List Nat) : Prop where
  len : es.length = rs.length + 1
  fit : ∀ e ∈ es, e ≤ D.length
  hold : ∀ r ∈ rs, holdOK r
  few : rs.length ≤ es.getLastD 0
theorem LogI.last {D : List (List Int)} {rs : List Rec} {es : List Nat} (h : LogI D rs es) : es.getLastD 0 ≤ D.length := by
  have h1 := h.len
  rcases List.eq_nil_or_concat es with h2 | ⟨p, x, h2⟩
  · rw [h2] at h1; simp at h1
  · rw [List.concat_eq_append] at h2
    rw [h2, List.getLastD_concat]
    exact h.fit x (by rw [h2]; simp)
theorem rdL_inv {D : List (List Int)} : ∀ (f : Nat) {rs : List Rec} {es : List Nat} {fo : Option (List Nat × Int)}, LogI D rs es → (∀ l k, fo = some (l, k) → 1 ≤ k ∧ es.getLastD 0 + k.toNat ≤ D.length) → LogI D (rdL D f rs es fo).1 (rdL D f rs es fo).2
  | 0, _, _, _, h, _ => by unfold rdL; exact h
  | _ + 1, _, _, none, h, _ => by unfold rdL; exact h
  | f + 1, rs, es, some (t, m), h, hfo => by
    unfold rdL
    cases hr : readRec t with
    | none => exact h
    | some r =>
      dsimp only
      split
      · exact h
      · obtain ⟨h1, h2⟩ := hfo t m rfl
        have hfew := h.few
        refine rdL_inv f ⟨by simp [h.len], ?_, ?_, ?_⟩ fun l k hl => ?_
        · intro e he
          rcases List.mem_append.mp he with he | he
          · exact h.fit e he
          · rw [List.mem_singleton] at he
            subst he
            exact h2
        · intro x hx
          rcases List.mem_append.mp hx with hx | hx
          · exact h.hold x hx
          · rw [List.mem_singleton] at hx
            subst hx
            exact readRec_hold hr
        · rw [List.getLastD_concat, List.length_append, List.length_singleton]
          omega
        · rw [List.getLastD_concat]
          obtain ⟨h4, h5, h6, h7⟩ := readText_some hl h2
          exact ⟨h4, h6⟩
theorem readLog_inv (D : List (List Int)) : LogI D (readLog D).1 (readLog D).2 := by
  unfold readLog
  refine rdL_inv _ ⟨rfl, by simp, by simp, by simp⟩ fun l k h => ?_
  obtain ⟨h4, h5, h6, h7⟩ := readText_some h (Nat.zero_le _)
  exact ⟨h4, h6⟩
theorem goodGo_le : ∀ (rs : List Rec) (n : Nat) (s : List (List Nat) × List Int), goodGo n rs s ≤ n + rs.length
  | [], n, s => by
    unfold goodGo
    rw [List.length_nil]
    omega
  | r :: rs, n, s => by
    unfold goodGo
    rw [List.length_cons]
    split
    · omega
    · have := goodGo_le rs (n + 1) (by assumption)
      omega
theorem good_le (rs : List Rec) : good rs ≤ rs.length := by
  have := goodGo_le rs 0 ([], [0, 0, 0])
  unfold good
  omega
theorem endsOf_len : ∀ (rs : List Rec) (e : Nat), (endsOf e rs).length = rs.length
  | [], _ => rfl
  | r :: rs, e => by
    unfold endsOf
    rw [List.length_cons, List.length_cons, endsOf_len]
theorem ends_last : ∀ (rs : List Rec) (e n : Nat), (e :: endsOf e rs).getD rs.length 0 = e + (blk n rs).length
  | [], e, n => by simp [endsOf, blk]
  | r :: rs, e, n => by
    have := ends_last rs (e + many r.t) (n + 1)
    unfold endsOf blk
    rw [List.length_cons, List.length_append, encB_len]
    show ((e + many r.t) :: endsOf (e + many r.t) rs).getD rs.length 0 = _
    rw [this]
    omega
/-- a record that can be written -/
structure Wr (r : Rec) : Prop where
  few : r.few = true
  t1 : r.t.length ≤ 720
  sg : ∀ c ∈ r.t, c ∈ signs
theorem Fine.wr {r : Rec} (h : Fine r) : Wr r := ⟨h.few, h.t1, h.sg⟩
theorem blk_len_ge : ∀ (rs : List Rec) (n : Nat), (∀ r ∈ rs, Fine r) → rs.length ≤ (blk n rs).length
  | [], _, _ => by simp
  | r :: rs, n, h => by
    have := blk_len_ge rs (n + 1) fun x hx => h x (.tail _ hx)
    have h2 := many_pos (h r (.head _)).t0
    unfold blk
    rw [List.length_cons, List.length_append, encB_len]
    omega
theorem blk_len_le : ∀ (rs : List Rec) (n : Nat), (∀ r ∈ rs, Wr r) → (blk n rs).length ≤ 30 * rs.length
  | [], _, _ => by simp [blk]
  | r :: rs, n, h => by
    have := blk_len_le rs (n + 1) fun x hx => h x (.tail _ hx)
    have h2 := (h r (.head _)).t1
    have h3 : many r.t ≤ 30 := by unfold many; omega
    unfold blk
    rw [List.length_cons, List.length_append, encB_len]
    omega
theorem blk_len_n : ∀ (rs : List Rec) (n m : Nat), (blk n rs).length = (blk m rs).length
  | [], _, _ => rfl
  | r :: rs, n, m => by
    unfold blk
    rw [List.length_append, List.length_append, encB_len, encB_len, blk_len_n rs]
/-- a log that was written is read -/
theorem readLog_ok {rs : List Rec} {n : Nat} (hf : ∀ r ∈ rs, Fine r) (he : ∀ (r : Rec) (i : Nat), rs[i]? = some r → isEnt r = decide (i = 0)) : readLog (blk 0 rs ++ Z n) = (rs, 0 :: endsOf 0 rs) := by
  unfold readLog
  have h1 := blk_len_ge rs 0 hf
  have h := rdL_blk (D := blk 0 rs ++ Z n) rs [] [] [0] (Z n) ((blk 0 rs ++ Z n).length + 1) (by simp) rfl hf (fun r i hi => by rw [he r i hi]; rfl) (by rw [List.length_append]; omega) (by
    have := readText_Z (X := blk 0 rs) (n := n) (k := rs.length)
    simpa using this)
  simpa using h
end Blk

/-! k46, k47, k48: records in bounds are written and read; what the laws' logs are: plain -/
namespace Blk
open PySem PySem.Spec PySem.NumText Lg K45
theorem jn_short : ∀ (xs : List (List Nat)), (∀ x ∈ xs, x.length ≤ 8) → (jn xs).length ≤ 9 * xs.length
  | [], _ => by simp [jn]
  | [p], h => by
    have := h p (.head _)
    simp [jn]
    omega
  | p :: q :: r, h => by
    have h1 := h p (.head _)
    have h2 := jn_short (q :: r) fun x hx => h x (.tail _ hx)
    have e : jn (p :: q :: r) = p ++ 32 :: jn (q :: r) := rfl
    rw [e, List.length_append, List.length_cons, List.length_cons]
    omega
theorem jn_ge : ∀ xs : List (List Nat), (xs.map List.length).sum + xs.length ≤ (jn xs).length + 1
  | [] => by simp
  | [p] => by simp [jn]
  | p :: q :: r => by
    have := jn_ge (q :: r)
    have e : jn (p :: q :: r) = p ++ 32 :: jn (q :: r) := rfl
    rw [e]
    simp only [List.length_append, List.length_cons, List.map_cons, List.sum_cons] at this ⊢
    omega
theorem blank_sign : 32 ∈ signs := by decide +kernel
theorem jn_letters : ∀ (xs : List (List Nat)), (∀ x ∈ xs, ∀ c ∈ x, c ∈ signs) → ∀ c ∈ jn xs, c ∈ signs
  | [], _, c, h => by simp [jn] at h
  | [p], h, c, hc => h p (.head _) c hc
  | p :: q :: r, h, c, hc => by
    have e : jn (p :: q :: r) = p ++ 32 :: jn (q :: r) := rfl
    rw [e] at hc
    rcases List.mem_append.mp hc with hc | hc
    · exact h p (.head _) c hc
    · rcases List.mem_cons.mp hc with rfl | hc
      · exact blank_sign
      · exact jn_letters (q :: r) (fun x hx => h x (.tail _ hx)) c hc
theorem letters_signs : ∀ c ∈ letters, c ∈ signs := by decide +kernel
theorem figs_signs : ∀ c ∈ figs, c ∈ signs := by decide +kernel
theorem words_signs : ∀ x ∈ [zent, ztext, zrem, zupd, zcall], ∀ c ∈ x, c ∈ signs := by decide +kernel
theorem dg_signs (n : Nat) : ∀ c ∈ dg n, c ∈ signs := fun c hc => figs_signs c (mem_figs.mpr (dg_digits n c hc))
theorem isName_some {l : List Nat} (h : isName l = true) : 1 ≤ l.length ∧ l.length ≤ 6 ∧ ∀ c ∈ l, c ∈ letters := by
  unfold isName at h
  simp only [Bool.and_eq_true, decide_eq_true_eq, List.all_eq_true] at h
  obtain ⟨⟨h1, h2⟩, h3, _⟩ := h
  exact ⟨by omega, by omega, h3⟩
theorem name_free {m : List Nat} (h : isName m = true) : 32 ∉ m := fun z => by
  have := (isName_some h).2.2 32 z
  revert this
  decide
theorem name_signs {m : List Nat} (h : isName m = true) : ∀ c ∈ m, c ∈ signs := fun c hc => letters_signs c ((isName_some h).2.2 c hc)
/-- a value in bounds, all its signs signs of records -/
def Va.w (v : Va) : Prop := v.ok = true ∧ ∀ c ∈ v.t, c ∈ signs
/-- a record in bounds -/
def Rec.w : Rec → Prop
  | .ent ns => entOK ns = true
  | .txt m t => isName m = true ∧ 124 ∉ t ∧ t.length ≤ 600 ∧ ∀ c ∈ t, c = 10 ∨ c ∈ signs
  | .rem m => isName m = true
  | .upd n => n ≤ 8
  | .cal h k m f vs => h < 3 ∧ k ≤ 9999 ∧ isName m = true ∧ isName f = true ∧ vs.length ≤ 3 ∧ ∀ v ∈ vs, Va.w v
/-- short texts -/
def Rec.sm : Rec → Prop
  | .txt _ t => t.length ≤ 100
  | _ => True
theorem entOK_parts {ns : List (List Nat)} (h : entOK ns = true) : 1 ≤ ns.length ∧ ns.length ≤ 3 ∧ ∀ x ∈ ns, isName x = true := by
  unfold entOK at h
  simp only [Bool.and_eq_true, decide_eq_true_eq, List.all_eq_true] at h
  exact ⟨h.1, h.2.1, h.2.2.2⟩
theorem ent_wr {ns : List (List Nat)} (h : entOK ns = true) : Wr (.ent ns) ∧ many (Rec.ent ns).t ≤ 2 := by
  obtain ⟨h1, h2, h4⟩ := entOK_parts h
  have hl : (Rec.ent ns).t.length ≤ 36 := by
    have := jn_short (zent :: ns) fun x hx => by
      rcases List.mem_cons.mp hx with rfl | hx
      · decide
      · have := isName_some (h4 x hx)
        omega
    rw [List.length_cons] at this
    show (jn (zent :: ns)).length ≤ 36
    omega
  refine ⟨⟨rfl, by omega, ?_⟩, by unfold many; omega⟩
  refine jn_letters (zent :: ns) fun x hx c hc => ?_
  rcases List.mem_cons.mp hx with rfl | hx
  · exact words_signs _ (by simp) c hc
  · exact name_signs (h4 x hx) c hc
theorem spM_jn : ∀ (ns : List (List Nat)) (k : Nat), (∀ x ∈ ns, 32 ∉ x) → ns.length ≤ k + 1 → ns ≠ [] → spM 32 k (jn ns) = ns
  | [], _, _, _, h => absurd rfl h
  | [p], k, h, _, _ => spM_free (h p (.head _))
  | p :: q :: r, 0, _, h, _ => by simp at h
  | p :: q :: r, k + 1, h, hk, _ => by
    have e : jn (p :: q :: r) = p ++ 32 :: jn (q :: r) := rfl
    rw [e, spM_app (h p (.head _)), spM_jn (q :: r) k (fun x hx => h x (.tail _ hx)) (by simp at hk ⊢; omega) (by simp)]
theorem ent_rd {ns : List (List Nat)} (h : entOK ns = true) : readRec (Rec.ent ns).t = some (.ent ns) := by
  obtain ⟨h1, h2, h4⟩ := entOK_parts h
  cases ns with
  | nil => simp at h1
  | cons n0 r =>
    have e : (Rec.ent (n0 :: r)).t = zent ++ 32 :: jn (n0 :: r) := rfl
    have hj := jn_ge (n0 :: r)
    unfold readRec
    rw [e, (tw_app (c := 32) (p := zent) (by decide)).1, (tw_app (c := 32) (p := zent) (by decide)).2, List.drop_succ_cons, List.drop_zero]
    unfold readR
    rw [if_pos rfl, spM_jn (n0 :: r) _ (fun x hx => name_free (h4 x hx)) (by omega) (by simp), if_pos h]
    dsimp only
    rw [if_pos e]
theorem rem_rd {m : List Nat} (h : isName m = true) : readRec (Rec.rem m).t = some (.rem m) := by
  have e : (Rec.rem m).t = zrem ++ 32 :: m := rfl
  unfold readRec
  rw [e, (tw_app (c := 32) (p := zrem) (by decide)).1, (tw_app (c := 32) (p := zrem) (by decide)).2, List.drop_succ_cons, List.drop_zero]
  unfold readR
  rw [if_neg (by decide), if_neg (by decide), if_pos rfl, if_pos h]
  dsimp only
  rw [if_pos e]
theorem upd_rd {n : Nat} (h : n ≤ 8) : readRec (Rec.upd n).t = some (.upd n) := by
  have e : (Rec.upd n).t = zupd ++ 32 :: dg n := rfl
  unfold readRec
  rw [e, (tw_app (c := 32) (p := zupd) (by decide)).1, (tw_app (c := 32) (p := zupd) (by decide)).2, List.drop_succ_cons, List.drop_zero]
  unfold readR
  rw [if_neg (by decide), if_neg (by decide), if_neg (by decide), if_pos rfl, readNum_dg h]
  dsimp only
  rw [if_pos e]
theorem txt_rd {m t : List Nat} (m1 : isName m = true) (h124 : 124 ∉ t) (hl : t.length ≤ 600) : readRec (Rec.txt m t).t = some (.txt m t) := by
  have m2 := name_free m1
  unfold readRec
  have e : (Rec.txt m t).t = ztext ++ 32 :: (m ++ 32 :: t.map fun x => if x = 10 then 124 else x) := rfl
  rw [e, (tw_app (c := 32) (p := ztext) (by decide)).1, (tw_app (c := 32) (p := ztext) (by decide)).2]
  unfold readR
  rw [if_neg (by decide), if_neg (by decide), if_neg (by decide), if_neg (by decide), if_pos rfl]
  rw [List.drop_succ_cons, List.drop_zero, (tw_app m2).1, (tw_app m2).2, List.drop_succ_cons, List.drop_zero, m1, List.length_map, decide_eq_true hl]
  have back : (t.map fun x => if x = 10 then 124 else x).map (fun x => if x = 124 then 10 else x) = t := by
    rw [List.map_map]
    conv => rhs; rw [← List.map_id t]
    refine List.map_congr_left fun x hx => ?_
    have : ¬ x = 124 := fun z => h124 (by rw [← z]; exact hx)
    show (if (if x = 10 then 124 else x) = 124 then 10 else (if x = 10 then 124 else x)) = x
    by_cases h : x = 10
    · rw [if_pos h, if_pos rfl, h]
    · rw [if_neg h, if_neg this]
  rw [back]
  simp [e]
theorem cal_rd {h k : Nat} {m f : List Nat} {vs : List Va} (hh : h < 3) (hk : k ≤ 9999) (hm : isName m = true) (hf : isName f = true) (hl : vs.length ≤ 3) (hv : ∀ v ∈ vs, v.ok = true) : readRec (Rec.cal h k m f vs).t = some (.cal h k m f vs) := by
  have f2 := name_free hf
  have hv' : vs.all Va.ok = true := by
    rw [List.all_eq_true]
    exact hv
  have gen : ∀ t, readR ((zcall ++ 32 :: t).takeWhile (· != 32)) (((zcall ++ 32 :: t).dropWhile (· != 32)).drop 1) = readCallW (spM 32 4 t) := by
    intro t
    rw [(tw_app (c := 32) (p := zcall) (r := t) (by decide)).1, (tw_app (c := 32) (p := zcall) (r := t) (by decide)).2]
    unfold readR
    rw [if_neg (by decide), if_pos rfl]
    rfl
  unfold readRec
  have e := call_t (h := h) (k := k) (m := m) (f := f) (vs := vs) (t := [])
  rw [List.append_nil, List.append_nil] at e
  rw [e, gen]
  obtain ⟨tl, h1, h2⟩ := call_words (h := h) (k := k) (m := m) (f := f) (name_free hm) f2 (vals_tail vs (.inl rfl))
  rw [h1]
  have h3 : readTl tl = some vs := by
    rcases h2 with ⟨h2, rfl⟩ | ⟨r, h2, rfl⟩
    · cases vs with
      | nil => rfl
      | cons v vs => cases h2
    · unfold readTl
      dsimp only
      rw [← h2]
      refine readVals_t vs _ hv' ?_
      rw [h2]
      simp
  unfold readCallW
  dsimp only
  rw [readNum_dg (by omega), readNum_dg hk, h3]
  dsimp only
  rw [hm, hf, hv', decide_eq_true hl]
  simp only [Bool.and_self, if_true]
  rw [← e, if_pos rfl]
theorem dg_le {n k : Nat} (h : n < 10 ^ k) (hk : 0 < k) : (dg n).length ≤ k := dg_len hk h
theorem va_len {v : Va} (h : v.ok = true) : v.t.length ≤ 22 := by
  cases v with
  | i n =>
    have h' : (decide (-99999 ≤ n) && decide (n ≤ 99999)) = true := h
    rw [Bool.and_eq_true, decide_eq_true_eq, decide_eq_true_eq] at h'
    have h2 : (dg n.natAbs).length ≤ 5 := dg_len (by omega) (by omega)
    show (dgI n).length ≤ 22
    unfold dgI
    split
    · rw [List.length_cons]; omega
    · omega
  | s l =>
    have h' : (decide (l.length ≤ 20) && (!decide (34 ∈ l) && !decide (10 ∈ l))) = true := h
    rw [Bool.and_eq_true, decide_eq_true_eq] at h'
    show (34 :: (l ++ [34])).length ≤ 22
    simp
    omega
theorem vals_len : ∀ (vs : List Va), (∀ v ∈ vs, v.ok = true) → (vals vs []).length ≤ 23 * vs.length
  | [], _ => by simp [vals]
  | v :: vs, h => by
    have h1 := va_len (h v (.head _))
    have h2 := vals_len vs fun x hx => h x (.tail _ hx)
    show (32 :: (v.t ++ vals vs [])).length ≤ _
    rw [List.length_cons, List.length_append, List.length_cons]
    omega
theorem vals_signs : ∀ (vs : List Va), (∀ v ∈ vs, ∀ c ∈ v.t, c ∈ signs) → ∀ c ∈ vals vs [], c ∈ signs
  | [], _, c, h => by simp [vals] at h
  | v :: vs, h, c, hc => by
    have e : vals (v :: vs) [] = 32 :: (v.t ++ vals vs []) := rfl
    rw [e] at hc
    rcases List.mem_cons.mp hc with rfl | hc
    · exact blank_sign
    rcases List.mem_append.mp hc with hc | hc
    · exact h v (.head _) c hc
    · exact vals_signs vs (fun x hx => h x (.tail _ hx)) c hc
theorem bar_sign : 124 ∈ signs := by decide +kernel
/-- a record in bounds can be written and read -/
theorem fine_of {r : Rec} (h : Rec.w r) : Fine r := by
  cases r with
  | ent ns =>
    obtain ⟨w1, _⟩ := ent_wr h
    refine ⟨w1.few, ?_, w1.t1, w1.sg, ent_rd h⟩
    obtain ⟨h1, _, _⟩ := entOK_parts h
    cases ns with
    | nil => simp at h1
    | cons n0 r =>
      show 1 ≤ (zent ++ 32 :: jn (n0 :: r)).length
      simp
  | txt m t =>
    obtain ⟨h1, h2, h3, h4⟩ := h
    obtain ⟨n1, n2, n3⟩ := isName_some h1
    have e : (Rec.txt m t).t = ztext ++ 32 :: (m ++ 32 :: t.map fun x => if x = 10 then 124 else x) := rfl
    have el : (Rec.txt m t).t.length = 6 + m.length + t.length := by rw [e]; simp; omega
    refine ⟨rfl, by omega, by omega, fun c hc => ?_, txt_rd h1 h2 h3⟩
    rw [e] at hc
    rcases List.mem_append.mp hc with hc | hc
    · exact words_signs _ (by simp) c hc
    rcases List.mem_cons.mp hc with rfl | hc
    · exact blank_sign
    rcases List.mem_append.mp hc with hc | hc
    · exact name_signs h1 c hc
    rcases List.mem_cons.mp hc with rfl | hc
    · exact blank_sign
    obtain ⟨x, hx, rfl⟩ := List.mem_map.mp hc
    rcases h4 x hx with rfl | h5
    · exact bar_sign
    · split
      · exact bar_sign
      · exact h5
  | rem m =>
    have h : isName m = true := h
    obtain ⟨n1, n2, n3⟩ := isName_some h
    have e : (Rec.rem m).t = zrem ++ 32 :: m := rfl
    have el : (Rec.rem m).t.length = 7 + m.length := by rw [e]; simp; omega
    refine ⟨rfl, by omega, by omega, fun c hc => ?_, rem_rd h⟩
    rw [e] at hc
    rcases List.mem_append.mp hc with hc | hc
    · exact words_signs _ (by simp) c hc
    rcases List.mem_cons.mp hc with rfl | hc
    · exact blank_sign
    · exact name_signs h c hc
  | upd n =>
    have h : n ≤ 8 := h
    have e : (Rec.upd n).t = zupd ++ 32 :: dg n := rfl
    have el : (Rec.upd n).t.length = 7 + (dg n).length := by rw [e]; simp; omega
    have hd : (dg n).length ≤ 1 := dg_len (by omega) (by omega)
    refine ⟨by show decide (n < 1000000) = true; rw [decide_eq_true_eq]; omega, by omega, by omega, fun c hc => ?_, upd_rd h⟩
    rw [e] at hc
    rcases List.mem_append.mp hc with hc | hc
    · exact words_signs _ (by simp) c hc
    rcases List.mem_cons.mp hc with rfl | hc
    · exact blank_sign
    · exact dg_signs n c hc
  | cal h' k m f vs =>
    obtain ⟨h1, h2, h3, h4, h5, h6⟩ := h
    obtain ⟨n1, n2, n3⟩ := isName_some h3
    obtain ⟨m1, m2, m3⟩ := isName_some h4
    have e := call_t (h := h') (k := k) (m := m) (f := f) (vs := vs) (t := [])
    rw [List.append_nil, List.append_nil] at e
    have hd1 : (dg h').length ≤ 1 := dg_len (by omega) (by omega)
    have hd2 : (dg k).length ≤ 4 := dg_len (by omega) (by omega)
    have hv := vals_len vs fun v hv => (h6 v hv).1
    have el : (Rec.cal h' k m f vs).t.length = 8 + (dg h').length + (dg k).length + m.length + f.length + (vals vs []).length := by rw [e]; simp; omega
    refine ⟨?_, by omega, by omega, fun c hc => ?_, cal_rd h1 h2 h3 h4 h5 fun v hv => (h6 v hv).1⟩
    · show (decide (h' < 1000000) && (decide (k < 1000000) && vs.all fun | .i n => decide (n.natAbs < 1000000) | .s _ => true)) = true
      rw [decide_eq_true (by omega), decide_eq_true (by omega), Bool.true_and, Bool.true_and, List.all_eq_true]
      intro v hv
      have h7 := (h6 v hv).1
      cases v with
      | i n =>
        have h' : (decide (-99999 ≤ n) && decide (n ≤ 99999)) = true := h7
        rw [Bool.and_eq_true, decide_eq_true_eq, decide_eq_true_eq] at h'
        show decide (n.natAbs < 1000000) = true
        rw [decide_eq_true_eq]
        omega
      | s l => rfl
    · rw [e] at hc
      rcases List.mem_append.mp hc with hc | hc
      · exact words_signs _ (by simp) c hc
      rcases List.mem_cons.mp hc with rfl | hc
      · exact blank_sign
      rcases List.mem_append.mp hc with hc | hc
      · exact dg_signs _ c hc
      rcases List.mem_cons.mp hc with rfl | hc
      · exact blank_sign
      rcases List.mem_append.mp hc with hc | hc
      · exact dg_signs _ c hc
      rcases List.mem_cons.mp hc with rfl | hc
      · exact blank_sign
      rcases List.mem_append.mp hc with hc | hc
      · exact name_signs h3 c hc
      rcases List.mem_cons.mp hc with rfl | hc
      · exact blank_sign
      rcases List.mem_append.mp hc with hc | hc
      · exact name_signs h4 c hc
      · exact vals_signs vs (fun v hv => (h6 v hv).2) c hc
/-! ### the laws' logs -/
def isCal (h : Nat) : Rec → Bool
  | .cal h' _ _ _ _ => decide (h' = h)
  | _ => false
def calls (h : Nat) (rs : List Rec) : Nat := (rs.filter (isCal h)).length
def cnt (rs : List Rec) : List Int := [(calls 0 rs : Nat), (calls 1 rs : Nat), (calls 2 rs : Nat)]
theorem calls_app {h : Nat} {rs ss : List Rec} : calls h (rs ++ ss) = calls h rs + calls h ss := by simp [calls]
theorem calls_le {h : Nat} {rs : List Rec} : calls h rs ≤ rs.length := List.length_filter_le _ _
/-- rows that fit behind a log -/
structure Rows (rs ss : List Rec) : Prop where
  w : ∀ r ∈ ss, Rec.w r
  sm : ∀ r ∈ ss, Rec.sm r
  few : ss.length ≤ 5
  en : ∀ r ∈ ss, isEnt r = false
  g : gst ss ([], cnt rs) = some ([], cnt (rs ++ ss))
  /-- no part of it is whole -/
  pt : ∀ q, q < ss.length → ∃ ms cs, gst (ss.take q) ([], cnt rs) = some (ms, cs) ∧ ms.length = q
structure LogOK (rs : List Rec) : Prop where
  ne : rs ≠ []
  w : ∀ r ∈ rs, Rec.w r
  sm : ∀ r ∈ rs, Rec.sm r
  en : ∀ (r : Rec) (i : Nat), rs[i]? = some r → isEnt r = decide (i = 0)
  g : gst rs ([], [0, 0, 0]) = some ([], cnt rs)
theorem LogOK.fine {rs : List Rec} (h : LogOK rs) : ∀ r ∈ rs, Fine r := fun r hr => fine_of (h.w r hr)
theorem Rows.wr {rs ss : List Rec} (h : Rows rs ss) : ∀ r ∈ ss, Wr r := fun r hr => (fine_of (h.w r hr)).wr
theorem LogOK.app {rs ss : List Rec} (h : LogOK rs) (h2 : Rows rs ss) : LogOK (rs ++ ss) := by
  refine ⟨fun z => h.ne (List.append_eq_nil_iff.mp z).1, fun r hr => ?_, fun r hr => ?_, fun r i hi => ?_, ?_⟩
  · rcases List.mem_append.mp hr with hr | hr
    · exact h.w r hr
    · exact h2.w r hr
  · rcases List.mem_append.mp hr with hr | hr
    · exact h.sm r hr
    · exact h2.sm r hr
  · by_cases hlt : i < rs.length
    · rw [List.getElem?_append_left hlt] at hi
      exact h.en r i hi
    · rw [List.getElem?_append_right (by omega)] at hi
      rw [h2.en r (List.mem_of_getElem? hi)]
      have : rs.length ≠ 0 := fun z => h.ne (List.eq_nil_of_length_eq_zero z)
      rw [decide_eq_false (by omega)]
  · rw [gst_app h.g]
    exact h2.g
theorem LogOK.good {rs : List Rec} (h : LogOK rs) : good rs = rs.length := good_whole h.g
theorem LogOK.start {ns : List (List Nat)} (h : entOK ns = true) : LogOK [.ent ns] :=
  ⟨by simp, fun r hr => by
    rw [List.mem_singleton] at hr
    subst hr
    exact h, fun r hr => by
    rw [List.mem_singleton] at hr
    subst hr
    trivial, fun r i hi => by
    cases i with
    | zero => cases hi; rfl
    | succ i => simp at hi, rfl⟩
theorem LogOK.read {rs : List Rec} {n : Nat} (h : LogOK rs) : readLog (blk 0 rs ++ Z n) = (rs, 0 :: endsOf 0 rs) := readLog_ok h.fine h.en
theorem rows_call {rs : List Rec} {h : Nat} {m f : List Nat} {vs : List Va} (hn : rs.length ≤ 9999) (hh : h < 3) (hm : isName m = true) (hf : isName f = true) (hl : vs.length ≤ 3) (hv : ∀ v ∈ vs, Va.w v) : Rows rs [.cal h (calls h rs) m f vs] := by
  have hc := calls_le (h := h) (rs := rs)
  refine ⟨fun r hr => ?_, fun r hr => ?_, by simp, fun r hr => ?_, ?_, fun q hq => ?_⟩
  · rw [List.mem_singleton] at hr
    subst hr
    exact ⟨hh, by omega, hm, hf, hl, hv⟩
  · rw [List.mem_singleton] at hr
    subst hr
    trivial
  · rw [List.mem_singleton] at hr
    subst hr
    rfl
  · have e1 : gst1 ([], cnt rs) (.cal h (calls h rs) m f vs) = some ([], (cnt rs).set h ((calls h rs : Nat) + 1)) := by
      unfold gst1
      dsimp only
      rw [if_neg]
      rintro (z | z)
      · exact z rfl
      · have h3 : h = 0 ∨ h = 1 ∨ h = 2 := by omega
        rcases h3 with rfl | rfl | rfl <;> exact z rfl
    have h3 : h = 0 ∨ h = 1 ∨ h = 2 := by omega
    unfold gst
    rw [e1]
    rcases h3 with rfl | rfl | rfl <;> simp [gst, cnt, calls, isCal]
  · have h0 : q = 0 := by simpa using hq
    subst h0
    exact ⟨[], cnt rs, rfl, rfl⟩
/-- a change of a module -/
def modN : Rec → Option (List Nat)
  | .txt m _ => some m
  | .rem m => some m
  | _ => none
theorem gst_mods {cs : List Int} : ∀ {ss : List Rec} {ch ms : List (List Nat)}, ss.map modN = ms.map some → gst ss (ch, cs) = some (ch ++ ms, cs)
  | [], ch, [], _ => by simp [gst]
  | [], _, _ :: _, h => by cases h
  | _ :: _, _, [], h => by cases h
  | r :: ss, ch, m :: ms, h => by
    simp only [List.map_cons, List.cons.injEq] at h
    obtain ⟨h1, h2⟩ := h
    have ih := gst_mods (cs := cs) (ch := ch ++ [m]) h2
    unfold gst
    cases r with
    | txt m' t =>
      cases h1
      show gst ss (ch ++ [m], cs) = _
      rw [ih, List.append_assoc]
      rfl
    | rem m' =>
      cases h1
      show gst ss (ch ++ [m], cs) = _
      rw [ih, List.append_assoc]
      rfl
    | ent _ => cases h1
    | upd _ => cases h1
    | cal _ _ _ _ _ => cases h1
theorem mods_calls {h : Nat} : ∀ {ss : List Rec} {ms : List (List Nat)}, ss.map modN = ms.map some → calls h ss = 0 ∧ ∀ r ∈ ss, isEnt r = false
  | [], _, _ => ⟨rfl, fun r hr => by cases hr⟩
  | _ :: _, [], h => by cases h
  | r :: ss, m :: ms, h' => by
    simp only [List.map_cons, List.cons.injEq] at h'
    obtain ⟨h1, h2⟩ := h'
    obtain ⟨i1, i2⟩ := mods_calls (h := h) h2
    have hr : isCal h r = false ∧ isEnt r = false := by
      cases r with
      | txt m' t => exact ⟨rfl, rfl⟩
      | rem m' => exact ⟨rfl, rfl⟩
      | ent _ => cases h1
      | upd _ => cases h1
      | cal _ _ _ _ _ => cases h1
    refine ⟨?_, fun x hx => ?_⟩
    · unfold calls at i1 ⊢
      rw [List.filter_cons_of_neg (by rw [hr.1]; simp)]
      exact i1
    · rcases List.mem_cons.mp hx with rfl | hx
      · exact hr.2
      · exact i2 x hx
theorem rows_upd {rs ss : List Rec} {ms : List (List Nat)} (hm : ss.map modN = ms.map some) (hn : ms.Nodup) (hl : ms.length ≤ 4) (hw : ∀ r ∈ ss, Rec.w r) (hsm : ∀ r ∈ ss, Rec.sm r) : Rows rs (ss ++ [.upd ss.length]) := by
  have hlen : ss.length = ms.length := by
    have := congrArg List.length hm
    simpa using this
  refine ⟨fun r hr => ?_, fun r hr => ?_, by rw [List.length_append, List.length_singleton]; omega, fun r hr => ?_, ?_, fun q hq => ?_⟩
  · rcases List.mem_append.mp hr with hr | hr
    · exact hw r hr
    · rw [List.mem_singleton] at hr
      subst hr
      show ss.length ≤ 8
      omega
  · rcases List.mem_append.mp hr with hr | hr
    · exact hsm r hr
    · rw [List.mem_singleton] at hr
      subst hr
      trivial
  · rcases List.mem_append.mp hr with hr | hr
    · exact (mods_calls (h := 0) hm).2 r hr
    · rw [List.mem_singleton] at hr
      subst hr
      rfl
  · rw [gst_app (gst_mods (cs := cnt rs) (ch := []) hm)]
    have e1 : gst1 ([] ++ ms, cnt rs) (.upd ss.length) = some ([], cnt rs) := by
      unfold gst1
      dsimp only
      rw [List.nil_append, if_neg]
      rintro (z | z)
      · exact z hlen
      · exact z hn
    have e : ∀ h, calls h (rs ++ (ss ++ [.upd ss.length])) = calls h rs := fun h => by
      rw [calls_app, calls_app, (mods_calls hm).1]
      rfl
    unfold gst
    rw [e1]
    unfold gst cnt
    rw [e, e, e]
  · rw [List.length_append, List.length_singleton] at hq
    refine ⟨ms.take q, cnt rs, ?_, by rw [List.length_take]; omega⟩
    rw [List.take_append_of_le_length (by omega)]
    have hq' : (ss.take q).map modN = (ms.take q).map some := by rw [List.map_take, List.map_take, hm]
    exact gst_mods (cs := cnt rs) (ch := []) hq'
/-- what the laws draw -/
def nm4 : List (List Nat) := [[97], [98], [99], [100]]
def nm3 : List (List Nat) := [[97], [98], [122, 122]]
def fn4 : List (List Nat) := [[102], [103], [120], [107]]
def ent3 : List (List (List Nat)) := [[[97]], [[97], [98]], [[98], [97], [99]]]
theorem nm4_ok : ∀ m ∈ nm4, isName m = true := by decide
theorem nm3_ok : ∀ m ∈ nm3, isName m = true := by decide
theorem fn4_ok : ∀ m ∈ fn4, isName m = true := by decide
theorem ent3_ok : ∀ m ∈ ent3, entOK m = true := by decide
theorem nm4_nd : nm4.Nodup := by decide
def va8 : List Va := [.i 0, .i (-5), .i 99999, .i (-99999), .s [], .s [115], .s [120, 32, 121], .s (List.replicate 20 120)]
theorem va8_ok : ∀ v ∈ va8, v.ok = true ∧ ∀ c ∈ v.t, c ∈ signs := by decide +kernel
theorem va8_w : ∀ v ∈ va8, Va.w v := va8_ok
theorem va_nat {n : Nat} (h : n < 999) : Va.w (.i n) := by
  refine ⟨?_, fun c hc => ?_⟩
  · show (decide (-99999 ≤ (n : Int)) && decide ((n : Int) ≤ 99999)) = true
    rw [decide_eq_true (by omega), decide_eq_true (by omega)]
    rfl
  · have e : (Va.i n).t = dg n := by
      show dgI n = dg n
      unfold dgI
      rw [if_neg (by omega)]
      rfl
    rw [e] at hc
    exact dg_signs n c hc
/-- the texts that are drawn, the bar for a new line -/
def tx9 : List (List Nat) := [[], [100, 111, 32, 49], [108, 101, 116, 32, 120, 32, 61, 32, 49], [107, 101, 101, 112, 32, 107, 32, 61, 32, 50, 124, 102, 110, 32, 102, 40, 112, 41, 32, 61, 32, 115, 101, 116, 32, 107, 32, 61, 32, 112], [104, 111, 108, 100, 32, 34, 115, 34], [32], [110, 111, 116, 104, 105, 110, 103, 32, 111, 102, 32, 97, 32, 108, 105, 110, 101], List.replicate 40 120, [105, 109, 112, 111, 114, 116, 32, 120, 32, 102, 114, 111, 109, 32, 98]]
def nl (l : List Nat) : List Nat := l.map fun x => if x = 124 then 10 else x
theorem tx9_ok : ∀ t ∈ tx9, 124 ∉ nl t ∧ (nl t).length ≤ 100 ∧ ∀ c ∈ nl t, c = 10 ∨ c ∈ signs := by decide +kernel
/-! what is shown of records -/
theorem sg_lt : ∀ c ∈ signs, c < 1114112 := signs_asc
theorem word_shw : ∀ z ∈ [zent, ztext, zrem, zupd, zcall], Shw 1 100 (sD z) := fun z hz => sh_str 1 (fun c hc => sg_lt c (words_signs z hz c hc)) (by
  simp only [List.mem_cons, List.mem_nil_iff, or_false] at hz
  rcases hz with rfl | rfl | rfl | rfl | rfl <;> decide)
theorem name_shw {m : List Nat} (h : isName m = true) : Shw 1 100 (sD m) := sh_str 1 (fun c hc => sg_lt c (name_signs h c hc)) (by have := isName_some h; omega)
theorem va_shw {v : Va} (h : Va.w v) : Shw 1 100 v.d := by
  obtain ⟨h1, h2⟩ := h
  cases v with
  | i n =>
    have h' : (decide (-99999 ≤ n) && decide (n ≤ 99999)) = true := h1
    rw [Bool.and_eq_true, decide_eq_true_eq, decide_eq_true_eq] at h'
    exact sh_int 1 (by omega) (by decide)
  | s l =>
    have h' : (decide (l.length ≤ 20) && (!decide (34 ∈ l) && !decide (10 ∈ l))) = true := h1
    rw [Bool.and_eq_true, decide_eq_true_eq] at h'
    refine sh_str 1 (fun c hc => sg_lt c (h2 c ?_)) (by omega)
    show c ∈ 34 :: (l ++ [34])
    simp [hc]
theorem nat_shw {n : Nat} (h : n < 1000000) : Shw 1 100 (.int (n : Int)) := sh_int 1 (by omega) (by decide)
theorem rec_shw {r : Rec} (h : Rec.w r) (hs : Rec.sm r) : Shw 3 2000 r.d := by
  cases r with
  | ent ns =>
    obtain ⟨h1, h2, h4⟩ := entOK_parts h
    refine (sh_tuple (n := 2) (w := 400) (m := 2000) (fun d hd => ?_) (by simp)).mono (by decide) (by decide)
    simp only [List.mem_cons, List.mem_nil_iff, or_false] at hd
    rcases hd with rfl | rfl
    · exact (word_shw zent (by simp)).mono (by decide) (by decide)
    · refine sh_tuple (n := 1) (w := 100) (fun d hd => ?_) (by rw [List.length_map]; omega)
      obtain ⟨n, hn, rfl⟩ := List.mem_map.mp hd
      exact name_shw (h4 n hn)
  | txt m t =>
    obtain ⟨h1, h2, h3, h4⟩ := h
    have hs : t.length ≤ 100 := hs
    refine (sh_tuple (n := 1) (w := 100) (m := 2000) (fun d hd => ?_) (by simp)).mono (by decide) (by decide)
    simp only [List.mem_cons, List.mem_nil_iff, or_false] at hd
    rcases hd with rfl | rfl | rfl
    · exact word_shw ztext (by simp)
    · exact name_shw h1
    · refine sh_str 1 (fun c hc => ?_) hs
      rcases h4 c hc with rfl | h5
      · decide
      · exact sg_lt c h5
  | rem m =>
    refine (sh_tuple (n := 1) (w := 100) (m := 2000) (fun d hd => ?_) (by simp)).mono (by decide) (by decide)
    simp only [List.mem_cons, List.mem_nil_iff, or_false] at hd
    rcases hd with rfl | rfl
    · exact word_shw zrem (by simp)
    · exact name_shw h
  | upd n =>
    have h : n ≤ 8 := h
    refine (sh_tuple (n := 1) (w := 100) (m := 2000) (fun d hd => ?_) (by simp)).mono (by decide) (by decide)
    simp only [List.mem_cons, List.mem_nil_iff, or_false] at hd
    rcases hd with rfl | rfl
    · exact word_shw zupd (by simp)
    · exact nat_shw (by omega)
  | cal h' k m f vs =>
    obtain ⟨h1, h2, h3, h4, h5, h6⟩ := h
    refine (sh_tuple (n := 2) (w := 320) (m := 2000) (fun d hd => ?_) (by simp)).mono (by decide) (by decide)
    simp only [List.mem_cons, List.mem_nil_iff, or_false] at hd
    rcases hd with rfl | rfl | rfl | rfl | rfl | rfl
    · exact (word_shw zcall (by simp)).mono (by decide) (by decide)
    · exact (nat_shw (by omega)).mono (by decide) (by decide)
    · exact (nat_shw (by omega)).mono (by decide) (by decide)
    · exact (name_shw h3).mono (by decide) (by decide)
    · exact (name_shw h4).mono (by decide) (by decide)
    · refine sh_tuple (n := 1) (w := 100) (fun d hd => ?_) (by rw [List.length_map]; omega)
      obtain ⟨v, hv, rfl⟩ := List.mem_map.mp hd
      exact va_shw (h6 v hv)
theorem log_shw {rs : List Rec} (h : LogOK rs) (hl : rs.length ≤ 200) : Shw 4 500000 (.list (rs.map Rec.d)) := by
  refine sh_list (n := 3) (w := 2000) (fun d hd => ?_) (by rw [List.length_map]; omega)
  obtain ⟨r, hr, rfl⟩ := List.mem_map.mp hd
  exact rec_shw (h.w r hr) (h.sm r hr)
theorem blk_sum : ∀ (rs : List Rec) (n : Nat), (blk n rs).length = (rs.map fun r => many r.t).sum
  | [], _ => rfl
  | r :: rs, n => by
    unfold blk
    rw [List.length_append, encB_len, blk_sum rs, List.map_cons, List.sum_cons]
end Blk

/-! ### the text by places, names by slots, readings, derivations (printed by tools/gen2.py) -/
namespace K47
open PySem PySem.Spec PyProof.Rows L2 Lg
structure G (K : PySem.W.Frag) (mg : Str → Option Value) : Prop where
  c_PIECE : ∃ u, mg "PIECE" = some u ∧ RelV (.int 24) u
  b_len : mg "len" = none
  c_RECORD : ∃ u, mg "RECORD" = some u ∧ RelV (.int 83) u
  b_ord : mg "ord" = none
  b_enumerate : mg "enumerate" = none
  b_range : mg "range" = none
  c_PERCENT : ∃ u, mg "PERCENT" = some u ∧ RelV (.int 37) u
  c_SIGNS : ∃ u, mg "SIGNS" = some u ∧ RelV (.str " !\"#$&'()*+,-./0123456789:;<=>?@ABCDEFGHIJKLMNOPQRSTUVWXYZ[\\]^_`abcdefghijklmnopqrstuvwxyz{|}~") u
  b_any : mg "any" = none
  c_BLOCK : ∃ u, mg "BLOCK" = some u ∧ RelV (.int 32) u
  c_NAME_MOST : ∃ u, mg "NAME_MOST" = some u ∧ RelV (.int 6) u
  b_all : mg "all" = none
  c_LETTERS : ∃ u, mg "LETTERS" = some u ∧ RelV (.str "abcdefghijklmnopqrstuvwxyz") u
  c_RESERVED : ∃ u, mg "RESERVED" = some u ∧ RelV (.ref (He.ga K "RESERVED")) u
  b_isinstance : mg "isinstance" = none
  b_str : mg "str" = none
  c_STRING_MOST : ∃ u, mg "STRING_MOST" = some u ∧ RelV (.int 20) u
  c_QUOTE : ∃ u, mg "QUOTE" = some u ∧ RelV (.str "\"") u
  b_int : mg "int" = none
  c_NUMBER_MOST : ∃ u, mg "NUMBER_MOST" = some u ∧ RelV (.int 99999) u
  k_OutOfRange : mg "OutOfRange" = some (.ref (He.ga K "OutOfRange"))
  c_ENTRIES_MOST : ∃ u, mg "ENTRIES_MOST" = some u ∧ RelV (.int 3) u
  b_set : mg "set" = none
  raw_NEWLINE_BAR : Raw2 mg "NEWLINE" "BAR" "\n" "|"
  b_list : mg "list" = none
  c_DIGITS : ∃ u, mg "DIGITS" = some u ∧ RelV (.str "0123456789") u
  b_tuple : mg "tuple" = none
  c_ARGUMENTS_MOST : ∃ u, mg "ARGUMENTS_MOST" = some u ∧ RelV (.int 3) u
  c_NUMBERS_MOST : ∃ u, mg "NUMBERS_MOST" = some u ∧ RelV (.int 9999) u
  c_HOLDERS_MOST : ∃ u, mg "HOLDERS_MOST" = some u ∧ RelV (.int 3) u
  c_TEXT_MOST : ∃ u, mg "TEXT_MOST" = some u ∧ RelV (.int 600) u
  raw_BAR_NEWLINE : Raw2 mg "BAR" "NEWLINE" "|" "\n"
  c_SOURCES_MOST : ∃ u, mg "SOURCES_MOST" = some u ∧ RelV (.int 8) u
  c_PIECES_MOST : ∃ u, mg "PIECES_MOST" = some u ∧ RelV (.int 30) u
  k_Log : mg "Log" = some (.ref (He.ga K "Log"))
  k_NotKept : mg "NotKept" = some (.ref (He.ga K "NotKept"))
  x_NotKept : Bex K mg "NotKept" (He.ga K "NotKept")
  b_repr : mg "repr" = none
  b_sum : mg "sum" = none
  k_LogFull : mg "LogFull" = some (.ref (He.ga K "LogFull"))
  k_Disk : mg "Disk" = some (.ref (He.ga K "Disk"))
  c_BLOCKS_LEAST : ∃ u, mg "BLOCKS_LEAST" = some u ∧ RelV (.int 8) u
  c_BLOCKS_MOST : ∃ u, mg "BLOCKS_MOST" = some u ∧ RelV (.int 400) u
  k_PowerCut : mg "PowerCut" = some (.ref (He.ga K "PowerCut"))
  x_PowerCut : Bex K mg "PowerCut" (He.ga K "PowerCut")
  k_NotOpen : mg "NotOpen" = some (.ref (He.ga K "NotOpen"))
  x_NotOpen : Bex K mg "NotOpen" (He.ga K "NotOpen")
  x_LogFull : Bex K mg "LogFull" (He.ga K "LogFull")
  cls_Disk : Cls K (He.ga K "Disk")
  mkr_Disk : Mk K (He.ga K "Disk") (He.ma K (He.ga K "Disk") "__init__")
  cls_Log : Cls K (He.ga K "Log")
  mkr_Log : Mk K (He.ga K "Log") (He.ma K (He.ga K "Log") "__init__")
  me_Disk_size : Meth K (He.ga K "Disk") "size" (He.ma K (He.ga K "Disk") "size")
  me_Disk_check_at : Meth K (He.ga K "Disk") "_check_at" (He.ma K (He.ga K "Disk") "_check_at")
  me_Disk_read : Meth K (He.ga K "Disk") "read" (He.ma K (He.ga K "Disk") "read")
  me_Disk_cut : Meth K (He.ga K "Disk") "_cut" (He.ma K (He.ga K "Disk") "_cut")
  me_Disk_spend : Meth K (He.ga K "Disk") "_spend" (He.ma K (He.ga K "Disk") "_spend")
  me_Disk_write : Meth K (He.ga K "Disk") "write" (He.ma K (He.ga K "Disk") "write")
  me_Disk_flush : Meth K (He.ga K "Disk") "flush" (He.ma K (He.ga K "Disk") "flush")
  me_Disk_pending_count : Meth K (He.ga K "Disk") "pending_count" (He.ma K (He.ga K "Disk") "pending_count")
  me_Disk_cut_count : Meth K (He.ga K "Disk") "cut_count" (He.ma K (He.ga K "Disk") "cut_count")
  me_Log_check_open : Meth K (He.ga K "Log") "check_open" (He.ma K (He.ga K "Log") "check_open")
  me_Log_records : Meth K (He.ga K "Log") "records" (He.ma K (He.ga K "Log") "records")
  me_Log_blocks_of : Meth K (He.ga K "Log") "_blocks_of" (He.ma K (He.ga K "Log") "_blocks_of")
  me_Log_room : Meth K (He.ga K "Log") "room" (He.ma K (He.ga K "Log") "room")
  me_Log_append : Meth K (He.ga K "Log") "append" (He.ma K (He.ga K "Log") "append")
  me_Log_sync : Meth K (He.ga K "Log") "sync" (He.ma K (He.ga K "Log") "sync")
  me_Log_free_blocks : Meth K (He.ga K "Log") "free_blocks" (He.ma K (He.ga K "Log") "free_blocks")
  mi_OutOfRange : Meth K (He.ga K "OutOfRange") "__init__" (He.ma K (He.ga K "OutOfRange") "__init__")
  dummy : True
/-- what is written of the classes -/
structure CF (K : PySem.W.Frag) : Prop where
  t_RESERVED : He.tupB K "RESERVED" (tab_RESERVED.map He.Dv.str) = true
  cls_Disk : Cls K (He.ga K "Disk")
  cls_Log : Cls K (He.ga K "Log")
  na_Disk_torn : NoAttr K (He.ga K "Disk") "_torn"
  na_Disk_left : NoAttr K (He.ga K "Disk") "_left"
  na_Disk_cuts : NoAttr K (He.ga K "Disk") "_cuts"
  na_Disk_pending : NoAttr K (He.ga K "Disk") "_pending"
  na_Disk_blocks : NoAttr K (He.ga K "Disk") "_blocks"
  na_Log_cuts : NoAttr K (He.ga K "Log") "_cuts"
  na_Log_end : NoAttr K (He.ga K "Log") "_end"
  na_Log_records : NoAttr K (He.ga K "Log") "_records"
  na_Log_disk : NoAttr K (He.ga K "Log") "_disk"
  ox_OutOfRange : OexC K (He.ga K "OutOfRange")
  xn_OutOfRange : PySem.W.findIn K (.ref (He.ga K "OutOfRange")) "name" = some none
  em_LogFull_OutOfRange : PySem.W.exmOne K (.ref (He.ga K "LogFull")) (.ref (He.ga K "OutOfRange")) = some false
  em_LogFull_LogFull : PySem.W.exmOne K (.ref (He.ga K "LogFull")) (.ref (He.ga K "LogFull")) = some true
  em_NotKept_OutOfRange : PySem.W.exmOne K (.ref (He.ga K "NotKept")) (.ref (He.ga K "OutOfRange")) = some false
  em_NotKept_LogFull : PySem.W.exmOne K (.ref (He.ga K "NotKept")) (.ref (He.ga K "LogFull")) = some false
  em_NotOpen_OutOfRange : PySem.W.exmOne K (.ref (He.ga K "NotOpen")) (.ref (He.ga K "OutOfRange")) = some false
  em_NotOpen_LogFull : PySem.W.exmOne K (.ref (He.ga K "NotOpen")) (.ref (He.ga K "LogFull")) = some false
  em_OutOfRange_OutOfRange : PySem.W.exmOne K (.ref (He.ga K "OutOfRange")) (.ref (He.ga K "OutOfRange")) = some true
  em_OutOfRange_LogFull : PySem.W.exmOne K (.ref (He.ga K "OutOfRange")) (.ref (He.ga K "LogFull")) = some false
  em_PowerCut_OutOfRange : PySem.W.exmOne K (.ref (He.ga K "PowerCut")) (.ref (He.ga K "OutOfRange")) = some false
  em_PowerCut_LogFull : PySem.W.exmOne K (.ref (He.ga K "PowerCut")) (.ref (He.ga K "LogFull")) = some false
  dummy : True
section
variable {P : Program} {w : World} {K : PySem.W.Frag} {mg : Str → Option Value} {base : Heap}
abbrev N_piece : List Str := ["place", "many", "number", "text", "codes", "head", "sign"]
theorem sc_piece : FnScope N_piece ["place", "many", "number", "text"] (defScope s_piece) := ⟨rfl, rfl, rfl, by decide +kernel, rfl, by decide +kernel, by decide +kernel⟩
def t_piece (K : PySem.W.Frag) : TS :=
    (tSeq (tAsg (tLc (iAny K (tVar 3)) (gName 6) tYes (tCB (rOrd) (tCons (tVar 6) tNil)) [6]) (gName 4))
    (tSeq (tAsg (tLst (tCons (tC (.int 83)) (tCons (tVar 0) (tCons (tVar 1) (tCons (tOp rFdiv (tVar 2) (tC (.int 256))) (tCons (tOp rAnd (tVar 2) (tC (.int 255))) (tCons (tCB (rLenX K) (tCons (tVar 4) tNil)) tNil))))))) (gName 5))
    (tRet (tOp (rPlus K) (tOp (rPlus K) (tOp (rPlus K) (tVar 5) (tVar 4)) (tOp rTimes (tLst (tCons (tC (.int 0)) tNil)) (tOp (rPlus K) (tOp rMinus (tC (.int 24)) (tCB (rLenX K) (tCons (tVar 4) tNil))) (tC (.int 1))))) (tLst (tCons (tC (.int 83)) tNil))))))
theorem d_piece (g : G K mg) {f : Addr} {cdv : Value} {A : Around} {outer : List Env} {s : Shared} {H : Hp} {E : XK} (hr : Room 0 (A.deeper (envOfC "_piece" (defScope s_piece) s.heap.objs.size f cdv))) :
    PSs (cxOf CX0 P w K mg base N_piece "_piece" (defScope s_piece) f cdv A outer s H E).nox (defBody s_piece) (t_piece K) := by
  unfold t_piece
  exact
    (pss_cons (ps_setLc (own := [("sign", 6)]) (tt := tYes) (i := 4) rfl sc_piece.nd rfl rfl (sw_true rfl rfl rfl (by decide +kernel)) (pi_any (pv 3)) (blkOk_by (N := N_piece) (sc := defScope s_piece) (by decide +kernel)) (fun _ _ _ _ _ => (pg_name (i := 6) sc_piece.nd rfl (by first | exact Or.inl rfl | exact Or.inr rfl))) (fun _ _ _ _ _ => pts_nil) (fun _ _ _ _ _ => (pe_callB c_ord (by rfl) g.b_ord (by decide +kernel) (pa_cons (pv 6) pa_nil))))
    (pss_cons (ps_set (i := 5) sc_piece.nd rfl (by first | exact Or.inl rfl | exact Or.inr rfl) (pe_lst (pa_cons (C8.pe_gc rfl g.c_RECORD) (pa_cons (pv 0) (pa_cons (pv 1) (pa_cons (pe_op o_fdiv (pv 2) pe_int) (pa_cons (pe_op o_and (pv 2) pe_int) (pa_cons (pe_callB c_len (by rfl) g.b_len (by decide +kernel) (pa_cons (pv 4) pa_nil)) pa_nil))))))))
    (pss_one (ps_ret (pe_op o_plus (pe_op o_plus (pe_op o_plus (pv 5) (pv 4)) (pe_op o_times (pe_lst (pa_cons pe_int pa_nil)) (pe_op o_plus (pe_op o_minus (C8.pe_gc rfl g.c_PIECE) (pe_callB c_len (by rfl) g.b_len (by decide +kernel) (pa_cons (pv 4) pa_nil))) pe_int))) (pe_lst (pa_cons (C8.pe_gc rfl g.c_RECORD) pa_nil)))))))
theorem ok_piece (g : G K mg) {sp : Sp} (F : ∃ fd, FunD K "_piece" "_piece" (defArgs s_piece) (defBody s_piece) (defScope s_piece) [] [] (He.ga K "_piece") fd) (m : mg "_piece" = some (.ref (He.ga K "_piece")))
    (hsp : ∀ vs H Q E, sp vs H Q E → vs.length = 4 ∧ t_piece K { nx := fun _ H' => Q .non H', rt := Q } (start N_piece vs) H) : C8.Cal P w K mg base 1 "_piece" sp [] := by
  obtain ⟨fd, F⟩ := F
  exact ⟨_, fd, ["place", "many", "number", "text"], [], FunD.ok F sc_piece (fun vs H Q E h => (hsp vs H Q E h).1) (fun cdv A outer s H vs Q E hr h => ⟨_, PSs.nox (d_piece g hr), (hsp vs H Q E h).2⟩), m, F.kp, (F.bindsN fun _ _ _ _ _ _ us hl => match us, hl with | [_, _, _, _], _ => rfl), .nil⟩
abbrev N_encode_record : List Str := ["number", "text", "pieces", "at", "place", "piece"]
theorem sc_encode_record : FnScope N_encode_record ["number", "text"] (defScope s_encode_record) := ⟨rfl, rfl, rfl, by decide +kernel, rfl, by decide +kernel, by decide +kernel⟩
def t_encode_record (K : PySem.W.Frag) (sp_piece : Sp) : TS :=
    (tSeq (tAsg (tLc (iRng3 (tCons (tC (.int 0)) (tCons (tCB (rLenX K) (tCons (tVar 1) tNil)) (tCons (tC (.int 24)) tNil)))) (gName 3) tYes (tSl (rSlX K) (tVar 1) (tPart (tVar 3)) (tPart (tOp (rPlus K) (tVar 3) (tC (.int 24))))) [3]) (gName 2))
    (tRet (tLc (iEnum K (tCons (tVar 2) tNil)) (gUnp K 2 (gCons (gName 4) (gCons (gName 5) gNil))) tYes (tCall sp_piece [] C8.E0 (tCons (tVar 4) (tCons (tCB (rLenX K) (tCons (tVar 2) tNil)) (tCons (tVar 0) (tCons (tVar 5) tNil))))) [4, 5])))
theorem d_encode_record (g : G K mg) {sp_piece : Sp} (c_piece : C8.Cal P w K mg base 1 "_piece" sp_piece []) {f : Addr} {cdv : Value} {A : Around} {outer : List Env} {s : Shared} {H : Hp} {E : XK} (hr : Room 1 (A.deeper (envOfC "encode_record" (defScope s_encode_record) s.heap.objs.size f cdv))) :
    PSs (cxOf CX0 P w K mg base N_encode_record "encode_record" (defScope s_encode_record) f cdv A outer s H E).nox (defBody s_encode_record) (t_encode_record K sp_piece) := by
  unfold t_encode_record
  exact
    (pss_cons (ps_set (i := 2) sc_encode_record.nd rfl (by first | exact Or.inl rfl | exact Or.inr rfl) (pe_lc (own := [("at", 3)]) (tt := tYes) rfl sc_encode_record.nd (pi_range3 rfl g.b_range (pa_cons pe_int (pa_cons (pe_callB c_len (by rfl) g.b_len (by decide +kernel) (pa_cons (pv 1) pa_nil)) (pa_cons (C8.pe_gc rfl g.c_PIECE) pa_nil)))) (blkOk_by (N := N_encode_record) (sc := defScope s_encode_record) (by decide +kernel)) (fun _ _ _ _ _ => (pg_name (i := 3) sc_encode_record.nd rfl (by first | exact Or.inl rfl | exact Or.inr rfl))) (fun _ _ _ _ _ => pts_nil) (fun _ _ _ _ _ => (pe_slice sl_any (pv 1) (po_some (pv 3)) (po_some (pe_op o_plus (pv 3) (C8.pe_gc rfl g.c_PIECE)))))))
    (pss_one (ps_ret (pe_lc (own := [("place", 4), ("piece", 5)]) (tt := tYes) rfl sc_encode_record.nd (pi_enum rfl g.b_enumerate (pa_cons (pv 2) pa_nil)) (blkOk_by (N := N_encode_record) (sc := defScope s_encode_record) (by decide +kernel)) (fun _ _ _ _ _ => (pg_unp rfl (pgs_cons (pg_name (i := 4) sc_encode_record.nd rfl (by first | exact Or.inl rfl | exact Or.inr rfl)) (pgs_cons (pg_name (i := 5) sc_encode_record.nd rfl (by first | exact Or.inl rfl | exact Or.inr rfl)) pgs_nil)))) (fun _ _ _ _ _ => pts_nil) (fun _ _ _ _ _ => (C8.pe_c c_piece hr (by decide) rfl (pa_cons (pv 4) (pa_cons (pe_callB c_len (by rfl) g.b_len (by decide +kernel) (pa_cons (pv 2) pa_nil)) (pa_cons (pv 0) (pa_cons (pv 5) pa_nil))))))))))
theorem ok_encode_record (g : G K mg) {sp_piece : Sp} (c_piece : C8.Cal P w K mg base 1 "_piece" sp_piece []) {sp : Sp} (F : ∃ fd, FunD K "encode_record" "encode_record" (defArgs s_encode_record) (defBody s_encode_record) (defScope s_encode_record) [] [] (He.ga K "encode_record") fd) (m : mg "encode_record" = some (.ref (He.ga K "encode_record")))
    (hsp : ∀ vs H Q E, sp vs H Q E → vs.length = 2 ∧ t_encode_record K sp_piece { nx := fun _ H' => Q .non H', rt := Q } (start N_encode_record vs) H) : C8.Cal P w K mg base 2 "encode_record" sp [] := by
  obtain ⟨fd, F⟩ := F
  exact ⟨_, fd, ["number", "text"], [], FunD.ok F sc_encode_record (fun vs H Q E h => (hsp vs H Q E h).1) (fun cdv A outer s H vs Q E hr h => ⟨_, PSs.nox (d_encode_record g c_piece hr), (hsp vs H Q E h).2⟩), m, F.kp, (F.bindsN fun _ _ _ _ _ _ us hl => match us, hl with | [_, _], _ => rfl), .nil⟩
abbrev N_are_codes : List Str := ["codes", "code"]
theorem sc_are_codes : FnScope N_are_codes ["codes"] (defScope s_are_codes) := ⟨rfl, rfl, rfl, by decide +kernel, rfl, by decide +kernel, by decide +kernel⟩
def t_are_codes (K : PySem.W.Frag) : TS :=
    (tSeq (tFor (iAny K (tVar 0)) (gName 1) (tIfS (tOr (tNot (tTest (tChain rLe rLe (tC (.int 32)) (tVar 1) (tC (.int 126))))) (tTest (tOp (rEqX K) (tVar 1) (tC (.int 37))))) (tRet (tC (.bl false))) tNext))
    (tRet (tC (.bl true))))
theorem d_are_codes (g : G K mg) {f : Addr} {cdv : Value} {A : Around} {outer : List Env} {s : Shared} {H : Hp} {E : XK} (hr : Room 0 (A.deeper (envOfC "_are_codes" (defScope s_are_codes) s.heap.objs.size f cdv))) :
    PSs (cxOf CX0 P w K mg base N_are_codes "_are_codes" (defScope s_are_codes) f cdv A outer s H E).nox (defBody s_are_codes) (t_are_codes K) := by
  unfold t_are_codes
  exact
    (pss_cons (ps_for PassesOwn.never rfl (pi_any (pv 0)) (pg_name (i := 1) sc_are_codes.nd rfl (by first | exact Or.inl rfl | exact Or.inr rfl)) (pss_one (ps_if (PW.pt (pw_or (pt_not (pt_chain o_le o_le pe_int (pv 1) pe_int)) (pw_or1 (pt_cmpR (o_eq hr.units) (pv 1) (C8.pe_gc rfl g.c_PERCENT) (nomark _))))) (pss_one (ps_ret pe_bl)) pss_nil)))
    (pss_one (ps_ret pe_bl)))
theorem ok_are_codes (g : G K mg) {sp : Sp} (F : ∃ fd, FunD K "_are_codes" "_are_codes" (defArgs s_are_codes) (defBody s_are_codes) (defScope s_are_codes) [] [] (He.ga K "_are_codes") fd) (m : mg "_are_codes" = some (.ref (He.ga K "_are_codes")))
    (hsp : ∀ vs H Q E, sp vs H Q E → vs.length = 1 ∧ t_are_codes K { nx := fun _ H' => Q .non H', rt := Q } (start N_are_codes vs) H) : C8.Cal P w K mg base 1 "_are_codes" sp [] := by
  obtain ⟨fd, F⟩ := F
  exact ⟨_, fd, ["codes"], [], FunD.ok F sc_are_codes (fun vs H Q E h => (hsp vs H Q E h).1) (fun cdv A outer s H vs Q E hr h => ⟨_, PSs.nox (d_are_codes g hr), (hsp vs H Q E h).2⟩), m, F.kp, (F.bindsN fun _ _ _ _ _ _ us hl => match us, hl with | [_], _ => rfl), .nil⟩
abbrev N_sign : List Str := ["code"]
theorem sc_sign : FnScope N_sign ["code"] (defScope s_sign) := ⟨rfl, rfl, rfl, by decide +kernel, rfl, by decide +kernel, by decide +kernel⟩
def t_sign (K : PySem.W.Frag) : TS :=
    (tRet (tIf (tTest (tOp rLt (tVar 0) (tC (.int 37)))) (tOp (rIx K) (tC (.str " !\"#$&'()*+,-./0123456789:;<=>?@ABCDEFGHIJKLMNOPQRSTUVWXYZ[\\]^_`abcdefghijklmnopqrstuvwxyz{|}~")) (tOp rMinus (tVar 0) (tC (.int 32)))) (tOp (rIx K) (tC (.str " !\"#$&'()*+,-./0123456789:;<=>?@ABCDEFGHIJKLMNOPQRSTUVWXYZ[\\]^_`abcdefghijklmnopqrstuvwxyz{|}~")) (tOp rMinus (tVar 0) (tC (.int 33))))))
theorem d_sign (g : G K mg) {f : Addr} {cdv : Value} {A : Around} {outer : List Env} {s : Shared} {H : Hp} {E : XK} (hr : Room 0 (A.deeper (envOfC "_sign" (defScope s_sign) s.heap.objs.size f cdv))) :
    PSs (cxOf CX0 P w K mg base N_sign "_sign" (defScope s_sign) f cdv A outer s H E).nox (defBody s_sign) (t_sign K) := by
  unfold t_sign
  exact
    (pss_one (ps_ret (pe_ifExp (pt_cmpR o_lt (pv 0) (C8.pe_gc rfl g.c_PERCENT) (nomark _)) (pe_ix ix_seq (C8.pe_gc rfl g.c_SIGNS) (pe_op o_minus (pv 0) pe_int) (fun _ _ => rfl)) (pe_ix ix_seq (C8.pe_gc rfl g.c_SIGNS) (pe_op o_minus (pv 0) pe_int) (fun _ _ => rfl)))))
theorem ok_sign (g : G K mg) {sp : Sp} (F : ∃ fd, FunD K "_sign" "_sign" (defArgs s_sign) (defBody s_sign) (defScope s_sign) [] [] (He.ga K "_sign") fd) (m : mg "_sign" = some (.ref (He.ga K "_sign")))
    (hsp : ∀ vs H Q E, sp vs H Q E → vs.length = 1 ∧ t_sign K { nx := fun _ H' => Q .non H', rt := Q } (start N_sign vs) H) : C8.Cal P w K mg base 1 "_sign" sp [] := by
  obtain ⟨fd, F⟩ := F
  exact ⟨_, fd, ["code"], [], FunD.ok F sc_sign (fun vs H Q E h => (hsp vs H Q E h).1) (fun cdv A outer s H vs Q E hr h => ⟨_, PSs.nox (d_sign g hr), (hsp vs H Q E h).2⟩), m, F.kp, (F.bindsN fun _ _ _ _ _ _ us hl => match us, hl with | [_], _ => rfl), .nil⟩
abbrev N_decode_piece : List Str := ["block", "place", "many", "high", "low", "count", "codes", "code"]
theorem sc_decode_piece : FnScope N_decode_piece ["block"] (defScope s_decode_piece) := ⟨rfl, rfl, rfl, by decide +kernel, rfl, by decide +kernel, by decide +kernel⟩
def t_decode_piece (K : PySem.W.Frag) (sp_sign : Sp) (sp_are_codes : Sp) : TS :=
    (tSeq (tIfS (tOr (tTest (tOp (rNeX K) (tOp (rIx K) (tVar 0) (tC (.int 0))) (tC (.int 83)))) (tTest (tOp (rNeX K) (tOp (rIx K) (tVar 0) (tC (.int 31))) (tC (.int 83))))) (tRet (tC .non)) tNext)
    (tSeq (tAsg (tSl (rSlX K) (tVar 0) (tPart (tC (.int 1))) (tPart (tC (.int 6)))) (gUnp K 5 (gCons (gName 1) (gCons (gName 2) (gCons (gName 3) (gCons (gName 4) (gCons (gName 5) gNil)))))))
    (tSeq (tIfS (tOr (tTest (tOp rGe (tVar 1) (tVar 2))) (tOr (tNot (tTest (tChain rLe rLe (tC (.int 1)) (tVar 5) (tC (.int 24))))) (tTruX K (tCB (rAnyX K) (tCons (tSl (rSlX K) (tVar 0) (tPart (tOp (rPlus K) (tC (.int 6)) (tVar 5))) (tPart (tC (.int 31)))) tNil))))) (tRet (tC .non)) tNext)
    (tSeq (tAsg (tSl (rSlX K) (tVar 0) (tPart (tC (.int 6))) (tPart (tOp (rPlus K) (tC (.int 6)) (tVar 5)))) (gName 6))
    (tSeq (tIfS (tNot (tTruX K (tCall sp_are_codes [] C8.E0 (tCons (tVar 6) tNil)))) (tRet (tC .non)) tNext)
    (tRet (tTup (tCons (tVar 1) (tCons (tVar 2) (tCons (tOp (rPlus K) (tOp rTimes (tVar 3) (tC (.int 256))) (tVar 4)) (tCons (tBM K "str" (rJoin K) (tC (.str "")) (tCons (tLc (iAny K (tVar 6)) (gName 7) tYes (tCall sp_sign [] C8.E0 (tCons (tVar 7) tNil)) [7]) tNil)) tNil)))))))))))
theorem d_decode_piece (g : G K mg) {sp_sign : Sp} (c_sign : C8.Cal P w K mg base 1 "_sign" sp_sign []) {sp_are_codes : Sp} (c_are_codes : C8.Cal P w K mg base 1 "_are_codes" sp_are_codes []) {f : Addr} {cdv : Value} {A : Around} {outer : List Env} {s : Shared} {H : Hp} {E : XK} (hr : Room 1 (A.deeper (envOfC "decode_piece" (defScope s_decode_piece) s.heap.objs.size f cdv))) :
    PSs (cxOf CX0 P w K mg base N_decode_piece "decode_piece" (defScope s_decode_piece) f cdv A outer s H E).nox (defBody s_decode_piece) (t_decode_piece K sp_sign sp_are_codes) := by
  unfold t_decode_piece
  exact
    (pss_cons (ps_if (PW.pt (pw_or (pt_cmpR (o_ne hr.units) (pe_ix ix_seq (pv 0) pe_int (fun _ _ => rfl)) (C8.pe_gc rfl g.c_RECORD) (nomark _)) (pw_or1 (pt_cmpR (o_ne hr.units) (pe_ix ix_seq (pv 0) pe_int (fun _ _ => rfl)) (C8.pe_gc rfl g.c_RECORD) (nomark _))))) (pss_one (ps_ret pe_non)) pss_nil)
    (pss_cons (ps_asg (pe_slice sl_any (pv 0) (po_some pe_int) (po_some pe_int)) (pg_unp rfl (pgs_cons (pg_name (i := 1) sc_decode_piece.nd rfl (by first | exact Or.inl rfl | exact Or.inr rfl)) (pgs_cons (pg_name (i := 2) sc_decode_piece.nd rfl (by first | exact Or.inl rfl | exact Or.inr rfl)) (pgs_cons (pg_name (i := 3) sc_decode_piece.nd rfl (by first | exact Or.inl rfl | exact Or.inr rfl)) (pgs_cons (pg_name (i := 4) sc_decode_piece.nd rfl (by first | exact Or.inl rfl | exact Or.inr rfl)) (pgs_cons (pg_name (i := 5) sc_decode_piece.nd rfl (by first | exact Or.inl rfl | exact Or.inr rfl)) pgs_nil)))))))
    (pss_cons (ps_if (PW.pt (pw_or (pt_cmpR o_ge (pv 1) (pv 2) (nomark _)) (pw_or (pt_not (pt_chain o_le o_le pe_int (pv 5) (C8.pe_gc rfl g.c_PIECE))) (pw_or1 (pt_tru (pe_callB (c_any rfl) (by rfl) g.b_any (by decide +kernel) (pa_cons (pe_slice sl_any (pv 0) (po_some (pe_op o_plus pe_int (pv 5))) (po_some pe_int)) pa_nil))))))) (pss_one (ps_ret pe_non)) pss_nil)
    (pss_cons (ps_set (i := 6) sc_decode_piece.nd rfl (by first | exact Or.inl rfl | exact Or.inr rfl) (pe_slice sl_any (pv 0) (po_some pe_int) (po_some (pe_op o_plus pe_int (pv 5)))))
    (pss_cons (ps_if (pt_not (pt_tru (C8.pe_c c_are_codes hr (by decide) rfl (pa_cons (pv 6) pa_nil)))) (pss_one (ps_ret pe_non)) pss_nil)
    (pss_one (ps_ret (pe_tup (pa_cons (pv 1) (pa_cons (pv 2) (pa_cons (pe_op o_plus (pe_op o_times (pv 3) pe_int) (pv 4)) (pa_cons (pe_bm PySem.F.plainAttrs_str PySem.F.slot_str_join PySem.F.type_str_join m_join pe_str (pa_cons (pe_lc (own := [("code", 7)]) (tt := tYes) rfl sc_decode_piece.nd (pi_any (pv 6)) (blkOk_by (N := N_decode_piece) (sc := defScope s_decode_piece) (by decide +kernel)) (fun _ _ _ _ _ => (pg_name (i := 7) sc_decode_piece.nd rfl (by first | exact Or.inl rfl | exact Or.inr rfl))) (fun _ _ _ _ _ => pts_nil) (fun _ _ _ _ _ => (C8.pe_c c_sign hr (by decide) rfl (pa_cons (pv 7) pa_nil)))) pa_nil)) pa_nil))))))))))))
theorem ok_decode_piece (g : G K mg) {sp_sign : Sp} (c_sign : C8.Cal P w K mg base 1 "_sign" sp_sign []) {sp_are_codes : Sp} (c_are_codes : C8.Cal P w K mg base 1 "_are_codes" sp_are_codes []) {sp : Sp} (F : ∃ fd, FunD K "decode_piece" "decode_piece" (defArgs s_decode_piece) (defBody s_decode_piece) (defScope s_decode_piece) [] [] (He.ga K "decode_piece") fd) (m : mg "decode_piece" = some (.ref (He.ga K "decode_piece")))
    (hsp : ∀ vs H Q E, sp vs H Q E → vs.length = 1 ∧ t_decode_piece K sp_sign sp_are_codes { nx := fun _ H' => Q .non H', rt := Q } (start N_decode_piece vs) H) : C8.Cal P w K mg base 2 "decode_piece" sp [] := by
  obtain ⟨fd, F⟩ := F
  exact ⟨_, fd, ["block"], [], FunD.ok F sc_decode_piece (fun vs H Q E h => (hsp vs H Q E h).1) (fun cdv A outer s H vs Q E hr h => ⟨_, PSs.nox (d_decode_piece g c_sign c_are_codes hr), (hsp vs H Q E h).2⟩), m, F.kp, (F.bindsN fun _ _ _ _ _ _ us hl => match us, hl with | [_], _ => rfl), .nil⟩
abbrev N_is_block : List Str := ["block", "byte"]
theorem sc_is_block : FnScope N_is_block ["block"] (defScope s_is_block) := ⟨rfl, rfl, rfl, by decide +kernel, rfl, by decide +kernel, by decide +kernel⟩
def t_is_block (K : PySem.W.Frag) : TS :=
    (tSeq (tIfS (tTest (tOp (rNeX K) (tCB (rLenX K) (tCons (tVar 0) tNil)) (tC (.int 32)))) (tRet (tC (.bl false))) tNext)
    (tSeq (tFor (iAny K (tVar 0)) (gName 1) (tIfS (tNot (tTest (tChain rLe rLe (tC (.int 0)) (tVar 1) (tC (.int 255))))) (tRet (tC (.bl false))) tNext))
    (tRet (tC (.bl true)))))
theorem d_is_block (g : G K mg) {f : Addr} {cdv : Value} {A : Around} {outer : List Env} {s : Shared} {H : Hp} {E : XK} (hr : Room 0 (A.deeper (envOfC "_is_block" (defScope s_is_block) s.heap.objs.size f cdv))) :
    PSs (cxOf CX0 P w K mg base N_is_block "_is_block" (defScope s_is_block) f cdv A outer s H E).nox (defBody s_is_block) (t_is_block K) := by
  unfold t_is_block
  exact
    (pss_cons (ps_if (pt_cmpR (o_ne hr.units) (pe_callB c_len (by rfl) g.b_len (by decide +kernel) (pa_cons (pv 0) pa_nil)) (C8.pe_gc rfl g.c_BLOCK) (nomark _)) (pss_one (ps_ret pe_bl)) pss_nil)
    (pss_cons (ps_for PassesOwn.never rfl (pi_any (pv 0)) (pg_name (i := 1) sc_is_block.nd rfl (by first | exact Or.inl rfl | exact Or.inr rfl)) (pss_one (ps_if (pt_not (pt_chain o_le o_le pe_int (pv 1) pe_int)) (pss_one (ps_ret pe_bl)) pss_nil)))
    (pss_one (ps_ret pe_bl))))
theorem ok_is_block (g : G K mg) {sp : Sp} (F : ∃ fd, FunD K "_is_block" "_is_block" (defArgs s_is_block) (defBody s_is_block) (defScope s_is_block) [] [] (He.ga K "_is_block") fd) (m : mg "_is_block" = some (.ref (He.ga K "_is_block")))
    (hsp : ∀ vs H Q E, sp vs H Q E → vs.length = 1 ∧ t_is_block K { nx := fun _ H' => Q .non H', rt := Q } (start N_is_block vs) H) : C8.Cal P w K mg base 1 "_is_block" sp [] := by
  obtain ⟨fd, F⟩ := F
  exact ⟨_, fd, ["block"], [], FunD.ok F sc_is_block (fun vs H Q E h => (hsp vs H Q E h).1) (fun cdv A outer s H vs Q E hr h => ⟨_, PSs.nox (d_is_block g hr), (hsp vs H Q E h).2⟩), m, F.kp, (F.bindsN fun _ _ _ _ _ _ us hl => match us, hl with | [_], _ => rfl), .nil⟩
abbrev N_is_name : List Str := ["text", "sign"]
theorem sc_is_name : FnScope N_is_name ["text"] (defScope s_is_name) := ⟨rfl, rfl, rfl, by decide +kernel, rfl, by decide +kernel, by decide +kernel⟩
def t_is_name (K : PySem.W.Frag) : TS :=
    (tRet (tAndV (tChain rLe rLe (tC (.int 1)) (tCB (rLenX K) (tCons (tVar 0) tNil)) (tC (.int 6))) (tAndV (tCB (rAllX K) (tCons (tLc (iAny K (tVar 0)) (gName 1) tYes (tOp (rInX K false) (tVar 1) (tC (.str "abcdefghijklmnopqrstuvwxyz"))) [1]) tNil)) (tOp (rInX K true) (tVar 0) (tC (.ref (He.ga K "RESERVED")))))))
theorem d_is_name (g : G K mg) {f : Addr} {cdv : Value} {A : Around} {outer : List Env} {s : Shared} {H : Hp} {E : XK} (hr : Room 0 (A.deeper (envOfC "is_name" (defScope s_is_name) s.heap.objs.size f cdv))) :
    PSs (cxOf CX0 P w K mg base N_is_name "is_name" (defScope s_is_name) f cdv A outer s H E).nox (defBody s_is_name) (t_is_name K) := by
  unfold t_is_name
  exact
    (pss_one (ps_ret (pe_and (pe_chain o_le o_le pe_int (pe_callB c_len (by rfl) g.b_len (by decide +kernel) (pa_cons (pv 0) pa_nil)) (C8.pe_gc rfl g.c_NAME_MOST)) (pe_and (pe_callB (c_all rfl) (by rfl) g.b_all (by decide +kernel) (pa_cons (pe_lc (own := [("sign", 1)]) (tt := tYes) rfl sc_is_name.nd (pi_any (pv 0)) (blkOk_by (N := N_is_name) (sc := defScope s_is_name) (by decide +kernel)) (fun _ _ _ _ _ => (pg_name (i := 1) sc_is_name.nd rfl (by first | exact Or.inl rfl | exact Or.inr rfl))) (fun _ _ _ _ _ => pts_nil) (fun _ _ _ _ _ => (pe_cmpR o_in (pv 1) (C8.pe_gc rfl g.c_LETTERS) (by rfl)))) pa_nil)) (pe_one (pe_cmpR o_notin (pv 0) (C8.pe_gc rfl g.c_RESERVED) (by rfl)))))))
theorem ok_is_name (g : G K mg) {sp : Sp} (F : ∃ fd, FunD K "is_name" "is_name" (defArgs s_is_name) (defBody s_is_name) (defScope s_is_name) [] [] (He.ga K "is_name") fd) (m : mg "is_name" = some (.ref (He.ga K "is_name")))
    (hsp : ∀ vs H Q E, sp vs H Q E → vs.length = 1 ∧ t_is_name K { nx := fun _ H' => Q .non H', rt := Q } (start N_is_name vs) H) : C8.Cal P w K mg base 1 "is_name" sp [] := by
  obtain ⟨fd, F⟩ := F
  exact ⟨_, fd, ["text"], [], FunD.ok F sc_is_name (fun vs H Q E h => (hsp vs H Q E h).1) (fun cdv A outer s H vs Q E hr h => ⟨_, PSs.nox (d_is_name g hr), (hsp vs H Q E h).2⟩), m, F.kp, (F.bindsN fun _ _ _ _ _ _ us hl => match us, hl with | [_], _ => rfl), .nil⟩
abbrev N_is_value : List Str := ["value"]
theorem sc_is_value : FnScope N_is_value ["value"] (defScope s_is_value) := ⟨rfl, rfl, rfl, by decide +kernel, rfl, by decide +kernel, by decide +kernel⟩
def t_is_value (K : PySem.W.Frag) : TS :=
    (tSeq (tIfS (tTruX K (tCB (rIsi K) (tCons (tVar 0) (tCons (tC (.ty "int")) tNil)))) (tRet (tChain rLe rLe (tUn (rU fun i => .int (-i)) (tC (.int 99999))) (tVar 0) (tC (.int 99999)))) tNext)
    (tRet (tAndV (tCB (rIsi K) (tCons (tVar 0) (tCons (tC (.ty "str")) tNil))) (tAndV (tOp rLe (tCB (rLenX K) (tCons (tVar 0) tNil)) (tC (.int 20))) (tAndV (tOp (rInX K true) (tC (.str "\"")) (tVar 0)) (tOp (rInX K true) (tC (.str "\n")) (tVar 0)))))))
theorem d_is_value (g : G K mg) {f : Addr} {cdv : Value} {A : Around} {outer : List Env} {s : Shared} {H : Hp} {E : XK} (hr : Room 0 (A.deeper (envOfC "is_value" (defScope s_is_value) s.heap.objs.size f cdv))) :
    PSs (cxOf CX0 P w K mg base N_is_value "is_value" (defScope s_is_value) f cdv A outer s H E).nox (defBody s_is_value) (t_is_value K) := by
  unfold t_is_value
  exact
    (pss_cons (ps_if (pt_tru (pe_callB c_isi (by rfl) g.b_isinstance (by decide +kernel) (pa_cons (pv 0) (pa_cons (pe_bltn (by rfl) g.b_int (by decide +kernel) rfl) pa_nil)))) (pss_one (ps_ret (pe_chain o_le o_le (pe_un un_neg (C8.pe_gc rfl g.c_NUMBER_MOST)) (pv 0) (C8.pe_gc rfl g.c_NUMBER_MOST)))) pss_nil)
    (pss_one (ps_ret (pe_and (pe_callB c_isi (by rfl) g.b_isinstance (by decide +kernel) (pa_cons (pv 0) (pa_cons (pe_bltn (by rfl) g.b_str (by decide +kernel) rfl) pa_nil))) (pe_and (pe_cmpR o_le (pe_callB c_len (by rfl) g.b_len (by decide +kernel) (pa_cons (pv 0) pa_nil)) (C8.pe_gc rfl g.c_STRING_MOST) (nomark _)) (pe_and (pe_cmpR o_notin (C8.pe_gc rfl g.c_QUOTE) (pv 0) (by rfl)) (pe_one (pe_cmpR o_notin pe_str (pv 0) (by rfl)))))))))
theorem ok_is_value (g : G K mg) {sp : Sp} (F : ∃ fd, FunD K "is_value" "is_value" (defArgs s_is_value) (defBody s_is_value) (defScope s_is_value) [] [] (He.ga K "is_value") fd) (m : mg "is_value" = some (.ref (He.ga K "is_value")))
    (hsp : ∀ vs H Q E, sp vs H Q E → vs.length = 1 ∧ t_is_value K { nx := fun _ H' => Q .non H', rt := Q } (start N_is_value vs) H) : C8.Cal P w K mg base 1 "is_value" sp [] := by
  obtain ⟨fd, F⟩ := F
  exact ⟨_, fd, ["value"], [], FunD.ok F sc_is_value (fun vs H Q E h => (hsp vs H Q E h).1) (fun cdv A outer s H vs Q E hr h => ⟨_, PSs.nox (d_is_value g hr), (hsp vs H Q E h).2⟩), m, F.kp, (F.bindsN fun _ _ _ _ _ _ us hl => match us, hl with | [_], _ => rfl), .nil⟩
abbrev N_check_entries : List Str := ["entries", "name"]
theorem sc_check_entries : FnScope N_check_entries ["entries"] (defScope s_check_entries) := ⟨rfl, rfl, rfl, by decide +kernel, rfl, by decide +kernel, by decide +kernel⟩
def t_check_entries (K : PySem.W.Frag) (sp_is_name : Sp) (E : XK) : TS :=
    (tSeq (tIfS (tOr (tNot (tTest (tChain rLe rLe (tC (.int 1)) (tCB (rLenX K) (tCons (tVar 0) tNil)) (tC (.int 3))))) (tTest (tOp (rNeX K) (tLenSetX K (tVar 0)) (tCB (rLenX K) (tCons (tVar 0) tNil))))) (tRaiseO (He.ga K "OutOfRange") (spExI K (He.ga K "OutOfRange") "name") (fun cls d _ H => E cls d H) (tCons (tC (.str "entries")) tNil)) tNext)
    (tFor (iAny K (tVar 0)) (gName 1) (tIfS (tNot (tTruX K (tCall sp_is_name [] C8.E0 (tCons (tVar 1) tNil)))) (tRaiseO (He.ga K "OutOfRange") (spExI K (He.ga K "OutOfRange") "name") (fun cls d _ H => E cls d H) (tCons (tC (.str "entries")) tNil)) tNext)))
theorem d_check_entries (g : G K mg) {sp_is_name : Sp} (c_is_name : C8.Cal P w K mg base 1 "is_name" sp_is_name []) (c_OutOfRange : Oex P w K mg base 1 "OutOfRange" (He.ga K "OutOfRange") "name") {f : Addr} {cdv : Value} {A : Around} {outer : List Env} {s : Shared} {H : Hp} {E : XK} (hr : Room 2 (A.deeper (envOfC "check_entries" (defScope s_check_entries) s.heap.objs.size f cdv))) :
    PSs (cxOf (L2.CX P w) P w K mg base N_check_entries "check_entries" (defScope s_check_entries) f cdv A outer s H E) (defBody s_check_entries) (t_check_entries K sp_is_name E) := by
  unfold t_check_entries
  exact
    (pss_cons (ps_if (PW.pt (pw_or (pt_not (pt_chain o_le o_le pe_int (pe_callB c_len (by rfl) g.b_len (by decide +kernel) (pa_cons (pv 0) pa_nil)) (C8.pe_gc rfl g.c_ENTRIES_MOST))) (pw_or1 (pt_cmpR (o_ne hr.units) (pe_lenSetX rfl (by rfl) g.b_len (by rfl) g.b_set (pv 0)) (pe_callB c_len (by rfl) g.b_len (by decide +kernel) (pa_cons (pv 0) pa_nil)) (nomark _))))) (pss_one (ps_rO c_OutOfRange rfl hr (by decide) (takes_of rfl rfl rfl rfl) rfl (pa_cons pe_str pa_nil))) pss_nil)
    (pss_one (ps_for (passes_of rfl) rfl (pi_any (pv 0)) (pg_name (i := 1) sc_check_entries.nd rfl (by first | exact Or.inl rfl | exact Or.inr rfl)) (pss_one (ps_if (pt_not (pt_tru (C8.pe_c c_is_name hr (by decide) rfl (pa_cons (pv 1) pa_nil)))) (pss_one (ps_rO c_OutOfRange rfl hr (by decide) (takes_of rfl rfl rfl rfl) rfl (pa_cons pe_str pa_nil))) pss_nil)))))
theorem ok_check_entries (g : G K mg) {sp_is_name : Sp} (c_is_name : C8.Cal P w K mg base 1 "is_name" sp_is_name []) (c_OutOfRange : Oex P w K mg base 1 "OutOfRange" (He.ga K "OutOfRange") "name") {sp : Sp} (F : ∃ fd, FunD K "check_entries" "check_entries" (defArgs s_check_entries) (defBody s_check_entries) (defScope s_check_entries) [] [] (He.ga K "check_entries") fd) (m : mg "check_entries" = some (.ref (He.ga K "check_entries")))
    (hsp : ∀ vs H Q E, sp vs H Q E → vs.length = 1 ∧ t_check_entries K sp_is_name E { nx := fun _ H' => Q .non H', rt := Q } (start N_check_entries vs) H) : CalX P w K mg base 3 "check_entries" sp := by
  obtain ⟨fd, F⟩ := F
  exact ⟨_, fd, ["entries"], FunD.ok F sc_check_entries (fun vs H Q E h => (hsp vs H Q E h).1) (fun cdv A outer s H vs Q E hr h => ⟨_, d_check_entries g c_is_name c_OutOfRange hr, (hsp vs H Q E h).2⟩), m, F.kp, (F.bindsN fun _ _ _ _ _ _ us hl => match us, hl with | [_], _ => rfl)⟩
abbrev N_value_text : List Str := ["value"]
theorem sc_value_text : FnScope N_value_text ["value"] (defScope s_value_text) := ⟨rfl, rfl, rfl, by decide +kernel, rfl, by decide +kernel, by decide +kernel⟩
def t_value_text (K : PySem.W.Frag) : TS :=
    (tRet (tIf (tTruX K (tCB (rIsi K) (tCons (tVar 0) (tCons (tC (.ty "str")) tNil)))) (tOp (rPlus K) (tOp (rPlus K) (tC (.str "\"")) (tVar 0)) (tC (.str "\""))) (tCB (rStrX) (tCons (tVar 0) tNil))))
theorem d_value_text (g : G K mg) {f : Addr} {cdv : Value} {A : Around} {outer : List Env} {s : Shared} {H : Hp} {E : XK} (hr : Room 0 (A.deeper (envOfC "_value_text" (defScope s_value_text) s.heap.objs.size f cdv))) :
    PSs (cxOf CX0 P w K mg base N_value_text "_value_text" (defScope s_value_text) f cdv A outer s H E).nox (defBody s_value_text) (t_value_text K) := by
  unfold t_value_text
  exact
    (pss_one (ps_ret (pe_ifExp (pt_tru (pe_callB c_isi (by rfl) g.b_isinstance (by decide +kernel) (pa_cons (pv 0) (pa_cons (pe_bltn (by rfl) g.b_str (by decide +kernel) rfl) pa_nil)))) (pe_op o_plus (pe_op o_plus (C8.pe_gc rfl g.c_QUOTE) (pv 0)) (C8.pe_gc rfl g.c_QUOTE)) (pe_callTy c_str (by rfl) g.b_str (by decide +kernel) (pa_cons (pv 0) pa_nil)))))
theorem ok_value_text (g : G K mg) {sp : Sp} (F : ∃ fd, FunD K "_value_text" "_value_text" (defArgs s_value_text) (defBody s_value_text) (defScope s_value_text) [] [] (He.ga K "_value_text") fd) (m : mg "_value_text" = some (.ref (He.ga K "_value_text")))
    (hsp : ∀ vs H Q E, sp vs H Q E → vs.length = 1 ∧ t_value_text K { nx := fun _ H' => Q .non H', rt := Q } (start N_value_text vs) H) : C8.Cal P w K mg base 1 "_value_text" sp [] := by
  obtain ⟨fd, F⟩ := F
  exact ⟨_, fd, ["value"], [], FunD.ok F sc_value_text (fun vs H Q E h => (hsp vs H Q E h).1) (fun cdv A outer s H vs Q E hr h => ⟨_, PSs.nox (d_value_text g hr), (hsp vs H Q E h).2⟩), m, F.kp, (F.bindsN fun _ _ _ _ _ _ us hl => match us, hl with | [_], _ => rfl), .nil⟩
abbrev N_write_record : List Str := ["record", "word", "head", "value"]
theorem sc_write_record : FnScope N_write_record ["record"] (defScope s_write_record) := ⟨rfl, rfl, rfl, by decide +kernel, rfl, by decide +kernel, by decide +kernel⟩
def t_write_record (K : PySem.W.Frag) (sp_value_text : Sp) : TS :=
    (tSeq (tAsg (tOp (rIx K) (tVar 0) (tC (.int 0))) (gName 1))
    (tSeq (tIfS (tTest (tOp (rEqX K) (tVar 1) (tC (.str "entries")))) (tRet (tBM K "str" (rJoin K) (tC (.str " ")) (tCons (tOp (rPlus K) (tLst (tCons (tVar 1) tNil)) (tCB (rListOf K) (tCons (tOp (rIx K) (tVar 0) (tC (.int 1))) tNil))) tNil))) tNext)
    (tSeq (tIfS (tTest (tOp (rEqX K) (tVar 1) (tC (.str "text")))) (tRet (tOp (rPlus K) (tOp (rPlus K) (tOp (rPlus K) (tC (.str "text ")) (tOp (rIx K) (tVar 0) (tC (.int 1)))) (tC (.str " "))) (CwR.tReplC (tOp (rIx K) (tVar 0) (tC (.int 2))) "\n" "|"))) tNext)
    (tSeq (tIfS (tTest (tOp (rEqX K) (tVar 1) (tC (.str "call")))) (tSeq (tAsg (tFS [(tC (.str "call ")), (tFmt (tOp (rIx K) (tVar 0) (tC (.int 1)))), (tC (.str " ")), (tFmt (tOp (rIx K) (tVar 0) (tC (.int 2)))), (tC (.str " ")), (tFmt (tOp (rIx K) (tVar 0) (tC (.int 3)))), (tC (.str " ")), (tFmt (tOp (rIx K) (tVar 0) (tC (.int 4))))]) (gName 2))
    (tRet (tBM K "str" (rJoin K) (tC (.str " ")) (tCons (tOp (rPlus K) (tLst (tCons (tVar 2) tNil)) (tLc (iAny K (tOp (rIx K) (tVar 0) (tC (.int 5)))) (gName 3) tYes (tCall sp_value_text [] C8.E0 (tCons (tVar 3) tNil)) [3])) tNil)))) tNext)
    (tRet (tOp (rPlus K) (tOp (rPlus K) (tVar 1) (tC (.str " "))) (tCB (rStrX) (tCons (tOp (rIx K) (tVar 0) (tC (.int 1))) tNil))))))))
theorem d_write_record (g : G K mg) {sp_value_text : Sp} (c_value_text : C8.Cal P w K mg base 1 "_value_text" sp_value_text []) {f : Addr} {cdv : Value} {A : Around} {outer : List Env} {s : Shared} {H : Hp} {E : XK} (hr : Room 1 (A.deeper (envOfC "write_record" (defScope s_write_record) s.heap.objs.size f cdv))) :
    PSs (cxOf CX0 P w K mg base N_write_record "write_record" (defScope s_write_record) f cdv A outer s H E).nox (defBody s_write_record) (t_write_record K sp_value_text) := by
  unfold t_write_record
  exact
    (pss_cons (ps_set (i := 1) sc_write_record.nd rfl (by first | exact Or.inl rfl | exact Or.inr rfl) (pe_ix ix_seq (pv 0) pe_int (fun _ _ => rfl)))
    (pss_cons (ps_if (pt_cmpR (o_eq hr.units) (pv 1) pe_str (nomark _)) (pss_one (ps_ret (pe_bm PySem.F.plainAttrs_str PySem.F.slot_str_join PySem.F.type_str_join m_join pe_str (pa_cons (pe_op o_plus (pe_lst (pa_cons (pv 1) pa_nil)) (pe_callTy c_list (by rfl) g.b_list (by decide +kernel) (pa_cons (pe_ix ix_seq (pv 0) pe_int (fun _ _ => rfl)) pa_nil))) pa_nil)))) pss_nil)
    (pss_cons (ps_if (pt_cmpR (o_eq hr.units) (pv 1) pe_str (nomark _)) (pss_one (ps_ret (pe_op o_plus (pe_op o_plus (pe_op o_plus pe_str (pe_ix ix_seq (pv 0) pe_int (fun _ _ => rfl))) pe_str) (pe_replN (pe_ix ix_seq (pv 0) pe_int (fun _ _ => rfl)) rfl rfl g.raw_NEWLINE_BAR)))) pss_nil)
    (pss_cons (ps_if (pt_cmpR (o_eq hr.units) (pv 1) pe_str (nomark _)) (pss_cons (ps_set (i := 2) sc_write_record.nd rfl (by first | exact Or.inl rfl | exact Or.inr rfl) (pe_fs (PJ.cons pe_str (PJ.cons (pe_fmt (pe_ix ix_seq (pv 0) pe_int (fun _ _ => rfl))) (PJ.cons pe_str (PJ.cons (pe_fmt (pe_ix ix_seq (pv 0) pe_int (fun _ _ => rfl))) (PJ.cons pe_str (PJ.cons (pe_fmt (pe_ix ix_seq (pv 0) pe_int (fun _ _ => rfl))) (PJ.cons pe_str (PJ.cons (pe_fmt (pe_ix ix_seq (pv 0) pe_int (fun _ _ => rfl))) PJ.nil))))))))))
    (pss_one (ps_ret (pe_bm PySem.F.plainAttrs_str PySem.F.slot_str_join PySem.F.type_str_join m_join pe_str (pa_cons (pe_op o_plus (pe_lst (pa_cons (pv 2) pa_nil)) (pe_lc (own := [("value", 3)]) (tt := tYes) rfl sc_write_record.nd (pi_any (pe_ix ix_seq (pv 0) pe_int (fun _ _ => rfl))) (blkOk_by (N := N_write_record) (sc := defScope s_write_record) (by decide +kernel)) (fun _ _ _ _ _ => (pg_name (i := 3) sc_write_record.nd rfl (by first | exact Or.inl rfl | exact Or.inr rfl))) (fun _ _ _ _ _ => pts_nil) (fun _ _ _ _ _ => (C8.pe_c c_value_text hr (by decide) rfl (pa_cons (pv 3) pa_nil))))) pa_nil))))) pss_nil)
    (pss_one (ps_ret (pe_op o_plus (pe_op o_plus (pv 1) pe_str) (pe_callTy c_str (by rfl) g.b_str (by decide +kernel) (pa_cons (pe_ix ix_seq (pv 0) pe_int (fun _ _ => rfl)) pa_nil)))))))))
theorem ok_write_record (g : G K mg) {sp_value_text : Sp} (c_value_text : C8.Cal P w K mg base 1 "_value_text" sp_value_text []) {sp : Sp} (F : ∃ fd, FunD K "write_record" "write_record" (defArgs s_write_record) (defBody s_write_record) (defScope s_write_record) [] [] (He.ga K "write_record") fd) (m : mg "write_record" = some (.ref (He.ga K "write_record")))
    (hsp : ∀ vs H Q E, sp vs H Q E → vs.length = 1 ∧ t_write_record K sp_value_text { nx := fun _ H' => Q .non H', rt := Q } (start N_write_record vs) H) : C8.Cal P w K mg base 2 "write_record" sp [] := by
  obtain ⟨fd, F⟩ := F
  exact ⟨_, fd, ["record"], [], FunD.ok F sc_write_record (fun vs H Q E h => (hsp vs H Q E h).1) (fun cdv A outer s H vs Q E hr h => ⟨_, PSs.nox (d_write_record g c_value_text hr), (hsp vs H Q E h).2⟩), m, F.kp, (F.bindsN fun _ _ _ _ _ _ us hl => match us, hl with | [_], _ => rfl), .nil⟩
abbrev N_read_number : List Str := ["text", "most", "sign"]
theorem sc_read_number : FnScope N_read_number ["text", "most"] (defScope s_read_number) := ⟨rfl, rfl, rfl, by decide +kernel, rfl, by decide +kernel, by decide +kernel⟩
def t_read_number (K : PySem.W.Frag) : TS :=
    (tSeq (tIfS (tOr (tNot (tTruX K (tVar 0))) (tOr (tTruX K (tCB (rAnyX K) (tCons (tLc (iAny K (tVar 0)) (gName 2) tYes (tOp (rInX K true) (tVar 2) (tC (.str "0123456789"))) [2]) tNil))) (tTest (tOp rGt (tCB (rLenX K) (tCons (tVar 0) tNil)) (tCB (rLenX K) (tCons (tCB (rStrX) (tCons (tVar 1) tNil)) tNil)))))) (tRet (tC .non)) tNext)
    (tSeq (tIfS (tAnd (tTest (tOp (rEqX K) (tOp (rIx K) (tVar 0) (tC (.int 0))) (tC (.str "0")))) (tTest (tOp rGt (tCB (rLenX K) (tCons (tVar 0) tNil)) (tC (.int 1))))) (tRet (tC .non)) tNext)
    (tRet (tIf (tTest (tOp rLe (tCB (rIntY) (tCons (tVar 0) tNil)) (tVar 1))) (tCB (rIntY) (tCons (tVar 0) tNil)) (tC .non)))))
theorem d_read_number (g : G K mg) {f : Addr} {cdv : Value} {A : Around} {outer : List Env} {s : Shared} {H : Hp} {E : XK} (hr : Room 0 (A.deeper (envOfC "_read_number" (defScope s_read_number) s.heap.objs.size f cdv))) :
    PSs (cxOf CX0 P w K mg base N_read_number "_read_number" (defScope s_read_number) f cdv A outer s H E).nox (defBody s_read_number) (t_read_number K) := by
  unfold t_read_number
  exact
    (pss_cons (ps_if (PW.pt (pw_or (pt_not (pt_tru (pv 0))) (pw_or (pt_tru (pe_callB (c_any rfl) (by rfl) g.b_any (by decide +kernel) (pa_cons (pe_lc (own := [("sign", 2)]) (tt := tYes) rfl sc_read_number.nd (pi_any (pv 0)) (blkOk_by (N := N_read_number) (sc := defScope s_read_number) (by decide +kernel)) (fun _ _ _ _ _ => (pg_name (i := 2) sc_read_number.nd rfl (by first | exact Or.inl rfl | exact Or.inr rfl))) (fun _ _ _ _ _ => pts_nil) (fun _ _ _ _ _ => (pe_cmpR o_notin (pv 2) (C8.pe_gc rfl g.c_DIGITS) (by rfl)))) pa_nil))) (pw_or1 (pt_cmpR o_gt (pe_callB c_len (by rfl) g.b_len (by decide +kernel) (pa_cons (pv 0) pa_nil)) (pe_callB c_len (by rfl) g.b_len (by decide +kernel) (pa_cons (pe_callTy c_str (by rfl) g.b_str (by decide +kernel) (pa_cons (pv 1) pa_nil)) pa_nil)) (nomark _)))))) (pss_one (ps_ret pe_non)) pss_nil)
    (pss_cons (ps_if (PW.pt (pw_and (pt_cmpR (o_eq hr.units) (pe_ix ix_seq (pv 0) pe_int (fun _ _ => rfl)) pe_str (nomark _)) (pw_and1 (pt_cmpR o_gt (pe_callB c_len (by rfl) g.b_len (by decide +kernel) (pa_cons (pv 0) pa_nil)) pe_int (nomark _))))) (pss_one (ps_ret pe_non)) pss_nil)
    (pss_one (ps_ret (pe_ifExp (pt_cmpR o_le (pe_callTy c_int2 (by rfl) g.b_int (by decide +kernel) (pa_cons (pv 0) pa_nil)) (pv 1) (nomark _)) (pe_callTy c_int2 (by rfl) g.b_int (by decide +kernel) (pa_cons (pv 0) pa_nil)) pe_non)))))
theorem ok_read_number (g : G K mg) {sp : Sp} (F : ∃ fd, FunD K "_read_number" "_read_number" (defArgs s_read_number) (defBody s_read_number) (defScope s_read_number) [] [] (He.ga K "_read_number") fd) (m : mg "_read_number" = some (.ref (He.ga K "_read_number")))
    (hsp : ∀ vs H Q E, sp vs H Q E → vs.length = 2 ∧ t_read_number K { nx := fun _ H' => Q .non H', rt := Q } (start N_read_number vs) H) : C8.Cal P w K mg base 1 "_read_number" sp [] := by
  obtain ⟨fd, F⟩ := F
  exact ⟨_, fd, ["text", "most"], [], FunD.ok F sc_read_number (fun vs H Q E h => (hsp vs H Q E h).1) (fun cdv A outer s H vs Q E hr h => ⟨_, PSs.nox (d_read_number g hr), (hsp vs H Q E h).2⟩), m, F.kp, (F.bindsN fun _ _ _ _ _ _ us hl => match us, hl with | [_, _], _ => rfl), .nil⟩
abbrev N_read_value : List Str := ["text", "end", "word", "blank", "rest", "number"]
theorem sc_read_value : FnScope N_read_value ["text"] (defScope s_read_value) := ⟨rfl, rfl, rfl, by decide +kernel, rfl, by decide +kernel, by decide +kernel⟩
def t_read_value (K : PySem.W.Frag) (sp_read_number : Sp) : TS :=
    (tSeq (tIfS (tTruX K (tBM K "str" rStarts (tVar 0) (tCons (tC (.str "\"")) tNil))) (tSeq (tAsg (tBM K "str" rFind3 (tVar 0) (tCons (tC (.str "\"")) (tCons (tC (.int 1)) tNil))) (gName 1))
    (tRet (tIf (tTest (tOp rLt (tVar 1) (tC (.int 0)))) (tC .non) (tTup (tCons (tSl (rSlX K) (tVar 0) (tPart (tC (.int 1))) (tPart (tVar 1))) (tCons (tSl (rSlX K) (tVar 0) (tPart (tOp (rPlus K) (tVar 1) (tC (.int 1)))) tNoPart) tNil)))))) tNext)
    (tSeq (tAsg (tBM K "str" rPartX (tVar 0) (tCons (tC (.str " ")) tNil)) (gUnp K 3 (gCons (gName 2) (gCons (gName 3) (gCons (gName 4) gNil)))))
    (tSeq (tAsg (tCall sp_read_number [] C8.E0 (tCons (tBM K "str" rRemp (tVar 2) (tCons (tC (.str "-")) tNil)) (tCons (tC (.int 99999)) tNil))) (gName 5))
    (tSeq (tIfS (tTest (tOp rIsNo (tVar 5) (tC .non))) (tRet (tC .non)) tNext)
    (tRet (tTup (tCons (tIf (tTruX K (tBM K "str" rStarts (tVar 2) (tCons (tC (.str "-")) tNil))) (tUn (rU fun i => .int (-i)) (tVar 5)) (tVar 5)) (tCons (tOp (rPlus K) (tVar 3) (tVar 4)) tNil))))))))
theorem d_read_value (g : G K mg) {sp_read_number : Sp} (c_read_number : C8.Cal P w K mg base 1 "_read_number" sp_read_number []) {f : Addr} {cdv : Value} {A : Around} {outer : List Env} {s : Shared} {H : Hp} {E : XK} (hr : Room 1 (A.deeper (envOfC "_read_value" (defScope s_read_value) s.heap.objs.size f cdv))) :
    PSs (cxOf CX0 P w K mg base N_read_value "_read_value" (defScope s_read_value) f cdv A outer s H E).nox (defBody s_read_value) (t_read_value K sp_read_number) := by
  unfold t_read_value
  exact
    (pss_cons (ps_if (pt_tru (pe_bm PySem.F.plainAttrs_str PySem.F.slot_str_startswith PySem.F.type_str_startswith m_starts (pv 0) (pa_cons (C8.pe_gc rfl g.c_QUOTE) pa_nil))) (pss_cons (ps_set (i := 1) sc_read_value.nd rfl (by first | exact Or.inl rfl | exact Or.inr rfl) (pe_bm PySem.F.plainAttrs_str PySem.F.slot_str_find PySem.F.type_str_find m_find3 (pv 0) (pa_cons (C8.pe_gc rfl g.c_QUOTE) (pa_cons pe_int pa_nil))))
    (pss_one (ps_ret (pe_ifExp (pt_cmpR o_lt (pv 1) pe_int (nomark _)) pe_non (pe_tup (pa_cons (pe_slice sl_any (pv 0) (po_some pe_int) (po_some (pv 1))) (pa_cons (pe_slice sl_any (pv 0) (po_some (pe_op o_plus (pv 1) pe_int)) po_none) pa_nil))))))) pss_nil)
    (pss_cons (ps_asg (pe_bm PySem.F.plainAttrs_str PySem.F.slot_str_partition PySem.F.type_str_partition m_part (pv 0) (pa_cons pe_str pa_nil)) (pg_unp rfl (pgs_cons (pg_name (i := 2) sc_read_value.nd rfl (by first | exact Or.inl rfl | exact Or.inr rfl)) (pgs_cons (pg_name (i := 3) sc_read_value.nd rfl (by first | exact Or.inl rfl | exact Or.inr rfl)) (pgs_cons (pg_name (i := 4) sc_read_value.nd rfl (by first | exact Or.inl rfl | exact Or.inr rfl)) pgs_nil)))))
    (pss_cons (ps_set (i := 5) sc_read_value.nd rfl (by first | exact Or.inl rfl | exact Or.inr rfl) (C8.pe_c c_read_number hr (by decide) rfl (pa_cons (pe_bm PySem.F.plainAttrs_str PySem.F.slot_str_removeprefix PySem.F.type_str_removeprefix m_remp (pv 2) (pa_cons pe_str pa_nil)) (pa_cons pe_int pa_nil))))
    (pss_cons (ps_if (pt_cmpR o_is (pv 5) pe_non (nomark _)) (pss_one (ps_ret pe_non)) pss_nil)
    (pss_one (ps_ret (pe_tup (pa_cons (pe_ifExp (pt_tru (pe_bm PySem.F.plainAttrs_str PySem.F.slot_str_startswith PySem.F.type_str_startswith m_starts (pv 2) (pa_cons pe_str pa_nil))) (pe_un un_neg (pv 5)) (pv 5)) (pa_cons (pe_op o_plus (pv 3) (pv 4)) pa_nil)))))))))
theorem ok_read_value (g : G K mg) {sp_read_number : Sp} (c_read_number : C8.Cal P w K mg base 1 "_read_number" sp_read_number []) {sp : Sp} (F : ∃ fd, FunD K "_read_value" "_read_value" (defArgs s_read_value) (defBody s_read_value) (defScope s_read_value) [] [] (He.ga K "_read_value") fd) (m : mg "_read_value" = some (.ref (He.ga K "_read_value")))
    (hsp : ∀ vs H Q E, sp vs H Q E → vs.length = 1 ∧ t_read_value K sp_read_number { nx := fun _ H' => Q .non H', rt := Q } (start N_read_value vs) H) : C8.Cal P w K mg base 2 "_read_value" sp [] := by
  obtain ⟨fd, F⟩ := F
  exact ⟨_, fd, ["text"], [], FunD.ok F sc_read_value (fun vs H Q E h => (hsp vs H Q E h).1) (fun cdv A outer s H vs Q E hr h => ⟨_, PSs.nox (d_read_value g c_read_number hr), (hsp vs H Q E h).2⟩), m, F.kp, (F.bindsN fun _ _ _ _ _ _ us hl => match us, hl with | [_], _ => rfl), .nil⟩
abbrev N_read_values : List Str := ["text", "values", "found"]
theorem sc_read_values : FnScope N_read_values ["text"] (defScope s_read_values) := ⟨rfl, rfl, rfl, by decide +kernel, rfl, by decide +kernel, by decide +kernel⟩
def t_read_values (K : PySem.W.Frag) (sp_read_value : Sp) : TS :=
    (tSeq (tAsg (tLst tNil) (gName 1))
    (tSeq (tWhile (tTruX K (tVar 0)) (tSeq (tAsg (tIf (tTest (tOp (rEqX K) (tOp (rIx K) (tVar 0) (tC (.int 0))) (tC (.str " ")))) (tCall sp_read_value [] C8.E0 (tCons (tSl (rSlX K) (tVar 0) (tPart (tC (.int 1))) tNoPart) tNil)) (tC .non)) (gName 2))
    (tSeq (tIfS (tTest (tOp rIsNo (tVar 2) (tC .non))) (tRet (tC .non)) tNext)
    (tSeq (tDrop (tBM K "list" rAppend (tVar 1) (tCons (tOp (rIx K) (tVar 2) (tC (.int 0))) tNil)))
    (tAsg (tOp (rIx K) (tVar 2) (tC (.int 1))) (gName 0))))))
    (tRet (tCB (rTupOf K) (tCons (tVar 1) tNil)))))
theorem d_read_values (g : G K mg) {sp_read_value : Sp} (c_read_value : C8.Cal P w K mg base 2 "_read_value" sp_read_value []) {f : Addr} {cdv : Value} {A : Around} {outer : List Env} {s : Shared} {H : Hp} {E : XK} (hr : Room 2 (A.deeper (envOfC "_read_values" (defScope s_read_values) s.heap.objs.size f cdv))) :
    PSs (cxOf CX0 P w K mg base N_read_values "_read_values" (defScope s_read_values) f cdv A outer s H E).nox (defBody s_read_values) (t_read_values K sp_read_value) := by
  unfold t_read_values
  exact
    (pss_cons (ps_set (i := 1) sc_read_values.nd rfl (by first | exact Or.inl rfl | exact Or.inr rfl) (pe_lst pa_nil))
    (pss_cons (ps_while PassesOwn.never (pt_tru (pv 0)) (pss_cons (ps_set (i := 2) sc_read_values.nd rfl (by first | exact Or.inl rfl | exact Or.inr rfl) (pe_ifExp (pt_cmpR (o_eq hr.units) (pe_ix ix_seq (pv 0) pe_int (fun _ _ => rfl)) pe_str (nomark _)) (C8.pe_c c_read_value hr (by decide) rfl (pa_cons (pe_slice sl_any (pv 0) (po_some pe_int) po_none) pa_nil)) pe_non))
    (pss_cons (ps_if (pt_cmpR o_is (pv 2) pe_non (nomark _)) (pss_one (ps_ret pe_non)) pss_nil)
    (pss_cons (ps_expr (pe_bm PySem.F.plainAttrs_list PySem.F.slot_list_append PySem.F.type_list_append mt_append (pv 1) (pa_cons (pe_ix ix_seq (pv 2) pe_int (fun _ _ => rfl)) pa_nil)))
    (pss_one (ps_set (i := 0) sc_read_values.nd rfl (by first | exact Or.inl rfl | exact Or.inr rfl) (pe_ix ix_seq (pv 2) pe_int (fun _ _ => rfl))))))))
    (pss_one (ps_ret (pe_callTy c_tuple (by rfl) g.b_tuple (by decide +kernel) (pa_cons (pv 1) pa_nil))))))
theorem ok_read_values (g : G K mg) {sp_read_value : Sp} (c_read_value : C8.Cal P w K mg base 2 "_read_value" sp_read_value []) {sp : Sp} (F : ∃ fd, FunD K "_read_values" "_read_values" (defArgs s_read_values) (defBody s_read_values) (defScope s_read_values) [] [] (He.ga K "_read_values") fd) (m : mg "_read_values" = some (.ref (He.ga K "_read_values")))
    (hsp : ∀ vs H Q E, sp vs H Q E → vs.length = 1 ∧ t_read_values K sp_read_value { nx := fun _ H' => Q .non H', rt := Q } (start N_read_values vs) H) : C8.Cal P w K mg base 3 "_read_values" sp [] := by
  obtain ⟨fd, F⟩ := F
  exact ⟨_, fd, ["text"], [], FunD.ok F sc_read_values (fun vs H Q E h => (hsp vs H Q E h).1) (fun cdv A outer s H vs Q E hr h => ⟨_, PSs.nox (d_read_values g c_read_value hr), (hsp vs H Q E h).2⟩), m, F.kp, (F.bindsN fun _ _ _ _ _ _ us hl => match us, hl with | [_], _ => rfl), .nil⟩
abbrev N_read_call : List Str := ["rest", "words", "holder", "number", "values", "value"]
theorem sc_read_call : FnScope N_read_call ["rest"] (defScope s_read_call) := ⟨rfl, rfl, rfl, by decide +kernel, rfl, by decide +kernel, by decide +kernel⟩
def t_read_call (K : PySem.W.Frag) (sp_is_value : Sp) (sp_is_name : Sp) (sp_read_values : Sp) (sp_read_number : Sp) : TS :=
    (tSeq (tAsg (tBM K "str" rSplitM (tVar 0) (tCons (tC (.str " ")) (tCons (tC (.int 4)) tNil))) (gName 1))
    (tSeq (tIfS (tTest (tOp rLt (tCB (rLenX K) (tCons (tVar 1) tNil)) (tC (.int 4)))) (tRet (tC .non)) tNext)
    (tSeq (tAsg (tCall sp_read_number [] C8.E0 (tCons (tOp (rIx K) (tVar 1) (tC (.int 0))) (tCons (tOp rMinus (tC (.int 3)) (tC (.int 1))) tNil))) (gName 2))
    (tSeq (tAsg (tCall sp_read_number [] C8.E0 (tCons (tOp (rIx K) (tVar 1) (tC (.int 1))) (tCons (tC (.int 9999)) tNil))) (gName 3))
    (tSeq (tAsg (tCall sp_read_values [] C8.E0 (tCons (tIf (tTest (tOp rGt (tCB (rLenX K) (tCons (tVar 1) tNil)) (tC (.int 4)))) (tOp (rPlus K) (tC (.str " ")) (tOp (rIx K) (tVar 1) (tC (.int 4)))) (tC (.str ""))) tNil)) (gName 4))
    (tSeq (tIfS (tOr (tTest (tOp rIsNo (tVar 2) (tC .non))) (tOr (tTest (tOp rIsNo (tVar 3) (tC .non))) (tOr (tTest (tOp rIsNo (tVar 4) (tC .non))) (tOr (tNot (tTruX K (tCall sp_is_name [] C8.E0 (tCons (tOp (rIx K) (tVar 1) (tC (.int 2))) tNil)))) (tNot (tTruX K (tCall sp_is_name [] C8.E0 (tCons (tOp (rIx K) (tVar 1) (tC (.int 3))) tNil)))))))) (tRet (tC .non)) tNext)
    (tSeq (tIfS (tOr (tTest (tOp rGt (tCB (rLenX K) (tCons (tVar 4) tNil)) (tC (.int 3)))) (tNot (tTruX K (tCB (rAllX K) (tCons (tLc (iAny K (tVar 4)) (gName 5) tYes (tCall sp_is_value [] C8.E0 (tCons (tVar 5) tNil)) [5]) tNil))))) (tRet (tC .non)) tNext)
    (tRet (tTup (tCons (tC (.str "call")) (tCons (tVar 2) (tCons (tVar 3) (tCons (tOp (rIx K) (tVar 1) (tC (.int 2))) (tCons (tOp (rIx K) (tVar 1) (tC (.int 3))) (tCons (tVar 4) tNil)))))))))))))))
theorem d_read_call (g : G K mg) {sp_is_value : Sp} (c_is_value : C8.Cal P w K mg base 1 "is_value" sp_is_value []) {sp_is_name : Sp} (c_is_name : C8.Cal P w K mg base 1 "is_name" sp_is_name []) {sp_read_values : Sp} (c_read_values : C8.Cal P w K mg base 3 "_read_values" sp_read_values []) {sp_read_number : Sp} (c_read_number : C8.Cal P w K mg base 1 "_read_number" sp_read_number []) {f : Addr} {cdv : Value} {A : Around} {outer : List Env} {s : Shared} {H : Hp} {E : XK} (hr : Room 3 (A.deeper (envOfC "_read_call" (defScope s_read_call) s.heap.objs.size f cdv))) :
    PSs (cxOf CX0 P w K mg base N_read_call "_read_call" (defScope s_read_call) f cdv A outer s H E).nox (defBody s_read_call) (t_read_call K sp_is_value sp_is_name sp_read_values sp_read_number) := by
  unfold t_read_call
  exact
    (pss_cons (ps_set (i := 1) sc_read_call.nd rfl (by first | exact Or.inl rfl | exact Or.inr rfl) (pe_bm PySem.F.plainAttrs_str PySem.F.slot_str_split PySem.F.type_str_split m_splitM (pv 0) (pa_cons pe_str (pa_cons pe_int pa_nil))))
    (pss_cons (ps_if (pt_cmpR o_lt (pe_callB c_len (by rfl) g.b_len (by decide +kernel) (pa_cons (pv 1) pa_nil)) pe_int (nomark _)) (pss_one (ps_ret pe_non)) pss_nil)
    (pss_cons (ps_set (i := 2) sc_read_call.nd rfl (by first | exact Or.inl rfl | exact Or.inr rfl) (C8.pe_c c_read_number hr (by decide) rfl (pa_cons (pe_ix ix_seq (pv 1) pe_int (fun _ _ => rfl)) (pa_cons (pe_op o_minus (C8.pe_gc rfl g.c_HOLDERS_MOST) pe_int) pa_nil))))
    (pss_cons (ps_set (i := 3) sc_read_call.nd rfl (by first | exact Or.inl rfl | exact Or.inr rfl) (C8.pe_c c_read_number hr (by decide) rfl (pa_cons (pe_ix ix_seq (pv 1) pe_int (fun _ _ => rfl)) (pa_cons (C8.pe_gc rfl g.c_NUMBERS_MOST) pa_nil))))
    (pss_cons (ps_set (i := 4) sc_read_call.nd rfl (by first | exact Or.inl rfl | exact Or.inr rfl) (C8.pe_c c_read_values hr (by decide) rfl (pa_cons (pe_ifExp (pt_cmpR o_gt (pe_callB c_len (by rfl) g.b_len (by decide +kernel) (pa_cons (pv 1) pa_nil)) pe_int (nomark _)) (pe_op o_plus pe_str (pe_ix ix_seq (pv 1) pe_int (fun _ _ => rfl))) pe_str) pa_nil)))
    (pss_cons (ps_if (PW.pt (pw_or (pt_cmpR o_is (pv 2) pe_non (nomark _)) (pw_or (pt_cmpR o_is (pv 3) pe_non (nomark _)) (pw_or (pt_cmpR o_is (pv 4) pe_non (nomark _)) (pw_or (pt_not (pt_tru (C8.pe_c c_is_name hr (by decide) rfl (pa_cons (pe_ix ix_seq (pv 1) pe_int (fun _ _ => rfl)) pa_nil)))) (pw_or1 (pt_not (pt_tru (C8.pe_c c_is_name hr (by decide) rfl (pa_cons (pe_ix ix_seq (pv 1) pe_int (fun _ _ => rfl)) pa_nil)))))))))) (pss_one (ps_ret pe_non)) pss_nil)
    (pss_cons (ps_if (PW.pt (pw_or (pt_cmpR o_gt (pe_callB c_len (by rfl) g.b_len (by decide +kernel) (pa_cons (pv 4) pa_nil)) (C8.pe_gc rfl g.c_ARGUMENTS_MOST) (nomark _)) (pw_or1 (pt_not (pt_tru (pe_callB (c_all rfl) (by rfl) g.b_all (by decide +kernel) (pa_cons (pe_lc (own := [("value", 5)]) (tt := tYes) rfl sc_read_call.nd (pi_any (pv 4)) (blkOk_by (N := N_read_call) (sc := defScope s_read_call) (by decide +kernel)) (fun _ _ _ _ _ => (pg_name (i := 5) sc_read_call.nd rfl (by first | exact Or.inl rfl | exact Or.inr rfl))) (fun _ _ _ _ _ => pts_nil) (fun _ _ _ _ _ => (C8.pe_c c_is_value hr (by decide) rfl (pa_cons (pv 5) pa_nil)))) pa_nil))))))) (pss_one (ps_ret pe_non)) pss_nil)
    (pss_one (ps_ret (pe_tup (pa_cons pe_str (pa_cons (pv 2) (pa_cons (pv 3) (pa_cons (pe_ix ix_seq (pv 1) pe_int (fun _ _ => rfl)) (pa_cons (pe_ix ix_seq (pv 1) pe_int (fun _ _ => rfl)) (pa_cons (pv 4) pa_nil))))))))))))))))
theorem ok_read_call (g : G K mg) {sp_is_value : Sp} (c_is_value : C8.Cal P w K mg base 1 "is_value" sp_is_value []) {sp_is_name : Sp} (c_is_name : C8.Cal P w K mg base 1 "is_name" sp_is_name []) {sp_read_values : Sp} (c_read_values : C8.Cal P w K mg base 3 "_read_values" sp_read_values []) {sp_read_number : Sp} (c_read_number : C8.Cal P w K mg base 1 "_read_number" sp_read_number []) {sp : Sp} (F : ∃ fd, FunD K "_read_call" "_read_call" (defArgs s_read_call) (defBody s_read_call) (defScope s_read_call) [] [] (He.ga K "_read_call") fd) (m : mg "_read_call" = some (.ref (He.ga K "_read_call")))
    (hsp : ∀ vs H Q E, sp vs H Q E → vs.length = 1 ∧ t_read_call K sp_is_value sp_is_name sp_read_values sp_read_number { nx := fun _ H' => Q .non H', rt := Q } (start N_read_call vs) H) : C8.Cal P w K mg base 4 "_read_call" sp [] := by
  obtain ⟨fd, F⟩ := F
  exact ⟨_, fd, ["rest"], [], FunD.ok F sc_read_call (fun vs H Q E h => (hsp vs H Q E h).1) (fun cdv A outer s H vs Q E hr h => ⟨_, PSs.nox (d_read_call g c_is_value c_is_name c_read_values c_read_number hr), (hsp vs H Q E h).2⟩), m, F.kp, (F.bindsN fun _ _ _ _ _ _ us hl => match us, hl with | [_], _ => rfl), .nil⟩
abbrev N_read_entries : List Str := ["rest", "names"]
theorem sc_read_entries : FnScope N_read_entries ["rest"] (defScope s_read_entries) := ⟨rfl, rfl, rfl, by decide +kernel, rfl, by decide +kernel, by decide +kernel⟩
def t_read_entries (K : PySem.W.Frag) (sp_check_entries : Sp) : TS :=
    (tSeq (tAsg (tCB (rTupOf K) (tCons (tBM K "str" rSplit1 (tVar 0) (tCons (tC (.str " ")) tNil)) tNil)) (gName 1))
    (tSeq (tTry (fun W => (tDrop (tCallS sp_check_entries (WE W) (tCons (tVar 1) tNil)))) K (fun _ _ _ _ => False) [⟨.ref (He.ga K "OutOfRange"), none, fun a cls d => (tRet (tC .non))⟩])
    (tRet (tTup (tCons (tC (.str "entries")) (tCons (tVar 1) tNil))))))
theorem d_read_entries (g : G K mg) {sp_check_entries : Sp} (c_check_entries : CalX P w K mg base 3 "check_entries" sp_check_entries) {f : Addr} {cdv : Value} {A : Around} {outer : List Env} {s : Shared} {H : Hp} {E : XK} (hr : Room 3 (A.deeper (envOfC "_read_entries" (defScope s_read_entries) s.heap.objs.size f cdv))) :
    PSs (cxOf CX0 P w K mg base N_read_entries "_read_entries" (defScope s_read_entries) f cdv A outer s H E).nox (defBody s_read_entries) (t_read_entries K sp_check_entries) := by
  unfold t_read_entries
  exact
    (pss_cons (ps_set (i := 1) sc_read_entries.nd rfl (by first | exact Or.inl rfl | exact Or.inr rfl) (pe_callTy c_tuple (by rfl) g.b_tuple (by decide +kernel) (pa_cons (pe_bm PySem.F.plainAttrs_str PySem.F.slot_str_split PySem.F.type_str_split m_split1 (pv 0) (pa_cons pe_str pa_nil)) pa_nil)))
    (pss_cons (ps_try_mix (tb := fun W => (tDrop (tCallS sp_check_entries (WE W) (tCons (tVar 1) tNil)))) rfl rfl sc_read_entries.nd takesF (fun W pn xe tk po => (pss_one (ps_expr (pe_cX c_check_entries hr (by decide) tk rfl (pa_cons (pv 1) pa_nil))))) (HdsM.bare (ts := fun a cls d => (tRet (tC .non))) ⟨rfl, by decide, Or.inl g.k_OutOfRange⟩ (fun a oe cls d pn hz hf => (pss_one (ps_ret pe_non))) HdsM.nil))
    (pss_one (ps_ret (pe_tup (pa_cons pe_str (pa_cons (pv 1) pa_nil)))))))
theorem ok_read_entries (g : G K mg) {sp_check_entries : Sp} (c_check_entries : CalX P w K mg base 3 "check_entries" sp_check_entries) {sp : Sp} (F : ∃ fd, FunD K "_read_entries" "_read_entries" (defArgs s_read_entries) (defBody s_read_entries) (defScope s_read_entries) [] [] (He.ga K "_read_entries") fd) (m : mg "_read_entries" = some (.ref (He.ga K "_read_entries")))
    (hsp : ∀ vs H Q E, sp vs H Q E → vs.length = 1 ∧ t_read_entries K sp_check_entries { nx := fun _ H' => Q .non H', rt := Q } (start N_read_entries vs) H) : C8.Cal P w K mg base 4 "_read_entries" sp [] := by
  obtain ⟨fd, F⟩ := F
  exact ⟨_, fd, ["rest"], [], FunD.ok F sc_read_entries (fun vs H Q E h => (hsp vs H Q E h).1) (fun cdv A outer s H vs Q E hr h => ⟨_, PSs.nox (d_read_entries g c_check_entries hr), (hsp vs H Q E h).2⟩), m, F.kp, (F.bindsN fun _ _ _ _ _ _ us hl => match us, hl with | [_], _ => rfl), .nil⟩
abbrev N_read : List Str := ["word", "rest", "many", "module", "_", "text"]
theorem sc_read : FnScope N_read ["word", "rest"] (defScope s_read) := ⟨rfl, rfl, rfl, by decide +kernel, rfl, by decide +kernel, by decide +kernel⟩
def t_read (K : PySem.W.Frag) (sp_is_name : Sp) (sp_read_number : Sp) (sp_read_call : Sp) (sp_read_entries : Sp) : TS :=
    (tSeq (tIfS (tTest (tOp (rEqX K) (tVar 0) (tC (.str "entries")))) (tRet (tCall sp_read_entries [] C8.E0 (tCons (tVar 1) tNil))) tNext)
    (tSeq (tIfS (tTest (tOp (rEqX K) (tVar 0) (tC (.str "call")))) (tRet (tCall sp_read_call [] C8.E0 (tCons (tVar 1) tNil))) tNext)
    (tSeq (tIfS (tTest (tOp (rEqX K) (tVar 0) (tC (.str "remove")))) (tRet (tIf (tTruX K (tCall sp_is_name [] C8.E0 (tCons (tVar 1) tNil))) (tTup (tCons (tC (.str "remove")) (tCons (tVar 1) tNil))) (tC .non))) tNext)
    (tSeq (tIfS (tTest (tOp (rEqX K) (tVar 0) (tC (.str "update")))) (tSeq (tAsg (tCall sp_read_number [] C8.E0 (tCons (tVar 1) (tCons (tC (.int 8)) tNil))) (gName 2))
    (tRet (tIf (tTest (tOp rIsNo (tVar 2) (tC .non))) (tC .non) (tTup (tCons (tC (.str "update")) (tCons (tVar 2) tNil)))))) tNext)
    (tSeq (tIfS (tTest (tOp (rNeX K) (tVar 0) (tC (.str "text")))) (tRet (tC .non)) tNext)
    (tSeq (tAsg (tBM K "str" rPartX (tVar 1) (tCons (tC (.str " ")) tNil)) (gUnp K 3 (gCons (gName 3) (gCons (gName 4) (gCons (gName 5) gNil)))))
    (tSeq (tAsg (CwR.tReplC (tVar 5) "|" "\n") (gName 5))
    (tRet (tIf (tAnd (tTruX K (tCall sp_is_name [] C8.E0 (tCons (tVar 3) tNil))) (tTest (tOp rLe (tCB (rLenX K) (tCons (tVar 5) tNil)) (tC (.int 600))))) (tTup (tCons (tC (.str "text")) (tCons (tVar 3) (tCons (tVar 5) tNil)))) (tC .non))))))))))
theorem d_read (g : G K mg) {sp_is_name : Sp} (c_is_name : C8.Cal P w K mg base 1 "is_name" sp_is_name []) {sp_read_number : Sp} (c_read_number : C8.Cal P w K mg base 1 "_read_number" sp_read_number []) {sp_read_call : Sp} (c_read_call : C8.Cal P w K mg base 4 "_read_call" sp_read_call []) {sp_read_entries : Sp} (c_read_entries : C8.Cal P w K mg base 4 "_read_entries" sp_read_entries []) {f : Addr} {cdv : Value} {A : Around} {outer : List Env} {s : Shared} {H : Hp} {E : XK} (hr : Room 4 (A.deeper (envOfC "_read" (defScope s_read) s.heap.objs.size f cdv))) :
    PSs (cxOf CX0 P w K mg base N_read "_read" (defScope s_read) f cdv A outer s H E).nox (defBody s_read) (t_read K sp_is_name sp_read_number sp_read_call sp_read_entries) := by
  unfold t_read
  exact
    (pss_cons (ps_if (pt_cmpR (o_eq hr.units) (pv 0) pe_str (nomark _)) (pss_one (ps_ret (C8.pe_c c_read_entries hr (by decide) rfl (pa_cons (pv 1) pa_nil)))) pss_nil)
    (pss_cons (ps_if (pt_cmpR (o_eq hr.units) (pv 0) pe_str (nomark _)) (pss_one (ps_ret (C8.pe_c c_read_call hr (by decide) rfl (pa_cons (pv 1) pa_nil)))) pss_nil)
    (pss_cons (ps_if (pt_cmpR (o_eq hr.units) (pv 0) pe_str (nomark _)) (pss_one (ps_ret (pe_ifExp (pt_tru (C8.pe_c c_is_name hr (by decide) rfl (pa_cons (pv 1) pa_nil))) (pe_tup (pa_cons pe_str (pa_cons (pv 1) pa_nil))) pe_non))) pss_nil)
    (pss_cons (ps_if (pt_cmpR (o_eq hr.units) (pv 0) pe_str (nomark _)) (pss_cons (ps_set (i := 2) sc_read.nd rfl (by first | exact Or.inl rfl | exact Or.inr rfl) (C8.pe_c c_read_number hr (by decide) rfl (pa_cons (pv 1) (pa_cons (C8.pe_gc rfl g.c_SOURCES_MOST) pa_nil))))
    (pss_one (ps_ret (pe_ifExp (pt_cmpR o_is (pv 2) pe_non (nomark _)) pe_non (pe_tup (pa_cons pe_str (pa_cons (pv 2) pa_nil))))))) pss_nil)
    (pss_cons (ps_if (pt_cmpR (o_ne hr.units) (pv 0) pe_str (nomark _)) (pss_one (ps_ret pe_non)) pss_nil)
    (pss_cons (ps_asg (pe_bm PySem.F.plainAttrs_str PySem.F.slot_str_partition PySem.F.type_str_partition m_part (pv 1) (pa_cons pe_str pa_nil)) (pg_unp rfl (pgs_cons (pg_name (i := 3) sc_read.nd rfl (by first | exact Or.inl rfl | exact Or.inr rfl)) (pgs_cons (pg_name (i := 4) sc_read.nd rfl (by first | exact Or.inl rfl | exact Or.inr rfl)) (pgs_cons (pg_name (i := 5) sc_read.nd rfl (by first | exact Or.inl rfl | exact Or.inr rfl)) pgs_nil)))))
    (pss_cons (ps_set (i := 5) sc_read.nd rfl (by first | exact Or.inl rfl | exact Or.inr rfl) (pe_replN (pv 5) rfl rfl g.raw_BAR_NEWLINE))
    (pss_one (ps_ret (pe_ifExp (PW.pt (pw_and (pt_tru (C8.pe_c c_is_name hr (by decide) rfl (pa_cons (pv 3) pa_nil))) (pw_and1 (pt_cmpR o_le (pe_callB c_len (by rfl) g.b_len (by decide +kernel) (pa_cons (pv 5) pa_nil)) (C8.pe_gc rfl g.c_TEXT_MOST) (nomark _))))) (pe_tup (pa_cons pe_str (pa_cons (pv 3) (pa_cons (pv 5) pa_nil)))) pe_non))))))))))
theorem ok_read (g : G K mg) {sp_is_name : Sp} (c_is_name : C8.Cal P w K mg base 1 "is_name" sp_is_name []) {sp_read_number : Sp} (c_read_number : C8.Cal P w K mg base 1 "_read_number" sp_read_number []) {sp_read_call : Sp} (c_read_call : C8.Cal P w K mg base 4 "_read_call" sp_read_call []) {sp_read_entries : Sp} (c_read_entries : C8.Cal P w K mg base 4 "_read_entries" sp_read_entries []) {sp : Sp} (F : ∃ fd, FunD K "_read" "_read" (defArgs s_read) (defBody s_read) (defScope s_read) [] [] (He.ga K "_read") fd) (m : mg "_read" = some (.ref (He.ga K "_read")))
    (hsp : ∀ vs H Q E, sp vs H Q E → vs.length = 2 ∧ t_read K sp_is_name sp_read_number sp_read_call sp_read_entries { nx := fun _ H' => Q .non H', rt := Q } (start N_read vs) H) : C8.Cal P w K mg base 5 "_read" sp [] := by
  obtain ⟨fd, F⟩ := F
  exact ⟨_, fd, ["word", "rest"], [], FunD.ok F sc_read (fun vs H Q E h => (hsp vs H Q E h).1) (fun cdv A outer s H vs Q E hr h => ⟨_, PSs.nox (d_read g c_is_name c_read_number c_read_call c_read_entries hr), (hsp vs H Q E h).2⟩), m, F.kp, (F.bindsN fun _ _ _ _ _ _ us hl => match us, hl with | [_, _], _ => rfl), .nil⟩
abbrev N_read_record : List Str := ["text", "word", "_", "rest", "record"]
theorem sc_read_record : FnScope N_read_record ["text"] (defScope s_read_record) := ⟨rfl, rfl, rfl, by decide +kernel, rfl, by decide +kernel, by decide +kernel⟩
def t_read_record (K : PySem.W.Frag) (sp_write_record : Sp) (sp_read : Sp) : TS :=
    (tSeq (tAsg (tBM K "str" rPartX (tVar 0) (tCons (tC (.str " ")) tNil)) (gUnp K 3 (gCons (gName 1) (gCons (gName 2) (gCons (gName 3) gNil)))))
    (tSeq (tAsg (tCall sp_read [] C8.E0 (tCons (tVar 1) (tCons (tVar 3) tNil))) (gName 4))
    (tRet (tIf (tAnd (tTest (tOp rNotNo (tVar 4) (tC .non))) (tTest (tOp (rEqX K) (tCall sp_write_record [] C8.E0 (tCons (tVar 4) tNil)) (tVar 0)))) (tVar 4) (tC .non)))))
theorem d_read_record (g : G K mg) {sp_write_record : Sp} (c_write_record : C8.Cal P w K mg base 2 "write_record" sp_write_record []) {sp_read : Sp} (c_read : C8.Cal P w K mg base 5 "_read" sp_read []) {f : Addr} {cdv : Value} {A : Around} {outer : List Env} {s : Shared} {H : Hp} {E : XK} (hr : Room 5 (A.deeper (envOfC "read_record" (defScope s_read_record) s.heap.objs.size f cdv))) :
    PSs (cxOf CX0 P w K mg base N_read_record "read_record" (defScope s_read_record) f cdv A outer s H E).nox (defBody s_read_record) (t_read_record K sp_write_record sp_read) := by
  unfold t_read_record
  exact
    (pss_cons (ps_asg (pe_bm PySem.F.plainAttrs_str PySem.F.slot_str_partition PySem.F.type_str_partition m_part (pv 0) (pa_cons pe_str pa_nil)) (pg_unp rfl (pgs_cons (pg_name (i := 1) sc_read_record.nd rfl (by first | exact Or.inl rfl | exact Or.inr rfl)) (pgs_cons (pg_name (i := 2) sc_read_record.nd rfl (by first | exact Or.inl rfl | exact Or.inr rfl)) (pgs_cons (pg_name (i := 3) sc_read_record.nd rfl (by first | exact Or.inl rfl | exact Or.inr rfl)) pgs_nil)))))
    (pss_cons (ps_set (i := 4) sc_read_record.nd rfl (by first | exact Or.inl rfl | exact Or.inr rfl) (C8.pe_c c_read hr (by decide) rfl (pa_cons (pv 1) (pa_cons (pv 3) pa_nil))))
    (pss_one (ps_ret (pe_ifExp (PW.pt (pw_and (pt_cmpR o_isnot (pv 4) pe_non (nomark _)) (pw_and1 (pt_cmpR (o_eq hr.units) (C8.pe_c c_write_record hr (by decide) rfl (pa_cons (pv 4) pa_nil)) (pv 0) (nomark _))))) (pv 4) pe_non)))))
theorem ok_read_record (g : G K mg) {sp_write_record : Sp} (c_write_record : C8.Cal P w K mg base 2 "write_record" sp_write_record []) {sp_read : Sp} (c_read : C8.Cal P w K mg base 5 "_read" sp_read []) {sp : Sp} (F : ∃ fd, FunD K "read_record" "read_record" (defArgs s_read_record) (defBody s_read_record) (defScope s_read_record) [] [] (He.ga K "read_record") fd) (m : mg "read_record" = some (.ref (He.ga K "read_record")))
    (hsp : ∀ vs H Q E, sp vs H Q E → vs.length = 1 ∧ t_read_record K sp_write_record sp_read { nx := fun _ H' => Q .non H', rt := Q } (start N_read_record vs) H) : C8.Cal P w K mg base 6 "read_record" sp [] := by
  obtain ⟨fd, F⟩ := F
  exact ⟨_, fd, ["text"], [], FunD.ok F sc_read_record (fun vs H Q E h => (hsp vs H Q E h).1) (fun cdv A outer s H vs Q E hr h => ⟨_, PSs.nox (d_read_record g c_write_record c_read hr), (hsp vs H Q E h).2⟩), m, F.kp, (F.bindsN fun _ _ _ _ _ _ us hl => match us, hl with | [_], _ => rfl), .nil⟩
abbrev N_write_blocks : List Str := ["disk", "first", "blocks", "at", "block"]
theorem sc_write_blocks : FnScope N_write_blocks ["disk", "first", "blocks"] (defScope s_write_blocks) := ⟨rfl, rfl, rfl, by decide +kernel, rfl, by decide +kernel, by decide +kernel⟩
def t_write_blocks (K : PySem.W.Frag) (sp_Disk_write : Sp) (E : XK) : TS :=
    (tFor (iEnum K (tCons (tVar 2) tNil)) (gUnp K 2 (gCons (gName 3) (gCons (gName 4) gNil))) (tDrop (tMethS (He.ga K "Disk") "write" sp_Disk_write (WE (fun cls d _ H => E cls d H)) (tVar 0) (tCons (tOp (rPlus K) (tVar 1) (tVar 3)) (tCons (tVar 4) tNil)))))
theorem d_write_blocks (g : G K mg) {sp_Disk_write : Sp} (c_Disk_write : MetX P w K mg base 4 (He.ga K "Disk") "write" sp_Disk_write) {f : Addr} {cdv : Value} {A : Around} {outer : List Env} {s : Shared} {H : Hp} {E : XK} (hr : Room 4 (A.deeper (envOfC "_write_blocks" (defScope s_write_blocks) s.heap.objs.size f cdv))) :
    PSs (cxOf (L2.CX P w) P w K mg base N_write_blocks "_write_blocks" (defScope s_write_blocks) f cdv A outer s H E) (defBody s_write_blocks) (t_write_blocks K sp_Disk_write E) := by
  unfold t_write_blocks
  exact
    (pss_one (ps_for (passes_of rfl) rfl (pi_enum rfl g.b_enumerate (pa_cons (pv 2) pa_nil)) (pg_unp rfl (pgs_cons (pg_name (i := 3) sc_write_blocks.nd rfl (by first | exact Or.inl rfl | exact Or.inr rfl)) (pgs_cons (pg_name (i := 4) sc_write_blocks.nd rfl (by first | exact Or.inl rfl | exact Or.inr rfl)) pgs_nil))) (pss_one (ps_expr (pe_mX c_Disk_write hr (by decide) (takes_of rfl rfl rfl rfl) (pv 0) (pa_cons (pe_op o_plus (pv 1) (pv 3)) (pa_cons (pv 4) pa_nil)))))))
theorem ok_write_blocks (g : G K mg) {sp_Disk_write : Sp} (c_Disk_write : MetX P w K mg base 4 (He.ga K "Disk") "write" sp_Disk_write) {sp : Sp} (F : ∃ fd, FunD K "_write_blocks" "_write_blocks" (defArgs s_write_blocks) (defBody s_write_blocks) (defScope s_write_blocks) [] [] (He.ga K "_write_blocks") fd) (m : mg "_write_blocks" = some (.ref (He.ga K "_write_blocks")))
    (hsp : ∀ vs H Q E, sp vs H Q E → vs.length = 3 ∧ t_write_blocks K sp_Disk_write E { nx := fun _ H' => Q .non H', rt := Q } (start N_write_blocks vs) H) : CalX P w K mg base 5 "_write_blocks" sp := by
  obtain ⟨fd, F⟩ := F
  exact ⟨_, fd, ["disk", "first", "blocks"], FunD.ok F sc_write_blocks (fun vs H Q E h => (hsp vs H Q E h).1) (fun cdv A outer s H vs Q E hr h => ⟨_, d_write_blocks g c_Disk_write hr, (hsp vs H Q E h).2⟩), m, F.kp, (F.bindsN fun _ _ _ _ _ _ us hl => match us, hl with | [_, _, _], _ => rfl)⟩
abbrev N_clear : List Str := ["disk", "first", "at"]
theorem sc_clear : FnScope N_clear ["disk", "first"] (defScope s_clear) := ⟨rfl, rfl, rfl, by decide +kernel, rfl, by decide +kernel, by decide +kernel⟩
def t_clear (K : PySem.W.Frag) (sp_Disk_size : Sp) (sp_Disk_write : Sp) (E : XK) : TS :=
    (tFor (iRng2 (tCons (tVar 1) (tCons (tMeth (He.ga K "Disk") "size" sp_Disk_size [] C8.E0 (tVar 0) tNil) tNil))) (gName 2) (tDrop (tMethS (He.ga K "Disk") "write" sp_Disk_write (WE (fun cls d _ H => E cls d H)) (tVar 0) (tCons (tVar 2) (tCons (tOp rTimes (tLst (tCons (tC (.int 0)) tNil)) (tC (.int 32))) tNil)))))
theorem d_clear (g : G K mg) {sp_Disk_size : Sp} (c_Disk_size : C8.Met P w K mg base 1 (He.ga K "Disk") "size" sp_Disk_size []) {sp_Disk_write : Sp} (c_Disk_write : MetX P w K mg base 4 (He.ga K "Disk") "write" sp_Disk_write) {f : Addr} {cdv : Value} {A : Around} {outer : List Env} {s : Shared} {H : Hp} {E : XK} (hr : Room 4 (A.deeper (envOfC "_clear" (defScope s_clear) s.heap.objs.size f cdv))) :
    PSs (cxOf (L2.CX P w) P w K mg base N_clear "_clear" (defScope s_clear) f cdv A outer s H E) (defBody s_clear) (t_clear K sp_Disk_size sp_Disk_write E) := by
  unfold t_clear
  exact
    (pss_one (ps_for (passes_of rfl) rfl (pi_range2 rfl g.b_range (pa_cons (pv 1) (pa_cons (C8.pe_mt0 c_Disk_size hr (by decide) (pv 0)) pa_nil))) (pg_name (i := 2) sc_clear.nd rfl (by first | exact Or.inl rfl | exact Or.inr rfl)) (pss_one (ps_expr (pe_mX c_Disk_write hr (by decide) (takes_of rfl rfl rfl rfl) (pv 0) (pa_cons (pv 2) (pa_cons (pe_op o_times (pe_lst (pa_cons pe_int pa_nil)) (C8.pe_gc rfl g.c_BLOCK)) pa_nil)))))))
theorem ok_clear (g : G K mg) {sp_Disk_size : Sp} (c_Disk_size : C8.Met P w K mg base 1 (He.ga K "Disk") "size" sp_Disk_size []) {sp_Disk_write : Sp} (c_Disk_write : MetX P w K mg base 4 (He.ga K "Disk") "write" sp_Disk_write) {sp : Sp} (F : ∃ fd, FunD K "_clear" "_clear" (defArgs s_clear) (defBody s_clear) (defScope s_clear) [] [] (He.ga K "_clear") fd) (m : mg "_clear" = some (.ref (He.ga K "_clear")))
    (hsp : ∀ vs H Q E, sp vs H Q E → vs.length = 2 ∧ t_clear K sp_Disk_size sp_Disk_write E { nx := fun _ H' => Q .non H', rt := Q } (start N_clear vs) H) : CalX P w K mg base 5 "_clear" sp := by
  obtain ⟨fd, F⟩ := F
  exact ⟨_, fd, ["disk", "first"], FunD.ok F sc_clear (fun vs H Q E h => (hsp vs H Q E h).1) (fun cdv A outer s H vs Q E hr h => ⟨_, d_clear g c_Disk_size c_Disk_write hr, (hsp vs H Q E h).2⟩), m, F.kp, (F.bindsN fun _ _ _ _ _ _ us hl => match us, hl with | [_, _], _ => rfl)⟩
abbrev N_format_disk : List Str := ["disk", "entries", "blocks"]
theorem sc_format_disk : FnScope N_format_disk ["disk", "entries"] (defScope s_format_disk) := ⟨rfl, rfl, rfl, by decide +kernel, rfl, by decide +kernel, by decide +kernel⟩
def t_format_disk (K : PySem.W.Frag) (sp_Disk_flush : Sp) (sp_clear : Sp) (sp_write_blocks : Sp) (sp_encode_record : Sp) (sp_write_record : Sp) (sp_check_entries : Sp) (E : XK) : TS :=
    (tSeq (tDrop (tCallS sp_check_entries (WE (fun cls d _ H => E cls d H)) (tCons (tVar 1) tNil)))
    (tSeq (tAsg (tCall sp_encode_record [] C8.E0 (tCons (tC (.int 0)) (tCons (tCall sp_write_record [] C8.E0 (tCons (tTup (tCons (tC (.str "entries")) (tCons (tCB (rTupOf K) (tCons (tVar 1) tNil)) tNil))) tNil)) tNil))) (gName 2))
    (tSeq (tDrop (tCallS sp_write_blocks (WE (fun cls d _ H => E cls d H)) (tCons (tVar 0) (tCons (tC (.int 0)) (tCons (tVar 2) tNil)))))
    (tSeq (tDrop (tCallS sp_clear (WE (fun cls d _ H => E cls d H)) (tCons (tVar 0) (tCons (tCB (rLenX K) (tCons (tVar 2) tNil)) tNil))))
    (tDrop (tMethS (He.ga K "Disk") "flush" sp_Disk_flush (WE (fun cls d _ H => E cls d H)) (tVar 0) tNil))))))
theorem d_format_disk (g : G K mg) {sp_Disk_flush : Sp} (c_Disk_flush : MetX P w K mg base 3 (He.ga K "Disk") "flush" sp_Disk_flush) {sp_clear : Sp} (c_clear : CalX P w K mg base 5 "_clear" sp_clear) {sp_write_blocks : Sp} (c_write_blocks : CalX P w K mg base 5 "_write_blocks" sp_write_blocks) {sp_encode_record : Sp} (c_encode_record : C8.Cal P w K mg base 2 "encode_record" sp_encode_record []) {sp_write_record : Sp} (c_write_record : C8.Cal P w K mg base 2 "write_record" sp_write_record []) {sp_check_entries : Sp} (c_check_entries : CalX P w K mg base 3 "check_entries" sp_check_entries) {f : Addr} {cdv : Value} {A : Around} {outer : List Env} {s : Shared} {H : Hp} {E : XK} (hr : Room 5 (A.deeper (envOfC "format_disk" (defScope s_format_disk) s.heap.objs.size f cdv))) :
    PSs (cxOf (L2.CX P w) P w K mg base N_format_disk "format_disk" (defScope s_format_disk) f cdv A outer s H E) (defBody s_format_disk) (t_format_disk K sp_Disk_flush sp_clear sp_write_blocks sp_encode_record sp_write_record sp_check_entries E) := by
  unfold t_format_disk
  exact
    (pss_cons (ps_expr (pe_cX c_check_entries hr (by decide) (takes_of rfl rfl rfl rfl) rfl (pa_cons (pv 1) pa_nil)))
    (pss_cons (ps_set (i := 2) sc_format_disk.nd rfl (by first | exact Or.inl rfl | exact Or.inr rfl) (C8.pe_c c_encode_record hr (by decide) rfl (pa_cons pe_int (pa_cons (C8.pe_c c_write_record hr (by decide) rfl (pa_cons (pe_tup (pa_cons pe_str (pa_cons (pe_callTy c_tuple (by rfl) g.b_tuple (by decide +kernel) (pa_cons (pv 1) pa_nil)) pa_nil))) pa_nil)) pa_nil))))
    (pss_cons (ps_expr (pe_cX c_write_blocks hr (by decide) (takes_of rfl rfl rfl rfl) rfl (pa_cons (pv 0) (pa_cons pe_int (pa_cons (pv 2) pa_nil)))))
    (pss_cons (ps_expr (pe_cX c_clear hr (by decide) (takes_of rfl rfl rfl rfl) rfl (pa_cons (pv 0) (pa_cons (pe_callB c_len (by rfl) g.b_len (by decide +kernel) (pa_cons (pv 2) pa_nil)) pa_nil))))
    (pss_one (ps_expr (pe_mX0 c_Disk_flush hr (by decide) (takes_of rfl rfl rfl rfl) (pv 0))))))))
theorem ok_format_disk (g : G K mg) {sp_Disk_flush : Sp} (c_Disk_flush : MetX P w K mg base 3 (He.ga K "Disk") "flush" sp_Disk_flush) {sp_clear : Sp} (c_clear : CalX P w K mg base 5 "_clear" sp_clear) {sp_write_blocks : Sp} (c_write_blocks : CalX P w K mg base 5 "_write_blocks" sp_write_blocks) {sp_encode_record : Sp} (c_encode_record : C8.Cal P w K mg base 2 "encode_record" sp_encode_record []) {sp_write_record : Sp} (c_write_record : C8.Cal P w K mg base 2 "write_record" sp_write_record []) {sp_check_entries : Sp} (c_check_entries : CalX P w K mg base 3 "check_entries" sp_check_entries) {sp : Sp} (F : ∃ fd, FunD K "format_disk" "format_disk" (defArgs s_format_disk) (defBody s_format_disk) (defScope s_format_disk) [] [] (He.ga K "format_disk") fd) (m : mg "format_disk" = some (.ref (He.ga K "format_disk")))
    (hsp : ∀ vs H Q E, sp vs H Q E → vs.length = 2 ∧ t_format_disk K sp_Disk_flush sp_clear sp_write_blocks sp_encode_record sp_write_record sp_check_entries E { nx := fun _ H' => Q .non H', rt := Q } (start N_format_disk vs) H) : CalX P w K mg base 6 "format_disk" sp := by
  obtain ⟨fd, F⟩ := F
  exact ⟨_, fd, ["disk", "entries"], FunD.ok F sc_format_disk (fun vs H Q E h => (hsp vs H Q E h).1) (fun cdv A outer s H vs Q E hr h => ⟨_, d_format_disk g c_Disk_flush c_clear c_write_blocks c_encode_record c_write_record c_check_entries hr, (hsp vs H Q E h).2⟩), m, F.kp, (F.bindsN fun _ _ _ _ _ _ us hl => match us, hl with | [_, _], _ => rfl)⟩
abbrev N_read_text : List Str := ["disk", "first", "number", "texts", "many", "piece"]
theorem sc_read_text : FnScope N_read_text ["disk", "first", "number"] (defScope s_read_text) := ⟨rfl, rfl, rfl, by decide +kernel, rfl, by decide +kernel, by decide +kernel⟩
def t_read_text (K : PySem.W.Frag) (sp_decode_piece : Sp) (sp_Disk_read : Sp) (sp_Disk_size : Sp) (E : XK) : TS :=
    (tSeq (tAsg (tLst tNil) (gName 3))
    (tSeq (tAsg (tC (.int 1)) (gName 4))
    (tSeq (tWhile (tTest (tOp rLt (tCB (rLenX K) (tCons (tVar 3) tNil)) (tVar 4))) (tSeq (tIfS (tTest (tOp (rEqX K) (tOp (rPlus K) (tVar 1) (tCB (rLenX K) (tCons (tVar 3) tNil))) (tMeth (He.ga K "Disk") "size" sp_Disk_size [] C8.E0 (tVar 0) tNil))) (tRet (tC .non)) tNext)
    (tSeq (tAsg (tCall sp_decode_piece [] C8.E0 (tCons (tMethS (He.ga K "Disk") "read" sp_Disk_read (WE (fun cls d _ H => E cls d H)) (tVar 0) (tCons (tOp (rPlus K) (tVar 1) (tCB (rLenX K) (tCons (tVar 3) tNil))) tNil)) tNil)) (gName 5))
    (tSeq (tIfS (tOr (tTest (tOp rIsNo (tVar 5) (tC .non))) (tOr (tTest (tOp (rNeX K) (tOp (rIx K) (tVar 5) (tC (.int 0))) (tCB (rLenX K) (tCons (tVar 3) tNil)))) (tOr (tTest (tOp (rNeX K) (tOp (rIx K) (tVar 5) (tC (.int 2))) (tVar 2))) (tAnd (tTruX K (tVar 3)) (tTest (tOp (rNeX K) (tOp (rIx K) (tVar 5) (tC (.int 1))) (tVar 4))))))) (tRet (tC .non)) tNext)
    (tSeq (tIfS (tAnd (tTruX K (tVar 3)) (tTest (tOp rLt (tCB (rLenX K) (tCons (tOp (rIx K) (tVar 3) (tUn (rU fun i => .int (-i)) (tC (.int 1)))) tNil)) (tC (.int 24))))) (tRet (tC .non)) tNext)
    (tSeq (tAsg (tOp (rIx K) (tVar 5) (tC (.int 1))) (gName 4))
    (tDrop (tBM K "list" rAppend (tVar 3) (tCons (tOp (rIx K) (tVar 5) (tC (.int 3))) tNil)))))))))
    (tSeq (tIfS (tTest (tOp rGt (tVar 4) (tC (.int 30)))) (tRet (tC .non)) tNext)
    (tRet (tTup (tCons (tBM K "str" (rJoin K) (tC (.str "")) (tCons (tVar 3) tNil)) (tCons (tVar 4) tNil))))))))
theorem d_read_text (g : G K mg) {sp_decode_piece : Sp} (c_decode_piece : C8.Cal P w K mg base 2 "decode_piece" sp_decode_piece []) {sp_Disk_read : Sp} (c_Disk_read : MetX P w K mg base 4 (He.ga K "Disk") "read" sp_Disk_read) {sp_Disk_size : Sp} (c_Disk_size : C8.Met P w K mg base 1 (He.ga K "Disk") "size" sp_Disk_size []) {f : Addr} {cdv : Value} {A : Around} {outer : List Env} {s : Shared} {H : Hp} {E : XK} (hr : Room 4 (A.deeper (envOfC "_read_text" (defScope s_read_text) s.heap.objs.size f cdv))) :
    PSs (cxOf (L2.CX P w) P w K mg base N_read_text "_read_text" (defScope s_read_text) f cdv A outer s H E) (defBody s_read_text) (t_read_text K sp_decode_piece sp_Disk_read sp_Disk_size E) := by
  unfold t_read_text
  exact
    (pss_cons (ps_set (i := 3) sc_read_text.nd rfl (by first | exact Or.inl rfl | exact Or.inr rfl) (pe_lst pa_nil))
    (pss_cons (ps_set (i := 4) sc_read_text.nd rfl (by first | exact Or.inl rfl | exact Or.inr rfl) pe_int)
    (pss_cons (ps_while (passes_of rfl) (pt_cmpR o_lt (pe_callB c_len (by rfl) g.b_len (by decide +kernel) (pa_cons (pv 3) pa_nil)) (pv 4) (nomark _)) (pss_cons (ps_if (pt_cmpR (o_eq hr.units) (pe_op o_plus (pv 1) (pe_callB c_len (by rfl) g.b_len (by decide +kernel) (pa_cons (pv 3) pa_nil))) (C8.pe_mt0 c_Disk_size hr (by decide) (pv 0)) (nomark _)) (pss_one (ps_ret pe_non)) pss_nil)
    (pss_cons (ps_set (i := 5) sc_read_text.nd rfl (by first | exact Or.inl rfl | exact Or.inr rfl) (C8.pe_c c_decode_piece hr (by decide) rfl (pa_cons (pe_mX c_Disk_read hr (by decide) (takes_of rfl rfl rfl rfl) (pv 0) (pa_cons (pe_op o_plus (pv 1) (pe_callB c_len (by rfl) g.b_len (by decide +kernel) (pa_cons (pv 3) pa_nil))) pa_nil)) pa_nil)))
    (pss_cons (ps_if (PW.pt (pw_or (pt_cmpR o_is (pv 5) pe_non (nomark _)) (pw_or (pt_cmpR (o_ne hr.units) (pe_ix ix_seq (pv 5) pe_int (fun _ _ => rfl)) (pe_callB c_len (by rfl) g.b_len (by decide +kernel) (pa_cons (pv 3) pa_nil)) (nomark _)) (pw_or (pt_cmpR (o_ne hr.units) (pe_ix ix_seq (pv 5) pe_int (fun _ _ => rfl)) (pv 2) (nomark _)) (pw_or1 (PW.pt (pw_and (pt_tru (pv 3)) (pw_and1 (pt_cmpR (o_ne hr.units) (pe_ix ix_seq (pv 5) pe_int (fun _ _ => rfl)) (pv 4) (nomark _)))))))))) (pss_one (ps_ret pe_non)) pss_nil)
    (pss_cons (ps_if (PW.pt (pw_and (pt_tru (pv 3)) (pw_and1 (pt_cmpR o_lt (pe_callB c_len (by rfl) g.b_len (by decide +kernel) (pa_cons (pe_ix ix_seq (pv 3) (pe_un un_neg pe_int) (fun _ _ => rfl)) pa_nil)) (C8.pe_gc rfl g.c_PIECE) (nomark _))))) (pss_one (ps_ret pe_non)) pss_nil)
    (pss_cons (ps_set (i := 4) sc_read_text.nd rfl (by first | exact Or.inl rfl | exact Or.inr rfl) (pe_ix ix_seq (pv 5) pe_int (fun _ _ => rfl)))
    (pss_one (ps_expr (pe_bm PySem.F.plainAttrs_list PySem.F.slot_list_append PySem.F.type_list_append mt_append (pv 3) (pa_cons (pe_ix ix_seq (pv 5) pe_int (fun _ _ => rfl)) pa_nil))))))))))
    (pss_cons (ps_if (pt_cmpR o_gt (pv 4) (C8.pe_gc rfl g.c_PIECES_MOST) (nomark _)) (pss_one (ps_ret pe_non)) pss_nil)
    (pss_one (ps_ret (pe_tup (pa_cons (pe_bm PySem.F.plainAttrs_str PySem.F.slot_str_join PySem.F.type_str_join m_join pe_str (pa_cons (pv 3) pa_nil)) (pa_cons (pv 4) pa_nil)))))))))
theorem ok_read_text (g : G K mg) {sp_decode_piece : Sp} (c_decode_piece : C8.Cal P w K mg base 2 "decode_piece" sp_decode_piece []) {sp_Disk_read : Sp} (c_Disk_read : MetX P w K mg base 4 (He.ga K "Disk") "read" sp_Disk_read) {sp_Disk_size : Sp} (c_Disk_size : C8.Met P w K mg base 1 (He.ga K "Disk") "size" sp_Disk_size []) {sp : Sp} (F : ∃ fd, FunD K "_read_text" "_read_text" (defArgs s_read_text) (defBody s_read_text) (defScope s_read_text) [] [] (He.ga K "_read_text") fd) (m : mg "_read_text" = some (.ref (He.ga K "_read_text")))
    (hsp : ∀ vs H Q E, sp vs H Q E → vs.length = 3 ∧ t_read_text K sp_decode_piece sp_Disk_read sp_Disk_size E { nx := fun _ H' => Q .non H', rt := Q } (start N_read_text vs) H) : CalX P w K mg base 5 "_read_text" sp := by
  obtain ⟨fd, F⟩ := F
  exact ⟨_, fd, ["disk", "first", "number"], FunD.ok F sc_read_text (fun vs H Q E h => (hsp vs H Q E h).1) (fun cdv A outer s H vs Q E hr h => ⟨_, d_read_text g c_decode_piece c_Disk_read c_Disk_size hr, (hsp vs H Q E h).2⟩), m, F.kp, (F.bindsN fun _ _ _ _ _ _ us hl => match us, hl with | [_, _, _], _ => rfl)⟩
abbrev N_read_records : List Str := ["disk", "records", "ends", "found", "record"]
theorem sc_read_records : FnScope N_read_records ["disk"] (defScope s_read_records) := ⟨rfl, rfl, rfl, by decide +kernel, rfl, by decide +kernel, by decide +kernel⟩
def t_read_records (K : PySem.W.Frag) (sp_read_text : Sp) (sp_read_record : Sp) (E : XK) : TS :=
    (tSeq (tAsg (tLst tNil) (gName 1))
    (tSeq (tAsg (tLst (tCons (tC (.int 0)) tNil)) (gName 2))
    (tSeq (tAsg (tCallS sp_read_text (WE (fun cls d _ H => E cls d H)) (tCons (tVar 0) (tCons (tC (.int 0)) (tCons (tC (.int 0)) tNil)))) (gName 3))
    (tSeq (tWhile (tTest (tOp rNotNo (tVar 3) (tC .non))) (tSeq (tAsg (tCall sp_read_record [] C8.E0 (tCons (tOp (rIx K) (tVar 3) (tC (.int 0))) tNil)) (gName 4))
    (tSeq (tIfS (tOr (tTest (tOp rIsNo (tVar 4) (tC .non))) (tTest (tOp (rNeX K) (tOp (rEqX K) (tOp (rIx K) (tVar 4) (tC (.int 0))) (tC (.str "entries"))) (tOp (rEqX K) (tCB (rLenX K) (tCons (tVar 1) tNil)) (tC (.int 0)))))) (tRet (tTup (tCons (tVar 1) (tCons (tVar 2) tNil)))) tNext)
    (tSeq (tDrop (tBM K "list" rAppend (tVar 1) (tCons (tVar 4) tNil)))
    (tSeq (tDrop (tBM K "list" rAppend (tVar 2) (tCons (tOp (rPlus K) (tOp (rIx K) (tVar 2) (tUn (rU fun i => .int (-i)) (tC (.int 1)))) (tOp (rIx K) (tVar 3) (tC (.int 1)))) tNil)))
    (tAsg (tCallS sp_read_text (WE (fun cls d _ H => E cls d H)) (tCons (tVar 0) (tCons (tOp (rIx K) (tVar 2) (tUn (rU fun i => .int (-i)) (tC (.int 1)))) (tCons (tCB (rLenX K) (tCons (tVar 1) tNil)) tNil)))) (gName 3)))))))
    (tRet (tTup (tCons (tVar 1) (tCons (tVar 2) tNil))))))))
theorem d_read_records (g : G K mg) {sp_read_text : Sp} (c_read_text : CalX P w K mg base 5 "_read_text" sp_read_text) {sp_read_record : Sp} (c_read_record : C8.Cal P w K mg base 6 "read_record" sp_read_record []) {f : Addr} {cdv : Value} {A : Around} {outer : List Env} {s : Shared} {H : Hp} {E : XK} (hr : Room 6 (A.deeper (envOfC "_read_records" (defScope s_read_records) s.heap.objs.size f cdv))) :
    PSs (cxOf (L2.CX P w) P w K mg base N_read_records "_read_records" (defScope s_read_records) f cdv A outer s H E) (defBody s_read_records) (t_read_records K sp_read_text sp_read_record E) := by
  unfold t_read_records
  exact
    (pss_cons (ps_set (i := 1) sc_read_records.nd rfl (by first | exact Or.inl rfl | exact Or.inr rfl) (pe_lst pa_nil))
    (pss_cons (ps_set (i := 2) sc_read_records.nd rfl (by first | exact Or.inl rfl | exact Or.inr rfl) (pe_lst (pa_cons pe_int pa_nil)))
    (pss_cons (ps_set (i := 3) sc_read_records.nd rfl (by first | exact Or.inl rfl | exact Or.inr rfl) (pe_cX c_read_text hr (by decide) (takes_of rfl rfl rfl rfl) rfl (pa_cons (pv 0) (pa_cons pe_int (pa_cons pe_int pa_nil)))))
    (pss_cons (ps_while (passes_of rfl) (pt_cmpR o_isnot (pv 3) pe_non (nomark _)) (pss_cons (ps_set (i := 4) sc_read_records.nd rfl (by first | exact Or.inl rfl | exact Or.inr rfl) (C8.pe_c c_read_record hr (by decide) rfl (pa_cons (pe_ix ix_seq (pv 3) pe_int (fun _ _ => rfl)) pa_nil)))
    (pss_cons (ps_if (PW.pt (pw_or (pt_cmpR o_is (pv 4) pe_non (nomark _)) (pw_or1 (pt_cmpR (o_ne hr.units) (pe_cmpR (o_eq hr.units) (pe_ix ix_seq (pv 4) pe_int (fun _ _ => rfl)) pe_str (nomark _)) (pe_cmpR (o_eq hr.units) (pe_callB c_len (by rfl) g.b_len (by decide +kernel) (pa_cons (pv 1) pa_nil)) pe_int (nomark _)) (nomark _))))) (pss_one (ps_ret (pe_tup (pa_cons (pv 1) (pa_cons (pv 2) pa_nil))))) pss_nil)
    (pss_cons (ps_expr (pe_bm PySem.F.plainAttrs_list PySem.F.slot_list_append PySem.F.type_list_append mt_append (pv 1) (pa_cons (pv 4) pa_nil)))
    (pss_cons (ps_expr (pe_bm PySem.F.plainAttrs_list PySem.F.slot_list_append PySem.F.type_list_append mt_append (pv 2) (pa_cons (pe_op o_plus (pe_ix ix_seq (pv 2) (pe_un un_neg pe_int) (fun _ _ => rfl)) (pe_ix ix_seq (pv 3) pe_int (fun _ _ => rfl))) pa_nil)))
    (pss_one (ps_set (i := 3) sc_read_records.nd rfl (by first | exact Or.inl rfl | exact Or.inr rfl) (pe_cX c_read_text hr (by decide) (takes_of rfl rfl rfl rfl) rfl (pa_cons (pv 0) (pa_cons (pe_ix ix_seq (pv 2) (pe_un un_neg pe_int) (fun _ _ => rfl)) (pa_cons (pe_callB c_len (by rfl) g.b_len (by decide +kernel) (pa_cons (pv 1) pa_nil)) pa_nil)))))))))))
    (pss_one (ps_ret (pe_tup (pa_cons (pv 1) (pa_cons (pv 2) pa_nil)))))))))
theorem ok_read_records (g : G K mg) {sp_read_text : Sp} (c_read_text : CalX P w K mg base 5 "_read_text" sp_read_text) {sp_read_record : Sp} (c_read_record : C8.Cal P w K mg base 6 "read_record" sp_read_record []) {sp : Sp} (F : ∃ fd, FunD K "_read_records" "_read_records" (defArgs s_read_records) (defBody s_read_records) (defScope s_read_records) [] [] (He.ga K "_read_records") fd) (m : mg "_read_records" = some (.ref (He.ga K "_read_records")))
    (hsp : ∀ vs H Q E, sp vs H Q E → vs.length = 1 ∧ t_read_records K sp_read_text sp_read_record E { nx := fun _ H' => Q .non H', rt := Q } (start N_read_records vs) H) : CalX P w K mg base 7 "_read_records" sp := by
  obtain ⟨fd, F⟩ := F
  exact ⟨_, fd, ["disk"], FunD.ok F sc_read_records (fun vs H Q E h => (hsp vs H Q E h).1) (fun cdv A outer s H vs Q E hr h => ⟨_, d_read_records g c_read_text c_read_record hr, (hsp vs H Q E h).2⟩), m, F.kp, (F.bindsN fun _ _ _ _ _ _ us hl => match us, hl with | [_], _ => rfl)⟩
abbrev N_good_records : List Str := ["records", "changed", "calls", "at", "record", "first"]
theorem sc_good_records : FnScope N_good_records ["records"] (defScope s_good_records) := ⟨rfl, rfl, rfl, by decide +kernel, rfl, by decide +kernel, by decide +kernel⟩
def t_good_records (K : PySem.W.Frag) : TS :=
    (tSeq (tAsg (tLst tNil) (gName 1))
    (tSeq (tAsg (tOp rTimes (tLst (tCons (tC (.int 0)) tNil)) (tC (.int 3))) (gName 2))
    (tSeq (tFor (iEnum K (tCons (tVar 0) tNil)) (gUnp K 2 (gCons (gName 3) (gCons (gName 4) gNil))) (tSeq (tAsg (tOp rMinus (tVar 3) (tCB (rLenX K) (tCons (tVar 1) tNil))) (gName 5))
    (tIfS (tOr (tTest (tOp (rEqX K) (tOp (rIx K) (tVar 4) (tC (.int 0))) (tC (.str "text")))) (tTest (tOp (rEqX K) (tOp (rIx K) (tVar 4) (tC (.int 0))) (tC (.str "remove"))))) (tDrop (tBM K "list" rAppend (tVar 1) (tCons (tOp (rIx K) (tVar 4) (tC (.int 1))) tNil))) (tIfS (tTest (tOp (rEqX K) (tOp (rIx K) (tVar 4) (tC (.int 0))) (tC (.str "update")))) (tSeq (tIfS (tOr (tTest (tOp (rNeX K) (tOp (rIx K) (tVar 4) (tC (.int 1))) (tCB (rLenX K) (tCons (tVar 1) tNil)))) (tTest (tOp (rNeX K) (tLenSetX K (tVar 1)) (tCB (rLenX K) (tCons (tVar 1) tNil))))) (tRet (tVar 5)) tNext)
    (tAsg (tLst tNil) (gName 1))) (tIfS (tTest (tOp (rEqX K) (tOp (rIx K) (tVar 4) (tC (.int 0))) (tC (.str "call")))) (tSeq (tIfS (tOr (tTruX K (tVar 1)) (tTest (tOp (rNeX K) (tOp (rIx K) (tVar 4) (tC (.int 2))) (tOp (rIx K) (tVar 2) (tOp (rIx K) (tVar 4) (tC (.int 1))))))) (tRet (tVar 5)) tNext)
    (tAsg (tOp (rPlus K) (tOp (rIx K) (tVar 4) (tC (.int 2))) (tC (.int 1))) (gSub (tVar 2) (tOp (rIx K) (tVar 4) (tC (.int 1))) rSetL))) tNext)))))
    (tRet (tOp rMinus (tCB (rLenX K) (tCons (tVar 0) tNil)) (tCB (rLenX K) (tCons (tVar 1) tNil)))))))
theorem d_good_records (g : G K mg) {f : Addr} {cdv : Value} {A : Around} {outer : List Env} {s : Shared} {H : Hp} {E : XK} (hr : Room 0 (A.deeper (envOfC "_good_records" (defScope s_good_records) s.heap.objs.size f cdv))) :
    PSs (cxOf CX0 P w K mg base N_good_records "_good_records" (defScope s_good_records) f cdv A outer s H E).nox (defBody s_good_records) (t_good_records K) := by
  unfold t_good_records
  exact
    (pss_cons (ps_set (i := 1) sc_good_records.nd rfl (by first | exact Or.inl rfl | exact Or.inr rfl) (pe_lst pa_nil))
    (pss_cons (ps_set (i := 2) sc_good_records.nd rfl (by first | exact Or.inl rfl | exact Or.inr rfl) (pe_op o_times (pe_lst (pa_cons pe_int pa_nil)) (C8.pe_gc rfl g.c_HOLDERS_MOST)))
    (pss_cons (ps_for PassesOwn.never rfl (pi_enum rfl g.b_enumerate (pa_cons (pv 0) pa_nil)) (pg_unp rfl (pgs_cons (pg_name (i := 3) sc_good_records.nd rfl (by first | exact Or.inl rfl | exact Or.inr rfl)) (pgs_cons (pg_name (i := 4) sc_good_records.nd rfl (by first | exact Or.inl rfl | exact Or.inr rfl)) pgs_nil))) (pss_cons (ps_set (i := 5) sc_good_records.nd rfl (by first | exact Or.inl rfl | exact Or.inr rfl) (pe_op o_minus (pv 3) (pe_callB c_len (by rfl) g.b_len (by decide +kernel) (pa_cons (pv 1) pa_nil))))
    (pss_one (ps_if (PW.pt (pw_or (pt_cmpR (o_eq hr.units) (pe_ix ix_seq (pv 4) pe_int (fun _ _ => rfl)) pe_str (nomark _)) (pw_or1 (pt_cmpR (o_eq hr.units) (pe_ix ix_seq (pv 4) pe_int (fun _ _ => rfl)) pe_str (nomark _))))) (pss_one (ps_expr (pe_bm PySem.F.plainAttrs_list PySem.F.slot_list_append PySem.F.type_list_append mt_append (pv 1) (pa_cons (pe_ix ix_seq (pv 4) pe_int (fun _ _ => rfl)) pa_nil)))) (pss_one (ps_if (pt_cmpR (o_eq hr.units) (pe_ix ix_seq (pv 4) pe_int (fun _ _ => rfl)) pe_str (nomark _)) (pss_cons (ps_if (PW.pt (pw_or (pt_cmpR (o_ne hr.units) (pe_ix ix_seq (pv 4) pe_int (fun _ _ => rfl)) (pe_callB c_len (by rfl) g.b_len (by decide +kernel) (pa_cons (pv 1) pa_nil)) (nomark _)) (pw_or1 (pt_cmpR (o_ne hr.units) (pe_lenSetX rfl (by rfl) g.b_len (by rfl) g.b_set (pv 1)) (pe_callB c_len (by rfl) g.b_len (by decide +kernel) (pa_cons (pv 1) pa_nil)) (nomark _))))) (pss_one (ps_ret (pv 5))) pss_nil)
    (pss_one (ps_set (i := 1) sc_good_records.nd rfl (by first | exact Or.inl rfl | exact Or.inr rfl) (pe_lst pa_nil)))) (pss_one (ps_if (pt_cmpR (o_eq hr.units) (pe_ix ix_seq (pv 4) pe_int (fun _ _ => rfl)) pe_str (nomark _)) (pss_cons (ps_if (PW.pt (pw_or (pt_tru (pv 1)) (pw_or1 (pt_cmpR (o_ne hr.units) (pe_ix ix_seq (pv 4) pe_int (fun _ _ => rfl)) (pe_ix ix_seq (pv 2) (pe_ix ix_seq (pv 4) pe_int (fun _ _ => rfl)) (fun _ _ => rfl)) (nomark _))))) (pss_one (ps_ret (pv 5))) pss_nil)
    (pss_one (ps_asg (pe_op o_plus (pe_ix ix_seq (pv 4) pe_int (fun _ _ => rfl)) pe_int) (pg_sub (pv 2) (pe_ix ix_seq (pv 4) pe_int (fun _ _ => rfl)) set_list)))) pss_nil))))))))
    (pss_one (ps_ret (pe_op o_minus (pe_callB c_len (by rfl) g.b_len (by decide +kernel) (pa_cons (pv 0) pa_nil)) (pe_callB c_len (by rfl) g.b_len (by decide +kernel) (pa_cons (pv 1) pa_nil))))))))
theorem ok_good_records (g : G K mg) {sp : Sp} (F : ∃ fd, FunD K "_good_records" "_good_records" (defArgs s_good_records) (defBody s_good_records) (defScope s_good_records) [] [] (He.ga K "_good_records") fd) (m : mg "_good_records" = some (.ref (He.ga K "_good_records")))
    (hsp : ∀ vs H Q E, sp vs H Q E → vs.length = 1 ∧ t_good_records K { nx := fun _ H' => Q .non H', rt := Q } (start N_good_records vs) H) : C8.Cal P w K mg base 1 "_good_records" sp [] := by
  obtain ⟨fd, F⟩ := F
  exact ⟨_, fd, ["records"], [], FunD.ok F sc_good_records (fun vs H Q E h => (hsp vs H Q E h).1) (fun cdv A outer s H vs Q E hr h => ⟨_, PSs.nox (d_good_records g hr), (hsp vs H Q E h).2⟩), m, F.kp, (F.bindsN fun _ _ _ _ _ _ us hl => match us, hl with | [_], _ => rfl), .nil⟩
abbrev N_open_log : List Str := ["disk", "records", "ends", "many"]
theorem sc_open_log : FnScope N_open_log ["disk"] (defScope s_open_log) := ⟨rfl, rfl, rfl, by decide +kernel, rfl, by decide +kernel, by decide +kernel⟩
def t_open_log (K : PySem.W.Frag) (sp_Log_init : Sp) (sp_Disk_flush : Sp) (sp_clear : Sp) (sp_good_records : Sp) (sp_read_records : Sp) (E : XK) : TS :=
    (tSeq (tAsg (tCallS sp_read_records (WE (fun cls d _ H => E cls d H)) (tCons (tVar 0) tNil)) (gUnp K 2 (gCons (gName 1) (gCons (gName 2) gNil))))
    (tSeq (tIfS (tNot (tTruX K (tVar 1))) (tRaiseB (He.ga K "NotKept") (fun cls d _ H => E cls d H)) tNext)
    (tSeq (tAsg (tCall sp_good_records [] C8.E0 (tCons (tVar 1) tNil)) (gName 3))
    (tSeq (tDrop (tCallS sp_clear (WE (fun cls d _ H => E cls d H)) (tCons (tVar 0) (tCons (tOp (rIx K) (tVar 2) (tVar 3)) tNil))))
    (tSeq (tDrop (tMethS (He.ga K "Disk") "flush" sp_Disk_flush (WE (fun cls d _ H => E cls d H)) (tVar 0) tNil))
    (tRet (tMake (He.ga K "Log") sp_Log_init [] C8.E0 (tCons (tVar 0) (tCons (tSl (rSlX K) (tVar 1) tNoPart (tPart (tVar 3))) (tCons (tOp (rIx K) (tVar 2) (tVar 3)) tNil))))))))))
theorem d_open_log (g : G K mg) {sp_Log_init : Sp} (c_Log_init : C8.Mak P w K mg base 2 "Log" (He.ga K "Log") sp_Log_init []) {sp_Disk_flush : Sp} (c_Disk_flush : MetX P w K mg base 3 (He.ga K "Disk") "flush" sp_Disk_flush) {sp_clear : Sp} (c_clear : CalX P w K mg base 5 "_clear" sp_clear) {sp_good_records : Sp} (c_good_records : C8.Cal P w K mg base 1 "_good_records" sp_good_records []) {sp_read_records : Sp} (c_read_records : CalX P w K mg base 7 "_read_records" sp_read_records) {f : Addr} {cdv : Value} {A : Around} {outer : List Env} {s : Shared} {H : Hp} {E : XK} (hr : Room 7 (A.deeper (envOfC "open_log" (defScope s_open_log) s.heap.objs.size f cdv))) :
    PSs (cxOf (L2.CX P w) P w K mg base N_open_log "open_log" (defScope s_open_log) f cdv A outer s H E) (defBody s_open_log) (t_open_log K sp_Log_init sp_Disk_flush sp_clear sp_good_records sp_read_records E) := by
  unfold t_open_log
  exact
    (pss_cons (ps_asg (pe_cX c_read_records hr (by decide) (takes_of rfl rfl rfl rfl) rfl (pa_cons (pv 0) pa_nil)) (pg_unp rfl (pgs_cons (pg_name (i := 1) sc_open_log.nd rfl (by first | exact Or.inl rfl | exact Or.inr rfl)) (pgs_cons (pg_name (i := 2) sc_open_log.nd rfl (by first | exact Or.inl rfl | exact Or.inr rfl)) pgs_nil))))
    (pss_cons (ps_if (pt_not (pt_tru (pv 1))) (pss_one (ps_rB g.x_NotKept rfl (takes_of rfl rfl rfl rfl) rfl)) pss_nil)
    (pss_cons (ps_set (i := 3) sc_open_log.nd rfl (by first | exact Or.inl rfl | exact Or.inr rfl) (C8.pe_c c_good_records hr (by decide) rfl (pa_cons (pv 1) pa_nil)))
    (pss_cons (ps_expr (pe_cX c_clear hr (by decide) (takes_of rfl rfl rfl rfl) rfl (pa_cons (pv 0) (pa_cons (pe_ix ix_seq (pv 2) (pv 3) (fun _ _ => rfl)) pa_nil))))
    (pss_cons (ps_expr (pe_mX0 c_Disk_flush hr (by decide) (takes_of rfl rfl rfl rfl) (pv 0)))
    (pss_one (ps_ret (C8.pe_mk c_Log_init hr (by decide) rfl (pa_cons (pv 0) (pa_cons (pe_slice sl_any (pv 1) po_none (po_some (pv 3))) (pa_cons (pe_ix ix_seq (pv 2) (pv 3) (fun _ _ => rfl)) pa_nil)))))))))))
theorem ok_open_log (g : G K mg) {sp_Log_init : Sp} (c_Log_init : C8.Mak P w K mg base 2 "Log" (He.ga K "Log") sp_Log_init []) {sp_Disk_flush : Sp} (c_Disk_flush : MetX P w K mg base 3 (He.ga K "Disk") "flush" sp_Disk_flush) {sp_clear : Sp} (c_clear : CalX P w K mg base 5 "_clear" sp_clear) {sp_good_records : Sp} (c_good_records : C8.Cal P w K mg base 1 "_good_records" sp_good_records []) {sp_read_records : Sp} (c_read_records : CalX P w K mg base 7 "_read_records" sp_read_records) {sp : Sp} (F : ∃ fd, FunD K "open_log" "open_log" (defArgs s_open_log) (defBody s_open_log) (defScope s_open_log) [] [] (He.ga K "open_log") fd) (m : mg "open_log" = some (.ref (He.ga K "open_log")))
    (hsp : ∀ vs H Q E, sp vs H Q E → vs.length = 1 ∧ t_open_log K sp_Log_init sp_Disk_flush sp_clear sp_good_records sp_read_records E { nx := fun _ H' => Q .non H', rt := Q } (start N_open_log vs) H) : CalX P w K mg base 8 "open_log" sp := by
  obtain ⟨fd, F⟩ := F
  exact ⟨_, fd, ["disk"], FunD.ok F sc_open_log (fun vs H Q E h => (hsp vs H Q E h).1) (fun cdv A outer s H vs Q E hr h => ⟨_, d_open_log g c_Log_init c_Disk_flush c_clear c_good_records c_read_records hr, (hsp vs H Q E h).2⟩), m, F.kp, (F.bindsN fun _ _ _ _ _ _ us hl => match us, hl with | [_], _ => rfl)⟩
abbrev N_l_cell : List Str := ["_law_script", "_law_k"]
theorem sc_l_cell : FnScope N_l_cell ["_law_script", "_law_k"] (defScope s_l_cell) := ⟨rfl, rfl, rfl, by decide +kernel, rfl, by decide +kernel, by decide +kernel⟩
def t_l_cell (K : PySem.W.Frag) : TS :=
    (tSeq (tIfS (tTest (tOp rLt (tVar 1) (tCB (rLenX K) (tCons (tVar 0) tNil)))) (tRet (tOp (rIx K) (tVar 0) (tVar 1))) tNext)
    (tRet (tC (.int 0))))
theorem d_l_cell (g : G K mg) {f : Addr} {cdv : Value} {A : Around} {outer : List Env} {s : Shared} {H : Hp} {E : XK} (hr : Room 0 (A.deeper (envOfC "_law_cell" (defScope s_l_cell) s.heap.objs.size f cdv))) :
    PSs (cxOf CX0 P w K mg base N_l_cell "_law_cell" (defScope s_l_cell) f cdv A outer s H E).nox (defBody s_l_cell) (t_l_cell K) := by
  unfold t_l_cell
  exact
    (pss_cons (ps_if (pt_cmpR o_lt (pv 1) (pe_callB c_len (by rfl) g.b_len (by decide +kernel) (pa_cons (pv 0) pa_nil)) (nomark _)) (pss_one (ps_ret (pe_ix ix_seq (pv 0) (pv 1) (fun _ _ => rfl)))) pss_nil)
    (pss_one (ps_ret pe_int)))
theorem ok_l_cell (g : G K mg) {sp : Sp} (F : ∃ fd, FunD K "_law_cell" "_law_cell" (defArgs s_l_cell) (defBody s_l_cell) (defScope s_l_cell) [] [] (He.ga K "_law_cell") fd) (m : mg "_law_cell" = some (.ref (He.ga K "_law_cell")))
    (hsp : ∀ vs H Q E, sp vs H Q E → vs.length = 2 ∧ t_l_cell K { nx := fun _ H' => Q .non H', rt := Q } (start N_l_cell vs) H) : C8.Cal P w K mg base 1 "_law_cell" sp [] := by
  obtain ⟨fd, F⟩ := F
  exact ⟨_, fd, ["_law_script", "_law_k"], [], FunD.ok F sc_l_cell (fun vs H Q E h => (hsp vs H Q E h).1) (fun cdv A outer s H vs Q E hr h => ⟨_, PSs.nox (d_l_cell g hr), (hsp vs H Q E h).2⟩), m, F.kp, (F.bindsN fun _ _ _ _ _ _ us hl => match us, hl with | [_, _], _ => rfl), .nil⟩
abbrev N_l_digits : List Str := ["_law_script", "_law_first", "_law_last", "_law_digits_here", "_law_k", "_law_cell_here", "_law_turn", "_law_seed"]
theorem sc_l_digits : FnScope N_l_digits ["_law_script", "_law_first", "_law_last"] (defScope s_l_digits) := ⟨rfl, rfl, rfl, by decide +kernel, rfl, by decide +kernel, by decide +kernel⟩
def t_l_digits (K : PySem.W.Frag) (sp_l_cell : Sp) : TS :=
    (tSeq (tAsg (tLst tNil) (gName 3))
    (tSeq (tFor (iRng2 (tCons (tVar 1) (tCons (tVar 2) tNil))) (gName 4) (tSeq (tAsg (tCall sp_l_cell [] C8.E0 (tCons (tVar 0) (tCons (tVar 4) tNil))) (gName 5))
    (C8.tCut (tIfS (tTest (tOp rLt (tVar 5) (tC (.int 0)))) (tAsg (tOp rMinus (tC (.int 1)) (tOp rTimes (tC (.int 2)) (tVar 5))) (gName 5)) tNext)
    (tIfS (tTest (tOp rGe (tVar 5) (tC (.int 1000000000000000000)))) (tFor (iRng1 (tCons (tC (.int 60)) tNil)) (gName 6) (tIfS (tTest (tOp rGt (tVar 5) (tC (.int 0)))) (tSeq (tDrop (tBM K "list" rAppend (tVar 3) (tCons (tOp rMod (tCB (rIntX) (tCons (tVar 5) tNil)) (tC (.int 1000))) tNil)))
    (tAsg (tOp rFdiv (tVar 5) (tC (.int 1000))) (gName 5))) tNext)) (tSeq (tAsg (tOp rMod (tCB (rIntX) (tCons (tOp (rPlus K) (tOp (rPlus K) (tOp rTimes (tVar 5) (tC (.int 40692))) (tOp rTimes (tVar 4) (tC (.int 52774)))) (tC (.int 17))) tNil)) (tC (.int 2147483399))) (gName 7))
    (tFor (iRng1 (tCons (tC (.int 12)) tNil)) (gName 6) (tSeq (tAsg (tOp rMod (tCB (rIntX) (tCons (tOp (rPlus K) (tOp (rPlus K) (tOp rTimes (tVar 7) (tC (.int 40014))) (tOp rTimes (tC (.int 5)) (tVar 6))) (tC (.int 3))) tNil)) (tC (.int 2147483563))) (gName 7))
    (tDrop (tBM K "list" rAppend (tVar 3) (tCons (tOp rMod (tCB (rIntX) (tCons (tOp rFdiv (tVar 7) (tC (.int 1009))) tNil)) (tC (.int 1000))) tNil))))))))))
    (tRet (tVar 3))))
theorem d_l_digits (g : G K mg) {sp_l_cell : Sp} (c_l_cell : C8.Cal P w K mg base 1 "_law_cell" sp_l_cell []) {f : Addr} {cdv : Value} {A : Around} {outer : List Env} {s : Shared} {H : Hp} {E : XK} (hr : Room 1 (A.deeper (envOfC "_law_digits" (defScope s_l_digits) s.heap.objs.size f cdv))) :
    PSs (cxOf CX0 P w K mg base N_l_digits "_law_digits" (defScope s_l_digits) f cdv A outer s H E).nox (defBody s_l_digits) (t_l_digits K sp_l_cell) := by
  unfold t_l_digits
  exact
    (pss_cons (ps_set (i := 3) sc_l_digits.nd rfl (by first | exact Or.inl rfl | exact Or.inr rfl) (pe_lst pa_nil))
    (pss_cons (ps_for PassesOwn.never rfl (pi_range2 rfl g.b_range (pa_cons (pv 1) (pa_cons (pv 2) pa_nil))) (pg_name (i := 4) sc_l_digits.nd rfl (by first | exact Or.inl rfl | exact Or.inr rfl)) (pss_cons (ps_set (i := 5) sc_l_digits.nd rfl (by first | exact Or.inl rfl | exact Or.inr rfl) (C8.pe_c c_l_cell hr (by decide) rfl (pa_cons (pv 0) (pa_cons (pv 4) pa_nil))))
    (C8.pss_cut (ps_if (pt_cmpR o_lt (pv 5) pe_int (nomark _)) (pss_one (ps_set (i := 5) sc_l_digits.nd rfl (by first | exact Or.inl rfl | exact Or.inr rfl) (pe_op o_minus pe_int (pe_op o_times pe_int (pv 5))))) pss_nil)
    (pss_one (ps_if (pt_cmpR o_ge (pv 5) pe_int (nomark _)) (pss_one (ps_for PassesOwn.never rfl (pi_range1 rfl g.b_range (pa_cons pe_int pa_nil)) (pg_name (i := 6) sc_l_digits.nd rfl (by first | exact Or.inl rfl | exact Or.inr rfl)) (pss_one (ps_if (pt_cmpR o_gt (pv 5) pe_int (nomark _)) (pss_cons (ps_expr (pe_bm PySem.F.plainAttrs_list PySem.F.slot_list_append PySem.F.type_list_append mt_append (pv 3) (pa_cons (pe_op o_mod (pe_callTy c_int (by rfl) g.b_int (by decide +kernel) (pa_cons (pv 5) pa_nil)) pe_int) pa_nil)))
    (pss_one (ps_set (i := 5) sc_l_digits.nd rfl (by first | exact Or.inl rfl | exact Or.inr rfl) (pe_op o_fdiv (pv 5) pe_int)))) pss_nil)))) (pss_cons (ps_set (i := 7) sc_l_digits.nd rfl (by first | exact Or.inl rfl | exact Or.inr rfl) (pe_op o_mod (pe_callTy c_int (by rfl) g.b_int (by decide +kernel) (pa_cons (pe_op o_plus (pe_op o_plus (pe_op o_times (pv 5) pe_int) (pe_op o_times (pv 4) pe_int)) pe_int) pa_nil)) pe_int))
    (pss_one (ps_for PassesOwn.never rfl (pi_range1 rfl g.b_range (pa_cons pe_int pa_nil)) (pg_name (i := 6) sc_l_digits.nd rfl (by first | exact Or.inl rfl | exact Or.inr rfl)) (pss_cons (ps_set (i := 7) sc_l_digits.nd rfl (by first | exact Or.inl rfl | exact Or.inr rfl) (pe_op o_mod (pe_callTy c_int (by rfl) g.b_int (by decide +kernel) (pa_cons (pe_op o_plus (pe_op o_plus (pe_op o_times (pv 7) pe_int) (pe_op o_times pe_int (pv 6))) pe_int) pa_nil)) pe_int))
    (pss_one (ps_expr (pe_bm PySem.F.plainAttrs_list PySem.F.slot_list_append PySem.F.type_list_append mt_append (pv 3) (pa_cons (pe_op o_mod (pe_callTy c_int (by rfl) g.b_int (by decide +kernel) (pa_cons (pe_op o_fdiv (pv 7) pe_int) pa_nil)) pe_int) pa_nil)))))))))))))
    (pss_one (ps_ret (pv 3)))))
theorem ok_l_digits (g : G K mg) {sp_l_cell : Sp} (c_l_cell : C8.Cal P w K mg base 1 "_law_cell" sp_l_cell []) {sp : Sp} (F : ∃ fd, FunD K "_law_digits" "_law_digits" (defArgs s_l_digits) (defBody s_l_digits) (defScope s_l_digits) [] [] (He.ga K "_law_digits") fd) (m : mg "_law_digits" = some (.ref (He.ga K "_law_digits")))
    (hsp : ∀ vs H Q E, sp vs H Q E → vs.length = 3 ∧ t_l_digits K sp_l_cell { nx := fun _ H' => Q .non H', rt := Q } (start N_l_digits vs) H) : C8.Cal P w K mg base 2 "_law_digits" sp [] := by
  obtain ⟨fd, F⟩ := F
  exact ⟨_, fd, ["_law_script", "_law_first", "_law_last"], [], FunD.ok F sc_l_digits (fun vs H Q E h => (hsp vs H Q E h).1) (fun cdv A outer s H vs Q E hr h => ⟨_, PSs.nox (d_l_digits g c_l_cell hr), (hsp vs H Q E h).2⟩), m, F.kp, (F.bindsN fun _ _ _ _ _ _ us hl => match us, hl with | [_, _, _], _ => rfl), .nil⟩
abbrev N_l_draw : List Str := ["_law_box", "_law_many", "_law_at"]
theorem sc_l_draw : FnScope N_l_draw ["_law_box", "_law_many"] (defScope s_l_draw) := ⟨rfl, rfl, rfl, by decide +kernel, rfl, by decide +kernel, by decide +kernel⟩
def t_l_draw (K : PySem.W.Frag) : TS :=
    (tSeq (tAsg (tOp (rIx K) (tVar 0) (tC (.int 1))) (gName 2))
    (tSeq (tAsg (tOp (rPlus K) (tVar 2) (tC (.int 1))) (gSub (tVar 0) (tC (.int 1)) rSetL))
    (tSeq (tIfS (tTest (tOp rLt (tVar 2) (tCB (rLenX K) (tCons (tOp (rIx K) (tVar 0) (tC (.int 0))) tNil)))) (tRet (tOp rMod (tCB (rIntX) (tCons (tOp (rIx K) (tOp (rIx K) (tVar 0) (tC (.int 0))) (tVar 2)) tNil)) (tVar 1))) tNext)
    (tRet (tOp rMod (tCB (rIntX) (tCons (tOp (rPlus K) (tOp rTimes (tVar 2) (tC (.int 7))) (tC (.int 3))) tNil)) (tVar 1))))))
theorem d_l_draw (g : G K mg) {f : Addr} {cdv : Value} {A : Around} {outer : List Env} {s : Shared} {H : Hp} {E : XK} (hr : Room 0 (A.deeper (envOfC "_law_draw" (defScope s_l_draw) s.heap.objs.size f cdv))) :
    PSs (cxOf CX0 P w K mg base N_l_draw "_law_draw" (defScope s_l_draw) f cdv A outer s H E).nox (defBody s_l_draw) (t_l_draw K) := by
  unfold t_l_draw
  exact
    (pss_cons (ps_set (i := 2) sc_l_draw.nd rfl (by first | exact Or.inl rfl | exact Or.inr rfl) (pe_ix ix_seq (pv 0) pe_int (fun _ _ => rfl)))
    (pss_cons (ps_asg (pe_op o_plus (pv 2) pe_int) (pg_sub (pv 0) pe_int set_list))
    (pss_cons (ps_if (pt_cmpR o_lt (pv 2) (pe_callB c_len (by rfl) g.b_len (by decide +kernel) (pa_cons (pe_ix ix_seq (pv 0) pe_int (fun _ _ => rfl)) pa_nil)) (nomark _)) (pss_one (ps_ret (pe_op o_mod (pe_callTy c_int (by rfl) g.b_int (by decide +kernel) (pa_cons (pe_ix ix_seq (pe_ix ix_seq (pv 0) pe_int (fun _ _ => rfl)) (pv 2) (fun _ _ => rfl)) pa_nil)) (pv 1)))) pss_nil)
    (pss_one (ps_ret (pe_op o_mod (pe_callTy c_int (by rfl) g.b_int (by decide +kernel) (pa_cons (pe_op o_plus (pe_op o_times (pv 2) pe_int) pe_int) pa_nil)) (pv 1)))))))
theorem ok_l_draw (g : G K mg) {sp : Sp} (F : ∃ fd, FunD K "_law_draw" "_law_draw" (defArgs s_l_draw) (defBody s_l_draw) (defScope s_l_draw) [] [] (He.ga K "_law_draw") fd) (m : mg "_law_draw" = some (.ref (He.ga K "_law_draw")))
    (hsp : ∀ vs H Q E, sp vs H Q E → vs.length = 2 ∧ t_l_draw K { nx := fun _ H' => Q .non H', rt := Q } (start N_l_draw vs) H) : C8.Cal P w K mg base 1 "_law_draw" sp [] := by
  obtain ⟨fd, F⟩ := F
  exact ⟨_, fd, ["_law_box", "_law_many"], [], FunD.ok F sc_l_draw (fun vs H Q E h => (hsp vs H Q E h).1) (fun cdv A outer s H vs Q E hr h => ⟨_, PSs.nox (d_l_draw g hr), (hsp vs H Q E h).2⟩), m, F.kp, (F.bindsN fun _ _ _ _ _ _ us hl => match us, hl with | [_, _], _ => rfl), .nil⟩
abbrev N_l_alike : List Str := ["_law_one_here", "_law_two"]
theorem sc_l_alike : FnScope N_l_alike ["_law_one_here", "_law_two"] (defScope s_l_alike) := ⟨rfl, rfl, rfl, by decide +kernel, rfl, by decide +kernel, by decide +kernel⟩
def t_l_alike (K : PySem.W.Frag) : TS :=
    (tRet (tOp (rEqX K) (tCB (rReprX K) (tCons (tVar 0) tNil)) (tCB (rReprX K) (tCons (tVar 1) tNil))))
theorem d_l_alike (g : G K mg) {f : Addr} {cdv : Value} {A : Around} {outer : List Env} {s : Shared} {H : Hp} {E : XK} (hr : Room 0 (A.deeper (envOfC "_law_alike" (defScope s_l_alike) s.heap.objs.size f cdv))) (hgd : (A.deeper (envOfC "_law_alike" (defScope s_l_alike) s.heap.objs.size f cdv)).guards = some []) :
    PSs (cxOf CX0 P w K mg base N_l_alike "_law_alike" (defScope s_l_alike) f cdv A outer s H E).nox (defBody s_l_alike) (t_l_alike K) := by
  unfold t_l_alike
  exact
    (pss_one (ps_ret (pe_cmpR (o_eq hr.units) (pe_callB (c_repr hr.units hgd) (by rfl) g.b_repr (by decide +kernel) (pa_cons (pv 0) pa_nil)) (pe_callB (c_repr hr.units hgd) (by rfl) g.b_repr (by decide +kernel) (pa_cons (pv 1) pa_nil)) (nomark _))))
theorem ok_l_alike (g : G K mg) {sp : Sp} (F : ∃ fd, FunD K "_law_alike" "_law_alike" (defArgs s_l_alike) (defBody s_l_alike) (defScope s_l_alike) [] [] (He.ga K "_law_alike") fd) (m : mg "_law_alike" = some (.ref (He.ga K "_law_alike")))
    (hsp : ∀ vs H Q E, sp vs H Q E → vs.length = 2 ∧ t_l_alike K { nx := fun _ H' => Q .non H', rt := Q } (start N_l_alike vs) H) : CalG P w K mg base 1 "_law_alike" sp [] := by
  obtain ⟨fd, F⟩ := F
  exact ⟨_, fd, ["_law_one_here", "_law_two"], [], okG F sc_l_alike (fun vs H Q E h => (hsp vs H Q E h).1) (fun cdv A outer s H vs Q E hr hgd h => ⟨_, PSs.nox (d_l_alike g hr hgd), (hsp vs H Q E h).2⟩), m, F.kp, (F.bindsN fun _ _ _ _ _ _ us hl => match us, hl with | [_, _], _ => rfl), .nil⟩
abbrev N_l_value_text : List Str := ["_law_value"]
theorem sc_l_value_text : FnScope N_l_value_text ["_law_value"] (defScope s_l_value_text) := ⟨rfl, rfl, rfl, by decide +kernel, rfl, by decide +kernel, by decide +kernel⟩
def t_l_value_text (K : PySem.W.Frag) : TS :=
    (tSeq (tIfS (tTruX K (tCB (rIsi K) (tCons (tVar 0) (tCons (tC (.ty "str")) tNil)))) (tRet (tOp (rPlus K) (tOp (rPlus K) (tC (.str "\"")) (tVar 0)) (tC (.str "\"")))) tNext)
    (tRet (tCB (rStrX) (tCons (tVar 0) tNil))))
theorem d_l_value_text (g : G K mg) {f : Addr} {cdv : Value} {A : Around} {outer : List Env} {s : Shared} {H : Hp} {E : XK} (hr : Room 0 (A.deeper (envOfC "_law_value_text" (defScope s_l_value_text) s.heap.objs.size f cdv))) :
    PSs (cxOf CX0 P w K mg base N_l_value_text "_law_value_text" (defScope s_l_value_text) f cdv A outer s H E).nox (defBody s_l_value_text) (t_l_value_text K) := by
  unfold t_l_value_text
  exact
    (pss_cons (ps_if (pt_tru (pe_callB c_isi (by rfl) g.b_isinstance (by decide +kernel) (pa_cons (pv 0) (pa_cons (pe_bltn (by rfl) g.b_str (by decide +kernel) rfl) pa_nil)))) (pss_one (ps_ret (pe_op o_plus (pe_op o_plus pe_str (pv 0)) pe_str))) pss_nil)
    (pss_one (ps_ret (pe_callTy c_str (by rfl) g.b_str (by decide +kernel) (pa_cons (pv 0) pa_nil)))))
theorem ok_l_value_text (g : G K mg) {sp : Sp} (F : ∃ fd, FunD K "_law_value_text" "_law_value_text" (defArgs s_l_value_text) (defBody s_l_value_text) (defScope s_l_value_text) [] [] (He.ga K "_law_value_text") fd) (m : mg "_law_value_text" = some (.ref (He.ga K "_law_value_text")))
    (hsp : ∀ vs H Q E, sp vs H Q E → vs.length = 1 ∧ t_l_value_text K { nx := fun _ H' => Q .non H', rt := Q } (start N_l_value_text vs) H) : C8.Cal P w K mg base 1 "_law_value_text" sp [] := by
  obtain ⟨fd, F⟩ := F
  exact ⟨_, fd, ["_law_value"], [], FunD.ok F sc_l_value_text (fun vs H Q E h => (hsp vs H Q E h).1) (fun cdv A outer s H vs Q E hr h => ⟨_, PSs.nox (d_l_value_text g hr), (hsp vs H Q E h).2⟩), m, F.kp, (F.bindsN fun _ _ _ _ _ _ us hl => match us, hl with | [_], _ => rfl), .nil⟩
abbrev N_l_record_text : List Str := ["_law_record", "_law_value"]
theorem sc_l_record_text : FnScope N_l_record_text ["_law_record"] (defScope s_l_record_text) := ⟨rfl, rfl, rfl, by decide +kernel, rfl, by decide +kernel, by decide +kernel⟩
def t_l_record_text (K : PySem.W.Frag) (sp_l_value_text : Sp) : TS :=
    (tSeq (tIfS (tTest (tOp (rEqX K) (tOp (rIx K) (tVar 0) (tC (.int 0))) (tC (.str "text")))) (tRet (tOp (rPlus K) (tOp (rPlus K) (tOp (rPlus K) (tC (.str "text ")) (tOp (rIx K) (tVar 0) (tC (.int 1)))) (tC (.str " "))) (CwR.tReplC (tOp (rIx K) (tVar 0) (tC (.int 2))) "\n" "|"))) tNext)
    (tSeq (tIfS (tTest (tOp (rEqX K) (tOp (rIx K) (tVar 0) (tC (.int 0))) (tC (.str "call")))) (tRet (tBM K "str" (rJoin K) (tC (.str " ")) (tCons (tOp (rPlus K) (tLst (tCons (tC (.str "call")) (tCons (tCB (rStrX) (tCons (tOp (rIx K) (tVar 0) (tC (.int 1))) tNil)) (tCons (tCB (rStrX) (tCons (tOp (rIx K) (tVar 0) (tC (.int 2))) tNil)) (tCons (tOp (rIx K) (tVar 0) (tC (.int 3))) (tCons (tOp (rIx K) (tVar 0) (tC (.int 4))) tNil)))))) (tLc (iAny K (tOp (rIx K) (tVar 0) (tC (.int 5)))) (gName 1) tYes (tCall sp_l_value_text [] C8.E0 (tCons (tVar 1) tNil)) [1])) tNil))) tNext)
    (tSeq (tIfS (tTest (tOp (rEqX K) (tOp (rIx K) (tVar 0) (tC (.int 0))) (tC (.str "entries")))) (tRet (tBM K "str" (rJoin K) (tC (.str " ")) (tCons (tOp (rPlus K) (tLst (tCons (tC (.str "entries")) tNil)) (tCB (rListOf K) (tCons (tOp (rIx K) (tVar 0) (tC (.int 1))) tNil))) tNil))) tNext)
    (tRet (tOp (rPlus K) (tOp (rPlus K) (tOp (rIx K) (tVar 0) (tC (.int 0))) (tC (.str " "))) (tCB (rStrX) (tCons (tOp (rIx K) (tVar 0) (tC (.int 1))) tNil)))))))
theorem d_l_record_text (g : G K mg) {sp_l_value_text : Sp} (c_l_value_text : C8.Cal P w K mg base 1 "_law_value_text" sp_l_value_text []) {f : Addr} {cdv : Value} {A : Around} {outer : List Env} {s : Shared} {H : Hp} {E : XK} (hr : Room 1 (A.deeper (envOfC "_law_record_text" (defScope s_l_record_text) s.heap.objs.size f cdv))) :
    PSs (cxOf CX0 P w K mg base N_l_record_text "_law_record_text" (defScope s_l_record_text) f cdv A outer s H E).nox (defBody s_l_record_text) (t_l_record_text K sp_l_value_text) := by
  unfold t_l_record_text
  exact
    (pss_cons (ps_if (pt_cmpR (o_eq hr.units) (pe_ix ix_seq (pv 0) pe_int (fun _ _ => rfl)) pe_str (nomark _)) (pss_one (ps_ret (pe_opk o_plus (pek_op o_plus (pek_op o_plus pek_str (pe_ix ix_seq (pv 0) pe_int (fun _ _ => rfl))) pe_str) (CwR.pet_replT (CwR.PET.of (pe_ix ix_seq (pv 0) pe_int (fun _ _ => rfl))))))) pss_nil)
    (pss_cons (ps_if (pt_cmpR (o_eq hr.units) (pe_ix ix_seq (pv 0) pe_int (fun _ _ => rfl)) pe_str (nomark _)) (pss_one (ps_ret (pe_bm PySem.F.plainAttrs_str PySem.F.slot_str_join PySem.F.type_str_join m_join pe_str (pa_cons (pe_op o_plus (pe_lst (pa_cons pe_str (pa_cons (pe_callTy c_str (by rfl) g.b_str (by decide +kernel) (pa_cons (pe_ix ix_seq (pv 0) pe_int (fun _ _ => rfl)) pa_nil)) (pa_cons (pe_callTy c_str (by rfl) g.b_str (by decide +kernel) (pa_cons (pe_ix ix_seq (pv 0) pe_int (fun _ _ => rfl)) pa_nil)) (pa_cons (pe_ix ix_seq (pv 0) pe_int (fun _ _ => rfl)) (pa_cons (pe_ix ix_seq (pv 0) pe_int (fun _ _ => rfl)) pa_nil)))))) (pe_lc (own := [("_law_value", 1)]) (tt := tYes) rfl sc_l_record_text.nd (pi_any (pe_ix ix_seq (pv 0) pe_int (fun _ _ => rfl))) (blkOk_by (N := N_l_record_text) (sc := defScope s_l_record_text) (by decide +kernel)) (fun _ _ _ _ _ => (pg_name (i := 1) sc_l_record_text.nd rfl (by first | exact Or.inl rfl | exact Or.inr rfl))) (fun _ _ _ _ _ => pts_nil) (fun _ _ _ _ _ => (C8.pe_c c_l_value_text hr (by decide) rfl (pa_cons (pv 1) pa_nil))))) pa_nil)))) pss_nil)
    (pss_cons (ps_if (pt_cmpR (o_eq hr.units) (pe_ix ix_seq (pv 0) pe_int (fun _ _ => rfl)) pe_str (nomark _)) (pss_one (ps_ret (pe_bm PySem.F.plainAttrs_str PySem.F.slot_str_join PySem.F.type_str_join m_join pe_str (pa_cons (pe_op o_plus (pe_lst (pa_cons pe_str pa_nil)) (pe_callTy c_list (by rfl) g.b_list (by decide +kernel) (pa_cons (pe_ix ix_seq (pv 0) pe_int (fun _ _ => rfl)) pa_nil))) pa_nil)))) pss_nil)
    (pss_one (ps_ret (pe_op o_plus (pe_op o_plus (pe_ix ix_seq (pv 0) pe_int (fun _ _ => rfl)) pe_str) (pe_callTy c_str (by rfl) g.b_str (by decide +kernel) (pa_cons (pe_ix ix_seq (pv 0) pe_int (fun _ _ => rfl)) pa_nil))))))))
theorem ok_l_record_text (g : G K mg) {sp_l_value_text : Sp} (c_l_value_text : C8.Cal P w K mg base 1 "_law_value_text" sp_l_value_text []) {sp : Sp} (F : ∃ fd, FunD K "_law_record_text" "_law_record_text" (defArgs s_l_record_text) (defBody s_l_record_text) (defScope s_l_record_text) [] [] (He.ga K "_law_record_text") fd) (m : mg "_law_record_text" = some (.ref (He.ga K "_law_record_text")))
    (hsp : ∀ vs H Q E, sp vs H Q E → vs.length = 1 ∧ t_l_record_text K sp_l_value_text { nx := fun _ H' => Q .non H', rt := Q } (start N_l_record_text vs) H) : C8.Cal P w K mg base 2 "_law_record_text" sp [] := by
  obtain ⟨fd, F⟩ := F
  exact ⟨_, fd, ["_law_record"], [], FunD.ok F sc_l_record_text (fun vs H Q E h => (hsp vs H Q E h).1) (fun cdv A outer s H vs Q E hr h => ⟨_, PSs.nox (d_l_record_text g c_l_value_text hr), (hsp vs H Q E h).2⟩), m, F.kp, (F.bindsN fun _ _ _ _ _ _ us hl => match us, hl with | [_], _ => rfl), .nil⟩
abbrev N_l_pieces : List Str := ["_law_number", "_law_text", "_law_blocks", "_law_many", "_law_k", "_law_part", "_law_block", "_law_sign"]
theorem sc_l_pieces : FnScope N_l_pieces ["_law_number", "_law_text"] (defScope s_l_pieces) := ⟨rfl, rfl, rfl, by decide +kernel, rfl, by decide +kernel, by decide +kernel⟩
def t_l_pieces (K : PySem.W.Frag) : TS :=
    (tSeq (tAsg (tLst tNil) (gName 2))
    (tSeq (tAsg (tOp rFdiv (tOp (rPlus K) (tCB (rLenX K) (tCons (tVar 1) tNil)) (tC (.int 23))) (tC (.int 24))) (gName 3))
    (tSeq (tFor (iRng1 (tCons (tVar 3) tNil)) (gName 4) (tSeq (tAsg (tSl (rSlX K) (tVar 1) (tPart (tOp rTimes (tC (.int 24)) (tVar 4))) (tPart (tOp (rPlus K) (tOp rTimes (tC (.int 24)) (tVar 4)) (tC (.int 24))))) (gName 5))
    (tSeq (tAsg (tLst (tCons (tC (.int 83)) (tCons (tVar 4) (tCons (tVar 3) (tCons (tOp rFdiv (tVar 0) (tC (.int 256))) (tCons (tOp rMod (tCB (rIntY) (tCons (tVar 0) tNil)) (tC (.int 256))) (tCons (tCB (rLenX K) (tCons (tVar 5) tNil)) tNil))))))) (gName 6))
    (tSeq (tFor (iAny K (tVar 5)) (gName 7) (tDrop (tBM K "list" rAppend (tVar 6) (tCons (tCB (rOrd) (tCons (tVar 7) tNil)) tNil))))
    (tDrop (tBM K "list" rAppend (tVar 2) (tCons (tOp (rPlus K) (tOp (rPlus K) (tVar 6) (tOp rTimes (tLst (tCons (tC (.int 0)) tNil)) (tOp rMinus (tC (.int 31)) (tCB (rLenX K) (tCons (tVar 6) tNil))))) (tLst (tCons (tC (.int 83)) tNil))) tNil)))))))
    (tRet (tVar 2)))))
theorem d_l_pieces (g : G K mg) {f : Addr} {cdv : Value} {A : Around} {outer : List Env} {s : Shared} {H : Hp} {E : XK} (hr : Room 0 (A.deeper (envOfC "_law_pieces" (defScope s_l_pieces) s.heap.objs.size f cdv))) :
    PSs (cxOf CX0 P w K mg base N_l_pieces "_law_pieces" (defScope s_l_pieces) f cdv A outer s H E).nox (defBody s_l_pieces) (t_l_pieces K) := by
  unfold t_l_pieces
  exact
    (pss_cons (ps_set (i := 2) sc_l_pieces.nd rfl (by first | exact Or.inl rfl | exact Or.inr rfl) (pe_lst pa_nil))
    (pss_cons (ps_set (i := 3) sc_l_pieces.nd rfl (by first | exact Or.inl rfl | exact Or.inr rfl) (pe_op o_fdiv (pe_op o_plus (pe_callB c_len (by rfl) g.b_len (by decide +kernel) (pa_cons (pv 1) pa_nil)) pe_int) pe_int))
    (pss_cons (ps_for PassesOwn.never rfl (pi_range1 rfl g.b_range (pa_cons (pv 3) pa_nil)) (pg_name (i := 4) sc_l_pieces.nd rfl (by first | exact Or.inl rfl | exact Or.inr rfl)) (pss_cons (ps_set (i := 5) sc_l_pieces.nd rfl (by first | exact Or.inl rfl | exact Or.inr rfl) (pe_slice sl_any (pv 1) (po_some (pe_op o_times pe_int (pv 4))) (po_some (pe_op o_plus (pe_op o_times pe_int (pv 4)) pe_int))))
    (pss_cons (ps_set (i := 6) sc_l_pieces.nd rfl (by first | exact Or.inl rfl | exact Or.inr rfl) (pe_lst (pa_cons pe_int (pa_cons (pv 4) (pa_cons (pv 3) (pa_cons (pe_op o_fdiv (pv 0) pe_int) (pa_cons (pe_op o_mod (pe_callTy c_int2 (by rfl) g.b_int (by decide +kernel) (pa_cons (pv 0) pa_nil)) pe_int) (pa_cons (pe_callB c_len (by rfl) g.b_len (by decide +kernel) (pa_cons (pv 5) pa_nil)) pa_nil))))))))
    (pss_cons (ps_for PassesOwn.never rfl (pi_any (pv 5)) (pg_name (i := 7) sc_l_pieces.nd rfl (by first | exact Or.inl rfl | exact Or.inr rfl)) (pss_one (ps_expr (pe_bm PySem.F.plainAttrs_list PySem.F.slot_list_append PySem.F.type_list_append mt_append (pv 6) (pa_cons (pe_callB c_ord (by rfl) g.b_ord (by decide +kernel) (pa_cons (pv 7) pa_nil)) pa_nil)))))
    (pss_one (ps_expr (pe_bm PySem.F.plainAttrs_list PySem.F.slot_list_append PySem.F.type_list_append mt_append (pv 2) (pa_cons (pe_op o_plus (pe_op o_plus (pv 6) (pe_op o_times (pe_lst (pa_cons pe_int pa_nil)) (pe_op o_minus pe_int (pe_callB c_len (by rfl) g.b_len (by decide +kernel) (pa_cons (pv 6) pa_nil))))) (pe_lst (pa_cons pe_int pa_nil))) pa_nil))))))))
    (pss_one (ps_ret (pv 2))))))
theorem ok_l_pieces (g : G K mg) {sp : Sp} (F : ∃ fd, FunD K "_law_pieces" "_law_pieces" (defArgs s_l_pieces) (defBody s_l_pieces) (defScope s_l_pieces) [] [] (He.ga K "_law_pieces") fd) (m : mg "_law_pieces" = some (.ref (He.ga K "_law_pieces")))
    (hsp : ∀ vs H Q E, sp vs H Q E → vs.length = 2 ∧ t_l_pieces K { nx := fun _ H' => Q .non H', rt := Q } (start N_l_pieces vs) H) : C8.Cal P w K mg base 1 "_law_pieces" sp [] := by
  obtain ⟨fd, F⟩ := F
  exact ⟨_, fd, ["_law_number", "_law_text"], [], FunD.ok F sc_l_pieces (fun vs H Q E h => (hsp vs H Q E h).1) (fun cdv A outer s H vs Q E hr h => ⟨_, PSs.nox (d_l_pieces g hr), (hsp vs H Q E h).2⟩), m, F.kp, (F.bindsN fun _ _ _ _ _ _ us hl => match us, hl with | [_, _], _ => rfl), .nil⟩
abbrev N_l_used_blocks : List Str := ["_law_records", "_law_record"]
theorem sc_l_used_blocks : FnScope N_l_used_blocks ["_law_records"] (defScope s_l_used_blocks) := ⟨rfl, rfl, rfl, by decide +kernel, rfl, by decide +kernel, by decide +kernel⟩
def t_l_used_blocks (K : PySem.W.Frag) (sp_l_pieces : Sp) (sp_l_record_text : Sp) : TS :=
    (tRet (tCB (rSum K) (tCons (tLc (iAny K (tVar 0)) (gName 1) tYes (tCB (rLenX K) (tCons (tCall sp_l_pieces [] C8.E0 (tCons (tC (.int 0)) (tCons (tCall sp_l_record_text [] C8.E0 (tCons (tVar 1) tNil)) tNil))) tNil)) [1]) tNil)))
theorem d_l_used_blocks (g : G K mg) {sp_l_pieces : Sp} (c_l_pieces : C8.Cal P w K mg base 1 "_law_pieces" sp_l_pieces []) {sp_l_record_text : Sp} (c_l_record_text : C8.Cal P w K mg base 2 "_law_record_text" sp_l_record_text []) {f : Addr} {cdv : Value} {A : Around} {outer : List Env} {s : Shared} {H : Hp} {E : XK} (hr : Room 2 (A.deeper (envOfC "_law_used_blocks" (defScope s_l_used_blocks) s.heap.objs.size f cdv))) :
    PSs (cxOf CX0 P w K mg base N_l_used_blocks "_law_used_blocks" (defScope s_l_used_blocks) f cdv A outer s H E).nox (defBody s_l_used_blocks) (t_l_used_blocks K sp_l_pieces sp_l_record_text) := by
  unfold t_l_used_blocks
  exact
    (pss_one (ps_ret (pe_callB (cr_sum rfl) (by rfl) g.b_sum (by decide +kernel) (pa_cons (pe_lc (own := [("_law_record", 1)]) (tt := tYes) rfl sc_l_used_blocks.nd (pi_any (pv 0)) (blkOk_by (N := N_l_used_blocks) (sc := defScope s_l_used_blocks) (by decide +kernel)) (fun _ _ _ _ _ => (pg_name (i := 1) sc_l_used_blocks.nd rfl (by first | exact Or.inl rfl | exact Or.inr rfl))) (fun _ _ _ _ _ => pts_nil) (fun _ _ _ _ _ => (pe_callB c_len (by rfl) g.b_len (by decide +kernel) (pa_cons (C8.pe_c c_l_pieces hr (by decide) rfl (pa_cons pe_int (pa_cons (C8.pe_c c_l_record_text hr (by decide) rfl (pa_cons (pv 1) pa_nil)) pa_nil))) pa_nil)))) pa_nil))))
theorem ok_l_used_blocks (g : G K mg) {sp_l_pieces : Sp} (c_l_pieces : C8.Cal P w K mg base 1 "_law_pieces" sp_l_pieces []) {sp_l_record_text : Sp} (c_l_record_text : C8.Cal P w K mg base 2 "_law_record_text" sp_l_record_text []) {sp : Sp} (F : ∃ fd, FunD K "_law_used_blocks" "_law_used_blocks" (defArgs s_l_used_blocks) (defBody s_l_used_blocks) (defScope s_l_used_blocks) [] [] (He.ga K "_law_used_blocks") fd) (m : mg "_law_used_blocks" = some (.ref (He.ga K "_law_used_blocks")))
    (hsp : ∀ vs H Q E, sp vs H Q E → vs.length = 1 ∧ t_l_used_blocks K sp_l_pieces sp_l_record_text { nx := fun _ H' => Q .non H', rt := Q } (start N_l_used_blocks vs) H) : C8.Cal P w K mg base 3 "_law_used_blocks" sp [] := by
  obtain ⟨fd, F⟩ := F
  exact ⟨_, fd, ["_law_records"], [], FunD.ok F sc_l_used_blocks (fun vs H Q E h => (hsp vs H Q E h).1) (fun cdv A outer s H vs Q E hr h => ⟨_, PSs.nox (d_l_used_blocks g c_l_pieces c_l_record_text hr), (hsp vs H Q E h).2⟩), m, F.kp, (F.bindsN fun _ _ _ _ _ _ us hl => match us, hl with | [_], _ => rfl), .nil⟩
abbrev N_l_some_value : List Str := ["_law_box"]
theorem sc_l_some_value : FnScope N_l_some_value ["_law_box"] (defScope s_l_some_value) := ⟨rfl, rfl, rfl, by decide +kernel, rfl, by decide +kernel, by decide +kernel⟩
def t_l_some_value (K : PySem.W.Frag) (sp_l_draw : Sp) : TS :=
    (tRet (tOp (rIx K) (tLst (tCons (tC (.int 0)) (tCons (tUn (rU fun i => .int (-i)) (tC (.int 5))) (tCons (tC (.int 99999)) (tCons (tUn (rU fun i => .int (-i)) (tC (.int 99999))) (tCons (tC (.str "")) (tCons (tC (.str "s")) (tCons (tC (.str "x y")) (tCons (tOp rTimes (tC (.str "x")) (tC (.int 20))) (tCons (tCall sp_l_draw [] C8.E0 (tCons (tVar 0) (tCons (tC (.int 999)) tNil))) tNil)))))))))) (tCall sp_l_draw [] C8.E0 (tCons (tVar 0) (tCons (tC (.int 9)) tNil)))))
theorem d_l_some_value (g : G K mg) {sp_l_draw : Sp} (c_l_draw : C8.Cal P w K mg base 1 "_law_draw" sp_l_draw []) {f : Addr} {cdv : Value} {A : Around} {outer : List Env} {s : Shared} {H : Hp} {E : XK} (hr : Room 1 (A.deeper (envOfC "_law_some_value" (defScope s_l_some_value) s.heap.objs.size f cdv))) :
    PSs (cxOf CX0 P w K mg base N_l_some_value "_law_some_value" (defScope s_l_some_value) f cdv A outer s H E).nox (defBody s_l_some_value) (t_l_some_value K sp_l_draw) := by
  unfold t_l_some_value
  exact
    (pss_one (ps_ret (pe_ix ix_seq (pe_lst (pa_cons pe_int (pa_cons (pe_un un_neg pe_int) (pa_cons pe_int (pa_cons (pe_un un_neg pe_int) (pa_cons pe_str (pa_cons pe_str (pa_cons pe_str (pa_cons (pe_op o_times pe_str pe_int) (pa_cons (C8.pe_c c_l_draw hr (by decide) rfl (pa_cons (pv 0) (pa_cons pe_int pa_nil))) pa_nil)))))))))) (C8.pe_c c_l_draw hr (by decide) rfl (pa_cons (pv 0) (pa_cons pe_int pa_nil))) (fun _ _ => rfl))))
theorem ok_l_some_value (g : G K mg) {sp_l_draw : Sp} (c_l_draw : C8.Cal P w K mg base 1 "_law_draw" sp_l_draw []) {sp : Sp} (F : ∃ fd, FunD K "_law_some_value" "_law_some_value" (defArgs s_l_some_value) (defBody s_l_some_value) (defScope s_l_some_value) [] [] (He.ga K "_law_some_value") fd) (m : mg "_law_some_value" = some (.ref (He.ga K "_law_some_value")))
    (hsp : ∀ vs H Q E, sp vs H Q E → vs.length = 1 ∧ t_l_some_value K sp_l_draw { nx := fun _ H' => Q .non H', rt := Q } (start N_l_some_value vs) H) : C8.Cal P w K mg base 2 "_law_some_value" sp [] := by
  obtain ⟨fd, F⟩ := F
  exact ⟨_, fd, ["_law_box"], [], FunD.ok F sc_l_some_value (fun vs H Q E h => (hsp vs H Q E h).1) (fun cdv A outer s H vs Q E hr h => ⟨_, PSs.nox (d_l_some_value g c_l_draw hr), (hsp vs H Q E h).2⟩), m, F.kp, (F.bindsN fun _ _ _ _ _ _ us hl => match us, hl with | [_], _ => rfl), .nil⟩
abbrev N_l_small_text : List Str := ["_law_box"]
theorem sc_l_small_text : FnScope N_l_small_text ["_law_box"] (defScope s_l_small_text) := ⟨rfl, rfl, rfl, by decide +kernel, rfl, by decide +kernel, by decide +kernel⟩
def t_l_small_text (K : PySem.W.Frag) (sp_l_draw : Sp) : TS :=
    (tRet (CwR.tReplC (tOp (rIx K) (tLst (tCons (tC (.str "")) (tCons (tC (.str "do 1")) (tCons (tC (.str "let x = 1")) (tCons (tC (.str "keep k = 2|fn f(p) = set k = p")) (tCons (tC (.str "hold \"s\"")) (tCons (tC (.str " ")) (tCons (tC (.str "nothing of a line")) (tCons (tOp rTimes (tC (.str "x")) (tC (.int 40))) (tCons (tC (.str "import x from b")) tNil)))))))))) (tCall sp_l_draw [] C8.E0 (tCons (tVar 0) (tCons (tC (.int 9)) tNil)))) "|" "\n"))
theorem d_l_small_text (g : G K mg) {sp_l_draw : Sp} (c_l_draw : C8.Cal P w K mg base 1 "_law_draw" sp_l_draw []) {f : Addr} {cdv : Value} {A : Around} {outer : List Env} {s : Shared} {H : Hp} {E : XK} (hr : Room 1 (A.deeper (envOfC "_law_small_text" (defScope s_l_small_text) s.heap.objs.size f cdv))) :
    PSs (cxOf CX0 P w K mg base N_l_small_text "_law_small_text" (defScope s_l_small_text) f cdv A outer s H E).nox (defBody s_l_small_text) (t_l_small_text K sp_l_draw) := by
  unfold t_l_small_text
  exact
    (pss_one (ps_ret (pe_replS (pek_ixs (pek_lst (pak_str (pa_cons pe_str (pa_cons pe_str (pa_cons pe_str (pa_cons pe_str (pa_cons pe_str (pa_cons pe_str (pa_cons (pe_op o_times pe_str pe_int) (pa_cons pe_str pa_nil)))))))))) (C8.pe_c c_l_draw hr (by decide) rfl (pa_cons (pv 0) (pa_cons pe_int pa_nil))) (fun _ _ => rfl)))))
theorem ok_l_small_text (g : G K mg) {sp_l_draw : Sp} (c_l_draw : C8.Cal P w K mg base 1 "_law_draw" sp_l_draw []) {sp : Sp} (F : ∃ fd, FunD K "_law_small_text" "_law_small_text" (defArgs s_l_small_text) (defBody s_l_small_text) (defScope s_l_small_text) [] [] (He.ga K "_law_small_text") fd) (m : mg "_law_small_text" = some (.ref (He.ga K "_law_small_text")))
    (hsp : ∀ vs H Q E, sp vs H Q E → vs.length = 1 ∧ t_l_small_text K sp_l_draw { nx := fun _ H' => Q .non H', rt := Q } (start N_l_small_text vs) H) : C8.Cal P w K mg base 2 "_law_small_text" sp [] := by
  obtain ⟨fd, F⟩ := F
  exact ⟨_, fd, ["_law_box"], [], FunD.ok F sc_l_small_text (fun vs H Q E h => (hsp vs H Q E h).1) (fun cdv A outer s H vs Q E hr h => ⟨_, PSs.nox (d_l_small_text g c_l_draw hr), (hsp vs H Q E h).2⟩), m, F.kp, (F.bindsN fun _ _ _ _ _ _ us hl => match us, hl with | [_], _ => rfl), .nil⟩
abbrev N_l_some_rows : List Str := ["_law_box", "_law_records", "_law_kind", "_law_holder", "_law_count", "_law_arguments", "_law_rows", "_law_name", "_law_part", "_law_record", "_law_k"]
theorem sc_l_some_rows : FnScope N_l_some_rows ["_law_box", "_law_records"] (defScope s_l_some_rows) := ⟨rfl, rfl, rfl, by decide +kernel, rfl, by decide +kernel, by decide +kernel⟩
def t_l_some_rows (K : PySem.W.Frag) (sp_l_small_text : Sp) (sp_l_draw : Sp) (sp_l_some_value : Sp) : TS :=
    (tSeq (tAsg (tCall sp_l_draw [] C8.E0 (tCons (tVar 0) (tCons (tC (.int 3)) tNil))) (gName 2))
    (tSeq (tIfS (tTest (tOp (rEqX K) (tVar 2) (tC (.int 0)))) (tSeq (tAsg (tCall sp_l_draw [] C8.E0 (tCons (tVar 0) (tCons (tC (.int 3)) tNil))) (gName 3))
    (tSeq (tAsg (tCB (rLenX K) (tCons (tLc (iAny K (tVar 1)) (gName 9) (tAnd (tTest (tOp (rEqX K) (tOp (rIx K) (tVar 9) (tC (.int 0))) (tC (.str "call")))) (tTest (tOp (rEqX K) (tOp (rIx K) (tVar 9) (tC (.int 1))) (tVar 3)))) (tVar 9) [9]) tNil)) (gName 4))
    (tSeq (tAsg (tCB (rTupOf K) (tCons (tLc (iRng1 (tCons (tCall sp_l_draw [] C8.E0 (tCons (tVar 0) (tCons (tC (.int 4)) tNil))) tNil)) (gName 10) tYes (tCall sp_l_some_value [] C8.E0 (tCons (tVar 0) tNil)) [10]) tNil)) (gName 5))
    (tRet (tLst (tCons (tTup (tCons (tC (.str "call")) (tCons (tVar 3) (tCons (tVar 4) (tCons (tOp (rIx K) (tLst (tCons (tC (.str "a")) (tCons (tC (.str "b")) (tCons (tC (.str "zz")) tNil)))) (tCall sp_l_draw [] C8.E0 (tCons (tVar 0) (tCons (tC (.int 3)) tNil)))) (tCons (tOp (rIx K) (tLst (tCons (tC (.str "f")) (tCons (tC (.str "g")) (tCons (tC (.str "x")) (tCons (tC (.str "k")) tNil))))) (tCall sp_l_draw [] C8.E0 (tCons (tVar 0) (tCons (tC (.int 4)) tNil)))) (tCons (tVar 5) tNil))))))) tNil)))))) tNext)
    (tSeq (tAsg (tLst tNil) (gName 6))
    (tSeq (tFor (iAny K (tLst (tCons (tC (.str "a")) (tCons (tC (.str "b")) (tCons (tC (.str "c")) (tCons (tC (.str "d")) tNil)))))) (gName 7) (tSeq (tAsg (tCall sp_l_draw [] C8.E0 (tCons (tVar 0) (tCons (tC (.int 6)) tNil))) (gName 8))
    (tIfS (tTest (tOp (rEqX K) (tVar 8) (tC (.int 0)))) (tDrop (tBM K "list" rAppend (tVar 6) (tCons (tTup (tCons (tC (.str "remove")) (tCons (tVar 7) tNil))) tNil))) (tIfS (tTest (tOp rLe (tVar 8) (tC (.int 2)))) (tDrop (tBM K "list" rAppend (tVar 6) (tCons (tTup (tCons (tC (.str "text")) (tCons (tVar 7) (tCons (tCall sp_l_small_text [] C8.E0 (tCons (tVar 0) tNil)) tNil)))) tNil))) tNext))))
    (tRet (tOp (rPlus K) (tVar 6) (tLst (tCons (tTup (tCons (tC (.str "update")) (tCons (tCB (rLenX K) (tCons (tVar 6) tNil)) tNil))) tNil))))))))
theorem d_l_some_rows (g : G K mg) {sp_l_small_text : Sp} (c_l_small_text : C8.Cal P w K mg base 2 "_law_small_text" sp_l_small_text []) {sp_l_draw : Sp} (c_l_draw : C8.Cal P w K mg base 1 "_law_draw" sp_l_draw []) {sp_l_some_value : Sp} (c_l_some_value : C8.Cal P w K mg base 2 "_law_some_value" sp_l_some_value []) {f : Addr} {cdv : Value} {A : Around} {outer : List Env} {s : Shared} {H : Hp} {E : XK} (hr : Room 2 (A.deeper (envOfC "_law_some_rows" (defScope s_l_some_rows) s.heap.objs.size f cdv))) :
    PSs (cxOf CX0 P w K mg base N_l_some_rows "_law_some_rows" (defScope s_l_some_rows) f cdv A outer s H E).nox (defBody s_l_some_rows) (t_l_some_rows K sp_l_small_text sp_l_draw sp_l_some_value) := by
  unfold t_l_some_rows
  exact
    (pss_cons (ps_set (i := 2) sc_l_some_rows.nd rfl (by first | exact Or.inl rfl | exact Or.inr rfl) (C8.pe_c c_l_draw hr (by decide) rfl (pa_cons (pv 0) (pa_cons pe_int pa_nil))))
    (pss_cons (ps_if (pt_cmpR (o_eq hr.units) (pv 2) pe_int (nomark _)) (pss_cons (ps_set (i := 3) sc_l_some_rows.nd rfl (by first | exact Or.inl rfl | exact Or.inr rfl) (C8.pe_c c_l_draw hr (by decide) rfl (pa_cons (pv 0) (pa_cons pe_int pa_nil))))
    (pss_cons (ps_set (i := 4) sc_l_some_rows.nd rfl (by first | exact Or.inl rfl | exact Or.inr rfl) (pe_callB c_len (by rfl) g.b_len (by decide +kernel) (pa_cons (pe_lc (own := [("_law_record", 9)]) (tt := (tAnd (tTest (tOp (rEqX K) (tOp (rIx K) (tVar 9) (tC (.int 0))) (tC (.str "call")))) (tTest (tOp (rEqX K) (tOp (rIx K) (tVar 9) (tC (.int 1))) (tVar 3))))) rfl sc_l_some_rows.nd (pi_any (pv 1)) (blkOk_by (N := N_l_some_rows) (sc := defScope s_l_some_rows) (by decide +kernel)) (fun _ _ _ _ _ => (pg_name (i := 9) sc_l_some_rows.nd rfl (by first | exact Or.inl rfl | exact Or.inr rfl))) (fun _ _ _ _ _ => (pts_one (PW.pt (pw_and (pt_cmpR (o_eq hr.units) (pe_ix ix_seq (pv 9) pe_int (fun _ _ => rfl)) pe_str (nomark _)) (pw_and1 (pt_cmpR (o_eq hr.units) (pe_ix ix_seq (pv 9) pe_int (fun _ _ => rfl)) (pv 3) (nomark _))))))) (fun _ _ _ _ _ => (pv 9))) pa_nil)))
    (pss_cons (ps_set (i := 5) sc_l_some_rows.nd rfl (by first | exact Or.inl rfl | exact Or.inr rfl) (pe_callTy c_tuple (by rfl) g.b_tuple (by decide +kernel) (pa_cons (pe_lc (own := [("_law_k", 10)]) (tt := tYes) rfl sc_l_some_rows.nd (pi_range1 rfl g.b_range (pa_cons (C8.pe_c c_l_draw hr (by decide) rfl (pa_cons (pv 0) (pa_cons pe_int pa_nil))) pa_nil)) (blkOk_by (N := N_l_some_rows) (sc := defScope s_l_some_rows) (by decide +kernel)) (fun _ _ _ _ _ => (pg_name (i := 10) sc_l_some_rows.nd rfl (by first | exact Or.inl rfl | exact Or.inr rfl))) (fun _ _ _ _ _ => pts_nil) (fun _ _ _ _ _ => (C8.pe_c c_l_some_value hr (by decide) rfl (pa_cons (pv 0) pa_nil)))) pa_nil)))
    (pss_one (ps_ret (pe_lst (pa_cons (pe_tup (pa_cons pe_str (pa_cons (pv 3) (pa_cons (pv 4) (pa_cons (pe_ix ix_seq (pe_lst (pa_cons pe_str (pa_cons pe_str (pa_cons pe_str pa_nil)))) (C8.pe_c c_l_draw hr (by decide) rfl (pa_cons (pv 0) (pa_cons pe_int pa_nil))) (fun _ _ => rfl)) (pa_cons (pe_ix ix_seq (pe_lst (pa_cons pe_str (pa_cons pe_str (pa_cons pe_str (pa_cons pe_str pa_nil))))) (C8.pe_c c_l_draw hr (by decide) rfl (pa_cons (pv 0) (pa_cons pe_int pa_nil))) (fun _ _ => rfl)) (pa_cons (pv 5) pa_nil))))))) pa_nil))))))) pss_nil)
    (pss_cons (ps_set (i := 6) sc_l_some_rows.nd rfl (by first | exact Or.inl rfl | exact Or.inr rfl) (pe_lst pa_nil))
    (pss_cons (ps_for PassesOwn.never rfl (pi_any (pe_lst (pa_cons pe_str (pa_cons pe_str (pa_cons pe_str (pa_cons pe_str pa_nil)))))) (pg_name (i := 7) sc_l_some_rows.nd rfl (by first | exact Or.inl rfl | exact Or.inr rfl)) (pss_cons (ps_set (i := 8) sc_l_some_rows.nd rfl (by first | exact Or.inl rfl | exact Or.inr rfl) (C8.pe_c c_l_draw hr (by decide) rfl (pa_cons (pv 0) (pa_cons pe_int pa_nil))))
    (pss_one (ps_if (pt_cmpR (o_eq hr.units) (pv 8) pe_int (nomark _)) (pss_one (ps_expr (pe_bm PySem.F.plainAttrs_list PySem.F.slot_list_append PySem.F.type_list_append mt_append (pv 6) (pa_cons (pe_tup (pa_cons pe_str (pa_cons (pv 7) pa_nil))) pa_nil)))) (pss_one (ps_if (pt_cmpR o_le (pv 8) pe_int (nomark _)) (pss_one (ps_expr (pe_bm PySem.F.plainAttrs_list PySem.F.slot_list_append PySem.F.type_list_append mt_append (pv 6) (pa_cons (pe_tup (pa_cons pe_str (pa_cons (pv 7) (pa_cons (C8.pe_c c_l_small_text hr (by decide) rfl (pa_cons (pv 0) pa_nil)) pa_nil)))) pa_nil)))) pss_nil))))))
    (pss_one (ps_ret (pe_op o_plus (pv 6) (pe_lst (pa_cons (pe_tup (pa_cons pe_str (pa_cons (pe_callB c_len (by rfl) g.b_len (by decide +kernel) (pa_cons (pv 6) pa_nil)) pa_nil))) pa_nil)))))))))
theorem ok_l_some_rows (g : G K mg) {sp_l_small_text : Sp} (c_l_small_text : C8.Cal P w K mg base 2 "_law_small_text" sp_l_small_text []) {sp_l_draw : Sp} (c_l_draw : C8.Cal P w K mg base 1 "_law_draw" sp_l_draw []) {sp_l_some_value : Sp} (c_l_some_value : C8.Cal P w K mg base 2 "_law_some_value" sp_l_some_value []) {sp : Sp} (F : ∃ fd, FunD K "_law_some_rows" "_law_some_rows" (defArgs s_l_some_rows) (defBody s_l_some_rows) (defScope s_l_some_rows) [] [] (He.ga K "_law_some_rows") fd) (m : mg "_law_some_rows" = some (.ref (He.ga K "_law_some_rows")))
    (hsp : ∀ vs H Q E, sp vs H Q E → vs.length = 2 ∧ t_l_some_rows K sp_l_small_text sp_l_draw sp_l_some_value { nx := fun _ H' => Q .non H', rt := Q } (start N_l_some_rows vs) H) : C8.Cal P w K mg base 3 "_law_some_rows" sp [] := by
  obtain ⟨fd, F⟩ := F
  exact ⟨_, fd, ["_law_box", "_law_records"], [], FunD.ok F sc_l_some_rows (fun vs H Q E h => (hsp vs H Q E h).1) (fun cdv A outer s H vs Q E hr h => ⟨_, PSs.nox (d_l_some_rows g c_l_small_text c_l_draw c_l_some_value hr), (hsp vs H Q E h).2⟩), m, F.kp, (F.bindsN fun _ _ _ _ _ _ us hl => match us, hl with | [_, _], _ => rfl), .nil⟩
abbrev N_l_entries : List Str := ["_law_box"]
theorem sc_l_entries : FnScope N_l_entries ["_law_box"] (defScope s_l_entries) := ⟨rfl, rfl, rfl, by decide +kernel, rfl, by decide +kernel, by decide +kernel⟩
def t_l_entries (K : PySem.W.Frag) (sp_l_draw : Sp) : TS :=
    (tRet (tOp (rIx K) (tLst (tCons (tTup (tCons (tC (.str "a")) tNil)) (tCons (tTup (tCons (tC (.str "a")) (tCons (tC (.str "b")) tNil))) (tCons (tTup (tCons (tC (.str "b")) (tCons (tC (.str "a")) (tCons (tC (.str "c")) tNil)))) tNil)))) (tCall sp_l_draw [] C8.E0 (tCons (tVar 0) (tCons (tC (.int 3)) tNil)))))
theorem d_l_entries (g : G K mg) {sp_l_draw : Sp} (c_l_draw : C8.Cal P w K mg base 1 "_law_draw" sp_l_draw []) {f : Addr} {cdv : Value} {A : Around} {outer : List Env} {s : Shared} {H : Hp} {E : XK} (hr : Room 1 (A.deeper (envOfC "_law_entries" (defScope s_l_entries) s.heap.objs.size f cdv))) :
    PSs (cxOf CX0 P w K mg base N_l_entries "_law_entries" (defScope s_l_entries) f cdv A outer s H E).nox (defBody s_l_entries) (t_l_entries K sp_l_draw) := by
  unfold t_l_entries
  exact
    (pss_one (ps_ret (pe_ix ix_seq (pe_lst (pa_cons (pe_tup (pa_cons pe_str pa_nil)) (pa_cons (pe_tup (pa_cons pe_str (pa_cons pe_str pa_nil))) (pa_cons (pe_tup (pa_cons pe_str (pa_cons pe_str (pa_cons pe_str pa_nil)))) pa_nil)))) (C8.pe_c c_l_draw hr (by decide) rfl (pa_cons (pv 0) (pa_cons pe_int pa_nil))) (fun _ _ => rfl))))
theorem ok_l_entries (g : G K mg) {sp_l_draw : Sp} (c_l_draw : C8.Cal P w K mg base 1 "_law_draw" sp_l_draw []) {sp : Sp} (F : ∃ fd, FunD K "_law_entries" "_law_entries" (defArgs s_l_entries) (defBody s_l_entries) (defScope s_l_entries) [] [] (He.ga K "_law_entries") fd) (m : mg "_law_entries" = some (.ref (He.ga K "_law_entries")))
    (hsp : ∀ vs H Q E, sp vs H Q E → vs.length = 1 ∧ t_l_entries K sp_l_draw { nx := fun _ H' => Q .non H', rt := Q } (start N_l_entries vs) H) : C8.Cal P w K mg base 2 "_law_entries" sp [] := by
  obtain ⟨fd, F⟩ := F
  exact ⟨_, fd, ["_law_box"], [], FunD.ok F sc_l_entries (fun vs H Q E h => (hsp vs H Q E h).1) (fun cdv A outer s H vs Q E hr h => ⟨_, PSs.nox (d_l_entries g c_l_draw hr), (hsp vs H Q E h).2⟩), m, F.kp, (F.bindsN fun _ _ _ _ _ _ us hl => match us, hl with | [_], _ => rfl), .nil⟩
abbrev N_l_append : List Str := ["_law_log", "_law_rows"]
theorem sc_l_append : FnScope N_l_append ["_law_log", "_law_rows"] (defScope s_l_append) := ⟨rfl, rfl, rfl, by decide +kernel, rfl, by decide +kernel, by decide +kernel⟩
def t_l_append (K : PySem.W.Frag) (sp_Log_append : Sp) : TS :=
    (tTry (fun W => (tRet (tMethS (He.ga K "Log") "append" sp_Log_append (WE W) (tVar 0) (tCons (tVar 1) tNil)))) K (fun _ _ _ _ => False) [⟨.ref (He.ga K "LogFull"), none, fun a cls d => (tRet (tTup (tCons (tC (.str "refused")) (tCons (tC (.str "full")) tNil))))⟩])
theorem d_l_append (g : G K mg) {sp_Log_append : Sp} (c_Log_append : MetX P w K mg base 6 (He.ga K "Log") "append" sp_Log_append) {f : Addr} {cdv : Value} {A : Around} {outer : List Env} {s : Shared} {H : Hp} {E : XK} (hr : Room 6 (A.deeper (envOfC "_law_append" (defScope s_l_append) s.heap.objs.size f cdv))) :
    PSs (cxOf CX0 P w K mg base N_l_append "_law_append" (defScope s_l_append) f cdv A outer s H E).nox (defBody s_l_append) (t_l_append K sp_Log_append) := by
  unfold t_l_append
  exact
    (pss_one (ps_try_mix (tb := fun W => (tRet (tMethS (He.ga K "Log") "append" sp_Log_append (WE W) (tVar 0) (tCons (tVar 1) tNil)))) rfl rfl sc_l_append.nd takesF (fun W pn xe tk po => (pss_one (ps_ret (pe_mX c_Log_append hr (by decide) tk (pv 0) (pa_cons (pv 1) pa_nil))))) (HdsM.bare (ts := fun a cls d => (tRet (tTup (tCons (tC (.str "refused")) (tCons (tC (.str "full")) tNil))))) ⟨rfl, by decide, Or.inl g.k_LogFull⟩ (fun a oe cls d pn hz hf => (pss_one (ps_ret (pe_tup (pa_cons pe_str (pa_cons pe_str pa_nil)))))) HdsM.nil)))
theorem ok_l_append (g : G K mg) {sp_Log_append : Sp} (c_Log_append : MetX P w K mg base 6 (He.ga K "Log") "append" sp_Log_append) {sp : Sp} (F : ∃ fd, FunD K "_law_append" "_law_append" (defArgs s_l_append) (defBody s_l_append) (defScope s_l_append) [] [] (He.ga K "_law_append") fd) (m : mg "_law_append" = some (.ref (He.ga K "_law_append")))
    (hsp : ∀ vs H Q E, sp vs H Q E → vs.length = 2 ∧ t_l_append K sp_Log_append { nx := fun _ H' => Q .non H', rt := Q } (start N_l_append vs) H) : C8.Cal P w K mg base 7 "_law_append" sp [] := by
  obtain ⟨fd, F⟩ := F
  exact ⟨_, fd, ["_law_log", "_law_rows"], [], FunD.ok F sc_l_append (fun vs H Q E h => (hsp vs H Q E h).1) (fun cdv A outer s H vs Q E hr h => ⟨_, PSs.nox (d_l_append g c_Log_append hr), (hsp vs H Q E h).2⟩), m, F.kp, (F.bindsN fun _ _ _ _ _ _ us hl => match us, hl with | [_, _], _ => rfl), .nil⟩
abbrev N_l_one : List Str := ["_law_log", "_law_records", "_law_rows", "_law_size", "_law_fits", "_law_many", "_law_told"]
theorem sc_l_one : FnScope N_l_one ["_law_log", "_law_records", "_law_rows", "_law_size"] (defScope s_l_one) := ⟨rfl, rfl, rfl, by decide +kernel, rfl, by decide +kernel, by decide +kernel⟩
def t_l_one (K : PySem.W.Frag) (sp_l_append : Sp) (sp_l_alike : Sp) (sp_Log_room : Sp) (sp_l_used_blocks : Sp) : TS :=
    (tSeq (tAsg (tOp rLe (tOp (rPlus K) (tCall sp_l_used_blocks [] C8.E0 (tCons (tVar 1) tNil)) (tCall sp_l_used_blocks [] C8.E0 (tCons (tVar 2) tNil))) (tVar 3)) (gName 4))
    (tSeq (tIfS (tNot (tTruX K (tCall sp_l_alike [] C8.E0 (tCons (tMeth (He.ga K "Log") "room" sp_Log_room [] C8.E0 (tVar 0) (tCons (tVar 2) tNil)) (tCons (tVar 4) tNil))))) (tRet (tC (.bl false))) tNext)
    (tSeq (tIfS (tNot (tTruX K (tVar 4))) (tRet (tOp (rEqX K) (tCall sp_l_append [] C8.E0 (tCons (tVar 0) (tCons (tVar 2) tNil))) (tTup (tCons (tC (.str "refused")) (tCons (tC (.str "full")) tNil))))) tNext)
    (tSeq (tAsg (tOp (rPlus K) (tCB (rLenX K) (tCons (tVar 1) tNil)) (tCB (rLenX K) (tCons (tVar 2) tNil))) (gName 5))
    (tSeq (tAsg (tCall sp_l_append [] C8.E0 (tCons (tVar 0) (tCons (tVar 2) tNil))) (gName 6))
    (tSeq (tDrop (tBM K "list" rExtend (tVar 1) (tCons (tVar 2) tNil)))
    (tRet (tOp (rEqX K) (tVar 6) (tVar 5)))))))))
theorem d_l_one (g : G K mg) {sp_l_append : Sp} (c_l_append : C8.Cal P w K mg base 7 "_law_append" sp_l_append []) {sp_l_alike : Sp} (c_l_alike : CalG P w K mg base 1 "_law_alike" sp_l_alike []) {sp_Log_room : Sp} (c_Log_room : C8.Met P w K mg base 4 (He.ga K "Log") "room" sp_Log_room []) {sp_l_used_blocks : Sp} (c_l_used_blocks : C8.Cal P w K mg base 3 "_law_used_blocks" sp_l_used_blocks []) {f : Addr} {cdv : Value} {A : Around} {outer : List Env} {s : Shared} {H : Hp} {E : XK} (hr : Room 7 (A.deeper (envOfC "_law_one" (defScope s_l_one) s.heap.objs.size f cdv))) (hgd : (A.deeper (envOfC "_law_one" (defScope s_l_one) s.heap.objs.size f cdv)).guards = some []) :
    PSs (cxOf CX0 P w K mg base N_l_one "_law_one" (defScope s_l_one) f cdv A outer s H E).nox (defBody s_l_one) (t_l_one K sp_l_append sp_l_alike sp_Log_room sp_l_used_blocks) := by
  unfold t_l_one
  exact
    (pss_cons (ps_set (i := 4) sc_l_one.nd rfl (by first | exact Or.inl rfl | exact Or.inr rfl) (pe_cmpR o_le (pe_op o_plus (C8.pe_c c_l_used_blocks hr (by decide) rfl (pa_cons (pv 1) pa_nil)) (C8.pe_c c_l_used_blocks hr (by decide) rfl (pa_cons (pv 2) pa_nil))) (pv 3) (nomark _)))
    (pss_cons (ps_if (pt_not (pt_tru (pe_cG c_l_alike hr hgd (by decide) rfl (pa_cons (C8.pe_mt c_Log_room hr (by decide) (pv 0) (pa_cons (pv 2) pa_nil)) (pa_cons (pv 4) pa_nil))))) (pss_one (ps_ret pe_bl)) pss_nil)
    (pss_cons (ps_if (pt_not (pt_tru (pv 4))) (pss_one (ps_ret (pe_cmpR (o_eq hr.units) (C8.pe_c c_l_append hr (by decide) rfl (pa_cons (pv 0) (pa_cons (pv 2) pa_nil))) (pe_tup (pa_cons pe_str (pa_cons pe_str pa_nil))) (nomark _)))) pss_nil)
    (pss_cons (ps_set (i := 5) sc_l_one.nd rfl (by first | exact Or.inl rfl | exact Or.inr rfl) (pe_op o_plus (pe_callB c_len (by rfl) g.b_len (by decide +kernel) (pa_cons (pv 1) pa_nil)) (pe_callB c_len (by rfl) g.b_len (by decide +kernel) (pa_cons (pv 2) pa_nil))))
    (pss_cons (ps_set (i := 6) sc_l_one.nd rfl (by first | exact Or.inl rfl | exact Or.inr rfl) (C8.pe_c c_l_append hr (by decide) rfl (pa_cons (pv 0) (pa_cons (pv 2) pa_nil))))
    (pss_cons (ps_expr (pe_bm PySem.F.plainAttrs_list PySem.F.slot_list_extend PySem.F.type_list_extend mt_extend (pv 1) (pa_cons (pv 2) pa_nil)))
    (pss_one (ps_ret (pe_cmpR (o_eq hr.units) (pv 6) (pv 5) (nomark _))))))))))
theorem ok_l_one (g : G K mg) {sp_l_append : Sp} (c_l_append : C8.Cal P w K mg base 7 "_law_append" sp_l_append []) {sp_l_alike : Sp} (c_l_alike : CalG P w K mg base 1 "_law_alike" sp_l_alike []) {sp_Log_room : Sp} (c_Log_room : C8.Met P w K mg base 4 (He.ga K "Log") "room" sp_Log_room []) {sp_l_used_blocks : Sp} (c_l_used_blocks : C8.Cal P w K mg base 3 "_law_used_blocks" sp_l_used_blocks []) {sp : Sp} (F : ∃ fd, FunD K "_law_one" "_law_one" (defArgs s_l_one) (defBody s_l_one) (defScope s_l_one) [] [] (He.ga K "_law_one") fd) (m : mg "_law_one" = some (.ref (He.ga K "_law_one")))
    (hsp : ∀ vs H Q E, sp vs H Q E → vs.length = 4 ∧ t_l_one K sp_l_append sp_l_alike sp_Log_room sp_l_used_blocks { nx := fun _ H' => Q .non H', rt := Q } (start N_l_one vs) H) : CalG P w K mg base 8 "_law_one" sp [] := by
  obtain ⟨fd, F⟩ := F
  exact ⟨_, fd, ["_law_log", "_law_records", "_law_rows", "_law_size"], [], okG F sc_l_one (fun vs H Q E h => (hsp vs H Q E h).1) (fun cdv A outer s H vs Q E hr hgd h => ⟨_, PSs.nox (d_l_one g c_l_append c_l_alike c_Log_room c_l_used_blocks hr hgd), (hsp vs H Q E h).2⟩), m, F.kp, (F.bindsN fun _ _ _ _ _ _ us hl => match us, hl with | [_, _, _, _], _ => rfl), .nil⟩
abbrev N_law : List Str := ["_law_script", "_law_box", "_law_size", "_law_disk", "_law_entries_here", "_law_log", "_law_records", "_law_turn", "_law_kind", "_law_good"]
theorem sc_law : FnScope N_law ["_law_script"] (defScope s_law) := ⟨rfl, rfl, rfl, by decide +kernel, rfl, by decide +kernel, by decide +kernel⟩
def t_law (K : PySem.W.Frag) (sp_l_alike : Sp) (sp_Log_records : Sp) (sp_open_log : Sp) (sp_Log_free_blocks : Sp) (sp_l_used_blocks : Sp) (sp_Log_sync : Sp) (sp_Disk_pending_count : Sp) (sp_l_one : Sp) (sp_l_some_rows : Sp) (sp_l_draw : Sp) (sp_format_disk : Sp) (sp_l_entries : Sp) (sp_Disk_init : Sp) (sp_l_digits : Sp) : TS :=
    (tSeq (tAsg (tLst (tCons (tCall sp_l_digits [] C8.E0 (tCons (tVar 0) (tCons (tC (.int 0)) (tCons (tC (.int 63)) tNil)))) (tCons (tC (.int 0)) tNil))) (gName 1))
    (tSeq (tAsg (tOp (rPlus K) (tC (.int 8)) (tCall sp_l_draw [] C8.E0 (tCons (tVar 1) (tCons (tC (.int 93)) tNil)))) (gName 2))
    (tSeq (tAsg (tMakeS (He.ga K "Disk") sp_Disk_init (WE (fun _ _ _ _ => False)) (tCons (tVar 2) tNil)) (gName 3))
    (tSeq (tAsg (tCall sp_l_entries [] C8.E0 (tCons (tVar 1) tNil)) (gName 4))
    (tSeq (tDrop (tCallS sp_format_disk (WE (fun _ _ _ _ => False)) (tCons (tVar 3) (tCons (tVar 4) tNil))))
    (tSeq (tAsg (tCallS sp_open_log (WE (fun _ _ _ _ => False)) (tCons (tVar 3) tNil)) (gName 5))
    (tSeq (tAsg (tLst (tCons (tTup (tCons (tC (.str "entries")) (tCons (tVar 4) tNil))) tNil)) (gName 6))
    (tSeq (tFor (iRng1 (tCons (tC (.int 30)) tNil)) (gName 7) (tSeq (tAsg (tCall sp_l_draw [] C8.E0 (tCons (tVar 1) (tCons (tC (.int 8)) tNil))) (gName 8))
    (tSeq (tAsg (tC (.bl true)) (gName 9))
    (C8.tCut (tIfS (tTest (tOp (rEqX K) (tVar 8) (tC (.int 0)))) (tAsg (tCallS sp_open_log (WE (fun _ _ _ _ => False)) (tCons (tVar 3) tNil)) (gName 5)) (tIfS (tTest (tOp (rEqX K) (tVar 8) (tC (.int 1)))) (tAsg (tAndV (tOp rIsNo (tMethS (He.ga K "Log") "sync" sp_Log_sync (WE (fun _ _ _ _ => False)) (tVar 5) tNil) (tC .non)) (tOp (rEqX K) (tMeth (He.ga K "Disk") "pending_count" sp_Disk_pending_count [] C8.E0 (tVar 3) tNil) (tC (.int 0)))) (gName 9)) (tAsg (tCall sp_l_one [] C8.E0 (tCons (tVar 5) (tCons (tVar 6) (tCons (tCall sp_l_some_rows [] C8.E0 (tCons (tVar 1) (tCons (tVar 6) tNil))) (tCons (tVar 2) tNil))))) (gName 9))))
    (tIfS (tOr (tNot (tTruX K (tVar 9))) (tOr (tNot (tTruX K (tCall sp_l_alike [] C8.E0 (tCons (tMeth (He.ga K "Log") "records" sp_Log_records [] C8.E0 (tVar 5) tNil) (tCons (tVar 6) tNil))))) (tTest (tOp (rNeX K) (tMeth (He.ga K "Log") "free_blocks" sp_Log_free_blocks [] C8.E0 (tVar 5) tNil) (tOp rMinus (tVar 2) (tCall sp_l_used_blocks [] C8.E0 (tCons (tVar 6) tNil))))))) (tRet (tC (.bl false))) tNext)))))
    (tRet (tCall sp_l_alike [] C8.E0 (tCons (tMeth (He.ga K "Log") "records" sp_Log_records [] C8.E0 (tCallS sp_open_log (WE (fun _ _ _ _ => False)) (tCons (tVar 3) tNil)) tNil) (tCons (tVar 6) tNil))))))))))))
theorem d_law (g : G K mg) {sp_l_alike : Sp} (c_l_alike : CalG P w K mg base 1 "_law_alike" sp_l_alike []) {sp_Log_records : Sp} (c_Log_records : C8.Met P w K mg base 1 (He.ga K "Log") "records" sp_Log_records []) {sp_open_log : Sp} (c_open_log : CalX P w K mg base 8 "open_log" sp_open_log) {sp_Log_free_blocks : Sp} (c_Log_free_blocks : C8.Met P w K mg base 2 (He.ga K "Log") "free_blocks" sp_Log_free_blocks []) {sp_l_used_blocks : Sp} (c_l_used_blocks : C8.Cal P w K mg base 3 "_law_used_blocks" sp_l_used_blocks []) {sp_Log_sync : Sp} (c_Log_sync : MetX P w K mg base 4 (He.ga K "Log") "sync" sp_Log_sync) {sp_Disk_pending_count : Sp} (c_Disk_pending_count : C8.Met P w K mg base 1 (He.ga K "Disk") "pending_count" sp_Disk_pending_count []) {sp_l_one : Sp} (c_l_one : CalG P w K mg base 8 "_law_one" sp_l_one []) {sp_l_some_rows : Sp} (c_l_some_rows : C8.Cal P w K mg base 3 "_law_some_rows" sp_l_some_rows []) {sp_l_draw : Sp} (c_l_draw : C8.Cal P w K mg base 1 "_law_draw" sp_l_draw []) {sp_format_disk : Sp} (c_format_disk : CalX P w K mg base 6 "format_disk" sp_format_disk) {sp_l_entries : Sp} (c_l_entries : C8.Cal P w K mg base 2 "_law_entries" sp_l_entries []) {sp_Disk_init : Sp} (c_Disk_init : MakX P w K mg base 3 "Disk" (He.ga K "Disk") sp_Disk_init) {sp_l_digits : Sp} (c_l_digits : C8.Cal P w K mg base 2 "_law_digits" sp_l_digits []) {f : Addr} {cdv : Value} {A : Around} {outer : List Env} {s : Shared} {H : Hp} {E : XK} (hr : Room 8 (A.deeper (envOfC "law" (defScope s_law) s.heap.objs.size f cdv))) (hgd : (A.deeper (envOfC "law" (defScope s_law) s.heap.objs.size f cdv)).guards = some []) :
    PSs (cxOf CX0 P w K mg base N_law "law" (defScope s_law) f cdv A outer s H E).nox (defBody s_law) (t_law K sp_l_alike sp_Log_records sp_open_log sp_Log_free_blocks sp_l_used_blocks sp_Log_sync sp_Disk_pending_count sp_l_one sp_l_some_rows sp_l_draw sp_format_disk sp_l_entries sp_Disk_init sp_l_digits) := by
  unfold t_law
  exact
    (pss_cons (ps_set (i := 1) sc_law.nd rfl (by first | exact Or.inl rfl | exact Or.inr rfl) (pe_lst (pa_cons (C8.pe_c c_l_digits hr (by decide) rfl (pa_cons (pv 0) (pa_cons pe_int (pa_cons pe_int pa_nil)))) (pa_cons pe_int pa_nil))))
    (pss_cons (ps_set (i := 2) sc_law.nd rfl (by first | exact Or.inl rfl | exact Or.inr rfl) (pe_op o_plus pe_int (C8.pe_c c_l_draw hr (by decide) rfl (pa_cons (pv 1) (pa_cons pe_int pa_nil)))))
    (pss_cons (ps_set (i := 3) sc_law.nd rfl (by first | exact Or.inl rfl | exact Or.inr rfl) (pe_kX c_Disk_init hr (by decide) takesF rfl (pa_cons (pv 2) pa_nil)))
    (pss_cons (ps_set (i := 4) sc_law.nd rfl (by first | exact Or.inl rfl | exact Or.inr rfl) (C8.pe_c c_l_entries hr (by decide) rfl (pa_cons (pv 1) pa_nil)))
    (pss_cons (ps_expr (pe_cX c_format_disk hr (by decide) takesF rfl (pa_cons (pv 3) (pa_cons (pv 4) pa_nil))))
    (pss_cons (ps_set (i := 5) sc_law.nd rfl (by first | exact Or.inl rfl | exact Or.inr rfl) (pe_cX c_open_log hr (by decide) takesF rfl (pa_cons (pv 3) pa_nil)))
    (pss_cons (ps_set (i := 6) sc_law.nd rfl (by first | exact Or.inl rfl | exact Or.inr rfl) (pe_lst (pa_cons (pe_tup (pa_cons pe_str (pa_cons (pv 4) pa_nil))) pa_nil)))
    (pss_cons (ps_for PassesOwn.never rfl (pi_range1 rfl g.b_range (pa_cons pe_int pa_nil)) (pg_name (i := 7) sc_law.nd rfl (by first | exact Or.inl rfl | exact Or.inr rfl)) (pss_cons (ps_set (i := 8) sc_law.nd rfl (by first | exact Or.inl rfl | exact Or.inr rfl) (C8.pe_c c_l_draw hr (by decide) rfl (pa_cons (pv 1) (pa_cons pe_int pa_nil))))
    (pss_cons (ps_set (i := 9) sc_law.nd rfl (by first | exact Or.inl rfl | exact Or.inr rfl) pe_bl)
    (C8.pss_cut (ps_if (pt_cmpR (o_eq hr.units) (pv 8) pe_int (nomark _)) (pss_one (ps_set (i := 5) sc_law.nd rfl (by first | exact Or.inl rfl | exact Or.inr rfl) (pe_cX c_open_log hr (by decide) takesF rfl (pa_cons (pv 3) pa_nil)))) (pss_one (ps_if (pt_cmpR (o_eq hr.units) (pv 8) pe_int (nomark _)) (pss_one (ps_set (i := 9) sc_law.nd rfl (by first | exact Or.inl rfl | exact Or.inr rfl) (pe_and (pe_cmpR o_is (pe_mX0 c_Log_sync hr (by decide) takesF (pv 5)) pe_non (nomark _)) (pe_one (pe_cmpR (o_eq hr.units) (C8.pe_mt0 c_Disk_pending_count hr (by decide) (pv 3)) pe_int (nomark _)))))) (pss_one (ps_set (i := 9) sc_law.nd rfl (by first | exact Or.inl rfl | exact Or.inr rfl) (pe_cG c_l_one hr hgd (by decide) rfl (pa_cons (pv 5) (pa_cons (pv 6) (pa_cons (C8.pe_c c_l_some_rows hr (by decide) rfl (pa_cons (pv 1) (pa_cons (pv 6) pa_nil))) (pa_cons (pv 2) pa_nil))))))))))
    (pss_one (ps_if (PW.pt (pw_or (pt_not (pt_tru (pv 9))) (pw_or (pt_not (pt_tru (pe_cG c_l_alike hr hgd (by decide) rfl (pa_cons (C8.pe_mt0 c_Log_records hr (by decide) (pv 5)) (pa_cons (pv 6) pa_nil))))) (pw_or1 (pt_cmpR (o_ne hr.units) (C8.pe_mt0 c_Log_free_blocks hr (by decide) (pv 5)) (pe_op o_minus (pv 2) (C8.pe_c c_l_used_blocks hr (by decide) rfl (pa_cons (pv 6) pa_nil))) (nomark _)))))) (pss_one (ps_ret pe_bl)) pss_nil))))))
    (pss_one (ps_ret (pe_cG c_l_alike hr hgd (by decide) rfl (pa_cons (C8.pe_mt0 c_Log_records hr (by decide) (pe_cX c_open_log hr (by decide) takesF rfl (pa_cons (pv 3) pa_nil))) (pa_cons (pv 6) pa_nil)))))))))))))
theorem ok_law (g : G K mg) {sp_l_alike : Sp} (c_l_alike : CalG P w K mg base 1 "_law_alike" sp_l_alike []) {sp_Log_records : Sp} (c_Log_records : C8.Met P w K mg base 1 (He.ga K "Log") "records" sp_Log_records []) {sp_open_log : Sp} (c_open_log : CalX P w K mg base 8 "open_log" sp_open_log) {sp_Log_free_blocks : Sp} (c_Log_free_blocks : C8.Met P w K mg base 2 (He.ga K "Log") "free_blocks" sp_Log_free_blocks []) {sp_l_used_blocks : Sp} (c_l_used_blocks : C8.Cal P w K mg base 3 "_law_used_blocks" sp_l_used_blocks []) {sp_Log_sync : Sp} (c_Log_sync : MetX P w K mg base 4 (He.ga K "Log") "sync" sp_Log_sync) {sp_Disk_pending_count : Sp} (c_Disk_pending_count : C8.Met P w K mg base 1 (He.ga K "Disk") "pending_count" sp_Disk_pending_count []) {sp_l_one : Sp} (c_l_one : CalG P w K mg base 8 "_law_one" sp_l_one []) {sp_l_some_rows : Sp} (c_l_some_rows : C8.Cal P w K mg base 3 "_law_some_rows" sp_l_some_rows []) {sp_l_draw : Sp} (c_l_draw : C8.Cal P w K mg base 1 "_law_draw" sp_l_draw []) {sp_format_disk : Sp} (c_format_disk : CalX P w K mg base 6 "format_disk" sp_format_disk) {sp_l_entries : Sp} (c_l_entries : C8.Cal P w K mg base 2 "_law_entries" sp_l_entries []) {sp_Disk_init : Sp} (c_Disk_init : MakX P w K mg base 3 "Disk" (He.ga K "Disk") sp_Disk_init) {sp_l_digits : Sp} (c_l_digits : C8.Cal P w K mg base 2 "_law_digits" sp_l_digits []) {sp : Sp} (F : ∃ fd, FunD K "law" "law" (defArgs s_law) (defBody s_law) (defScope s_law) [] [] (He.ga K "law") fd) (m : mg "law" = some (.ref (He.ga K "law")))
    (hsp : ∀ vs H Q E, sp vs H Q E → vs.length = 1 ∧ t_law K sp_l_alike sp_Log_records sp_open_log sp_Log_free_blocks sp_l_used_blocks sp_Log_sync sp_Disk_pending_count sp_l_one sp_l_some_rows sp_l_draw sp_format_disk sp_l_entries sp_Disk_init sp_l_digits { nx := fun _ H' => Q .non H', rt := Q } (start N_law vs) H) : CalG P w K mg base 9 "law" sp [] := by
  obtain ⟨fd, F⟩ := F
  exact ⟨_, fd, ["_law_script"], [], okG F sc_law (fun vs H Q E h => (hsp vs H Q E h).1) (fun cdv A outer s H vs Q E hr hgd h => ⟨_, PSs.nox (d_law g c_l_alike c_Log_records c_open_log c_Log_free_blocks c_l_used_blocks c_Log_sync c_Disk_pending_count c_l_one c_l_some_rows c_l_draw c_format_disk c_l_entries c_Disk_init c_l_digits hr hgd), (hsp vs H Q E h).2⟩), m, F.kp, (F.bindsN fun _ _ _ _ _ _ us hl => match us, hl with | [_], _ => rfl), .nil⟩
abbrev N_Disk_init : List Str := ["self", "blocks", "_"]
theorem sc_Disk_init : FnScope N_Disk_init ["self", "blocks"] (defScope s_Disk_init) := ⟨rfl, rfl, rfl, by decide +kernel, rfl, by decide +kernel, by decide +kernel⟩
def t_Disk_init (K : PySem.W.Frag) (E : XK) : TS :=
    (tSeq (tIfS (tNot (tTest (tChain rLe rLe (tC (.int 8)) (tVar 1) (tC (.int 400))))) (tRaiseO (He.ga K "OutOfRange") (spExI K (He.ga K "OutOfRange") "name") (fun cls d _ H => E cls d H) (tCons (tC (.str "blocks")) tNil)) tNext)
    (tSeq (sFld K (tVar 0) (tLc (iRng1 (tCons (tVar 1) tNil)) (gName 2) tYes (tOp rTimes (tLst (tCons (tC (.int 0)) tNil)) (tC (.int 32))) [2]) "_blocks")
    (tSeq (sFld K (tVar 0) (tLst tNil) "_pending")
    (tSeq (sFld K (tVar 0) (tC (.int 0)) "_cuts")
    (tSeq (sFld K (tVar 0) (tC .non) "_left")
    (sFld K (tVar 0) (tLst tNil) "_torn"))))))
theorem d_Disk_init (g : G K mg) (c_OutOfRange : Oex P w K mg base 1 "OutOfRange" (He.ga K "OutOfRange") "name") {f : Addr} {cdv : Value} {A : Around} {outer : List Env} {s : Shared} {H : Hp} {E : XK} (hr : Room 2 (A.deeper (envOfC "Disk.__init__" (defScope s_Disk_init) s.heap.objs.size f cdv))) :
    PSs (cxOf (L2.CX P w) P w K mg base N_Disk_init "Disk.__init__" (defScope s_Disk_init) f cdv A outer s H E) (defBody s_Disk_init) (t_Disk_init K E) := by
  unfold t_Disk_init
  exact
    (pss_cons (ps_if (pt_not (pt_chain o_le o_le (C8.pe_gc rfl g.c_BLOCKS_LEAST) (pv 1) (C8.pe_gc rfl g.c_BLOCKS_MOST))) (pss_one (ps_rO c_OutOfRange rfl hr (by decide) (takes_of rfl rfl rfl rfl) rfl (pa_cons pe_str pa_nil))) pss_nil)
    (pss_cons (ps_fld (pv 0) (pe_lc (own := [("_", 2)]) (tt := tYes) rfl sc_Disk_init.nd (pi_range1 rfl g.b_range (pa_cons (pv 1) pa_nil)) (blkOk_by (N := N_Disk_init) (sc := defScope s_Disk_init) (by decide +kernel)) (fun _ _ _ _ _ => (pg_name (i := 2) sc_Disk_init.nd rfl (by first | exact Or.inl rfl | exact Or.inr rfl))) (fun _ _ _ _ _ => pts_nil) (fun _ _ _ _ _ => (pe_op o_times (pe_lst (pa_cons pe_int pa_nil)) (C8.pe_gc rfl g.c_BLOCK)))) (by rfl))
    (pss_cons (ps_fld (pv 0) (pe_lst pa_nil) (by rfl))
    (pss_cons (ps_fld (pv 0) pe_int (by rfl))
    (pss_cons (ps_fld (pv 0) pe_non (by rfl))
    (pss_one (ps_fld (pv 0) (pe_lst pa_nil) (by rfl))))))))
theorem ok_Disk_init (g : G K mg) (c_OutOfRange : Oex P w K mg base 1 "OutOfRange" (He.ga K "OutOfRange") "name") {sp : Sp} (F : ∃ fd, FunD K "__init__" "Disk.__init__" (defArgs s_Disk_init) (defBody s_Disk_init) (defScope s_Disk_init) [] [] (He.ma K (He.ga K "Disk") "__init__") fd)
    (hsp : ∀ vs H Q E, sp vs H Q E → vs.length = 2 ∧ t_Disk_init K E { nx := fun _ H' => Q .non H', rt := Q } (start N_Disk_init vs) H) : MakX P w K mg base 3 "Disk" (He.ga K "Disk") sp := by
  obtain ⟨fd, F⟩ := F
  exact ⟨_, fd, ["self", "blocks"], g.mkr_Disk, FunD.ok F sc_Disk_init (fun vs H Q E h => (hsp vs H Q E h).1) (fun cdv A outer s H vs Q E hr h => ⟨_, d_Disk_init g c_OutOfRange hr, (hsp vs H Q E h).2⟩), g.k_Disk, (F.bindsN fun _ _ _ _ _ _ us hl => match us, hl with | [_, _], _ => rfl)⟩
abbrev N_Disk_size : List Str := ["self"]
theorem sc_Disk_size : FnScope N_Disk_size ["self"] (defScope s_Disk_size) := ⟨rfl, rfl, rfl, by decide +kernel, rfl, by decide +kernel, by decide +kernel⟩
def t_Disk_size (K : PySem.W.Frag) : TS :=
    (tRet (tCB (rLenX K) (tCons (tFld K (tVar 0) "_blocks") tNil)))
theorem d_Disk_size (g : G K mg) {f : Addr} {cdv : Value} {A : Around} {outer : List Env} {s : Shared} {H : Hp} {E : XK} (hr : Room 0 (A.deeper (envOfC "Disk.size" (defScope s_Disk_size) s.heap.objs.size f cdv))) :
    PSs (cxOf CX0 P w K mg base N_Disk_size "Disk.size" (defScope s_Disk_size) f cdv A outer s H E).nox (defBody s_Disk_size) (t_Disk_size K) := by
  unfold t_Disk_size
  exact
    (pss_one (ps_ret (pe_callB c_len (by rfl) g.b_len (by decide +kernel) (pa_cons (pe_fld (pv 0) (by rfl)) pa_nil))))
theorem ok_Disk_size (g : G K mg) {sp : Sp} (F : ∃ fd, FunD K "size" "Disk.size" (defArgs s_Disk_size) (defBody s_Disk_size) (defScope s_Disk_size) [] [] (He.ma K (He.ga K "Disk") "size") fd)
    (hsp : ∀ vs H Q E, sp vs H Q E → vs.length = 1 ∧ t_Disk_size K { nx := fun _ H' => Q .non H', rt := Q } (start N_Disk_size vs) H) : C8.Met P w K mg base 1 (He.ga K "Disk") "size" sp [] := by
  obtain ⟨fd, F⟩ := F
  exact ⟨_, fd, ["self"], [], g.cls_Disk, g.me_Disk_size, FunD.ok F sc_Disk_size (fun vs H Q E h => (hsp vs H Q E h).1) (fun cdv A outer s H vs Q E hr h => ⟨_, PSs.nox (d_Disk_size g hr), (hsp vs H Q E h).2⟩), (F.bindsN fun _ _ _ _ _ _ us hl => match us, hl with | [_], _ => rfl), .nil⟩
abbrev N_Disk_check_at : List Str := ["self", "at"]
theorem sc_Disk_check_at : FnScope N_Disk_check_at ["self", "at"] (defScope s_Disk_check_at) := ⟨rfl, rfl, rfl, by decide +kernel, rfl, by decide +kernel, by decide +kernel⟩
def t_Disk_check_at (K : PySem.W.Frag) (E : XK) : TS :=
    (tIfS (tNot (tTest (tChain rLe rLt (tC (.int 0)) (tVar 1) (tCB (rLenX K) (tCons (tFld K (tVar 0) "_blocks") tNil))))) (tRaiseO (He.ga K "OutOfRange") (spExI K (He.ga K "OutOfRange") "name") (fun cls d _ H => E cls d H) (tCons (tC (.str "at")) tNil)) tNext)
theorem d_Disk_check_at (g : G K mg) (c_OutOfRange : Oex P w K mg base 1 "OutOfRange" (He.ga K "OutOfRange") "name") {f : Addr} {cdv : Value} {A : Around} {outer : List Env} {s : Shared} {H : Hp} {E : XK} (hr : Room 2 (A.deeper (envOfC "Disk._check_at" (defScope s_Disk_check_at) s.heap.objs.size f cdv))) :
    PSs (cxOf (L2.CX P w) P w K mg base N_Disk_check_at "Disk._check_at" (defScope s_Disk_check_at) f cdv A outer s H E) (defBody s_Disk_check_at) (t_Disk_check_at K E) := by
  unfold t_Disk_check_at
  exact
    (pss_one (ps_if (pt_not (pt_chain o_le o_lt pe_int (pv 1) (pe_callB c_len (by rfl) g.b_len (by decide +kernel) (pa_cons (pe_fld (pv 0) (by rfl)) pa_nil)))) (pss_one (ps_rO c_OutOfRange rfl hr (by decide) (takes_of rfl rfl rfl rfl) rfl (pa_cons pe_str pa_nil))) pss_nil))
theorem ok_Disk_check_at (g : G K mg) (c_OutOfRange : Oex P w K mg base 1 "OutOfRange" (He.ga K "OutOfRange") "name") {sp : Sp} (F : ∃ fd, FunD K "_check_at" "Disk._check_at" (defArgs s_Disk_check_at) (defBody s_Disk_check_at) (defScope s_Disk_check_at) [] [] (He.ma K (He.ga K "Disk") "_check_at") fd)
    (hsp : ∀ vs H Q E, sp vs H Q E → vs.length = 2 ∧ t_Disk_check_at K E { nx := fun _ H' => Q .non H', rt := Q } (start N_Disk_check_at vs) H) : MetX P w K mg base 3 (He.ga K "Disk") "_check_at" sp := by
  obtain ⟨fd, F⟩ := F
  exact ⟨_, fd, ["self", "at"], g.cls_Disk, g.me_Disk_check_at, FunD.ok F sc_Disk_check_at (fun vs H Q E h => (hsp vs H Q E h).1) (fun cdv A outer s H vs Q E hr h => ⟨_, d_Disk_check_at g c_OutOfRange hr, (hsp vs H Q E h).2⟩), (F.bindsN fun _ _ _ _ _ _ us hl => match us, hl with | [_, _], _ => rfl)⟩
abbrev N_Disk_read : List Str := ["self", "at", "found", "place", "block"]
theorem sc_Disk_read : FnScope N_Disk_read ["self", "at"] (defScope s_Disk_read) := ⟨rfl, rfl, rfl, by decide +kernel, rfl, by decide +kernel, by decide +kernel⟩
def t_Disk_read (K : PySem.W.Frag) (sp_Disk_check_at : Sp) (E : XK) : TS :=
    (tSeq (tDrop (tMethS (He.ga K "Disk") "_check_at" sp_Disk_check_at (WE (fun cls d _ H => E cls d H)) (tVar 0) (tCons (tVar 1) tNil)))
    (tSeq (tAsg (tOp (rIx K) (tFld K (tVar 0) "_blocks") (tVar 1)) (gName 2))
    (tSeq (tFor (iAny K (tFld K (tVar 0) "_pending")) (gUnp K 2 (gCons (gName 3) (gCons (gName 4) gNil))) (tIfS (tTest (tOp (rEqX K) (tVar 3) (tVar 1))) (tAsg (tVar 4) (gName 2)) tNext))
    (tRet (tCB (rListOf K) (tCons (tVar 2) tNil))))))
theorem d_Disk_read (g : G K mg) {sp_Disk_check_at : Sp} (c_Disk_check_at : MetX P w K mg base 3 (He.ga K "Disk") "_check_at" sp_Disk_check_at) {f : Addr} {cdv : Value} {A : Around} {outer : List Env} {s : Shared} {H : Hp} {E : XK} (hr : Room 3 (A.deeper (envOfC "Disk.read" (defScope s_Disk_read) s.heap.objs.size f cdv))) :
    PSs (cxOf (L2.CX P w) P w K mg base N_Disk_read "Disk.read" (defScope s_Disk_read) f cdv A outer s H E) (defBody s_Disk_read) (t_Disk_read K sp_Disk_check_at E) := by
  unfold t_Disk_read
  exact
    (pss_cons (ps_expr (pe_mX c_Disk_check_at hr (by decide) (takes_of rfl rfl rfl rfl) (pv 0) (pa_cons (pv 1) pa_nil)))
    (pss_cons (ps_set (i := 2) sc_Disk_read.nd rfl (by first | exact Or.inl rfl | exact Or.inr rfl) (pe_ix ix_seq (pe_fld (pv 0) (by rfl)) (pv 1) (fun _ _ => rfl)))
    (pss_cons (ps_for (passes_of rfl) rfl (pi_any (pe_fld (pv 0) (by rfl))) (pg_unp rfl (pgs_cons (pg_name (i := 3) sc_Disk_read.nd rfl (by first | exact Or.inl rfl | exact Or.inr rfl)) (pgs_cons (pg_name (i := 4) sc_Disk_read.nd rfl (by first | exact Or.inl rfl | exact Or.inr rfl)) pgs_nil))) (pss_one (ps_if (pt_cmpR (o_eq hr.units) (pv 3) (pv 1) (nomark _)) (pss_one (ps_set (i := 2) sc_Disk_read.nd rfl (by first | exact Or.inl rfl | exact Or.inr rfl) (pv 4))) pss_nil)))
    (pss_one (ps_ret (pe_callTy c_list (by rfl) g.b_list (by decide +kernel) (pa_cons (pv 2) pa_nil)))))))
theorem ok_Disk_read (g : G K mg) {sp_Disk_check_at : Sp} (c_Disk_check_at : MetX P w K mg base 3 (He.ga K "Disk") "_check_at" sp_Disk_check_at) {sp : Sp} (F : ∃ fd, FunD K "read" "Disk.read" (defArgs s_Disk_read) (defBody s_Disk_read) (defScope s_Disk_read) [] [] (He.ma K (He.ga K "Disk") "read") fd)
    (hsp : ∀ vs H Q E, sp vs H Q E → vs.length = 2 ∧ t_Disk_read K sp_Disk_check_at E { nx := fun _ H' => Q .non H', rt := Q } (start N_Disk_read vs) H) : MetX P w K mg base 4 (He.ga K "Disk") "read" sp := by
  obtain ⟨fd, F⟩ := F
  exact ⟨_, fd, ["self", "at"], g.cls_Disk, g.me_Disk_read, FunD.ok F sc_Disk_read (fun vs H Q E h => (hsp vs H Q E h).1) (fun cdv A outer s H vs Q E hr h => ⟨_, d_Disk_read g c_Disk_check_at hr, (hsp vs H Q E h).2⟩), (F.bindsN fun _ _ _ _ _ _ us hl => match us, hl with | [_, _], _ => rfl)⟩
abbrev N_Disk_cut : List Str := ["self", "torn", "number", "at", "block", "count"]
theorem sc_Disk_cut : FnScope N_Disk_cut ["self", "torn"] (defScope s_Disk_cut) := ⟨rfl, rfl, rfl, by decide +kernel, rfl, by decide +kernel, by decide +kernel⟩
def t_Disk_cut (K : PySem.W.Frag) : TS :=
    (tSeq (tFor (iEnum K (tCons (tFld K (tVar 0) "_pending") tNil)) (gUnp K 2 (gCons (gName 2) (gCons (gUnp K 2 (gCons (gName 3) (gCons (gName 4) gNil))) gNil))) (tSeq (tAsg (tIf (tTest (tOp rLt (tVar 2) (tCB (rLenX K) (tCons (tVar 1) tNil)))) (tOp (rIx K) (tVar 1) (tVar 2)) (tC (.int 0))) (gName 5))
    (tAsg (tOp (rPlus K) (tSl (rSlX K) (tVar 4) tNoPart (tPart (tVar 5))) (tSl (rSlX K) (tOp (rIx K) (tFld K (tVar 0) "_blocks") (tVar 3)) (tPart (tVar 5)) tNoPart)) (gSub (tFld K (tVar 0) "_blocks") (tVar 3) rSetL))))
    (tSeq (sFld K (tVar 0) (tLst tNil) "_pending")
    (tSeq (sFld K (tVar 0) (tOp (rPlus K) (tFld K (tVar 0) "_cuts") (tC (.int 1))) "_cuts")
    (tSeq (sFld K (tVar 0) (tC .non) "_left")
    (sFld K (tVar 0) (tLst tNil) "_torn")))))
theorem d_Disk_cut (g : G K mg) {f : Addr} {cdv : Value} {A : Around} {outer : List Env} {s : Shared} {H : Hp} {E : XK} (hr : Room 0 (A.deeper (envOfC "Disk._cut" (defScope s_Disk_cut) s.heap.objs.size f cdv))) :
    PSs (cxOf CX0 P w K mg base N_Disk_cut "Disk._cut" (defScope s_Disk_cut) f cdv A outer s H E).nox (defBody s_Disk_cut) (t_Disk_cut K) := by
  unfold t_Disk_cut
  exact
    (pss_cons (ps_for PassesOwn.never rfl (pi_enum rfl g.b_enumerate (pa_cons (pe_fld (pv 0) (by rfl)) pa_nil)) (pg_unp rfl (pgs_cons (pg_name (i := 2) sc_Disk_cut.nd rfl (by first | exact Or.inl rfl | exact Or.inr rfl)) (pgs_cons (pg_unp rfl (pgs_cons (pg_name (i := 3) sc_Disk_cut.nd rfl (by first | exact Or.inl rfl | exact Or.inr rfl)) (pgs_cons (pg_name (i := 4) sc_Disk_cut.nd rfl (by first | exact Or.inl rfl | exact Or.inr rfl)) pgs_nil))) pgs_nil))) (pss_cons (ps_set (i := 5) sc_Disk_cut.nd rfl (by first | exact Or.inl rfl | exact Or.inr rfl) (pe_ifExp (pt_cmpR o_lt (pv 2) (pe_callB c_len (by rfl) g.b_len (by decide +kernel) (pa_cons (pv 1) pa_nil)) (nomark _)) (pe_ix ix_seq (pv 1) (pv 2) (fun _ _ => rfl)) pe_int))
    (pss_one (ps_asg (pe_op o_plus (pe_slice sl_any (pv 4) po_none (po_some (pv 5))) (pe_slice sl_any (pe_ix ix_seq (pe_fld (pv 0) (by rfl)) (pv 3) (fun _ _ => rfl)) (po_some (pv 5)) po_none)) (pg_sub (pe_fld (pv 0) (by rfl)) (pv 3) set_list)))))
    (pss_cons (ps_fld (pv 0) (pe_lst pa_nil) (by rfl))
    (pss_cons (ps_fld (pv 0) (pe_op o_plus (pe_fld (pv 0) (by rfl)) pe_int) (by rfl))
    (pss_cons (ps_fld (pv 0) pe_non (by rfl))
    (pss_one (ps_fld (pv 0) (pe_lst pa_nil) (by rfl)))))))
theorem ok_Disk_cut (g : G K mg) {sp : Sp} (F : ∃ fd, FunD K "_cut" "Disk._cut" (defArgs s_Disk_cut) (defBody s_Disk_cut) (defScope s_Disk_cut) [] [] (He.ma K (He.ga K "Disk") "_cut") fd)
    (hsp : ∀ vs H Q E, sp vs H Q E → vs.length = 2 ∧ t_Disk_cut K { nx := fun _ H' => Q .non H', rt := Q } (start N_Disk_cut vs) H) : C8.Met P w K mg base 1 (He.ga K "Disk") "_cut" sp [] := by
  obtain ⟨fd, F⟩ := F
  exact ⟨_, fd, ["self", "torn"], [], g.cls_Disk, g.me_Disk_cut, FunD.ok F sc_Disk_cut (fun vs H Q E h => (hsp vs H Q E h).1) (fun cdv A outer s H vs Q E hr h => ⟨_, PSs.nox (d_Disk_cut g hr), (hsp vs H Q E h).2⟩), (F.bindsN fun _ _ _ _ _ _ us hl => match us, hl with | [_, _], _ => rfl), .nil⟩
abbrev N_Disk_spend : List Str := ["self"]
theorem sc_Disk_spend : FnScope N_Disk_spend ["self"] (defScope s_Disk_spend) := ⟨rfl, rfl, rfl, by decide +kernel, rfl, by decide +kernel, by decide +kernel⟩
def t_Disk_spend (K : PySem.W.Frag) (sp_Disk_cut : Sp) (E : XK) : TS :=
    (tSeq (tIfS (tTest (tOp rIsNo (tFld K (tVar 0) "_left") (tC .non))) tRetN tNext)
    (tSeq (tIfS (tTest (tOp (rEqX K) (tFld K (tVar 0) "_left") (tC (.int 0)))) (tSeq (tDrop (tMeth (He.ga K "Disk") "_cut" sp_Disk_cut [] C8.E0 (tVar 0) (tCons (tFld K (tVar 0) "_torn") tNil)))
    (tRaiseB (He.ga K "PowerCut") (fun cls d _ H => E cls d H))) tNext)
    (sFld K (tVar 0) (tOp rMinus (tFld K (tVar 0) "_left") (tC (.int 1))) "_left")))
theorem d_Disk_spend (g : G K mg) {sp_Disk_cut : Sp} (c_Disk_cut : C8.Met P w K mg base 1 (He.ga K "Disk") "_cut" sp_Disk_cut []) {f : Addr} {cdv : Value} {A : Around} {outer : List Env} {s : Shared} {H : Hp} {E : XK} (hr : Room 1 (A.deeper (envOfC "Disk._spend" (defScope s_Disk_spend) s.heap.objs.size f cdv))) :
    PSs (cxOf (L2.CX P w) P w K mg base N_Disk_spend "Disk._spend" (defScope s_Disk_spend) f cdv A outer s H E) (defBody s_Disk_spend) (t_Disk_spend K sp_Disk_cut E) := by
  unfold t_Disk_spend
  exact
    (pss_cons (ps_if (pt_cmpR o_is (pe_fld (pv 0) (by rfl)) pe_non (nomark _)) (pss_one ps_retN) pss_nil)
    (pss_cons (ps_if (pt_cmpR (o_eq hr.units) (pe_fld (pv 0) (by rfl)) pe_int (nomark _)) (pss_cons (ps_expr (C8.pe_mt c_Disk_cut hr (by decide) (pv 0) (pa_cons (pe_fld (pv 0) (by rfl)) pa_nil)))
    (pss_one (ps_rB g.x_PowerCut rfl (takes_of rfl rfl rfl rfl) rfl))) pss_nil)
    (pss_one (ps_fld (pv 0) (pe_op o_minus (pe_fld (pv 0) (by rfl)) pe_int) (by rfl)))))
theorem ok_Disk_spend (g : G K mg) {sp_Disk_cut : Sp} (c_Disk_cut : C8.Met P w K mg base 1 (He.ga K "Disk") "_cut" sp_Disk_cut []) {sp : Sp} (F : ∃ fd, FunD K "_spend" "Disk._spend" (defArgs s_Disk_spend) (defBody s_Disk_spend) (defScope s_Disk_spend) [] [] (He.ma K (He.ga K "Disk") "_spend") fd)
    (hsp : ∀ vs H Q E, sp vs H Q E → vs.length = 1 ∧ t_Disk_spend K sp_Disk_cut E { nx := fun _ H' => Q .non H', rt := Q } (start N_Disk_spend vs) H) : MetX P w K mg base 2 (He.ga K "Disk") "_spend" sp := by
  obtain ⟨fd, F⟩ := F
  exact ⟨_, fd, ["self"], g.cls_Disk, g.me_Disk_spend, FunD.ok F sc_Disk_spend (fun vs H Q E h => (hsp vs H Q E h).1) (fun cdv A outer s H vs Q E hr h => ⟨_, d_Disk_spend g c_Disk_cut hr, (hsp vs H Q E h).2⟩), (F.bindsN fun _ _ _ _ _ _ us hl => match us, hl with | [_], _ => rfl)⟩
abbrev N_Disk_write : List Str := ["self", "at", "block"]
theorem sc_Disk_write : FnScope N_Disk_write ["self", "at", "block"] (defScope s_Disk_write) := ⟨rfl, rfl, rfl, by decide +kernel, rfl, by decide +kernel, by decide +kernel⟩
def t_Disk_write (K : PySem.W.Frag) (sp_Disk_spend : Sp) (sp_is_block : Sp) (sp_Disk_check_at : Sp) (E : XK) : TS :=
    (tSeq (tDrop (tMethS (He.ga K "Disk") "_check_at" sp_Disk_check_at (WE (fun cls d _ H => E cls d H)) (tVar 0) (tCons (tVar 1) tNil)))
    (tSeq (tIfS (tNot (tTruX K (tCall sp_is_block [] C8.E0 (tCons (tVar 2) tNil)))) (tRaiseO (He.ga K "OutOfRange") (spExI K (He.ga K "OutOfRange") "name") (fun cls d _ H => E cls d H) (tCons (tC (.str "block")) tNil)) tNext)
    (tSeq (tDrop (tMethS (He.ga K "Disk") "_spend" sp_Disk_spend (WE (fun cls d _ H => E cls d H)) (tVar 0) tNil))
    (tDrop (tBM K "list" rAppend (tFld K (tVar 0) "_pending") (tCons (tTup (tCons (tVar 1) (tCons (tCB (rListOf K) (tCons (tVar 2) tNil)) tNil))) tNil))))))
theorem d_Disk_write (g : G K mg) {sp_Disk_spend : Sp} (c_Disk_spend : MetX P w K mg base 2 (He.ga K "Disk") "_spend" sp_Disk_spend) {sp_is_block : Sp} (c_is_block : C8.Cal P w K mg base 1 "_is_block" sp_is_block []) (c_OutOfRange : Oex P w K mg base 1 "OutOfRange" (He.ga K "OutOfRange") "name") {sp_Disk_check_at : Sp} (c_Disk_check_at : MetX P w K mg base 3 (He.ga K "Disk") "_check_at" sp_Disk_check_at) {f : Addr} {cdv : Value} {A : Around} {outer : List Env} {s : Shared} {H : Hp} {E : XK} (hr : Room 3 (A.deeper (envOfC "Disk.write" (defScope s_Disk_write) s.heap.objs.size f cdv))) :
    PSs (cxOf (L2.CX P w) P w K mg base N_Disk_write "Disk.write" (defScope s_Disk_write) f cdv A outer s H E) (defBody s_Disk_write) (t_Disk_write K sp_Disk_spend sp_is_block sp_Disk_check_at E) := by
  unfold t_Disk_write
  exact
    (pss_cons (ps_expr (pe_mX c_Disk_check_at hr (by decide) (takes_of rfl rfl rfl rfl) (pv 0) (pa_cons (pv 1) pa_nil)))
    (pss_cons (ps_if (pt_not (pt_tru (C8.pe_c c_is_block hr (by decide) rfl (pa_cons (pv 2) pa_nil)))) (pss_one (ps_rO c_OutOfRange rfl hr (by decide) (takes_of rfl rfl rfl rfl) rfl (pa_cons pe_str pa_nil))) pss_nil)
    (pss_cons (ps_expr (pe_mX0 c_Disk_spend hr (by decide) (takes_of rfl rfl rfl rfl) (pv 0)))
    (pss_one (ps_expr (pe_bm PySem.F.plainAttrs_list PySem.F.slot_list_append PySem.F.type_list_append mt_append (pe_fld (pv 0) (by rfl)) (pa_cons (pe_tup (pa_cons (pv 1) (pa_cons (pe_callTy c_list (by rfl) g.b_list (by decide +kernel) (pa_cons (pv 2) pa_nil)) pa_nil))) pa_nil)))))))
theorem ok_Disk_write (g : G K mg) {sp_Disk_spend : Sp} (c_Disk_spend : MetX P w K mg base 2 (He.ga K "Disk") "_spend" sp_Disk_spend) {sp_is_block : Sp} (c_is_block : C8.Cal P w K mg base 1 "_is_block" sp_is_block []) (c_OutOfRange : Oex P w K mg base 1 "OutOfRange" (He.ga K "OutOfRange") "name") {sp_Disk_check_at : Sp} (c_Disk_check_at : MetX P w K mg base 3 (He.ga K "Disk") "_check_at" sp_Disk_check_at) {sp : Sp} (F : ∃ fd, FunD K "write" "Disk.write" (defArgs s_Disk_write) (defBody s_Disk_write) (defScope s_Disk_write) [] [] (He.ma K (He.ga K "Disk") "write") fd)
    (hsp : ∀ vs H Q E, sp vs H Q E → vs.length = 3 ∧ t_Disk_write K sp_Disk_spend sp_is_block sp_Disk_check_at E { nx := fun _ H' => Q .non H', rt := Q } (start N_Disk_write vs) H) : MetX P w K mg base 4 (He.ga K "Disk") "write" sp := by
  obtain ⟨fd, F⟩ := F
  exact ⟨_, fd, ["self", "at", "block"], g.cls_Disk, g.me_Disk_write, FunD.ok F sc_Disk_write (fun vs H Q E h => (hsp vs H Q E h).1) (fun cdv A outer s H vs Q E hr h => ⟨_, d_Disk_write g c_Disk_spend c_is_block c_OutOfRange c_Disk_check_at hr, (hsp vs H Q E h).2⟩), (F.bindsN fun _ _ _ _ _ _ us hl => match us, hl with | [_, _, _], _ => rfl)⟩
abbrev N_Disk_flush : List Str := ["self", "at", "block"]
theorem sc_Disk_flush : FnScope N_Disk_flush ["self"] (defScope s_Disk_flush) := ⟨rfl, rfl, rfl, by decide +kernel, rfl, by decide +kernel, by decide +kernel⟩
def t_Disk_flush (K : PySem.W.Frag) (sp_Disk_spend : Sp) (E : XK) : TS :=
    (tSeq (tDrop (tMethS (He.ga K "Disk") "_spend" sp_Disk_spend (WE (fun cls d _ H => E cls d H)) (tVar 0) tNil))
    (tSeq (tFor (iAny K (tFld K (tVar 0) "_pending")) (gUnp K 2 (gCons (gName 1) (gCons (gName 2) gNil))) (tAsg (tVar 2) (gSub (tFld K (tVar 0) "_blocks") (tVar 1) rSetL)))
    (sFld K (tVar 0) (tLst tNil) "_pending")))
theorem d_Disk_flush (g : G K mg) {sp_Disk_spend : Sp} (c_Disk_spend : MetX P w K mg base 2 (He.ga K "Disk") "_spend" sp_Disk_spend) {f : Addr} {cdv : Value} {A : Around} {outer : List Env} {s : Shared} {H : Hp} {E : XK} (hr : Room 2 (A.deeper (envOfC "Disk.flush" (defScope s_Disk_flush) s.heap.objs.size f cdv))) :
    PSs (cxOf (L2.CX P w) P w K mg base N_Disk_flush "Disk.flush" (defScope s_Disk_flush) f cdv A outer s H E) (defBody s_Disk_flush) (t_Disk_flush K sp_Disk_spend E) := by
  unfold t_Disk_flush
  exact
    (pss_cons (ps_expr (pe_mX0 c_Disk_spend hr (by decide) (takes_of rfl rfl rfl rfl) (pv 0)))
    (pss_cons (ps_for (passes_of rfl) rfl (pi_any (pe_fld (pv 0) (by rfl))) (pg_unp rfl (pgs_cons (pg_name (i := 1) sc_Disk_flush.nd rfl (by first | exact Or.inl rfl | exact Or.inr rfl)) (pgs_cons (pg_name (i := 2) sc_Disk_flush.nd rfl (by first | exact Or.inl rfl | exact Or.inr rfl)) pgs_nil))) (pss_one (ps_asg (pv 2) (pg_sub (pe_fld (pv 0) (by rfl)) (pv 1) set_list))))
    (pss_one (ps_fld (pv 0) (pe_lst pa_nil) (by rfl)))))
theorem ok_Disk_flush (g : G K mg) {sp_Disk_spend : Sp} (c_Disk_spend : MetX P w K mg base 2 (He.ga K "Disk") "_spend" sp_Disk_spend) {sp : Sp} (F : ∃ fd, FunD K "flush" "Disk.flush" (defArgs s_Disk_flush) (defBody s_Disk_flush) (defScope s_Disk_flush) [] [] (He.ma K (He.ga K "Disk") "flush") fd)
    (hsp : ∀ vs H Q E, sp vs H Q E → vs.length = 1 ∧ t_Disk_flush K sp_Disk_spend E { nx := fun _ H' => Q .non H', rt := Q } (start N_Disk_flush vs) H) : MetX P w K mg base 3 (He.ga K "Disk") "flush" sp := by
  obtain ⟨fd, F⟩ := F
  exact ⟨_, fd, ["self"], g.cls_Disk, g.me_Disk_flush, FunD.ok F sc_Disk_flush (fun vs H Q E h => (hsp vs H Q E h).1) (fun cdv A outer s H vs Q E hr h => ⟨_, d_Disk_flush g c_Disk_spend hr, (hsp vs H Q E h).2⟩), (F.bindsN fun _ _ _ _ _ _ us hl => match us, hl with | [_], _ => rfl)⟩
abbrev N_Disk_pending_count : List Str := ["self"]
theorem sc_Disk_pending_count : FnScope N_Disk_pending_count ["self"] (defScope s_Disk_pending_count) := ⟨rfl, rfl, rfl, by decide +kernel, rfl, by decide +kernel, by decide +kernel⟩
def t_Disk_pending_count (K : PySem.W.Frag) : TS :=
    (tRet (tCB (rLenX K) (tCons (tFld K (tVar 0) "_pending") tNil)))
theorem d_Disk_pending_count (g : G K mg) {f : Addr} {cdv : Value} {A : Around} {outer : List Env} {s : Shared} {H : Hp} {E : XK} (hr : Room 0 (A.deeper (envOfC "Disk.pending_count" (defScope s_Disk_pending_count) s.heap.objs.size f cdv))) :
    PSs (cxOf CX0 P w K mg base N_Disk_pending_count "Disk.pending_count" (defScope s_Disk_pending_count) f cdv A outer s H E).nox (defBody s_Disk_pending_count) (t_Disk_pending_count K) := by
  unfold t_Disk_pending_count
  exact
    (pss_one (ps_ret (pe_callB c_len (by rfl) g.b_len (by decide +kernel) (pa_cons (pe_fld (pv 0) (by rfl)) pa_nil))))
theorem ok_Disk_pending_count (g : G K mg) {sp : Sp} (F : ∃ fd, FunD K "pending_count" "Disk.pending_count" (defArgs s_Disk_pending_count) (defBody s_Disk_pending_count) (defScope s_Disk_pending_count) [] [] (He.ma K (He.ga K "Disk") "pending_count") fd)
    (hsp : ∀ vs H Q E, sp vs H Q E → vs.length = 1 ∧ t_Disk_pending_count K { nx := fun _ H' => Q .non H', rt := Q } (start N_Disk_pending_count vs) H) : C8.Met P w K mg base 1 (He.ga K "Disk") "pending_count" sp [] := by
  obtain ⟨fd, F⟩ := F
  exact ⟨_, fd, ["self"], [], g.cls_Disk, g.me_Disk_pending_count, FunD.ok F sc_Disk_pending_count (fun vs H Q E h => (hsp vs H Q E h).1) (fun cdv A outer s H vs Q E hr h => ⟨_, PSs.nox (d_Disk_pending_count g hr), (hsp vs H Q E h).2⟩), (F.bindsN fun _ _ _ _ _ _ us hl => match us, hl with | [_], _ => rfl), .nil⟩
abbrev N_Disk_cut_count : List Str := ["self"]
theorem sc_Disk_cut_count : FnScope N_Disk_cut_count ["self"] (defScope s_Disk_cut_count) := ⟨rfl, rfl, rfl, by decide +kernel, rfl, by decide +kernel, by decide +kernel⟩
def t_Disk_cut_count (K : PySem.W.Frag) : TS :=
    (tRet (tFld K (tVar 0) "_cuts"))
theorem d_Disk_cut_count (g : G K mg) {f : Addr} {cdv : Value} {A : Around} {outer : List Env} {s : Shared} {H : Hp} {E : XK} (hr : Room 0 (A.deeper (envOfC "Disk.cut_count" (defScope s_Disk_cut_count) s.heap.objs.size f cdv))) :
    PSs (cxOf CX0 P w K mg base N_Disk_cut_count "Disk.cut_count" (defScope s_Disk_cut_count) f cdv A outer s H E).nox (defBody s_Disk_cut_count) (t_Disk_cut_count K) := by
  unfold t_Disk_cut_count
  exact
    (pss_one (ps_ret (pe_fld (pv 0) (by rfl))))
theorem ok_Disk_cut_count (g : G K mg) {sp : Sp} (F : ∃ fd, FunD K "cut_count" "Disk.cut_count" (defArgs s_Disk_cut_count) (defBody s_Disk_cut_count) (defScope s_Disk_cut_count) [] [] (He.ma K (He.ga K "Disk") "cut_count") fd)
    (hsp : ∀ vs H Q E, sp vs H Q E → vs.length = 1 ∧ t_Disk_cut_count K { nx := fun _ H' => Q .non H', rt := Q } (start N_Disk_cut_count vs) H) : C8.Met P w K mg base 1 (He.ga K "Disk") "cut_count" sp [] := by
  obtain ⟨fd, F⟩ := F
  exact ⟨_, fd, ["self"], [], g.cls_Disk, g.me_Disk_cut_count, FunD.ok F sc_Disk_cut_count (fun vs H Q E h => (hsp vs H Q E h).1) (fun cdv A outer s H vs Q E hr h => ⟨_, PSs.nox (d_Disk_cut_count g hr), (hsp vs H Q E h).2⟩), (F.bindsN fun _ _ _ _ _ _ us hl => match us, hl with | [_], _ => rfl), .nil⟩
abbrev N_Log_init : List Str := ["self", "disk", "records", "end"]
theorem sc_Log_init : FnScope N_Log_init ["self", "disk", "records", "end"] (defScope s_Log_init) := ⟨rfl, rfl, rfl, by decide +kernel, rfl, by decide +kernel, by decide +kernel⟩
def t_Log_init (K : PySem.W.Frag) (sp_Disk_cut_count : Sp) : TS :=
    (tSeq (sFld K (tVar 0) (tVar 1) "_disk")
    (tSeq (sFld K (tVar 0) (tVar 2) "_records")
    (tSeq (sFld K (tVar 0) (tVar 3) "_end")
    (sFld K (tVar 0) (tMeth (He.ga K "Disk") "cut_count" sp_Disk_cut_count [] C8.E0 (tVar 1) tNil) "_cuts"))))
theorem d_Log_init (g : G K mg) {sp_Disk_cut_count : Sp} (c_Disk_cut_count : C8.Met P w K mg base 1 (He.ga K "Disk") "cut_count" sp_Disk_cut_count []) {f : Addr} {cdv : Value} {A : Around} {outer : List Env} {s : Shared} {H : Hp} {E : XK} (hr : Room 1 (A.deeper (envOfC "Log.__init__" (defScope s_Log_init) s.heap.objs.size f cdv))) :
    PSs (cxOf CX0 P w K mg base N_Log_init "Log.__init__" (defScope s_Log_init) f cdv A outer s H E).nox (defBody s_Log_init) (t_Log_init K sp_Disk_cut_count) := by
  unfold t_Log_init
  exact
    (pss_cons (ps_fld (pv 0) (pv 1) (by rfl))
    (pss_cons (ps_fld (pv 0) (pv 2) (by rfl))
    (pss_cons (ps_fld (pv 0) (pv 3) (by rfl))
    (pss_one (ps_fld (pv 0) (C8.pe_mt0 c_Disk_cut_count hr (by decide) (pv 1)) (by rfl))))))
theorem ok_Log_init (g : G K mg) {sp_Disk_cut_count : Sp} (c_Disk_cut_count : C8.Met P w K mg base 1 (He.ga K "Disk") "cut_count" sp_Disk_cut_count []) {sp : Sp} (F : ∃ fd, FunD K "__init__" "Log.__init__" (defArgs s_Log_init) (defBody s_Log_init) (defScope s_Log_init) [] [] (He.ma K (He.ga K "Log") "__init__") fd)
    (hsp : ∀ vs H Q E, sp vs H Q E → vs.length = 4 ∧ t_Log_init K sp_Disk_cut_count { nx := fun _ H' => Q .non H', rt := Q } (start N_Log_init vs) H) : C8.Mak P w K mg base 2 "Log" (He.ga K "Log") sp [] := by
  obtain ⟨fd, F⟩ := F
  exact ⟨_, fd, ["self", "disk", "records", "end"], [], g.mkr_Log, FunD.ok F sc_Log_init (fun vs H Q E h => (hsp vs H Q E h).1) (fun cdv A outer s H vs Q E hr h => ⟨_, PSs.nox (d_Log_init g c_Disk_cut_count hr), (hsp vs H Q E h).2⟩), g.k_Log, (F.bindsN fun _ _ _ _ _ _ us hl => match us, hl with | [_, _, _, _], _ => rfl), .nil⟩
abbrev N_Log_check_open : List Str := ["self"]
theorem sc_Log_check_open : FnScope N_Log_check_open ["self"] (defScope s_Log_check_open) := ⟨rfl, rfl, rfl, by decide +kernel, rfl, by decide +kernel, by decide +kernel⟩
def t_Log_check_open (K : PySem.W.Frag) (sp_Disk_cut_count : Sp) (E : XK) : TS :=
    (tIfS (tTest (tOp (rNeX K) (tMeth (He.ga K "Disk") "cut_count" sp_Disk_cut_count [] C8.E0 (tFld K (tVar 0) "_disk") tNil) (tFld K (tVar 0) "_cuts"))) (tRaiseB (He.ga K "NotOpen") (fun cls d _ H => E cls d H)) tNext)
theorem d_Log_check_open (g : G K mg) {sp_Disk_cut_count : Sp} (c_Disk_cut_count : C8.Met P w K mg base 1 (He.ga K "Disk") "cut_count" sp_Disk_cut_count []) {f : Addr} {cdv : Value} {A : Around} {outer : List Env} {s : Shared} {H : Hp} {E : XK} (hr : Room 1 (A.deeper (envOfC "Log.check_open" (defScope s_Log_check_open) s.heap.objs.size f cdv))) :
    PSs (cxOf (L2.CX P w) P w K mg base N_Log_check_open "Log.check_open" (defScope s_Log_check_open) f cdv A outer s H E) (defBody s_Log_check_open) (t_Log_check_open K sp_Disk_cut_count E) := by
  unfold t_Log_check_open
  exact
    (pss_one (ps_if (pt_cmpR (o_ne hr.units) (C8.pe_mt0 c_Disk_cut_count hr (by decide) (pe_fld (pv 0) (by rfl))) (pe_fld (pv 0) (by rfl)) (nomark _)) (pss_one (ps_rB g.x_NotOpen rfl (takes_of rfl rfl rfl rfl) rfl)) pss_nil))
theorem ok_Log_check_open (g : G K mg) {sp_Disk_cut_count : Sp} (c_Disk_cut_count : C8.Met P w K mg base 1 (He.ga K "Disk") "cut_count" sp_Disk_cut_count []) {sp : Sp} (F : ∃ fd, FunD K "check_open" "Log.check_open" (defArgs s_Log_check_open) (defBody s_Log_check_open) (defScope s_Log_check_open) [] [] (He.ma K (He.ga K "Log") "check_open") fd)
    (hsp : ∀ vs H Q E, sp vs H Q E → vs.length = 1 ∧ t_Log_check_open K sp_Disk_cut_count E { nx := fun _ H' => Q .non H', rt := Q } (start N_Log_check_open vs) H) : MetX P w K mg base 2 (He.ga K "Log") "check_open" sp := by
  obtain ⟨fd, F⟩ := F
  exact ⟨_, fd, ["self"], g.cls_Log, g.me_Log_check_open, FunD.ok F sc_Log_check_open (fun vs H Q E h => (hsp vs H Q E h).1) (fun cdv A outer s H vs Q E hr h => ⟨_, d_Log_check_open g c_Disk_cut_count hr, (hsp vs H Q E h).2⟩), (F.bindsN fun _ _ _ _ _ _ us hl => match us, hl with | [_], _ => rfl)⟩
abbrev N_Log_records : List Str := ["self"]
theorem sc_Log_records : FnScope N_Log_records ["self"] (defScope s_Log_records) := ⟨rfl, rfl, rfl, by decide +kernel, rfl, by decide +kernel, by decide +kernel⟩
def t_Log_records (K : PySem.W.Frag) : TS :=
    (tRet (tCB (rListOf K) (tCons (tFld K (tVar 0) "_records") tNil)))
theorem d_Log_records (g : G K mg) {f : Addr} {cdv : Value} {A : Around} {outer : List Env} {s : Shared} {H : Hp} {E : XK} (hr : Room 0 (A.deeper (envOfC "Log.records" (defScope s_Log_records) s.heap.objs.size f cdv))) :
    PSs (cxOf CX0 P w K mg base N_Log_records "Log.records" (defScope s_Log_records) f cdv A outer s H E).nox (defBody s_Log_records) (t_Log_records K) := by
  unfold t_Log_records
  exact
    (pss_one (ps_ret (pe_callTy c_list (by rfl) g.b_list (by decide +kernel) (pa_cons (pe_fld (pv 0) (by rfl)) pa_nil))))
theorem ok_Log_records (g : G K mg) {sp : Sp} (F : ∃ fd, FunD K "records" "Log.records" (defArgs s_Log_records) (defBody s_Log_records) (defScope s_Log_records) [] [] (He.ma K (He.ga K "Log") "records") fd)
    (hsp : ∀ vs H Q E, sp vs H Q E → vs.length = 1 ∧ t_Log_records K { nx := fun _ H' => Q .non H', rt := Q } (start N_Log_records vs) H) : C8.Met P w K mg base 1 (He.ga K "Log") "records" sp [] := by
  obtain ⟨fd, F⟩ := F
  exact ⟨_, fd, ["self"], [], g.cls_Log, g.me_Log_records, FunD.ok F sc_Log_records (fun vs H Q E h => (hsp vs H Q E h).1) (fun cdv A outer s H vs Q E hr h => ⟨_, PSs.nox (d_Log_records g hr), (hsp vs H Q E h).2⟩), (F.bindsN fun _ _ _ _ _ _ us hl => match us, hl with | [_], _ => rfl), .nil⟩
abbrev N_Log_blocks_of : List Str := ["self", "rows", "blocks", "at", "record"]
theorem sc_Log_blocks_of : FnScope N_Log_blocks_of ["self", "rows"] (defScope s_Log_blocks_of) := ⟨rfl, rfl, rfl, by decide +kernel, rfl, by decide +kernel, by decide +kernel⟩
def t_Log_blocks_of (K : PySem.W.Frag) (sp_encode_record : Sp) (sp_write_record : Sp) : TS :=
    (tSeq (tAsg (tLst tNil) (gName 2))
    (tSeq (tFor (iEnum K (tCons (tVar 1) tNil)) (gUnp K 2 (gCons (gName 3) (gCons (gName 4) gNil))) (tDrop (tBM K "list" rExtend (tVar 2) (tCons (tCall sp_encode_record [] C8.E0 (tCons (tOp (rPlus K) (tCB (rLenX K) (tCons (tFld K (tVar 0) "_records") tNil)) (tVar 3)) (tCons (tCall sp_write_record [] C8.E0 (tCons (tVar 4) tNil)) tNil))) tNil))))
    (tRet (tVar 2))))
theorem d_Log_blocks_of (g : G K mg) {sp_encode_record : Sp} (c_encode_record : C8.Cal P w K mg base 2 "encode_record" sp_encode_record []) {sp_write_record : Sp} (c_write_record : C8.Cal P w K mg base 2 "write_record" sp_write_record []) {f : Addr} {cdv : Value} {A : Around} {outer : List Env} {s : Shared} {H : Hp} {E : XK} (hr : Room 2 (A.deeper (envOfC "Log._blocks_of" (defScope s_Log_blocks_of) s.heap.objs.size f cdv))) :
    PSs (cxOf CX0 P w K mg base N_Log_blocks_of "Log._blocks_of" (defScope s_Log_blocks_of) f cdv A outer s H E).nox (defBody s_Log_blocks_of) (t_Log_blocks_of K sp_encode_record sp_write_record) := by
  unfold t_Log_blocks_of
  exact
    (pss_cons (ps_set (i := 2) sc_Log_blocks_of.nd rfl (by first | exact Or.inl rfl | exact Or.inr rfl) (pe_lst pa_nil))
    (pss_cons (ps_for PassesOwn.never rfl (pi_enum rfl g.b_enumerate (pa_cons (pv 1) pa_nil)) (pg_unp rfl (pgs_cons (pg_name (i := 3) sc_Log_blocks_of.nd rfl (by first | exact Or.inl rfl | exact Or.inr rfl)) (pgs_cons (pg_name (i := 4) sc_Log_blocks_of.nd rfl (by first | exact Or.inl rfl | exact Or.inr rfl)) pgs_nil))) (pss_one (ps_expr (pe_bm PySem.F.plainAttrs_list PySem.F.slot_list_extend PySem.F.type_list_extend mt_extend (pv 2) (pa_cons (C8.pe_c c_encode_record hr (by decide) rfl (pa_cons (pe_op o_plus (pe_callB c_len (by rfl) g.b_len (by decide +kernel) (pa_cons (pe_fld (pv 0) (by rfl)) pa_nil)) (pv 3)) (pa_cons (C8.pe_c c_write_record hr (by decide) rfl (pa_cons (pv 4) pa_nil)) pa_nil))) pa_nil)))))
    (pss_one (ps_ret (pv 2)))))
theorem ok_Log_blocks_of (g : G K mg) {sp_encode_record : Sp} (c_encode_record : C8.Cal P w K mg base 2 "encode_record" sp_encode_record []) {sp_write_record : Sp} (c_write_record : C8.Cal P w K mg base 2 "write_record" sp_write_record []) {sp : Sp} (F : ∃ fd, FunD K "_blocks_of" "Log._blocks_of" (defArgs s_Log_blocks_of) (defBody s_Log_blocks_of) (defScope s_Log_blocks_of) [] [] (He.ma K (He.ga K "Log") "_blocks_of") fd)
    (hsp : ∀ vs H Q E, sp vs H Q E → vs.length = 2 ∧ t_Log_blocks_of K sp_encode_record sp_write_record { nx := fun _ H' => Q .non H', rt := Q } (start N_Log_blocks_of vs) H) : C8.Met P w K mg base 3 (He.ga K "Log") "_blocks_of" sp [] := by
  obtain ⟨fd, F⟩ := F
  exact ⟨_, fd, ["self", "rows"], [], g.cls_Log, g.me_Log_blocks_of, FunD.ok F sc_Log_blocks_of (fun vs H Q E h => (hsp vs H Q E h).1) (fun cdv A outer s H vs Q E hr h => ⟨_, PSs.nox (d_Log_blocks_of g c_encode_record c_write_record hr), (hsp vs H Q E h).2⟩), (F.bindsN fun _ _ _ _ _ _ us hl => match us, hl with | [_, _], _ => rfl), .nil⟩
abbrev N_Log_room : List Str := ["self", "rows"]
theorem sc_Log_room : FnScope N_Log_room ["self", "rows"] (defScope s_Log_room) := ⟨rfl, rfl, rfl, by decide +kernel, rfl, by decide +kernel, by decide +kernel⟩
def t_Log_room (K : PySem.W.Frag) (sp_Log_blocks_of : Sp) (sp_Log_free_blocks : Sp) : TS :=
    (tRet (tOp rLe (tCB (rLenX K) (tCons (tMeth (He.ga K "Log") "_blocks_of" sp_Log_blocks_of [] C8.E0 (tVar 0) (tCons (tVar 1) tNil)) tNil)) (tMeth (He.ga K "Log") "free_blocks" sp_Log_free_blocks [] C8.E0 (tVar 0) tNil)))
theorem d_Log_room (g : G K mg) {sp_Log_blocks_of : Sp} (c_Log_blocks_of : C8.Met P w K mg base 3 (He.ga K "Log") "_blocks_of" sp_Log_blocks_of []) {sp_Log_free_blocks : Sp} (c_Log_free_blocks : C8.Met P w K mg base 2 (He.ga K "Log") "free_blocks" sp_Log_free_blocks []) {f : Addr} {cdv : Value} {A : Around} {outer : List Env} {s : Shared} {H : Hp} {E : XK} (hr : Room 3 (A.deeper (envOfC "Log.room" (defScope s_Log_room) s.heap.objs.size f cdv))) :
    PSs (cxOf CX0 P w K mg base N_Log_room "Log.room" (defScope s_Log_room) f cdv A outer s H E).nox (defBody s_Log_room) (t_Log_room K sp_Log_blocks_of sp_Log_free_blocks) := by
  unfold t_Log_room
  exact
    (pss_one (ps_ret (pe_cmpR o_le (pe_callB c_len (by rfl) g.b_len (by decide +kernel) (pa_cons (C8.pe_mt c_Log_blocks_of hr (by decide) (pv 0) (pa_cons (pv 1) pa_nil)) pa_nil)) (C8.pe_mt0 c_Log_free_blocks hr (by decide) (pv 0)) (nomark _))))
theorem ok_Log_room (g : G K mg) {sp_Log_blocks_of : Sp} (c_Log_blocks_of : C8.Met P w K mg base 3 (He.ga K "Log") "_blocks_of" sp_Log_blocks_of []) {sp_Log_free_blocks : Sp} (c_Log_free_blocks : C8.Met P w K mg base 2 (He.ga K "Log") "free_blocks" sp_Log_free_blocks []) {sp : Sp} (F : ∃ fd, FunD K "room" "Log.room" (defArgs s_Log_room) (defBody s_Log_room) (defScope s_Log_room) [] [] (He.ma K (He.ga K "Log") "room") fd)
    (hsp : ∀ vs H Q E, sp vs H Q E → vs.length = 2 ∧ t_Log_room K sp_Log_blocks_of sp_Log_free_blocks { nx := fun _ H' => Q .non H', rt := Q } (start N_Log_room vs) H) : C8.Met P w K mg base 4 (He.ga K "Log") "room" sp [] := by
  obtain ⟨fd, F⟩ := F
  exact ⟨_, fd, ["self", "rows"], [], g.cls_Log, g.me_Log_room, FunD.ok F sc_Log_room (fun vs H Q E h => (hsp vs H Q E h).1) (fun cdv A outer s H vs Q E hr h => ⟨_, PSs.nox (d_Log_room g c_Log_blocks_of c_Log_free_blocks hr), (hsp vs H Q E h).2⟩), (F.bindsN fun _ _ _ _ _ _ us hl => match us, hl with | [_, _], _ => rfl), .nil⟩
abbrev N_Log_append : List Str := ["self", "rows", "blocks"]
theorem sc_Log_append : FnScope N_Log_append ["self", "rows"] (defScope s_Log_append) := ⟨rfl, rfl, rfl, by decide +kernel, rfl, by decide +kernel, by decide +kernel⟩
def t_Log_append (K : PySem.W.Frag) (sp_write_blocks : Sp) (sp_Log_free_blocks : Sp) (sp_Log_blocks_of : Sp) (sp_Log_check_open : Sp) (E : XK) : TS :=
    (tSeq (tDrop (tMethS (He.ga K "Log") "check_open" sp_Log_check_open (WE (fun cls d _ H => E cls d H)) (tVar 0) tNil))
    (tSeq (tAsg (tMeth (He.ga K "Log") "_blocks_of" sp_Log_blocks_of [] C8.E0 (tVar 0) (tCons (tVar 1) tNil)) (gName 2))
    (tSeq (tIfS (tTest (tOp rGt (tCB (rLenX K) (tCons (tVar 2) tNil)) (tMeth (He.ga K "Log") "free_blocks" sp_Log_free_blocks [] C8.E0 (tVar 0) tNil))) (tRaiseB (He.ga K "LogFull") (fun cls d _ H => E cls d H)) tNext)
    (tSeq (tDrop (tCallS sp_write_blocks (WE (fun cls d _ H => E cls d H)) (tCons (tFld K (tVar 0) "_disk") (tCons (tFld K (tVar 0) "_end") (tCons (tVar 2) tNil)))))
    (tSeq (tDrop (tBM K "list" rExtend (tFld K (tVar 0) "_records") (tCons (tVar 1) tNil)))
    (tSeq (sFld K (tVar 0) (tOp (rPlus K) (tFld K (tVar 0) "_end") (tCB (rLenX K) (tCons (tVar 2) tNil))) "_end")
    (tRet (tCB (rLenX K) (tCons (tFld K (tVar 0) "_records") tNil)))))))))
theorem d_Log_append (g : G K mg) {sp_write_blocks : Sp} (c_write_blocks : CalX P w K mg base 5 "_write_blocks" sp_write_blocks) {sp_Log_free_blocks : Sp} (c_Log_free_blocks : C8.Met P w K mg base 2 (He.ga K "Log") "free_blocks" sp_Log_free_blocks []) {sp_Log_blocks_of : Sp} (c_Log_blocks_of : C8.Met P w K mg base 3 (He.ga K "Log") "_blocks_of" sp_Log_blocks_of []) {sp_Log_check_open : Sp} (c_Log_check_open : MetX P w K mg base 2 (He.ga K "Log") "check_open" sp_Log_check_open) {f : Addr} {cdv : Value} {A : Around} {outer : List Env} {s : Shared} {H : Hp} {E : XK} (hr : Room 5 (A.deeper (envOfC "Log.append" (defScope s_Log_append) s.heap.objs.size f cdv))) :
    PSs (cxOf (L2.CX P w) P w K mg base N_Log_append "Log.append" (defScope s_Log_append) f cdv A outer s H E) (defBody s_Log_append) (t_Log_append K sp_write_blocks sp_Log_free_blocks sp_Log_blocks_of sp_Log_check_open E) := by
  unfold t_Log_append
  exact
    (pss_cons (ps_expr (pe_mX0 c_Log_check_open hr (by decide) (takes_of rfl rfl rfl rfl) (pv 0)))
    (pss_cons (ps_set (i := 2) sc_Log_append.nd rfl (by first | exact Or.inl rfl | exact Or.inr rfl) (C8.pe_mt c_Log_blocks_of hr (by decide) (pv 0) (pa_cons (pv 1) pa_nil)))
    (pss_cons (ps_if (pt_cmpR o_gt (pe_callB c_len (by rfl) g.b_len (by decide +kernel) (pa_cons (pv 2) pa_nil)) (C8.pe_mt0 c_Log_free_blocks hr (by decide) (pv 0)) (nomark _)) (pss_one (ps_rB g.x_LogFull rfl (takes_of rfl rfl rfl rfl) rfl)) pss_nil)
    (pss_cons (ps_expr (pe_cX c_write_blocks hr (by decide) (takes_of rfl rfl rfl rfl) rfl (pa_cons (pe_fld (pv 0) (by rfl)) (pa_cons (pe_fld (pv 0) (by rfl)) (pa_cons (pv 2) pa_nil)))))
    (pss_cons (ps_expr (pe_bm PySem.F.plainAttrs_list PySem.F.slot_list_extend PySem.F.type_list_extend mt_extend (pe_fld (pv 0) (by rfl)) (pa_cons (pv 1) pa_nil)))
    (pss_cons (ps_fld (pv 0) (pe_op o_plus (pe_fld (pv 0) (by rfl)) (pe_callB c_len (by rfl) g.b_len (by decide +kernel) (pa_cons (pv 2) pa_nil))) (by rfl))
    (pss_one (ps_ret (pe_callB c_len (by rfl) g.b_len (by decide +kernel) (pa_cons (pe_fld (pv 0) (by rfl)) pa_nil))))))))))
theorem ok_Log_append (g : G K mg) {sp_write_blocks : Sp} (c_write_blocks : CalX P w K mg base 5 "_write_blocks" sp_write_blocks) {sp_Log_free_blocks : Sp} (c_Log_free_blocks : C8.Met P w K mg base 2 (He.ga K "Log") "free_blocks" sp_Log_free_blocks []) {sp_Log_blocks_of : Sp} (c_Log_blocks_of : C8.Met P w K mg base 3 (He.ga K "Log") "_blocks_of" sp_Log_blocks_of []) {sp_Log_check_open : Sp} (c_Log_check_open : MetX P w K mg base 2 (He.ga K "Log") "check_open" sp_Log_check_open) {sp : Sp} (F : ∃ fd, FunD K "append" "Log.append" (defArgs s_Log_append) (defBody s_Log_append) (defScope s_Log_append) [] [] (He.ma K (He.ga K "Log") "append") fd)
    (hsp : ∀ vs H Q E, sp vs H Q E → vs.length = 2 ∧ t_Log_append K sp_write_blocks sp_Log_free_blocks sp_Log_blocks_of sp_Log_check_open E { nx := fun _ H' => Q .non H', rt := Q } (start N_Log_append vs) H) : MetX P w K mg base 6 (He.ga K "Log") "append" sp := by
  obtain ⟨fd, F⟩ := F
  exact ⟨_, fd, ["self", "rows"], g.cls_Log, g.me_Log_append, FunD.ok F sc_Log_append (fun vs H Q E h => (hsp vs H Q E h).1) (fun cdv A outer s H vs Q E hr h => ⟨_, d_Log_append g c_write_blocks c_Log_free_blocks c_Log_blocks_of c_Log_check_open hr, (hsp vs H Q E h).2⟩), (F.bindsN fun _ _ _ _ _ _ us hl => match us, hl with | [_, _], _ => rfl)⟩
abbrev N_Log_sync : List Str := ["self"]
theorem sc_Log_sync : FnScope N_Log_sync ["self"] (defScope s_Log_sync) := ⟨rfl, rfl, rfl, by decide +kernel, rfl, by decide +kernel, by decide +kernel⟩
def t_Log_sync (K : PySem.W.Frag) (sp_Disk_flush : Sp) (sp_Log_check_open : Sp) (E : XK) : TS :=
    (tSeq (tDrop (tMethS (He.ga K "Log") "check_open" sp_Log_check_open (WE (fun cls d _ H => E cls d H)) (tVar 0) tNil))
    (tDrop (tMethS (He.ga K "Disk") "flush" sp_Disk_flush (WE (fun cls d _ H => E cls d H)) (tFld K (tVar 0) "_disk") tNil)))
theorem d_Log_sync (g : G K mg) {sp_Disk_flush : Sp} (c_Disk_flush : MetX P w K mg base 3 (He.ga K "Disk") "flush" sp_Disk_flush) {sp_Log_check_open : Sp} (c_Log_check_open : MetX P w K mg base 2 (He.ga K "Log") "check_open" sp_Log_check_open) {f : Addr} {cdv : Value} {A : Around} {outer : List Env} {s : Shared} {H : Hp} {E : XK} (hr : Room 3 (A.deeper (envOfC "Log.sync" (defScope s_Log_sync) s.heap.objs.size f cdv))) :
    PSs (cxOf (L2.CX P w) P w K mg base N_Log_sync "Log.sync" (defScope s_Log_sync) f cdv A outer s H E) (defBody s_Log_sync) (t_Log_sync K sp_Disk_flush sp_Log_check_open E) := by
  unfold t_Log_sync
  exact
    (pss_cons (ps_expr (pe_mX0 c_Log_check_open hr (by decide) (takes_of rfl rfl rfl rfl) (pv 0)))
    (pss_one (ps_expr (pe_mX0 c_Disk_flush hr (by decide) (takes_of rfl rfl rfl rfl) (pe_fld (pv 0) (by rfl))))))
theorem ok_Log_sync (g : G K mg) {sp_Disk_flush : Sp} (c_Disk_flush : MetX P w K mg base 3 (He.ga K "Disk") "flush" sp_Disk_flush) {sp_Log_check_open : Sp} (c_Log_check_open : MetX P w K mg base 2 (He.ga K "Log") "check_open" sp_Log_check_open) {sp : Sp} (F : ∃ fd, FunD K "sync" "Log.sync" (defArgs s_Log_sync) (defBody s_Log_sync) (defScope s_Log_sync) [] [] (He.ma K (He.ga K "Log") "sync") fd)
    (hsp : ∀ vs H Q E, sp vs H Q E → vs.length = 1 ∧ t_Log_sync K sp_Disk_flush sp_Log_check_open E { nx := fun _ H' => Q .non H', rt := Q } (start N_Log_sync vs) H) : MetX P w K mg base 4 (He.ga K "Log") "sync" sp := by
  obtain ⟨fd, F⟩ := F
  exact ⟨_, fd, ["self"], g.cls_Log, g.me_Log_sync, FunD.ok F sc_Log_sync (fun vs H Q E h => (hsp vs H Q E h).1) (fun cdv A outer s H vs Q E hr h => ⟨_, d_Log_sync g c_Disk_flush c_Log_check_open hr, (hsp vs H Q E h).2⟩), (F.bindsN fun _ _ _ _ _ _ us hl => match us, hl with | [_], _ => rfl)⟩
abbrev N_Log_free_blocks : List Str := ["self"]
theorem sc_Log_free_blocks : FnScope N_Log_free_blocks ["self"] (defScope s_Log_free_blocks) := ⟨rfl, rfl, rfl, by decide +kernel, rfl, by decide +kernel, by decide +kernel⟩
def t_Log_free_blocks (K : PySem.W.Frag) (sp_Disk_size : Sp) : TS :=
    (tRet (tOp rMinus (tMeth (He.ga K "Disk") "size" sp_Disk_size [] C8.E0 (tFld K (tVar 0) "_disk") tNil) (tFld K (tVar 0) "_end")))
theorem d_Log_free_blocks (g : G K mg) {sp_Disk_size : Sp} (c_Disk_size : C8.Met P w K mg base 1 (He.ga K "Disk") "size" sp_Disk_size []) {f : Addr} {cdv : Value} {A : Around} {outer : List Env} {s : Shared} {H : Hp} {E : XK} (hr : Room 1 (A.deeper (envOfC "Log.free_blocks" (defScope s_Log_free_blocks) s.heap.objs.size f cdv))) :
    PSs (cxOf CX0 P w K mg base N_Log_free_blocks "Log.free_blocks" (defScope s_Log_free_blocks) f cdv A outer s H E).nox (defBody s_Log_free_blocks) (t_Log_free_blocks K sp_Disk_size) := by
  unfold t_Log_free_blocks
  exact
    (pss_one (ps_ret (pe_op o_minus (C8.pe_mt0 c_Disk_size hr (by decide) (pe_fld (pv 0) (by rfl))) (pe_fld (pv 0) (by rfl)))))
theorem ok_Log_free_blocks (g : G K mg) {sp_Disk_size : Sp} (c_Disk_size : C8.Met P w K mg base 1 (He.ga K "Disk") "size" sp_Disk_size []) {sp : Sp} (F : ∃ fd, FunD K "free_blocks" "Log.free_blocks" (defArgs s_Log_free_blocks) (defBody s_Log_free_blocks) (defScope s_Log_free_blocks) [] [] (He.ma K (He.ga K "Log") "free_blocks") fd)
    (hsp : ∀ vs H Q E, sp vs H Q E → vs.length = 1 ∧ t_Log_free_blocks K sp_Disk_size { nx := fun _ H' => Q .non H', rt := Q } (start N_Log_free_blocks vs) H) : C8.Met P w K mg base 2 (He.ga K "Log") "free_blocks" sp [] := by
  obtain ⟨fd, F⟩ := F
  exact ⟨_, fd, ["self"], [], g.cls_Log, g.me_Log_free_blocks, FunD.ok F sc_Log_free_blocks (fun vs H Q E h => (hsp vs H Q E h).1) (fun cdv A outer s H vs Q E hr h => ⟨_, PSs.nox (d_Log_free_blocks g c_Disk_size hr), (hsp vs H Q E h).2⟩), (F.bindsN fun _ _ _ _ _ _ us hl => match us, hl with | [_], _ => rfl), .nil⟩
abbrev N_OutOfRange : List Str := ["self", "name"]
theorem sc_OutOfRange : FnScope N_OutOfRange N_OutOfRange (defScope s_OutOfRange) := ⟨rfl, rfl, rfl, by decide +kernel, rfl, by decide +kernel, by decide +kernel⟩
theorem ok_OutOfRange (g : G K mg) (cf : CF K) (F : ∃ fd, FunD K "__init__" "OutOfRange.__init__" (defArgs s_OutOfRange) (defBody s_OutOfRange) (defScope s_OutOfRange) [] [] (He.ma K (He.ga K "OutOfRange") "__init__") fd) : Oex P w K mg base 1 "OutOfRange" (He.ga K "OutOfRange") "name" := by
  obtain ⟨fd, F⟩ := F
  refine ⟨cf.ox_OutOfRange, cf.xn_OutOfRange, _, fd, N_OutOfRange, g.mi_OutOfRange.at_, beq_iff_eq.mp g.mi_OutOfRange.fn, FunD.ok F sc_OutOfRange (fun vs H Q E h => ?_) (fun cdv A outer s H vs Q E hr h => ?_), g.k_OutOfRange, F.bindsN fun _ _ _ _ _ _ us hl => match us, hl with | [_, _], _ => rfl⟩
  · obtain ⟨L, a, v, rfl, r⟩ := h
    rfl
  · obtain ⟨L, a, v, rfl, r⟩ := h
    exact ⟨_, PSs.nox (pss_one (ps_ost (pv 0) (pv 1))), (p_exi (Q := Q) [.ref a, v] ⟨L, a, v, rfl, r⟩ (fun _ _ z => z)).2⟩
end
theorem tab_at {K : PySem.W.Frag} (h : tabs K = true) (i : Nat) {b : Bool} (e : (tabl K)[i]? = some b) : b = true := List.all_eq_true.mp h b (List.mem_of_getElem? e)
theorem mk_G {K : PySem.W.Frag} {h : Heap} {mg : Str → Option Value} (X : K.In h) (N : h.Ns mainGlobals mg) (c : He.SaysD hfa hfn K) (cx : tabs K = true) : G K mg where
  c_PIECE := (let ⟨t, h⟩ := He.int_ok X N (c.fact 0 (f := .int "PIECE" 24) rfl); ⟨_, h, t, rfl⟩)
  b_len := He.free_ok X N (c.fact 1 (f := .free "len") rfl)
  c_RECORD := (let ⟨t, h⟩ := He.int_ok X N (c.fact 2 (f := .int "RECORD" 83) rfl); ⟨_, h, t, rfl⟩)
  b_ord := He.free_ok X N (c.fact 3 (f := .free "ord") rfl)
  b_enumerate := He.free_ok X N (c.fact 4 (f := .free "enumerate") rfl)
  b_range := He.free_ok X N (c.fact 5 (f := .free "range") rfl)
  c_PERCENT := (let ⟨t, h⟩ := He.int_ok X N (c.fact 6 (f := .int "PERCENT" 37) rfl); ⟨_, h, t, rfl⟩)
  c_SIGNS := (let ⟨t, h⟩ := He.str_ok X N (c.fact 7 (f := .str "SIGNS" " !\"#$&'()*+,-./0123456789:;<=>?@ABCDEFGHIJKLMNOPQRSTUVWXYZ[\\]^_`abcdefghijklmnopqrstuvwxyz{|}~") rfl); ⟨_, h, t, rfl⟩)
  b_any := He.free_ok X N (c.fact 8 (f := .free "any") rfl)
  c_BLOCK := (let ⟨t, h⟩ := He.int_ok X N (c.fact 9 (f := .int "BLOCK" 32) rfl); ⟨_, h, t, rfl⟩)
  c_NAME_MOST := (let ⟨t, h⟩ := He.int_ok X N (c.fact 10 (f := .int "NAME_MOST" 6) rfl); ⟨_, h, t, rfl⟩)
  b_all := He.free_ok X N (c.fact 11 (f := .free "all") rfl)
  c_LETTERS := (let ⟨t, h⟩ := He.str_ok X N (c.fact 12 (f := .str "LETTERS" "abcdefghijklmnopqrstuvwxyz") rfl); ⟨_, h, t, rfl⟩)
  c_RESERVED := ⟨_, He.glo_ok X N (c.fact 13 (f := .glo "RESERVED") rfl), rfl⟩
  b_isinstance := He.free_ok X N (c.fact 14 (f := .free "isinstance") rfl)
  b_str := He.free_ok X N (c.fact 15 (f := .free "str") rfl)
  c_STRING_MOST := (let ⟨t, h⟩ := He.int_ok X N (c.fact 16 (f := .int "STRING_MOST" 20) rfl); ⟨_, h, t, rfl⟩)
  c_QUOTE := (let ⟨t, h⟩ := He.str_ok X N (c.fact 17 (f := .str "QUOTE" "\"") rfl); ⟨_, h, t, rfl⟩)
  b_int := He.free_ok X N (c.fact 18 (f := .free "int") rfl)
  c_NUMBER_MOST := (let ⟨t, h⟩ := He.int_ok X N (c.fact 19 (f := .int "NUMBER_MOST" 99999) rfl); ⟨_, h, t, rfl⟩)
  k_OutOfRange := He.glo_ok X N (c.fact 20 (f := .glo "OutOfRange") rfl)
  c_ENTRIES_MOST := (let ⟨t, h⟩ := He.int_ok X N (c.fact 21 (f := .int "ENTRIES_MOST" 3) rfl); ⟨_, h, t, rfl⟩)
  b_set := He.free_ok X N (c.fact 22 (f := .free "set") rfl)
  raw_NEWLINE_BAR := rawB_ok X N (tab_at cx 1 rfl)
  b_list := He.free_ok X N (c.fact 23 (f := .free "list") rfl)
  c_DIGITS := (let ⟨t, h⟩ := He.str_ok X N (c.fact 24 (f := .str "DIGITS" "0123456789") rfl); ⟨_, h, t, rfl⟩)
  b_tuple := He.free_ok X N (c.fact 25 (f := .free "tuple") rfl)
  c_ARGUMENTS_MOST := (let ⟨t, h⟩ := He.int_ok X N (c.fact 26 (f := .int "ARGUMENTS_MOST" 3) rfl); ⟨_, h, t, rfl⟩)
  c_NUMBERS_MOST := (let ⟨t, h⟩ := He.int_ok X N (c.fact 27 (f := .int "NUMBERS_MOST" 9999) rfl); ⟨_, h, t, rfl⟩)
  c_HOLDERS_MOST := (let ⟨t, h⟩ := He.int_ok X N (c.fact 28 (f := .int "HOLDERS_MOST" 3) rfl); ⟨_, h, t, rfl⟩)
  c_TEXT_MOST := (let ⟨t, h⟩ := He.int_ok X N (c.fact 29 (f := .int "TEXT_MOST" 600) rfl); ⟨_, h, t, rfl⟩)
  raw_BAR_NEWLINE := rawB_ok X N (tab_at cx 2 rfl)
  c_SOURCES_MOST := (let ⟨t, h⟩ := He.int_ok X N (c.fact 30 (f := .int "SOURCES_MOST" 8) rfl); ⟨_, h, t, rfl⟩)
  c_PIECES_MOST := (let ⟨t, h⟩ := He.int_ok X N (c.fact 31 (f := .int "PIECES_MOST" 30) rfl); ⟨_, h, t, rfl⟩)
  k_Log := He.glo_ok X N (c.fact 32 (f := .glo "Log") rfl)
  k_NotKept := He.glo_ok X N (c.fact 33 (f := .glo "NotKept") rfl)
  x_NotKept := (let ⟨h1, h2, h3, h4⟩ := He.exc_ok (c.fact 34 (f := .exc "NotKept") rfl); ⟨h1, He.glo_ok X N (c.fact 33 (f := .glo "NotKept") rfl), h2, h3, h4⟩)
  b_repr := He.free_ok X N (c.fact 35 (f := .free "repr") rfl)
  b_sum := He.free_ok X N (c.fact 36 (f := .free "sum") rfl)
  k_LogFull := He.glo_ok X N (c.fact 37 (f := .glo "LogFull") rfl)
  k_Disk := He.glo_ok X N (c.fact 38 (f := .glo "Disk") rfl)
  c_BLOCKS_LEAST := (let ⟨t, h⟩ := He.int_ok X N (c.fact 39 (f := .int "BLOCKS_LEAST" 8) rfl); ⟨_, h, t, rfl⟩)
  c_BLOCKS_MOST := (let ⟨t, h⟩ := He.int_ok X N (c.fact 40 (f := .int "BLOCKS_MOST" 400) rfl); ⟨_, h, t, rfl⟩)
  k_PowerCut := He.glo_ok X N (c.fact 41 (f := .glo "PowerCut") rfl)
  x_PowerCut := (let ⟨h1, h2, h3, h4⟩ := He.exc_ok (c.fact 42 (f := .exc "PowerCut") rfl); ⟨h1, He.glo_ok X N (c.fact 41 (f := .glo "PowerCut") rfl), h2, h3, h4⟩)
  k_NotOpen := He.glo_ok X N (c.fact 43 (f := .glo "NotOpen") rfl)
  x_NotOpen := (let ⟨h1, h2, h3, h4⟩ := He.exc_ok (c.fact 44 (f := .exc "NotOpen") rfl); ⟨h1, He.glo_ok X N (c.fact 43 (f := .glo "NotOpen") rfl), h2, h3, h4⟩)
  x_LogFull := (let ⟨h1, h2, h3, h4⟩ := He.exc_ok (c.fact 45 (f := .exc "LogFull") rfl); ⟨h1, He.glo_ok X N (c.fact 37 (f := .glo "LogFull") rfl), h2, h3, h4⟩)
  cls_Disk := He.cls_ok (c.fact 46 (f := .cls "Disk") rfl)
  mkr_Disk := He.mkr_ok (c.fact 47 (f := .mkr "Disk") rfl)
  cls_Log := He.cls_ok (c.fact 48 (f := .cls "Log") rfl)
  mkr_Log := He.mkr_ok (c.fact 49 (f := .mkr "Log") rfl)
  me_Disk_size := He.meth_ok (c.fact 50 (f := .meth "Disk" "size") rfl)
  me_Disk_check_at := He.meth_ok (c.fact 51 (f := .meth "Disk" "_check_at") rfl)
  me_Disk_read := He.meth_ok (c.fact 52 (f := .meth "Disk" "read") rfl)
  me_Disk_cut := He.meth_ok (c.fact 53 (f := .meth "Disk" "_cut") rfl)
  me_Disk_spend := He.meth_ok (c.fact 54 (f := .meth "Disk" "_spend") rfl)
  me_Disk_write := He.meth_ok (c.fact 55 (f := .meth "Disk" "write") rfl)
  me_Disk_flush := He.meth_ok (c.fact 56 (f := .meth "Disk" "flush") rfl)
  me_Disk_pending_count := He.meth_ok (c.fact 57 (f := .meth "Disk" "pending_count") rfl)
  me_Disk_cut_count := He.meth_ok (c.fact 58 (f := .meth "Disk" "cut_count") rfl)
  me_Log_check_open := He.meth_ok (c.fact 59 (f := .meth "Log" "check_open") rfl)
  me_Log_records := He.meth_ok (c.fact 60 (f := .meth "Log" "records") rfl)
  me_Log_blocks_of := He.meth_ok (c.fact 61 (f := .meth "Log" "_blocks_of") rfl)
  me_Log_room := He.meth_ok (c.fact 62 (f := .meth "Log" "room") rfl)
  me_Log_append := He.meth_ok (c.fact 63 (f := .meth "Log" "append") rfl)
  me_Log_sync := He.meth_ok (c.fact 64 (f := .meth "Log" "sync") rfl)
  me_Log_free_blocks := He.meth_ok (c.fact 65 (f := .meth "Log" "free_blocks") rfl)
  mi_OutOfRange := He.meth_ok (c.fact 75 (f := .meth "OutOfRange" "__init__") rfl)
  dummy := trivial
theorem mk_CF {K : PySem.W.Frag} (c : He.SaysD hfa hfn K) (cx : tabs K = true) : CF K where
  t_RESERVED := (tab_at cx 0 rfl)
  cls_Disk := He.cls_ok (c.fact 46 (f := .cls "Disk") rfl)
  cls_Log := He.cls_ok (c.fact 48 (f := .cls "Log") rfl)
  na_Disk_torn := He.noat_ok (c.fact 66 (f := .noat "Disk" "_torn") rfl)
  na_Disk_left := He.noat_ok (c.fact 67 (f := .noat "Disk" "_left") rfl)
  na_Disk_cuts := He.noat_ok (c.fact 68 (f := .noat "Disk" "_cuts") rfl)
  na_Disk_pending := He.noat_ok (c.fact 69 (f := .noat "Disk" "_pending") rfl)
  na_Disk_blocks := He.noat_ok (c.fact 70 (f := .noat "Disk" "_blocks") rfl)
  na_Log_cuts := He.noat_ok (c.fact 71 (f := .noat "Log" "_cuts") rfl)
  na_Log_end := He.noat_ok (c.fact 72 (f := .noat "Log" "_end") rfl)
  na_Log_records := He.noat_ok (c.fact 73 (f := .noat "Log" "_records") rfl)
  na_Log_disk := He.noat_ok (c.fact 74 (f := .noat "Log" "_disk") rfl)
  ox_OutOfRange := oexB_ok (tab_at cx 3 rfl)
  xn_OutOfRange := He.noat_ok (c.fact 76 (f := .noat "OutOfRange" "name") rfl)
  em_LogFull_OutOfRange := He.exm_ok (c.fact 77 (f := .exm "LogFull" "OutOfRange" false) rfl)
  em_LogFull_LogFull := He.exm_ok (c.fact 78 (f := .exm "LogFull" "LogFull" true) rfl)
  em_NotKept_OutOfRange := He.exm_ok (c.fact 79 (f := .exm "NotKept" "OutOfRange" false) rfl)
  em_NotKept_LogFull := He.exm_ok (c.fact 80 (f := .exm "NotKept" "LogFull" false) rfl)
  em_NotOpen_OutOfRange := He.exm_ok (c.fact 81 (f := .exm "NotOpen" "OutOfRange" false) rfl)
  em_NotOpen_LogFull := He.exm_ok (c.fact 82 (f := .exm "NotOpen" "LogFull" false) rfl)
  em_OutOfRange_OutOfRange := He.exm_ok (c.fact 83 (f := .exm "OutOfRange" "OutOfRange" true) rfl)
  em_OutOfRange_LogFull := He.exm_ok (c.fact 84 (f := .exm "OutOfRange" "LogFull" false) rfl)
  em_PowerCut_OutOfRange := He.exm_ok (c.fact 85 (f := .exm "PowerCut" "OutOfRange" false) rfl)
  em_PowerCut_LogFull := He.exm_ok (c.fact 86 (f := .exm "PowerCut" "LogFull" false) rfl)
  dummy := trivial
theorem fd_piece {K : PySem.W.Frag} (c : He.SaysD hfa hfn K) : ∃ fd, FunD K "_piece" "_piece" (defArgs s_piece) (defBody s_piece) (defScope s_piece) [] [] (He.ga K "_piece") fd := c.def_ 0 (d := hd_piece) rfl
theorem fd_encode_record {K : PySem.W.Frag} (c : He.SaysD hfa hfn K) : ∃ fd, FunD K "encode_record" "encode_record" (defArgs s_encode_record) (defBody s_encode_record) (defScope s_encode_record) [] [] (He.ga K "encode_record") fd := c.def_ 1 (d := hd_encode_record) rfl
theorem fd_are_codes {K : PySem.W.Frag} (c : He.SaysD hfa hfn K) : ∃ fd, FunD K "_are_codes" "_are_codes" (defArgs s_are_codes) (defBody s_are_codes) (defScope s_are_codes) [] [] (He.ga K "_are_codes") fd := c.def_ 2 (d := hd_are_codes) rfl
theorem fd_sign {K : PySem.W.Frag} (c : He.SaysD hfa hfn K) : ∃ fd, FunD K "_sign" "_sign" (defArgs s_sign) (defBody s_sign) (defScope s_sign) [] [] (He.ga K "_sign") fd := c.def_ 3 (d := hd_sign) rfl
theorem fd_decode_piece {K : PySem.W.Frag} (c : He.SaysD hfa hfn K) : ∃ fd, FunD K "decode_piece" "decode_piece" (defArgs s_decode_piece) (defBody s_decode_piece) (defScope s_decode_piece) [] [] (He.ga K "decode_piece") fd := c.def_ 4 (d := hd_decode_piece) rfl
theorem fd_is_block {K : PySem.W.Frag} (c : He.SaysD hfa hfn K) : ∃ fd, FunD K "_is_block" "_is_block" (defArgs s_is_block) (defBody s_is_block) (defScope s_is_block) [] [] (He.ga K "_is_block") fd := c.def_ 5 (d := hd_is_block) rfl
theorem fd_is_name {K : PySem.W.Frag} (c : He.SaysD hfa hfn K) : ∃ fd, FunD K "is_name" "is_name" (defArgs s_is_name) (defBody s_is_name) (defScope s_is_name) [] [] (He.ga K "is_name") fd := c.def_ 6 (d := hd_is_name) rfl
theorem fd_is_value {K : PySem.W.Frag} (c : He.SaysD hfa hfn K) : ∃ fd, FunD K "is_value" "is_value" (defArgs s_is_value) (defBody s_is_value) (defScope s_is_value) [] [] (He.ga K "is_value") fd := c.def_ 7 (d := hd_is_value) rfl
theorem fd_check_entries {K : PySem.W.Frag} (c : He.SaysD hfa hfn K) : ∃ fd, FunD K "check_entries" "check_entries" (defArgs s_check_entries) (defBody s_check_entries) (defScope s_check_entries) [] [] (He.ga K "check_entries") fd := c.def_ 8 (d := hd_check_entries) rfl
theorem fd_value_text {K : PySem.W.Frag} (c : He.SaysD hfa hfn K) : ∃ fd, FunD K "_value_text" "_value_text" (defArgs s_value_text) (defBody s_value_text) (defScope s_value_text) [] [] (He.ga K "_value_text") fd := c.def_ 9 (d := hd_value_text) rfl
theorem fd_write_record {K : PySem.W.Frag} (c : He.SaysD hfa hfn K) : ∃ fd, FunD K "write_record" "write_record" (defArgs s_write_record) (defBody s_write_record) (defScope s_write_record) [] [] (He.ga K "write_record") fd := c.def_ 10 (d := hd_write_record) rfl
theorem fd_read_number {K : PySem.W.Frag} (c : He.SaysD hfa hfn K) : ∃ fd, FunD K "_read_number" "_read_number" (defArgs s_read_number) (defBody s_read_number) (defScope s_read_number) [] [] (He.ga K "_read_number") fd := c.def_ 11 (d := hd_read_number) rfl
theorem fd_read_value {K : PySem.W.Frag} (c : He.SaysD hfa hfn K) : ∃ fd, FunD K "_read_value" "_read_value" (defArgs s_read_value) (defBody s_read_value) (defScope s_read_value) [] [] (He.ga K "_read_value") fd := c.def_ 12 (d := hd_read_value) rfl
theorem fd_read_values {K : PySem.W.Frag} (c : He.SaysD hfa hfn K) : ∃ fd, FunD K "_read_values" "_read_values" (defArgs s_read_values) (defBody s_read_values) (defScope s_read_values) [] [] (He.ga K "_read_values") fd := c.def_ 13 (d := hd_read_values) rfl
theorem fd_read_call {K : PySem.W.Frag} (c : He.SaysD hfa hfn K) : ∃ fd, FunD K "_read_call" "_read_call" (defArgs s_read_call) (defBody s_read_call) (defScope s_read_call) [] [] (He.ga K "_read_call") fd := c.def_ 14 (d := hd_read_call) rfl
theorem fd_read_entries {K : PySem.W.Frag} (c : He.SaysD hfa hfn K) : ∃ fd, FunD K "_read_entries" "_read_entries" (defArgs s_read_entries) (defBody s_read_entries) (defScope s_read_entries) [] [] (He.ga K "_read_entries") fd := c.def_ 15 (d := hd_read_entries) rfl
theorem fd_read {K : PySem.W.Frag} (c : He.SaysD hfa hfn K) : ∃ fd, FunD K "_read" "_read" (defArgs s_read) (defBody s_read) (defScope s_read) [] [] (He.ga K "_read") fd := c.def_ 16 (d := hd_read) rfl
theorem fd_read_record {K : PySem.W.Frag} (c : He.SaysD hfa hfn K) : ∃ fd, FunD K "read_record" "read_record" (defArgs s_read_record) (defBody s_read_record) (defScope s_read_record) [] [] (He.ga K "read_record") fd := c.def_ 17 (d := hd_read_record) rfl
theorem fd_write_blocks {K : PySem.W.Frag} (c : He.SaysD hfa hfn K) : ∃ fd, FunD K "_write_blocks" "_write_blocks" (defArgs s_write_blocks) (defBody s_write_blocks) (defScope s_write_blocks) [] [] (He.ga K "_write_blocks") fd := c.def_ 18 (d := hd_write_blocks) rfl
theorem fd_clear {K : PySem.W.Frag} (c : He.SaysD hfa hfn K) : ∃ fd, FunD K "_clear" "_clear" (defArgs s_clear) (defBody s_clear) (defScope s_clear) [] [] (He.ga K "_clear") fd := c.def_ 19 (d := hd_clear) rfl
theorem fd_format_disk {K : PySem.W.Frag} (c : He.SaysD hfa hfn K) : ∃ fd, FunD K "format_disk" "format_disk" (defArgs s_format_disk) (defBody s_format_disk) (defScope s_format_disk) [] [] (He.ga K "format_disk") fd := c.def_ 20 (d := hd_format_disk) rfl
theorem fd_read_text {K : PySem.W.Frag} (c : He.SaysD hfa hfn K) : ∃ fd, FunD K "_read_text" "_read_text" (defArgs s_read_text) (defBody s_read_text) (defScope s_read_text) [] [] (He.ga K "_read_text") fd := c.def_ 21 (d := hd_read_text) rfl
theorem fd_read_records {K : PySem.W.Frag} (c : He.SaysD hfa hfn K) : ∃ fd, FunD K "_read_records" "_read_records" (defArgs s_read_records) (defBody s_read_records) (defScope s_read_records) [] [] (He.ga K "_read_records") fd := c.def_ 22 (d := hd_read_records) rfl
theorem fd_good_records {K : PySem.W.Frag} (c : He.SaysD hfa hfn K) : ∃ fd, FunD K "_good_records" "_good_records" (defArgs s_good_records) (defBody s_good_records) (defScope s_good_records) [] [] (He.ga K "_good_records") fd := c.def_ 23 (d := hd_good_records) rfl
theorem fd_open_log {K : PySem.W.Frag} (c : He.SaysD hfa hfn K) : ∃ fd, FunD K "open_log" "open_log" (defArgs s_open_log) (defBody s_open_log) (defScope s_open_log) [] [] (He.ga K "open_log") fd := c.def_ 24 (d := hd_open_log) rfl
theorem fd_l_cell {K : PySem.W.Frag} (c : He.SaysD hfa hfn K) : ∃ fd, FunD K "_law_cell" "_law_cell" (defArgs s_l_cell) (defBody s_l_cell) (defScope s_l_cell) [] [] (He.ga K "_law_cell") fd := c.def_ 25 (d := hd_l_cell) rfl
theorem fd_l_digits {K : PySem.W.Frag} (c : He.SaysD hfa hfn K) : ∃ fd, FunD K "_law_digits" "_law_digits" (defArgs s_l_digits) (defBody s_l_digits) (defScope s_l_digits) [] [] (He.ga K "_law_digits") fd := c.def_ 26 (d := hd_l_digits) rfl
theorem fd_l_draw {K : PySem.W.Frag} (c : He.SaysD hfa hfn K) : ∃ fd, FunD K "_law_draw" "_law_draw" (defArgs s_l_draw) (defBody s_l_draw) (defScope s_l_draw) [] [] (He.ga K "_law_draw") fd := c.def_ 27 (d := hd_l_draw) rfl
theorem fd_l_alike {K : PySem.W.Frag} (c : He.SaysD hfa hfn K) : ∃ fd, FunD K "_law_alike" "_law_alike" (defArgs s_l_alike) (defBody s_l_alike) (defScope s_l_alike) [] [] (He.ga K "_law_alike") fd := c.def_ 28 (d := hd_l_alike) rfl
theorem fd_l_value_text {K : PySem.W.Frag} (c : He.SaysD hfa hfn K) : ∃ fd, FunD K "_law_value_text" "_law_value_text" (defArgs s_l_value_text) (defBody s_l_value_text) (defScope s_l_value_text) [] [] (He.ga K "_law_value_text") fd := c.def_ 29 (d := hd_l_value_text) rfl
theorem fd_l_record_text {K : PySem.W.Frag} (c : He.SaysD hfa hfn K) : ∃ fd, FunD K "_law_record_text" "_law_record_text" (defArgs s_l_record_text) (defBody s_l_record_text) (defScope s_l_record_text) [] [] (He.ga K "_law_record_text") fd := c.def_ 30 (d := hd_l_record_text) rfl
theorem fd_l_pieces {K : PySem.W.Frag} (c : He.SaysD hfa hfn K) : ∃ fd, FunD K "_law_pieces" "_law_pieces" (defArgs s_l_pieces) (defBody s_l_pieces) (defScope s_l_pieces) [] [] (He.ga K "_law_pieces") fd := c.def_ 31 (d := hd_l_pieces) rfl
theorem fd_l_used_blocks {K : PySem.W.Frag} (c : He.SaysD hfa hfn K) : ∃ fd, FunD K "_law_used_blocks" "_law_used_blocks" (defArgs s_l_used_blocks) (defBody s_l_used_blocks) (defScope s_l_used_blocks) [] [] (He.ga K "_law_used_blocks") fd := c.def_ 32 (d := hd_l_used_blocks) rfl
theorem fd_l_some_value {K : PySem.W.Frag} (c : He.SaysD hfa hfn K) : ∃ fd, FunD K "_law_some_value" "_law_some_value" (defArgs s_l_some_value) (defBody s_l_some_value) (defScope s_l_some_value) [] [] (He.ga K "_law_some_value") fd := c.def_ 33 (d := hd_l_some_value) rfl
theorem fd_l_small_text {K : PySem.W.Frag} (c : He.SaysD hfa hfn K) : ∃ fd, FunD K "_law_small_text" "_law_small_text" (defArgs s_l_small_text) (defBody s_l_small_text) (defScope s_l_small_text) [] [] (He.ga K "_law_small_text") fd := c.def_ 34 (d := hd_l_small_text) rfl
theorem fd_l_some_rows {K : PySem.W.Frag} (c : He.SaysD hfa hfn K) : ∃ fd, FunD K "_law_some_rows" "_law_some_rows" (defArgs s_l_some_rows) (defBody s_l_some_rows) (defScope s_l_some_rows) [] [] (He.ga K "_law_some_rows") fd := c.def_ 35 (d := hd_l_some_rows) rfl
theorem fd_l_entries {K : PySem.W.Frag} (c : He.SaysD hfa hfn K) : ∃ fd, FunD K "_law_entries" "_law_entries" (defArgs s_l_entries) (defBody s_l_entries) (defScope s_l_entries) [] [] (He.ga K "_law_entries") fd := c.def_ 36 (d := hd_l_entries) rfl
theorem fd_l_append {K : PySem.W.Frag} (c : He.SaysD hfa hfn K) : ∃ fd, FunD K "_law_append" "_law_append" (defArgs s_l_append) (defBody s_l_append) (defScope s_l_append) [] [] (He.ga K "_law_append") fd := c.def_ 37 (d := hd_l_append) rfl
theorem fd_l_one {K : PySem.W.Frag} (c : He.SaysD hfa hfn K) : ∃ fd, FunD K "_law_one" "_law_one" (defArgs s_l_one) (defBody s_l_one) (defScope s_l_one) [] [] (He.ga K "_law_one") fd := c.def_ 38 (d := hd_l_one) rfl
theorem fd_law {K : PySem.W.Frag} (c : He.SaysD hfa hfn K) : ∃ fd, FunD K "law" "law" (defArgs s_law) (defBody s_law) (defScope s_law) [] [] (He.ga K "law") fd := c.def_ 39 (d := hd_law) rfl
theorem fd_Disk_init {K : PySem.W.Frag} (c : He.SaysD hfa hfn K) : ∃ fd, FunD K "__init__" "Disk.__init__" (defArgs s_Disk_init) (defBody s_Disk_init) (defScope s_Disk_init) [] [] (He.ma K (He.ga K "Disk") "__init__") fd := c.def_ 40 (d := hd_Disk_init) rfl
theorem fd_Disk_size {K : PySem.W.Frag} (c : He.SaysD hfa hfn K) : ∃ fd, FunD K "size" "Disk.size" (defArgs s_Disk_size) (defBody s_Disk_size) (defScope s_Disk_size) [] [] (He.ma K (He.ga K "Disk") "size") fd := c.def_ 41 (d := hd_Disk_size) rfl
theorem fd_Disk_check_at {K : PySem.W.Frag} (c : He.SaysD hfa hfn K) : ∃ fd, FunD K "_check_at" "Disk._check_at" (defArgs s_Disk_check_at) (defBody s_Disk_check_at) (defScope s_Disk_check_at) [] [] (He.ma K (He.ga K "Disk") "_check_at") fd := c.def_ 42 (d := hd_Disk_check_at) rfl
theorem fd_Disk_read {K : PySem.W.Frag} (c : He.SaysD hfa hfn K) : ∃ fd, FunD K "read" "Disk.read" (defArgs s_Disk_read) (defBody s_Disk_read) (defScope s_Disk_read) [] [] (He.ma K (He.ga K "Disk") "read") fd := c.def_ 43 (d := hd_Disk_read) rfl
theorem fd_Disk_cut {K : PySem.W.Frag} (c : He.SaysD hfa hfn K) : ∃ fd, FunD K "_cut" "Disk._cut" (defArgs s_Disk_cut) (defBody s_Disk_cut) (defScope s_Disk_cut) [] [] (He.ma K (He.ga K "Disk") "_cut") fd := c.def_ 44 (d := hd_Disk_cut) rfl
theorem fd_Disk_spend {K : PySem.W.Frag} (c : He.SaysD hfa hfn K) : ∃ fd, FunD K "_spend" "Disk._spend" (defArgs s_Disk_spend) (defBody s_Disk_spend) (defScope s_Disk_spend) [] [] (He.ma K (He.ga K "Disk") "_spend") fd := c.def_ 45 (d := hd_Disk_spend) rfl
theorem fd_Disk_write {K : PySem.W.Frag} (c : He.SaysD hfa hfn K) : ∃ fd, FunD K "write" "Disk.write" (defArgs s_Disk_write) (defBody s_Disk_write) (defScope s_Disk_write) [] [] (He.ma K (He.ga K "Disk") "write") fd := c.def_ 46 (d := hd_Disk_write) rfl
theorem fd_Disk_flush {K : PySem.W.Frag} (c : He.SaysD hfa hfn K) : ∃ fd, FunD K "flush" "Disk.flush" (defArgs s_Disk_flush) (defBody s_Disk_flush) (defScope s_Disk_flush) [] [] (He.ma K (He.ga K "Disk") "flush") fd := c.def_ 47 (d := hd_Disk_flush) rfl
theorem fd_Disk_pending_count {K : PySem.W.Frag} (c : He.SaysD hfa hfn K) : ∃ fd, FunD K "pending_count" "Disk.pending_count" (defArgs s_Disk_pending_count) (defBody s_Disk_pending_count) (defScope s_Disk_pending_count) [] [] (He.ma K (He.ga K "Disk") "pending_count") fd := c.def_ 48 (d := hd_Disk_pending_count) rfl
theorem fd_Disk_cut_count {K : PySem.W.Frag} (c : He.SaysD hfa hfn K) : ∃ fd, FunD K "cut_count" "Disk.cut_count" (defArgs s_Disk_cut_count) (defBody s_Disk_cut_count) (defScope s_Disk_cut_count) [] [] (He.ma K (He.ga K "Disk") "cut_count") fd := c.def_ 49 (d := hd_Disk_cut_count) rfl
theorem fd_Log_init {K : PySem.W.Frag} (c : He.SaysD hfa hfn K) : ∃ fd, FunD K "__init__" "Log.__init__" (defArgs s_Log_init) (defBody s_Log_init) (defScope s_Log_init) [] [] (He.ma K (He.ga K "Log") "__init__") fd := c.def_ 50 (d := hd_Log_init) rfl
theorem fd_Log_check_open {K : PySem.W.Frag} (c : He.SaysD hfa hfn K) : ∃ fd, FunD K "check_open" "Log.check_open" (defArgs s_Log_check_open) (defBody s_Log_check_open) (defScope s_Log_check_open) [] [] (He.ma K (He.ga K "Log") "check_open") fd := c.def_ 51 (d := hd_Log_check_open) rfl
theorem fd_Log_records {K : PySem.W.Frag} (c : He.SaysD hfa hfn K) : ∃ fd, FunD K "records" "Log.records" (defArgs s_Log_records) (defBody s_Log_records) (defScope s_Log_records) [] [] (He.ma K (He.ga K "Log") "records") fd := c.def_ 52 (d := hd_Log_records) rfl
theorem fd_Log_blocks_of {K : PySem.W.Frag} (c : He.SaysD hfa hfn K) : ∃ fd, FunD K "_blocks_of" "Log._blocks_of" (defArgs s_Log_blocks_of) (defBody s_Log_blocks_of) (defScope s_Log_blocks_of) [] [] (He.ma K (He.ga K "Log") "_blocks_of") fd := c.def_ 53 (d := hd_Log_blocks_of) rfl
theorem fd_Log_room {K : PySem.W.Frag} (c : He.SaysD hfa hfn K) : ∃ fd, FunD K "room" "Log.room" (defArgs s_Log_room) (defBody s_Log_room) (defScope s_Log_room) [] [] (He.ma K (He.ga K "Log") "room") fd := c.def_ 54 (d := hd_Log_room) rfl
theorem fd_Log_append {K : PySem.W.Frag} (c : He.SaysD hfa hfn K) : ∃ fd, FunD K "append" "Log.append" (defArgs s_Log_append) (defBody s_Log_append) (defScope s_Log_append) [] [] (He.ma K (He.ga K "Log") "append") fd := c.def_ 55 (d := hd_Log_append) rfl
theorem fd_Log_sync {K : PySem.W.Frag} (c : He.SaysD hfa hfn K) : ∃ fd, FunD K "sync" "Log.sync" (defArgs s_Log_sync) (defBody s_Log_sync) (defScope s_Log_sync) [] [] (He.ma K (He.ga K "Log") "sync") fd := c.def_ 56 (d := hd_Log_sync) rfl
theorem fd_Log_free_blocks {K : PySem.W.Frag} (c : He.SaysD hfa hfn K) : ∃ fd, FunD K "free_blocks" "Log.free_blocks" (defArgs s_Log_free_blocks) (defBody s_Log_free_blocks) (defScope s_Log_free_blocks) [] [] (He.ma K (He.ga K "Log") "free_blocks") fd := c.def_ 57 (d := hd_Log_free_blocks) rfl
theorem fd_OutOfRange {K : PySem.W.Frag} (c : He.SaysD hfa hfn K) : ∃ fd, FunD K "__init__" "OutOfRange.__init__" (defArgs s_OutOfRange) (defBody s_OutOfRange) (defScope s_OutOfRange) [] [] (He.ma K (He.ga K "OutOfRange") "__init__") fd := c.def_ 58 (d := hd_OutOfRange) rfl
theorem mg_piece {K : PySem.W.Frag} {h : Heap} {mg : Str → Option Value} (X : K.In h) (N : h.Ns mainGlobals mg) (c : He.SaysD hfa hfn K) : mg "_piece" = some (.ref (He.ga K "_piece")) := He.glo_ok X N (c.fact 87 (f := .glo "_piece") rfl)
theorem mg_encode_record {K : PySem.W.Frag} {h : Heap} {mg : Str → Option Value} (X : K.In h) (N : h.Ns mainGlobals mg) (c : He.SaysD hfa hfn K) : mg "encode_record" = some (.ref (He.ga K "encode_record")) := He.glo_ok X N (c.fact 88 (f := .glo "encode_record") rfl)
theorem mg_are_codes {K : PySem.W.Frag} {h : Heap} {mg : Str → Option Value} (X : K.In h) (N : h.Ns mainGlobals mg) (c : He.SaysD hfa hfn K) : mg "_are_codes" = some (.ref (He.ga K "_are_codes")) := He.glo_ok X N (c.fact 89 (f := .glo "_are_codes") rfl)
theorem mg_sign {K : PySem.W.Frag} {h : Heap} {mg : Str → Option Value} (X : K.In h) (N : h.Ns mainGlobals mg) (c : He.SaysD hfa hfn K) : mg "_sign" = some (.ref (He.ga K "_sign")) := He.glo_ok X N (c.fact 90 (f := .glo "_sign") rfl)
theorem mg_decode_piece {K : PySem.W.Frag} {h : Heap} {mg : Str → Option Value} (X : K.In h) (N : h.Ns mainGlobals mg) (c : He.SaysD hfa hfn K) : mg "decode_piece" = some (.ref (He.ga K "decode_piece")) := He.glo_ok X N (c.fact 91 (f := .glo "decode_piece") rfl)
theorem mg_is_block {K : PySem.W.Frag} {h : Heap} {mg : Str → Option Value} (X : K.In h) (N : h.Ns mainGlobals mg) (c : He.SaysD hfa hfn K) : mg "_is_block" = some (.ref (He.ga K "_is_block")) := He.glo_ok X N (c.fact 92 (f := .glo "_is_block") rfl)
theorem mg_is_name {K : PySem.W.Frag} {h : Heap} {mg : Str → Option Value} (X : K.In h) (N : h.Ns mainGlobals mg) (c : He.SaysD hfa hfn K) : mg "is_name" = some (.ref (He.ga K "is_name")) := He.glo_ok X N (c.fact 93 (f := .glo "is_name") rfl)
theorem mg_is_value {K : PySem.W.Frag} {h : Heap} {mg : Str → Option Value} (X : K.In h) (N : h.Ns mainGlobals mg) (c : He.SaysD hfa hfn K) : mg "is_value" = some (.ref (He.ga K "is_value")) := He.glo_ok X N (c.fact 94 (f := .glo "is_value") rfl)
theorem mg_check_entries {K : PySem.W.Frag} {h : Heap} {mg : Str → Option Value} (X : K.In h) (N : h.Ns mainGlobals mg) (c : He.SaysD hfa hfn K) : mg "check_entries" = some (.ref (He.ga K "check_entries")) := He.glo_ok X N (c.fact 95 (f := .glo "check_entries") rfl)
theorem mg_value_text {K : PySem.W.Frag} {h : Heap} {mg : Str → Option Value} (X : K.In h) (N : h.Ns mainGlobals mg) (c : He.SaysD hfa hfn K) : mg "_value_text" = some (.ref (He.ga K "_value_text")) := He.glo_ok X N (c.fact 96 (f := .glo "_value_text") rfl)
theorem mg_write_record {K : PySem.W.Frag} {h : Heap} {mg : Str → Option Value} (X : K.In h) (N : h.Ns mainGlobals mg) (c : He.SaysD hfa hfn K) : mg "write_record" = some (.ref (He.ga K "write_record")) := He.glo_ok X N (c.fact 97 (f := .glo "write_record") rfl)
theorem mg_read_number {K : PySem.W.Frag} {h : Heap} {mg : Str → Option Value} (X : K.In h) (N : h.Ns mainGlobals mg) (c : He.SaysD hfa hfn K) : mg "_read_number" = some (.ref (He.ga K "_read_number")) := He.glo_ok X N (c.fact 98 (f := .glo "_read_number") rfl)
theorem mg_read_value {K : PySem.W.Frag} {h : Heap} {mg : Str → Option Value} (X : K.In h) (N : h.Ns mainGlobals mg) (c : He.SaysD hfa hfn K) : mg "_read_value" = some (.ref (He.ga K "_read_value")) := He.glo_ok X N (c.fact 99 (f := .glo "_read_value") rfl)
theorem mg_read_values {K : PySem.W.Frag} {h : Heap} {mg : Str → Option Value} (X : K.In h) (N : h.Ns mainGlobals mg) (c : He.SaysD hfa hfn K) : mg "_read_values" = some (.ref (He.ga K "_read_values")) := He.glo_ok X N (c.fact 100 (f := .glo "_read_values") rfl)
theorem mg_read_call {K : PySem.W.Frag} {h : Heap} {mg : Str → Option Value} (X : K.In h) (N : h.Ns mainGlobals mg) (c : He.SaysD hfa hfn K) : mg "_read_call" = some (.ref (He.ga K "_read_call")) := He.glo_ok X N (c.fact 101 (f := .glo "_read_call") rfl)
theorem mg_read_entries {K : PySem.W.Frag} {h : Heap} {mg : Str → Option Value} (X : K.In h) (N : h.Ns mainGlobals mg) (c : He.SaysD hfa hfn K) : mg "_read_entries" = some (.ref (He.ga K "_read_entries")) := He.glo_ok X N (c.fact 102 (f := .glo "_read_entries") rfl)
theorem mg_read {K : PySem.W.Frag} {h : Heap} {mg : Str → Option Value} (X : K.In h) (N : h.Ns mainGlobals mg) (c : He.SaysD hfa hfn K) : mg "_read" = some (.ref (He.ga K "_read")) := He.glo_ok X N (c.fact 103 (f := .glo "_read") rfl)
theorem mg_read_record {K : PySem.W.Frag} {h : Heap} {mg : Str → Option Value} (X : K.In h) (N : h.Ns mainGlobals mg) (c : He.SaysD hfa hfn K) : mg "read_record" = some (.ref (He.ga K "read_record")) := He.glo_ok X N (c.fact 104 (f := .glo "read_record") rfl)
theorem mg_write_blocks {K : PySem.W.Frag} {h : Heap} {mg : Str → Option Value} (X : K.In h) (N : h.Ns mainGlobals mg) (c : He.SaysD hfa hfn K) : mg "_write_blocks" = some (.ref (He.ga K "_write_blocks")) := He.glo_ok X N (c.fact 105 (f := .glo "_write_blocks") rfl)
theorem mg_clear {K : PySem.W.Frag} {h : Heap} {mg : Str → Option Value} (X : K.In h) (N : h.Ns mainGlobals mg) (c : He.SaysD hfa hfn K) : mg "_clear" = some (.ref (He.ga K "_clear")) := He.glo_ok X N (c.fact 106 (f := .glo "_clear") rfl)
theorem mg_format_disk {K : PySem.W.Frag} {h : Heap} {mg : Str → Option Value} (X : K.In h) (N : h.Ns mainGlobals mg) (c : He.SaysD hfa hfn K) : mg "format_disk" = some (.ref (He.ga K "format_disk")) := He.glo_ok X N (c.fact 107 (f := .glo "format_disk") rfl)
theorem mg_read_text {K : PySem.W.Frag} {h : Heap} {mg : Str → Option Value} (X : K.In h) (N : h.Ns mainGlobals mg) (c : He.SaysD hfa hfn K) : mg "_read_text" = some (.ref (He.ga K "_read_text")) := He.glo_ok X N (c.fact 108 (f := .glo "_read_text") rfl)
theorem mg_read_records {K : PySem.W.Frag} {h : Heap} {mg : Str → Option Value} (X : K.In h) (N : h.Ns mainGlobals mg) (c : He.SaysD hfa hfn K) : mg "_read_records" = some (.ref (He.ga K "_read_records")) := He.glo_ok X N (c.fact 109 (f := .glo "_read_records") rfl)
theorem mg_good_records {K : PySem.W.Frag} {h : Heap} {mg : Str → Option Value} (X : K.In h) (N : h.Ns mainGlobals mg) (c : He.SaysD hfa hfn K) : mg "_good_records" = some (.ref (He.ga K "_good_records")) := He.glo_ok X N (c.fact 110 (f := .glo "_good_records") rfl)
theorem mg_open_log {K : PySem.W.Frag} {h : Heap} {mg : Str → Option Value} (X : K.In h) (N : h.Ns mainGlobals mg) (c : He.SaysD hfa hfn K) : mg "open_log" = some (.ref (He.ga K "open_log")) := He.glo_ok X N (c.fact 111 (f := .glo "open_log") rfl)
theorem mg_l_cell {K : PySem.W.Frag} {h : Heap} {mg : Str → Option Value} (X : K.In h) (N : h.Ns mainGlobals mg) (c : He.SaysD hfa hfn K) : mg "_law_cell" = some (.ref (He.ga K "_law_cell")) := He.glo_ok X N (c.fact 112 (f := .glo "_law_cell") rfl)
theorem mg_l_digits {K : PySem.W.Frag} {h : Heap} {mg : Str → Option Value} (X : K.In h) (N : h.Ns mainGlobals mg) (c : He.SaysD hfa hfn K) : mg "_law_digits" = some (.ref (He.ga K "_law_digits")) := He.glo_ok X N (c.fact 113 (f := .glo "_law_digits") rfl)
theorem mg_l_draw {K : PySem.W.Frag} {h : Heap} {mg : Str → Option Value} (X : K.In h) (N : h.Ns mainGlobals mg) (c : He.SaysD hfa hfn K) : mg "_law_draw" = some (.ref (He.ga K "_law_draw")) := He.glo_ok X N (c.fact 114 (f := .glo "_law_draw") rfl)
theorem mg_l_alike {K : PySem.W.Frag} {h : Heap} {mg : Str → Option Value} (X : K.In h) (N : h.Ns mainGlobals mg) (c : He.SaysD hfa hfn K) : mg "_law_alike" = some (.ref (He.ga K "_law_alike")) := He.glo_ok X N (c.fact 115 (f := .glo "_law_alike") rfl)
theorem mg_l_value_text {K : PySem.W.Frag} {h : Heap} {mg : Str → Option Value} (X : K.In h) (N : h.Ns mainGlobals mg) (c : He.SaysD hfa hfn K) : mg "_law_value_text" = some (.ref (He.ga K "_law_value_text")) := He.glo_ok X N (c.fact 116 (f := .glo "_law_value_text") rfl)
theorem mg_l_record_text {K : PySem.W.Frag} {h : Heap} {mg : Str → Option Value} (X : K.In h) (N : h.Ns mainGlobals mg) (c : He.SaysD hfa hfn K) : mg "_law_record_text" = some (.ref (He.ga K "_law_record_text")) := He.glo_ok X N (c.fact 117 (f := .glo "_law_record_text") rfl)
theorem mg_l_pieces {K : PySem.W.Frag} {h : Heap} {mg : Str → Option Value} (X : K.In h) (N : h.Ns mainGlobals mg) (c : He.SaysD hfa hfn K) : mg "_law_pieces" = some (.ref (He.ga K "_law_pieces")) := He.glo_ok X N (c.fact 118 (f := .glo "_law_pieces") rfl)
theorem mg_l_used_blocks {K : PySem.W.Frag} {h : Heap} {mg : Str → Option Value} (X : K.In h) (N : h.Ns mainGlobals mg) (c : He.SaysD hfa hfn K) : mg "_law_used_blocks" = some (.ref (He.ga K "_law_used_blocks")) := He.glo_ok X N (c.fact 119 (f := .glo "_law_used_blocks") rfl)
theorem mg_l_some_value {K : PySem.W.Frag} {h : Heap} {mg : Str → Option Value} (X : K.In h) (N : h.Ns mainGlobals mg) (c : He.SaysD hfa hfn K) : mg "_law_some_value" = some (.ref (He.ga K "_law_some_value")) := He.glo_ok X N (c.fact 120 (f := .glo "_law_some_value") rfl)
theorem mg_l_small_text {K : PySem.W.Frag} {h : Heap} {mg : Str → Option Value} (X : K.In h) (N : h.Ns mainGlobals mg) (c : He.SaysD hfa hfn K) : mg "_law_small_text" = some (.ref (He.ga K "_law_small_text")) := He.glo_ok X N (c.fact 121 (f := .glo "_law_small_text") rfl)
theorem mg_l_some_rows {K : PySem.W.Frag} {h : Heap} {mg : Str → Option Value} (X : K.In h) (N : h.Ns mainGlobals mg) (c : He.SaysD hfa hfn K) : mg "_law_some_rows" = some (.ref (He.ga K "_law_some_rows")) := He.glo_ok X N (c.fact 122 (f := .glo "_law_some_rows") rfl)
theorem mg_l_entries {K : PySem.W.Frag} {h : Heap} {mg : Str → Option Value} (X : K.In h) (N : h.Ns mainGlobals mg) (c : He.SaysD hfa hfn K) : mg "_law_entries" = some (.ref (He.ga K "_law_entries")) := He.glo_ok X N (c.fact 123 (f := .glo "_law_entries") rfl)
theorem mg_l_append {K : PySem.W.Frag} {h : Heap} {mg : Str → Option Value} (X : K.In h) (N : h.Ns mainGlobals mg) (c : He.SaysD hfa hfn K) : mg "_law_append" = some (.ref (He.ga K "_law_append")) := He.glo_ok X N (c.fact 124 (f := .glo "_law_append") rfl)
theorem mg_l_one {K : PySem.W.Frag} {h : Heap} {mg : Str → Option Value} (X : K.In h) (N : h.Ns mainGlobals mg) (c : He.SaysD hfa hfn K) : mg "_law_one" = some (.ref (He.ga K "_law_one")) := He.glo_ok X N (c.fact 125 (f := .glo "_law_one") rfl)
theorem mg_law {K : PySem.W.Frag} {h : Heap} {mg : Str → Option Value} (X : K.In h) (N : h.Ns mainGlobals mg) (c : He.SaysD hfa hfn K) : mg "law" = some (.ref (He.ga K "law")) := He.glo_ok X N (c.fact 126 (f := .glo "law") rfl)
def zl_0 : List Nat := [32, 33, 34, 35, 36, 38, 39, 40, 41, 42, 43, 44, 45, 46, 47, 48, 49, 50, 51, 52, 53, 54, 55, 56, 57, 58, 59, 60, 61, 62, 63, 64, 65, 66, 67, 68, 69, 70, 71, 72, 73, 74, 75, 76, 77, 78, 79, 80, 81, 82, 83, 84, 85, 86, 87, 88, 89, 90, 91, 92, 93, 94, 95, 96, 97, 98, 99, 100, 101, 102, 103, 104, 105, 106, 107, 108, 109, 110, 111, 112, 113, 114, 115, 116, 117, 118, 119, 120, 121, 122, 123, 124, 125, 126]
theorem z_0 : (" !\"#$&'()*+,-./0123456789:;<=>?@ABCDEFGHIJKLMNOPQRSTUVWXYZ[\\]^_`abcdefghijklmnopqrstuvwxyz{|}~" : Str) = S zl_0 := by decide +kernel
theorem z_1 : ("" : Str) = S [] := by decide +kernel
def zl_2 : List Nat := [97, 98, 99, 100, 101, 102, 103, 104, 105, 106, 107, 108, 109, 110, 111, 112, 113, 114, 115, 116, 117, 118, 119, 120, 121, 122]
theorem z_2 : ("abcdefghijklmnopqrstuvwxyz" : Str) = S zl_2 := by decide +kernel
theorem z_3 : ("\"" : Str) = S [34] := by decide +kernel
theorem z_4 : ("\n" : Str) = S [10] := by decide +kernel
theorem z_5 : ("entries" : Str) = S [101, 110, 116, 114, 105, 101, 115] := by decide +kernel
theorem z_6 : (" " : Str) = S [32] := by decide +kernel
theorem z_7 : ("text" : Str) = S [116, 101, 120, 116] := by decide +kernel
theorem z_8 : ("text " : Str) = S [116, 101, 120, 116, 32] := by decide +kernel
theorem z_9 : ("call" : Str) = S [99, 97, 108, 108] := by decide +kernel
theorem z_10 : ("call " : Str) = S [99, 97, 108, 108, 32] := by decide +kernel
theorem z_11 : ("0123456789" : Str) = S [48, 49, 50, 51, 52, 53, 54, 55, 56, 57] := by decide +kernel
theorem z_12 : ("0" : Str) = S [48] := by decide +kernel
theorem z_13 : ("-" : Str) = S [45] := by decide +kernel
theorem z_14 : ("remove" : Str) = S [114, 101, 109, 111, 118, 101] := by decide +kernel
theorem z_15 : ("update" : Str) = S [117, 112, 100, 97, 116, 101] := by decide +kernel
theorem z_16 : ("s" : Str) = S [115] := by decide +kernel
theorem z_17 : ("x y" : Str) = S [120, 32, 121] := by decide +kernel
theorem z_18 : ("x" : Str) = S [120] := by decide +kernel
theorem z_19 : ("do 1" : Str) = S [100, 111, 32, 49] := by decide +kernel
theorem z_20 : ("let x = 1" : Str) = S [108, 101, 116, 32, 120, 32, 61, 32, 49] := by decide +kernel
def zl_21 : List Nat := [107, 101, 101, 112, 32, 107, 32, 61, 32, 50, 124, 102, 110, 32, 102, 40, 112, 41, 32, 61, 32, 115, 101, 116, 32, 107, 32, 61, 32, 112]
theorem z_21 : ("keep k = 2|fn f(p) = set k = p" : Str) = S zl_21 := by decide +kernel
theorem z_22 : ("hold \"s\"" : Str) = S [104, 111, 108, 100, 32, 34, 115, 34] := by decide +kernel
def zl_23 : List Nat := [110, 111, 116, 104, 105, 110, 103, 32, 111, 102, 32, 97, 32, 108, 105, 110, 101]
theorem z_23 : ("nothing of a line" : Str) = S zl_23 := by decide +kernel
def zl_24 : List Nat := [105, 109, 112, 111, 114, 116, 32, 120, 32, 102, 114, 111, 109, 32, 98]
theorem z_24 : ("import x from b" : Str) = S zl_24 := by decide +kernel
theorem z_25 : ("a" : Str) = S [97] := by decide +kernel
theorem z_26 : ("b" : Str) = S [98] := by decide +kernel
theorem z_27 : ("zz" : Str) = S [122, 122] := by decide +kernel
theorem z_28 : ("f" : Str) = S [102] := by decide +kernel
theorem z_29 : ("g" : Str) = S [103] := by decide +kernel
theorem z_30 : ("k" : Str) = S [107] := by decide +kernel
theorem z_31 : ("c" : Str) = S [99] := by decide +kernel
theorem z_32 : ("d" : Str) = S [100] := by decide +kernel
theorem z_33 : ("refused" : Str) = S [114, 101, 102, 117, 115, 101, 100] := by decide +kernel
theorem z_34 : ("full" : Str) = S [102, 117, 108, 108] := by decide +kernel
theorem z_35 : ("blocks" : Str) = S [98, 108, 111, 99, 107, 115] := by decide +kernel
theorem z_36 : ("at" : Str) = S [97, 116] := by decide +kernel
theorem z_37 : ("block" : Str) = S [98, 108, 111, 99, 107] := by decide +kernel
end K47

/-! k47: the disk (as k41 and k42 have it) -/
namespace K47
open PySem PySem.Spec PyProof.Rows L2 Lg
local macro_rules | `(tactic| walk_at "ar") => `(tactic| first | omega | (simp; done) | (simp; omega) | (simp only [S_len]; omega) | (simp [Lg.repL_len]; done) | (simp [Lg.repL_len]; omega))
local macro_rules | `(tactic| walk_at "gt") => `(tactic| repeat (first | exact GetAt.here | apply GetAt.there))
local macro_rules | `(tactic| walk_at "st") => `(tactic| repeat (first | exact SetAt.here | apply SetAt.there))
local macro_rules | `(tactic| walk_at "mem") => `(tactic| first | assumption | exact List.mem_cons_self | (apply List.mem_cons_of_mem; walk_at "mem"))
local macro_rules | `(tactic| walk_at "put") => `(tactic| repeat (first | exact Put.here | apply Put.there))
local macro_rules | `(tactic| walk_at "rem") => `(tactic| repeat (first | exact Rem.here | apply Rem.there))
local macro_rules | `(tactic| walk_at "pick") => `(tactic| first | exact Pick.refl | exact Pick.cons (by walk_at "rem") (by walk_at "pick") | (apply Pick.drop; walk_at "pick") | exact Pick.nil)
local macro_rules | `(tactic| walk_at "is") => `(tactic| first | exact Is.int | exact Is.str | exact Is.bl | exact Is.non | assumption | exact Is.dat (by walk_at "mem") | (apply Is.cons; walk_at "is"))
local macro_rules | `(tactic| walk_at "isall") => `(tactic| first | exact IsAll.nil | exact IsAll.cons (by walk_at "is") (by walk_at "isall"))
local macro_rules | `(tactic| walk_at "lsin") => `(tactic| first | assumption | exact LsIn.own (by walk_at "mem") | exact LsIn.dat (by walk_at "mem") | (apply LsIn.cons; walk_at "lsin"))
local macro_rules | `(tactic| walk_at "see") => `(tactic| first | exact See.own (by walk_at "mem") | exact See.is (by walk_at "is"))
local macro_rules | `(tactic| walk_at "w1") => `(tactic| first
  | (with_reducible apply Lg.w_seq)
  | (with_reducible apply Lg.w_asg)
  | ((with_reducible show gName _ _ _ _ _); (with_reducible refine Lg.w_name (by walk_at "st") ?_))
  | ((with_reducible show tVar _ _ _ _); (with_reducible refine Lg.w_var (by walk_at "gt") ?_))
  | (with_reducible apply Lg.w_c)
  | (with_reducible apply Lg.w_op)
  | (with_reducible apply Lg.w_un)
  | (with_reducible apply Lg.w_nil)
  | (with_reducible apply Lg.w_cons)
  | (with_reducible apply Lg.w_call)
  | (with_reducible apply Lg.w_cb)
  | (with_reducible apply Lg.w_tup)
  | (with_reducible apply Lg.w_lst)
  | (with_reducible apply Lg.w_bm)
  | (with_reducible apply Lg.w_bm0)
  | (with_reducible apply Lg.w_sl)
  | (with_reducible apply Lg.w_nopart)
  | (with_reducible apply Lg.w_part)
  | (with_reducible apply Lg.w_isint)
  | (with_reducible apply Lg.w_test)
  | (with_reducible apply Lg.w_tB)
  | (with_reducible apply Lg.w_isbl')
  | (with_reducible apply Lg.w_not)
  | (with_reducible apply Lg.w_tru)
  | (with_reducible apply Lg.w_truI)
  | (with_reducible apply Lg.w_truB)
  | (with_reducible apply Lg.w_ifs)
  | (with_reducible apply Lg.w_next)
  | (with_reducible apply Lg.w_break)
  | (with_reducible apply Lg.w_cont)
  | (with_reducible apply Lg.w_ret)
  | (with_reducible apply Lg.w_retn)
  | (with_reducible apply Lg.w_drop)
  | (with_reducible apply Lg.w_sub)
  | (with_reducible apply Lg.w_gnil)
  | (with_reducible apply Lg.w_gcons)
  | (with_reducible apply Lg.w_ifT)
  | (with_reducible apply Lg.w_ifF)
  | (with_reducible apply Lg.w_add)
  | (with_reducible apply Lg.w_sub2)
  | ((with_reducible show rTimes (V.int _) (V.int _) _ _); (with_reducible refine Lg.w_mulR (by omega) ?_))
  | ((with_reducible show rTimes (V.int _) (V.int _) _ _); (with_reducible refine Lg.w_mulL (by omega) ?_))
  | ((with_reducible show rMod (V.int _) (V.int _) _ _); (with_reducible refine Lg.w_mod (by first | decide | omega) ?_))
  | ((with_reducible show rFdiv (V.int _) (V.int _) _ _); (with_reducible refine Lg.w_fdiv (by first | decide | omega) ?_))
  | (with_reducible apply Lg.w_band)
  | (with_reducible apply Lg.w_lt)
  | (with_reducible apply Lg.w_le)
  | (with_reducible apply Lg.w_gt)
  | (with_reducible apply Lg.w_ge)
  | (with_reducible apply Lg.w_eqI)
  | (with_reducible apply Lg.w_neI)
  | (with_reducible apply Lg.w_intI2)
  | (with_reducible apply Lg.w_neg)
  | (with_reducible apply Lg.w_inSS)
  | (with_reducible apply Lg.w_ninSS)
  | (with_reducible apply Lg.w_inSS')
  | (with_reducible apply Lg.w_neSS)
  | (with_reducible apply Lg.w_strS)
  | (with_reducible apply Lg.w_fldE)
  | (with_reducible apply Lg.w_sfldE)
  | (with_reducible apply Lg.w_makeE)
  | (with_reducible apply Lg.w_methE)
  | (with_reducible apply Lg.w_methSE)
  | (with_reducible apply Lg.w_callS)
  | (with_reducible apply Lg.w_raiseO)
  | (with_reducible apply Lg.w_raiseB)
  | (with_reducible apply Lg.w_try)
  | (with_reducible apply Lg.w_strS)
  | (with_reducible apply Lg.w_eqSS)
  | (with_reducible apply Lg.w_eqS)
  | (with_reducible apply Lg.w_neS)
  | (with_reducible apply Lg.w_isN)
  | (with_reducible apply Lg.w_isR)
  | (with_reducible apply Lg.w_isI)
  | (with_reducible apply Lg.w_isS)
  | (with_reducible apply Lg.w_nsN)
  | (with_reducible apply Lg.w_nsR)
  | (with_reducible apply Lg.w_nsI)
  | (with_reducible apply Lg.w_nsS)
  | (with_reducible apply Lg.w_int)
  | (with_reducible apply Lg.w_intb)
  | (with_reducible apply Lg.w_ord1)
  | (with_reducible apply Lg.w_tyS)
  | (with_reducible apply Lg.w_inSg)
  | (with_reducible apply Lg.w_ninSg)
  | ((with_reducible show NewL _ _ _); (with_reducible refine Lg.w_newL (by assumption) (by walk_at "isall") (by simp) ?_); (intro p' H' hS'))
  | ((with_reducible show NewT _ _ _); (with_reducible refine Lg.w_newT (by assumption) (by walk_at "isall") (by simp) ?_); (intro p' H' hS'))
  | ((with_reducible show TyThen _ _ (V.ref _) _ _); (with_reducible refine Lg.w_tyL (by assumption) (by walk_at "lsin") ?_))
  | ((with_reducible show rLenX _ [V.ref _] _ _); (with_reducible refine Lg.w_lenL (by assumption) (by walk_at "lsin") ?_))
  | ((with_reducible show rLenX _ [V.ref _] _ _); (with_reducible refine Lg.w_lenT (by assumption) (by walk_at "is") ?_))
  | ((with_reducible show spDraw _ _ _ _ _); (with_reducible refine Lg.w_draw (by assumption) (by walk_at "mem") (by first | decide | omega) ?_); (intro k' H' hk0' hk1' hS'))
  | ((with_reducible show rSlX _ (V.ref _) _ _ _ _); (with_reducible refine Lg.w_slL (by assumption) (by walk_at "lsin") ?_); (intro p' H' hS'))
  | ((with_reducible show rListOf _ [V.ref _] _ _); (with_reducible refine Lg.w_listL (by assumption) (by walk_at "lsin") ?_); (intro p' H' hS'))
  | (with_reducible apply Lg.w_for)
  | (with_reducible apply Lg.w_lc)
  | ((with_reducible show iAny _ (tVar _) _ _ _); (with_reducible refine Lg.w_anyVar (by walk_at "gt") ?_))
  | (with_reducible apply Lg.w_anyC)
  | (with_reducible apply Lg.w_vS)
  | (with_reducible apply Lg.w_itS)
  | ((with_reducible show AnyV _ (V.ref _) _ _); (with_reducible refine Lg.w_vL (by assumption) (by walk_at "lsin") ?_))
  | ((with_reducible show AnyL _ (V.ref _) _ _); (with_reducible refine Lg.w_itL (by assumption) (by walk_at "lsin") ?_))
  | ((with_reducible show AnyV _ (V.ref _) _ _); (with_reducible refine Lg.w_vT (by assumption) (by walk_at "is") ?_))
  | ((with_reducible show AnyT _ (V.ref _) _ _); (with_reducible refine Lg.w_itT (by assumption) (by walk_at "is") ?_))
  | ((with_reducible show Enu _ [V.ref _] _ _); (with_reducible refine Lg.w_itE (by assumption) (by walk_at "lsin") ?_))
  | ((with_reducible show rPlus _ (V.ref _) (V.ref _) _ _); (with_reducible refine Lg.w_plusL (by assumption) (by walk_at "lsin") (by walk_at "lsin") (by walk_at "ar") ?_); (intro p' H' hS'))
  | ((with_reducible show rTimes (V.ref _) (V.int _) _ _); (with_reducible refine Lg.w_repLs (by assumption) (by walk_at "lsin") (by walk_at "ar") (by walk_at "ar") (by walk_at "ar") ?_); (intro p' H' hS'))
  | ((with_reducible show rLenX _ [V.str (S _)] _ _); (with_reducible refine Lg.w_lenSS (by walk_at "ar") ?_))
  | ((with_reducible show rLenX _ [V.str _] _ _); (with_reducible refine Lg.w_lenS (by walk_at "ar") ?_))
  | ((with_reducible show rSlX _ (V.str _) _ _ _ _); (with_reducible refine Lg.w_slS (by walk_at "ar") ?_))
  | (with_reducible apply Lg.w_rng1)
  | (with_reducible apply Lg.w_rng2)
  | (with_reducible apply Lg.w_rng3)
  | (with_reducible apply Lg.w_enum)
  | ((with_reducible show Rng1 _ _ _); (with_reducible refine Lg.w_itR1 (by omega) ?_))
  | ((with_reducible show Rng2 _ _ _); (with_reducible refine Lg.w_itR2 (by omega) (by omega) ?_))
  | ((with_reducible show rIx _ (V.ref _) (V.int _) _ _); (with_reducible refine Lg.w_ixN (by assumption) (by walk_at "lsin") (by walk_at "ar") (by walk_at "ar") ?_))
  | ((with_reducible show rPlus _ (V.str (S _)) (V.str (S _)) _ _); (with_reducible refine Lg.w_addSS (by walk_at "ar") ?_))
  | ((with_reducible show rTimes (V.str (S _)) (V.int _) _ _); (with_reducible refine Lg.w_repSS (by walk_at "ar") (by walk_at "ar") (by walk_at "ar") ?_))
  | ((with_reducible show rIsi _ [V.ref _, V.ty "list"] _ _); (with_reducible refine Lg.w_isLL (by assumption) (by walk_at "lsin") ?_))
  | ((with_reducible show rIsi _ [V.ref _, V.ty "tuple"] _ _); (with_reducible refine Lg.w_isTT (by assumption) (by walk_at "is") ?_))
  | (with_reducible apply Lg.w_isII)
  | (with_reducible apply Lg.w_isSI)
  | (with_reducible apply Lg.w_isSS)
  | (with_reducible apply Lg.w_isIS)
  | (with_reducible apply Lg.w_ifexp)
  | (with_reducible apply Lg.w_chain)
  | ((with_reducible show ChainK _ _ _ _ _ _ _); (with_reducible refine Lg.w_chainLe (by (intro R' hR'; walk_at "w"; exact hR')) ?_))
  | ((with_reducible show ChainK _ _ _ _ _ _ _); (with_reducible refine Lg.w_chainLt (by (intro R' hR'; walk_at "w"; exact hR')) ?_))
  | ((with_reducible show tAnd _ _ _ _ _); (with_reducible refine Lg.w_andP (by (intro R' hR'; walk_at "w"; exact hR')) (by (intro hb' R' hR'; walk_at "w"; exact hR')) ?_))
  | ((with_reducible show tOr _ _ _ _ _); (with_reducible refine Lg.w_orP (by (intro R' hR'; walk_at "w"; exact hR')) (by (intro hb' R' hR'; walk_at "w"; exact hR')) ?_))
  | ((with_reducible show tAndV _ _ _ _ _); (with_reducible refine Lg.w_andVP (by (intro R' hR'; walk_at "w"; exact hR')) (by (intro hb' R' hR'; walk_at "w"; exact hR')) ?_))
  | ((with_reducible show tOrV _ _ _ _ _); (with_reducible refine Lg.w_orVP (by (intro R' hR'; walk_at "w"; exact hR')) (by (intro hb' R' hR'; walk_at "w"; exact hR')) ?_))
  | (with_reducible apply Lg.w_notV))
local macro_rules | `(tactic| walk_at "w") => `(tactic| repeat (walk_at "w1"))
local macro_rules | `(tactic| walk_at "z") => `(tactic| simp only [z_0, z_1, z_2, z_3, z_4, z_5, z_6, z_7, z_8, z_9, z_10, z_11, z_12, z_13, z_14, z_15, z_16, z_17, z_18, z_19, z_20, z_21, z_22, z_23, z_24, z_25, z_26, z_27, z_28, z_29, z_30, z_31, z_32, z_33, z_34, z_35, z_36, z_37])
namespace Di
/-! ### the disk (shared by the laws of disks) -/
abbrev HD (K : PySem.W.Frag) : Addr := He.ga K "Disk"
def dfs (pb pp : Addr) (cuts : Int) (left tv : V) : List (Str × V) := [("_blocks", .ref pb), ("_pending", .ref pp), ("_cuts", .int cuts), ("_left", left), ("_torn", tv)]
section
variable {pb pp q : Addr} {cuts c : Int} {left tv v : V}
theorem lk_b : (dfs pb pp cuts left tv).lookup ("_blocks" : Str) = some (V.ref pb) := by rfl
theorem lk_p : (dfs pb pp cuts left tv).lookup ("_pending" : Str) = some (V.ref pp) := by rfl
theorem lk_c : (dfs pb pp cuts left tv).lookup ("_cuts" : Str) = some (V.int cuts) := by rfl
theorem lk_l : (dfs pb pp cuts left tv).lookup ("_left" : Str) = some left := by rfl
theorem lk_t : (dfs pb pp cuts left tv).lookup ("_torn" : Str) = some tv := by rfl
theorem put_p : putF "_pending" (.ref q) (dfs pb pp cuts left tv) = dfs pb q cuts left tv := by rfl
theorem put_c : putF "_cuts" (.int c) (dfs pb pp cuts left tv) = dfs pb pp c left tv := by rfl
theorem put_l : putF "_left" v (dfs pb pp cuts left tv) = dfs pb pp cuts v tv := by rfl
theorem put_t : putF "_torn" v (dfs pb pp cuts left tv) = dfs pb pp cuts left v := by rfl
theorem put_0 : putF "_torn" tv (putF "_left" left (putF "_cuts" (.int cuts) (putF "_pending" (.ref pp) (putF "_blocks" (.ref pb) [])))) = dfs pb pp cuts left tv := by rfl
theorem lk_no {m : Str} (h : (dfs 0 0 0 .non .non).lookup m = none) : (dfs pb pp cuts left tv).lookup m = none := by
  unfold dfs at *
  simp only [List.lookup] at *
  revert h
  cases m == ("_blocks" : Str) <;> cases m == ("_pending" : Str) <;> cases m == ("_cuts" : Str) <;> cases m == ("_left" : Str) <;> cases m == ("_torn" : Str) <;> simp
end
abbrev bD (b : List Int) : PyData := .list (b.map PyData.int)
abbrev eD (e : Nat × List Int) : PyData := .tuple [.int e.1, bD e.2]
abbrev tI (t : Nat) : PyData := .int (t : Int)
abbrev tD (ts : List Nat) : PyData := .list (ts.map tI)
def lV : Option Nat → V
  | none => .non
  | some n => .int n
/-- the disk in the ledger -/
abbrev DL (K : PySem.W.Frag) (a dx pb pp : Addr) (tv : V) (cuts : Int) (left : Option Nat) (B : List (List Int)) (P : List (Nat × List Int)) (ts : List Nat) (L : List Ent) : List Ent :=
  Lg.own a (.ins (HD K) dx (dfs pb pp cuts (lV left) tv)) :: Lg.own dx (.own a) :: Lg.ls K pb (B.map bD) :: Lg.ls K pp (P.map eD) :: Lg.dat tv (tD ts) :: L
/-! what it does -/
def putB (B : List (List Int)) (e : Nat × List Int) : List (List Int) := B.set e.1 e.2
def flushed (B : List (List Int)) (P : List (Nat × List Int)) : List (List Int) := P.foldl putB B
def tear (B : List (List Int)) (e : Nat × List Int) (c : Nat) : List (List Int) := B.set e.1 (e.2.take c ++ (B.getD e.1 []).drop c)
def torn : List (List Int) → List (Nat × List Int) → List Nat → List (List Int)
  | B, e :: P, t :: ts => torn (tear B e t) P ts
  | B, _, _ => B
def seen (B : List (List Int)) (P : List (Nat × List Int)) (k : Nat) : List Int := P.foldl (fun f e => if e.1 = k then e.2 else f) (B.getD k [])
/-- a block: so many bytes -/
def isB (b : List Int) : Bool := decide (b.length = 32) && b.all fun x => decide (0 ≤ x) && decide (x ≤ 255)
structure DOK (B : List (List Int)) (P : List (Nat × List Int)) (ts : List Nat) : Prop where
  n0 : 8 ≤ B.length
  n1 : B.length ≤ 400
  bl : ∀ b ∈ B, b.length = 32
  pe : ∀ e ∈ P, e.1 < B.length ∧ e.2.length = 32
  pn : P.length ≤ 1000
  tn : ts.length ≤ 1000
  tb : ∀ t ∈ ts, t ≤ 32
theorem take_succ' {α : Type} {l : List α} {i : Nat} {x : α} (h : l[i]? = some x) : l.take (i + 1) = l.take i ++ [x] := by
  rw [List.take_succ, h]
  rfl
theorem flushed_step {B : List (List Int)} {P : List (Nat × List Int)} {i : Nat} {e : Nat × List Int} (h : P[i]? = some e) : flushed B (P.take (i + 1)) = putB (flushed B (P.take i)) e := by
  unfold flushed
  rw [take_succ' h, List.foldl_append]
  rfl
theorem flushed_len (P : List (Nat × List Int)) : ∀ B, (flushed B P).length = B.length := by
  unfold flushed
  induction P with
  | nil => intro B; rfl
  | cons e P ih => intro B; rw [List.foldl_cons, ih]; simp [putB]
theorem flushed_bl {P : List (Nat × List Int)} : ∀ {B : List (List Int)}, (∀ b ∈ B, b.length = 32) → (∀ e ∈ P, e.2.length = 32) → ∀ b ∈ flushed B P, b.length = 32 := by
  unfold flushed
  induction P with
  | nil => intro B h _; exact h
  | cons e P ih =>
    intro B h h2
    rw [List.foldl_cons]
    refine ih (fun b hb => ?_) fun e he => h2 e (.tail _ he)
    rcases List.mem_or_eq_of_mem_set hb with hb | rfl
    · exact h b hb
    · exact h2 e (.head _)
theorem tear_len {B : List (List Int)} {e : Nat × List Int} {c : Nat} : (tear B e c).length = B.length := by simp [tear]
theorem torn_len : ∀ {P : List (Nat × List Int)} {ts : List Nat} {B : List (List Int)}, (torn B P ts).length = B.length
  | [], _, _ => by unfold torn; rfl
  | _ :: _, [], _ => by unfold torn; rfl
  | e :: P, t :: ts, B => by
    unfold torn
    rw [torn_len, tear_len]
theorem getD_len {B : List (List Int)} {k : Nat} (h : ∀ b ∈ B, b.length = 32) (hk : k < B.length) : (B.getD k []).length = 32 := by
  rw [List.getD_eq_getElem?_getD, List.getElem?_eq_getElem hk]
  exact h _ (List.getElem_mem hk)
theorem tear_bl {B : List (List Int)} {e : Nat × List Int} {c : Nat} (h : ∀ b ∈ B, b.length = 32) (he : e.1 < B.length) (he2 : e.2.length = 32) (hc : c ≤ 32) : ∀ b ∈ tear B e c, b.length = 32 := by
  intro b hb
  rcases List.mem_or_eq_of_mem_set hb with hb | rfl
  · exact h b hb
  · have := getD_len h he
    rw [List.length_append, List.length_take, List.length_drop, this, he2]
    omega
theorem torn_bl : ∀ {P : List (Nat × List Int)} {ts : List Nat} {B : List (List Int)}, (∀ b ∈ B, b.length = 32) → (∀ e ∈ P, e.1 < B.length ∧ e.2.length = 32) → (∀ t ∈ ts, t ≤ 32) → ∀ b ∈ torn B P ts, b.length = 32
  | [], _, _, h, _, _ => by unfold torn; exact h
  | _ :: _, [], _, h, _, _ => by unfold torn; exact h
  | e :: P, t :: ts, B, h, h2, h3 => by
    unfold torn
    obtain ⟨g1, g2⟩ := h2 e (.head _)
    exact torn_bl (tear_bl h g1 g2 (h3 t (.head _))) (fun e he => by rw [tear_len]; exact h2 e (.tail _ he)) fun t ht => h3 t (.tail _ ht)
theorem torn_step : ∀ {P : List (Nat × List Int)} {ts : List Nat} {B : List (List Int)} {i : Nat} {e : Nat × List Int}, P[i]? = some e →
    torn B (P.take (i + 1)) ts = match ts[i]? with
      | some t => tear (torn B (P.take i) ts) e t
      | none => torn B (P.take i) ts
  | [], _, _, i, e, h => by simp at h
  | e0 :: P, [], B, i, e, h => by simp [torn]
  | e0 :: P, t :: ts, B, 0, e, h => by
    simp at h
    subst h
    simp [torn]
  | e0 :: P, t :: ts, B, i + 1, e, h => by
    have h' : P[i]? = some e := by simpa using h
    have := torn_step (P := P) (ts := ts) (B := tear B e0 t) h'
    simpa [torn] using this
theorem torn_take : ∀ {P : List (Nat × List Int)} {ts : List Nat} {B : List (List Int)} {n : Nat}, min ts.length P.length ≤ n → torn B (P.take n) ts = torn B P ts
  | [], _, _, _, _ => by simp
  | e0 :: P, [], B, n, _ => by cases n <;> simp [torn]
  | e0 :: P, t :: ts, B, 0, h => by simp at h
  | e0 :: P, t :: ts, B, n + 1, h => by
    have := torn_take (P := P) (ts := ts) (B := tear B e0 t) (n := n) (by simp at h; omega)
    simpa [torn] using this
theorem seen_step {B : List (List Int)} {P : List (Nat × List Int)} {k i : Nat} {e : Nat × List Int} (h : P[i]? = some e) : seen B (P.take (i + 1)) k = if e.1 = k then e.2 else seen B (P.take i) k := by
  unfold seen
  rw [take_succ' h, List.foldl_append]
  rfl
theorem set_self {B : List (List Int)} {k : Nat} (hk : k < B.length) : B.set k (B.getD k []) = B := by
  rw [List.getD_eq_getElem?_getD, List.getElem?_eq_getElem hk]
  simp
theorem map_at {α β : Type} {l : List α} {f : α → β} {i : Nat} {d : β} (h : (l.map f)[i]? = some d) : ∃ x, l[i]? = some x ∧ d = f x := by
  rw [List.getElem?_map] at h
  obtain ⟨x, h1, rfl⟩ := Option.map_eq_some_iff.mp h
  exact ⟨x, h1, rfl⟩
theorem bD_at {B : List (List Int)} {k : Nat} (hk : k < B.length) : (B.map bD)[k]? = some (bD (B.getD k [])) := by
  rw [List.getElem?_map, List.getD_eq_getElem?_getD, List.getElem?_eq_getElem hk]
  rfl
theorem set_map {B : List (List Int)} {k : Nat} {b : List Int} : (B.map bD).set k (bD b) = (B.set k b).map bD := by rw [List.map_set]
theorem St.set_lst {K : PySem.W.Frag} {L : List Ent} {H : Hp} {v : V} {b : List Int} (h : St K (.dat v (bD b) :: L) H) : ∃ q, v = .ref q := h.lst_of
/-! the promises -/
abbrev XO (K : PySem.W.Frag) : Addr := He.ga K "OutOfRange"
abbrev XP (K : PySem.W.Frag) : Addr := He.ga K "PowerCut"
abbrev xd (d : Addr) (nm : List Nat) : Ent := Lg.own d (.xd [(("name" : Str), V.str (S nm))])
abbrev zat : List Nat := [97, 116]
abbrev zblock : List Nat := [98, 108, 111, 99, 107]
abbrev zblocks : List Nat := [98, 108, 111, 99, 107, 115]
abbrev ztorn : List Nat := [116, 111, 114, 110]
section
variable {K : PySem.W.Frag}
def spIsBlock (K : PySem.W.Frag) : Sp := fun vs H Q _ => ∃ (L : List Ent) (a : Addr) (b : List Int), vs = [.ref a] ∧ St K L H ∧ LsIn K L a (b.map PyData.int) ∧ b.length ≤ 1000 ∧ Q (.bl (isB b)) H
theorem p_is_block (vs : List V) (H : Hp) (Q : VK) (E : XK) (h : spIsBlock K vs H Q E) : vs.length = 1 ∧ t_is_block K { nx := fun _ H' => Q .non H', rt := Q } (start N_is_block vs) H := by
  obtain ⟨L, a, b, rfl, hS, ha, hl, hQ⟩ := h
  refine ⟨rfl, ?_⟩
  unfold t_is_block
  show tSeq _ _ _ [some (.ref a), none] H
  walk_at "w"
  rw [List.length_map]
  walk_at "w"
  refine w_ifnd (fun h1 => ?_) (fun h1 => ?_)
  · walk_at "w"
    have e : isB b = false := by unfold isB; rw [decide_eq_false (by omega)]; rfl
    rw [e] at hQ
    exact hQ
  walk_at "w"
  refine w_forL (ds := b.map PyData.int) (fun i σ H' => (∃ v1, σ = [some (.ref a), v1]) ∧ H' = H ∧ ((b.take i).all fun x => decide (0 ≤ x) && decide (x ≤ 255)) = true) ⟨⟨_, rfl⟩, rfl, by simp⟩ (fun i σ H' _ hI => ?_) (fun i d v σ H' hd hI hlrn => ?_) (fun σ H' hI => ?_)
  · obtain ⟨_, rfl, _⟩ := hI
    exact ⟨L, hS, ha⟩
  · obtain ⟨⟨v1, rfl⟩, rfl, hall⟩ := hI
    obtain ⟨x, hx, rfl⟩ := map_at hd
    have hS1 := hlrn L hS ha
    obtain rfl := hS1.int_of
    walk_at "w"
    refine w_ite (fun h2 => ?_) (fun h2 => ?_)
    · walk_at "w"
      rw [Bool.not_eq_true'] at h2
      have e : isB b = false := by
        unfold isB
        rw [Bool.and_eq_false_iff]
        right
        rw [List.all_eq_false]
        exact ⟨x, List.mem_of_getElem? hx, by rw [h2]; simp⟩
      rw [e] at hQ
      exact hQ
    · walk_at "w"
      rw [Bool.not_eq_false'] at h2
      refine ⟨⟨_, rfl⟩, rfl, ?_⟩
      rw [take_succ' hx, List.all_append, hall]
      simp only [List.all_cons, List.all_nil, Bool.and_true, Bool.true_and]
      exact h2
  · obtain ⟨⟨v1, rfl⟩, rfl, hall⟩ := hI
    walk_at "w"
    have e : isB b = true := by
      unfold isB
      rw [List.length_map, List.take_length] at hall
      rw [hall, decide_eq_true (by omega)]
      rfl
    rw [e] at hQ
    exact hQ
def okT (ts : List Int) : Bool := ts.all fun t => decide (0 ≤ t) && decide (t ≤ 32)
def spCheckAt (K : PySem.W.Frag) : Sp := fun vs H Q E => ∃ (L : List Ent) (a dx pb pp : Addr) (tv : V) (cuts : Int) (left : Option Nat) (B : List (List Int)) (P : List (Nat × List Int)) (ts : List Nat) (k : Int), vs = [.ref a, .int k] ∧
  St K (DL K a dx pb pp tv cuts left B P ts L) H ∧ B.length ≤ 1000 ∧
  (0 ≤ k → k < B.length → Q .non H) ∧ (¬ (0 ≤ k ∧ k < B.length) → ∀ d H', St K (xd d zat :: DL K a dx pb pp tv cuts left B P ts L) H' → E (.ref (XO K)) (some d) H')
theorem p_check_at (cf : CF K) (vs : List V) (H : Hp) (Q : VK) (E : XK) (h : spCheckAt K vs H Q E) : vs.length = 2 ∧ t_Disk_check_at K E { nx := fun _ H' => Q .non H', rt := Q } (start N_Disk_check_at vs) H := by
  obtain ⟨L, a, dx, pb, pp, tv, cuts, left, B, P, ts, k, rfl, hS, hl, hQ, hE⟩ := h
  refine ⟨rfl, ?_⟩
  unfold t_Disk_check_at
  walk_at "z"
  show tIfS _ _ _ _ [some (.ref a), some (.int k)] H
  walk_at "w"
  refine w_chainLt (i := k) (j := B.length) (fun R' hR' => ?_) ?_
  · walk_at "w"
    refine w_fld hS (by walk_at "mem") cf.cls_Disk cf.na_Disk_blocks lk_b ?_
    walk_at "w"
    rw [List.length_map]
    exact hR'
  walk_at "w"
  refine w_ite (fun h2 => ?_) (fun h2 => ?_)
  · walk_at "w"
    refine w_mkO (v := .str (S zat)) hS cf.ox_OutOfRange cf.xn_OutOfRange (fun R hR => by walk_at "w"; exact hR) fun d H' hS3 => hE ?_ d H' hS3
    simp at h2
    omega
  · walk_at "w"
    simp at h2
    exact hQ (by omega) (by omega)
def spRead (K : PySem.W.Frag) : Sp := fun vs H Q E => ∃ (L : List Ent) (a dx pb pp : Addr) (tv : V) (cuts : Int) (left : Option Nat) (B : List (List Int)) (P : List (Nat × List Int)) (ts : List Nat) (k : Int), vs = [.ref a, .int k] ∧
  St K (DL K a dx pb pp tv cuts left B P ts L) H ∧ DOK B P ts ∧
  (∀ n : Nat, k = n → n < B.length → ∀ q H', St K (Lg.ls K q ((seen B P n).map PyData.int) :: DL K a dx pb pp tv cuts left B P ts L) H' → Q (.ref q) H') ∧
  (¬ (0 ≤ k ∧ k < B.length) → ∀ d H', St K (xd d zat :: DL K a dx pb pp tv cuts left B P ts L) H' → E (.ref (XO K)) (some d) H')
theorem p_read (cf : CF K) (vs : List V) (H : Hp) (Q : VK) (E : XK) (h : spRead K vs H Q E) : vs.length = 2 ∧ t_Disk_read K (spCheckAt K) E { nx := fun _ H' => Q .non H', rt := Q } (start N_Disk_read vs) H := by
  obtain ⟨L, a, dx, pb, pp, tv, cuts, left, B, P, ts, k, rfl, hS, hok, hQ, hE⟩ := h
  refine ⟨rfl, ?_⟩
  unfold t_Disk_read
  show tSeq _ _ _ [some (.ref a), some (.int k), none, none, none] H
  walk_at "w"
  refine w_meth hS (.head _) (lk_no (by decide)) ?_
  walk_at "w"
  refine ⟨L, a, dx, pb, pp, tv, cuts, left, B, P, ts, k, rfl, hS, by have := hok.n1; omega, fun h0 h1 => ?_, fun hb d H' hS' => hE hb d H' hS'⟩
  obtain ⟨n, rfl⟩ := Int.eq_ofNat_of_zero_le h0
  have hn : n < B.length := by omega
  walk_at "w"
  refine w_fld hS (by walk_at "mem") cf.cls_Disk cf.na_Disk_blocks lk_b ?_
  walk_at "w"
  refine w_ixL (k := n) hS (by walk_at "lsin") rfl (bD_at hn) fun v hS1 => ?_
  walk_at "w"
  refine w_anyL1 ?_
  walk_at "w"
  refine w_fld hS1 (by walk_at "mem") cf.cls_Disk cf.na_Disk_pending lk_p ?_
  walk_at "w"
  refine w_forL (ds := P.map eD) (fun i σ H' => (∃ v2 v3 v4, σ = [some (.ref a), some (.int n), some v2, v3, v4] ∧ St K (Lg.dat v2 (bD (seen B (P.take i) n)) :: DL K a dx pb pp tv cuts left B P ts L) H') ∧ H' = H) ⟨⟨_, _, _, rfl, hS1⟩, rfl⟩ (fun i σ H' _ hI => ?_) (fun i d v σ H' hd hI hlrn => ?_) (fun σ H' hI => ?_)
  · obtain ⟨⟨_, _, _, _, h1⟩, _⟩ := hI
    exact ⟨_, h1, by walk_at "lsin"⟩
  · obtain ⟨⟨v2, v3, v4, rfl, hS2⟩, rfl⟩ := hI
    obtain ⟨e, he, rfl⟩ := map_at hd
    have hS3 := hlrn _ hS2 (by walk_at "lsin")
    obtain ⟨aa, rfl⟩ := hS3.tup_of
    refine w_unpT2 hS3 (.dat (.head _)) fun u1 u2 hS4 => ?_
    obtain rfl := hS4.int_of
    walk_at "w"
    refine w_ifd (fun h2 => ?_) (fun h2 => ?_)
    · walk_at "w"
      refine ⟨⟨_, _, _, rfl, ?_⟩, rfl⟩
      rw [seen_step he, if_pos (by omega)]
      exact hS4.to (by walk_at "pick")
    · walk_at "w"
      refine ⟨⟨_, _, _, rfl, ?_⟩, rfl⟩
      rw [seen_step he, if_neg (by omega)]
      exact hS4.to (by walk_at "pick")
  · obtain ⟨⟨v2, v3, v4, rfl, hS2⟩, rfl⟩ := hI
    rw [List.length_map, List.take_length] at hS2
    obtain ⟨q, rfl⟩ := St.set_lst hS2
    walk_at "w"
    rename_i q2 H2 hS3
    exact hQ n rfl hn q2 H2 (hS3.to (by walk_at "pick"))
theorem w_ifK {P : Prop} [Decidable P] {σ : L2.St} {H : Hp} {Q : VK} {ta tb : TE} {x : V} (h1 : P → ∀ R : VK, R x H → ta σ H R) (h2 : ¬ P → ∀ R : VK, R x H → tb σ H R) (h : Q x H) : if decide P = true then ta σ H Q else tb σ H Q := by
  by_cases hp : P
  · rw [if_pos (decide_eq_true hp)]; exact h1 hp Q h
  · rw [if_neg (by simp [hp])]; exact h2 hp Q h
def spCut (K : PySem.W.Frag) : Sp := fun vs H Q _ => ∃ (L : List Ent) (a dx pb pp tq : Addr) (tv : V) (cuts : Int) (left : Option Nat) (B : List (List Int)) (P : List (Nat × List Int)) (ts ts0 : List Nat), vs = [.ref a, .ref tq] ∧
  St K (DL K a dx pb pp tv cuts left B P ts0 (Lg.dat (.ref tq) (tD ts) :: L)) H ∧ DOK B P ts ∧
  (∀ pp' tv' H', St K (DL K a dx pb pp' tv' (cuts + 1) none (torn B P ts) [] [] L) H' → Q .non H')
theorem p_cut (cf : CF K) (vs : List V) (H : Hp) (Q : VK) (E : XK) (h : spCut K vs H Q E) : vs.length = 2 ∧ t_Disk_cut K { nx := fun _ H' => Q .non H', rt := Q } (start N_Disk_cut vs) H := by
  obtain ⟨L, a, dx, pb, pp, tq, tv, cuts, left, B, P, ts, ts0, rfl, hS, hok, hQ⟩ := h
  refine ⟨rfl, ?_⟩
  unfold t_Disk_cut
  show tSeq _ _ _ [some (.ref a), some (.ref tq), none, none, none, none] H
  walk_at "w"
  refine w_fld hS (by walk_at "mem") cf.cls_Disk cf.na_Disk_pending lk_p ?_
  walk_at "w"
  refine w_forE (ds := P.map eD) (fun i σ H' => (∃ v2 v3 v4 v5, σ = [some (.ref a), some (.ref tq), v2, v3, v4, v5]) ∧ St K (DL K a dx pb pp tv cuts left (torn B (P.take i) ts) P ts0 (Lg.dat (.ref tq) (tD ts) :: L)) H') ⟨⟨_, _, _, _, rfl⟩, by simpa [torn] using hS⟩ (fun i σ H' _ hI => ?_) (fun i d T σ H' H2 hd hI hlrn => ?_) (fun σ H' hI => ?_)
  · exact ⟨_, hI.2, by walk_at "lsin"⟩
  · obtain ⟨⟨v2, v3, v4, v5, rfl⟩, hS1⟩ := hI
    obtain ⟨e, he, rfl⟩ := map_at hd
    have hem := hok.pe e (List.mem_of_getElem? he)
    have hlen : (torn B (P.take i) ts).length = B.length := torn_len
    have hbl : ∀ b ∈ torn B (P.take i) ts, b.length = 32 := torn_bl hok.bl (fun e he => hok.pe e (List.mem_of_mem_take he)) hok.tb
    have hgl := getD_len hbl (k := e.1) (by omega)
    obtain ⟨c, hc, htorn, hx⟩ : ∃ c : Nat, c ≤ 32 ∧ torn B (P.take (i + 1)) ts = tear (torn B (P.take i) ts) e c ∧ ((i < ts.length ∧ ts[i]? = some c) ∨ (¬ i < ts.length ∧ c = 0)) := by
      rw [torn_step he]
      cases ht : ts[i]? with
      | some t => exact ⟨t, hok.tb t (List.mem_of_getElem? ht), rfl, .inl ⟨(List.getElem?_eq_some_iff.mp ht).1, rfl⟩⟩
      | none =>
        refine ⟨0, by omega, ?_, .inr ⟨by have := List.getElem?_eq_none_iff.mp ht; omega, rfl⟩⟩
        unfold tear
        rw [List.take_zero, List.nil_append, List.drop_zero, set_self (by omega)]
    have hS2 := hlrn _ hS1 (by walk_at "lsin")
    clear hlrn hS1
    refine w_unpT2 hS2 (.dat (.head _)) fun u1 u2 hS3 => ?_
    obtain rfl := hS3.int_of
    obtain ⟨aa, rfl⟩ := St.tup_of hS3.tail
    walk_at "w"
    refine w_unpT2 hS3 (.dat (by walk_at "mem")) fun u3 u4 hS4 => ?_
    obtain rfl := hS4.int_of
    obtain ⟨ab, rfl⟩ := St.set_lst hS4.tail
    have hS5 := hS4.to (L' := Lg.dat (.ref ab) (bD e.2) :: DL K a dx pb pp tv cuts left (torn B (P.take i) ts) P ts0 (Lg.dat (.ref tq) (tD ts) :: L)) (by walk_at "pick")
    clear hS2 hS3 hS4
    walk_at "w"
    refine w_ifK (x := .int c) (fun h1 R hR => ?_) (fun h1 R hR => ?_) ?_
    · simp only [List.length_map] at h1
      rcases hx with ⟨h2, h3⟩ | ⟨h2, h3⟩
      · walk_at "w"
        refine w_ixLi (k := i) (m := c) hS5 (by walk_at "lsin") rfl (by rw [List.getElem?_map, h3]; rfl) ?_
        exact hR
      · omega
    · simp only [List.length_map] at h1
      rcases hx with ⟨h2, h3⟩ | ⟨h2, h3⟩
      · omega
      · walk_at "w"
        subst h3
        exact hR
    walk_at "w"
    rename_i q1 H3 hS6
    rw [cutD_no (b := c) rfl] at hS6
    refine w_fld hS6 (by walk_at "mem") cf.cls_Disk cf.na_Disk_blocks lk_b ?_
    walk_at "w"
    refine w_ixL (k := e.1) hS6 (by walk_at "lsin") rfl (bD_at (by omega)) fun v hS7 => ?_
    obtain ⟨q2, rfl⟩ := St.set_lst hS7
    walk_at "w"
    rename_i q3 H4 hS8
    rw [cutD_on (a := c) rfl] at hS8
    refine w_plusL hS8 (.own (by walk_at "mem")) (.own (by walk_at "mem")) (by rw [List.length_take, List.length_drop, List.length_map, List.length_map, hgl, hem.2]; omega) fun q4 H5 hS9 => ?_
    have hS10 := hS9.freeze
    rw [← List.map_take, ← List.map_drop, ← List.map_append] at hS10
    clear hS5 hS6 hS7 hS8 hS9
    walk_at "w"
    refine w_fld hS10 (by walk_at "mem") cf.cls_Disk cf.na_Disk_blocks lk_b ?_
    walk_at "w"
    refine w_setL (k := e.1) hS10 (L' := _) (by walk_at "put") (.dat (.head _)) rfl (by rw [List.length_map]; omega) fun H6 hS11 => ?_
    refine ⟨⟨_, _, _, _, rfl⟩, ?_⟩
    rw [htorn]
    unfold tear
    rw [set_map] at hS11
    exact hS11.to (by walk_at "pick")
  · obtain ⟨⟨v2, v3, v4, v5, rfl⟩, hS1⟩ := hI
    rw [List.length_map, List.take_length] at hS1
    walk_at "w"
    rename_i p1 H1 hS2
    refine w_sfld hS2 (.there .here) cf.cls_Disk cf.na_Disk_pending (by show 5 < 1000; decide) fun H3 hS3 => ?_
    rw [put_p] at hS3
    walk_at "w"
    refine w_fld hS3 (by walk_at "mem") cf.cls_Disk cf.na_Disk_cuts lk_c ?_
    walk_at "w"
    refine w_sfld hS3 (.there .here) cf.cls_Disk cf.na_Disk_cuts (by show 5 < 1000; decide) fun H4 hS4 => ?_
    rw [put_c] at hS4
    walk_at "w"
    refine w_sfld hS4 (.there .here) cf.cls_Disk cf.na_Disk_left (by show 5 < 1000; decide) fun H5 hS5 => ?_
    rw [put_l] at hS5
    walk_at "w"
    rename_i p2 H6 hS6
    have hS7 := hS6.freeze
    refine w_sfld hS7 (.there (.there .here)) cf.cls_Disk cf.na_Disk_torn (by show 5 < 1000; decide) fun H7 hS8 => ?_
    rw [put_t] at hS8
    refine hQ p1 (.ref p2) H7 ?_
    exact hS8.to (by walk_at "pick")
def spSpend (K : PySem.W.Frag) : Sp := fun vs H Q E => ∃ (L : List Ent) (a dx pb pp : Addr) (tv : V) (cuts : Int) (left : Option Nat) (B : List (List Int)) (P : List (Nat × List Int)) (ts : List Nat), vs = [.ref a] ∧
  St K (DL K a dx pb pp tv cuts left B P ts L) H ∧ DOK B P ts ∧
  (left = none → Q .non H) ∧
  (∀ n H', left = some (n + 1) → St K (DL K a dx pb pp tv cuts (some n) B P ts L) H' → Q .non H') ∧
  (∀ pp' tv' H', left = some 0 → St K (DL K a dx pb pp' tv' (cuts + 1) none (torn B P ts) [] [] L) H' → E (.ref (XP K)) none H')
theorem p_spend (cf : CF K) (vs : List V) (H : Hp) (Q : VK) (E : XK) (h : spSpend K vs H Q E) : vs.length = 1 ∧ t_Disk_spend K (spCut K) E { nx := fun _ H' => Q .non H', rt := Q } (start N_Disk_spend vs) H := by
  obtain ⟨L, a, dx, pb, pp, tv, cuts, left, B, P, ts, rfl, hS, hok, hQ0, hQ1, hE⟩ := h
  refine ⟨rfl, ?_⟩
  unfold t_Disk_spend
  show tSeq _ _ _ [some (.ref a)] H
  walk_at "w"
  refine w_fld hS (by walk_at "mem") cf.cls_Disk cf.na_Disk_left lk_l ?_
  walk_at "w"
  cases left with
  | none =>
    dsimp only [lV]
    walk_at "w"
    exact hQ0 rfl
  | some n =>
    dsimp only [lV]
    walk_at "w"
    refine w_fld hS (by walk_at "mem") cf.cls_Disk cf.na_Disk_left lk_l ?_
    dsimp only [lV]
    walk_at "w"
    refine w_ifd (fun h1 => ?_) (fun h1 => ?_)
    · obtain rfl : n = 0 := by omega
      walk_at "w"
      refine w_meth hS (.head _) (lk_no (by decide)) ?_
      walk_at "w"
      refine w_fld hS (by walk_at "mem") cf.cls_Disk cf.na_Disk_torn lk_t ?_
      obtain ⟨tq, rfl⟩ : ∃ tq, tv = .ref tq := St.lst_of (hS.to (L' := [Lg.dat tv (tD ts)]) (by walk_at "pick"))
      walk_at "w"
      have hS1 := hS.learn (v := .ref tq) (d := tD ts) (by walk_at "is")
      refine ⟨L, a, dx, pb, pp, tq, .ref tq, cuts, some 0, B, P, ts, ts, rfl, hS1.to (by walk_at "pick"), hok, fun pp' tv' H' hS2 => ?_⟩
      walk_at "w"
      exact hE pp' tv' H' rfl hS2
    · obtain ⟨m, rfl⟩ : ∃ m, n = m + 1 := ⟨n - 1, by omega⟩
      walk_at "w"
      refine w_fld hS (by walk_at "mem") cf.cls_Disk cf.na_Disk_left lk_l ?_
      dsimp only [lV]
      walk_at "w"
      refine w_sfld hS .here cf.cls_Disk cf.na_Disk_left (by show 5 < 1000; decide) fun H4 hS4 => ?_
      rw [put_l] at hS4
      refine hQ1 m H4 rfl ?_
      have e : V.int (((m + 1 : Nat) : Int) - 1) = lV (some m) := by show _ = V.int m; congr 1; omega
      rw [e] at hS4
      exact hS4
def spentTo (left left' : Option Nat) : Prop := (left = none ∧ left' = none) ∨ ∃ m, left = some (m + 1) ∧ left' = some m
def spWrite (K : PySem.W.Frag) : Sp := fun vs H Q E => ∃ (L : List Ent) (a dx pb pp qa : Addr) (tv : V) (cuts : Int) (left : Option Nat) (B : List (List Int)) (P : List (Nat × List Int)) (ts : List Nat) (k : Int) (b : List Int), vs = [.ref a, .int k, .ref qa] ∧
  St K (DL K a dx pb pp tv cuts left B P ts L) H ∧ DOK B P ts ∧ LsIn K L qa (b.map PyData.int) ∧ b.length ≤ 1000 ∧
  (¬ (0 ≤ k ∧ k < B.length) → ∀ d H', St K (xd d zat :: DL K a dx pb pp tv cuts left B P ts L) H' → E (.ref (XO K)) (some d) H') ∧
  ((0 ≤ k ∧ k < B.length) → isB b = false → ∀ d H', St K (xd d zblock :: DL K a dx pb pp tv cuts left B P ts L) H' → E (.ref (XO K)) (some d) H') ∧
  (∀ n : Nat, k = n → n < B.length → isB b = true → ∀ left' H', spentTo left left' → St K (DL K a dx pb pp tv cuts left' B (P ++ [(n, b)]) ts L) H' → Q .non H') ∧
  ((0 ≤ k ∧ k < B.length) → isB b = true → left = some 0 → ∀ pp' tv' H', St K (DL K a dx pb pp' tv' (cuts + 1) none (torn B P ts) [] [] L) H' → E (.ref (XP K)) none H')
theorem p_write (cf : CF K) (vs : List V) (H : Hp) (Q : VK) (E : XK) (h : spWrite K vs H Q E) : vs.length = 3 ∧ t_Disk_write K (spSpend K) (spIsBlock K) (spCheckAt K) E { nx := fun _ H' => Q .non H', rt := Q } (start N_Disk_write vs) H := by
  obtain ⟨L, a, dx, pb, pp, qa, tv, cuts, left, B, P, ts, k, b, rfl, hS, hok, hb, hbl, hE1, hE2, hQ, hE3⟩ := h
  refine ⟨rfl, ?_⟩
  unfold t_Disk_write
  walk_at "z"
  show tSeq _ _ _ [some (.ref a), some (.int k), some (.ref qa)] H
  walk_at "w"
  refine w_meth hS (.head _) (lk_no (by decide)) ?_
  walk_at "w"
  refine ⟨L, a, dx, pb, pp, tv, cuts, left, B, P, ts, k, rfl, hS, by have := hok.n1; omega, fun h0 h1 => ?_, fun hb d H' hS' => hE1 hb d H' hS'⟩
  obtain ⟨n, rfl⟩ := Int.eq_ofNat_of_zero_le h0
  have hn : n < B.length := by omega
  walk_at "w"
  refine ⟨_, qa, b, rfl, hS, by walk_at "lsin", hbl, ?_⟩
  walk_at "w"
  cases hB : isB b with
  | false =>
    walk_at "w"
    refine w_bt rfl ?_
    walk_at "w"
    exact w_mkO (v := .str (S zblock)) hS cf.ox_OutOfRange cf.xn_OutOfRange (fun R hR => by walk_at "w"; exact hR) fun d H' hS3 => hE2 ⟨h0, h1⟩ hB d H' hS3
  | true =>
    walk_at "w"
    refine w_bf rfl ?_
    walk_at "w"
    refine w_meth hS (.head _) (lk_no (by decide)) ?_
    walk_at "w"
    have go : ∀ left' H', spentTo left left' → St K (DL K a dx pb pp tv cuts left' B P ts L) H' → tDrop (tBM K "list" rAppend (tFld K (tVar 0) "_pending") (tCons (tTup (tCons (tVar 1) (tCons (tCB (rListOf K) (tCons (tVar 2) tNil)) tNil))) tNil)) { nx := fun _ H' => Q .non H', rt := Q } [some (.ref a), some (.int n), some (.ref qa)] H' := by
      intro left' H' hl hS1
      walk_at "w"
      refine w_fld hS1 (by walk_at "mem") cf.cls_Disk cf.na_Disk_pending lk_p ?_
      walk_at "w"
      rename_i q1 H1 hS2
      have hS3 := hS2.freeze
      clear hS2
      walk_at "w"
      rename_i q2 H2 hS4
      refine w_app hS4 (L' := _) (d := eD (n, b)) (by walk_at "put") (.dat (.head _)) (by rw [List.length_map]; have := hok.pn; omega) fun H3 hS5 => ?_
      refine hQ n rfl hn hB left' H3 hl ?_
      have e : P.map eD ++ [eD (n, b)] = (P ++ [(n, b)]).map eD := by simp
      rw [e] at hS5
      exact hS5.to (by walk_at "pick")
    refine ⟨L, a, dx, pb, pp, tv, cuts, left, B, P, ts, rfl, hS, hok, fun hl => ?_, fun m H' hl hS' => ?_, fun pp' tv' H' hl hS' => hE3 ⟨h0, h1⟩ hB hl pp' tv' H' hS'⟩
    · subst hl
      exact go none H (.inl ⟨rfl, rfl⟩) hS
    · exact go (some m) H' (.inr ⟨m, hl, rfl⟩) hS'
def spFlush (K : PySem.W.Frag) : Sp := fun vs H Q E => ∃ (L : List Ent) (a dx pb pp : Addr) (tv : V) (cuts : Int) (left : Option Nat) (B : List (List Int)) (P : List (Nat × List Int)) (ts : List Nat), vs = [.ref a] ∧
  St K (DL K a dx pb pp tv cuts left B P ts L) H ∧ DOK B P ts ∧
  (∀ left' pp' H', spentTo left left' → St K (DL K a dx pb pp' tv cuts left' (flushed B P) [] ts L) H' → Q .non H') ∧
  (left = some 0 → ∀ pp' tv' H', St K (DL K a dx pb pp' tv' (cuts + 1) none (torn B P ts) [] [] L) H' → E (.ref (XP K)) none H')
theorem p_flush (cf : CF K) (vs : List V) (H : Hp) (Q : VK) (E : XK) (h : spFlush K vs H Q E) : vs.length = 1 ∧ t_Disk_flush K (spSpend K) E { nx := fun _ H' => Q .non H', rt := Q } (start N_Disk_flush vs) H := by
  obtain ⟨L, a, dx, pb, pp, tv, cuts, left, B, P, ts, rfl, hS, hok, hQ, hE⟩ := h
  refine ⟨rfl, ?_⟩
  unfold t_Disk_flush
  show tSeq _ _ _ [some (.ref a), none, none] H
  walk_at "w"
  refine w_meth hS (.head _) (lk_no (by decide)) ?_
  walk_at "w"
  have go : ∀ left' H', spentTo left left' → St K (DL K a dx pb pp tv cuts left' B P ts L) H' → tSeq (tFor (iAny K (tFld K (tVar 0) "_pending")) (gUnp K 2 (gCons (gName 1) (gCons (gName 2) gNil))) (tAsg (tVar 2) (gSub (tFld K (tVar 0) "_blocks") (tVar 1) rSetL)))
    (sFld K (tVar 0) (tLst tNil) "_pending") { nx := fun _ H' => Q .non H', rt := Q } [some (.ref a), none, none] H' := by
    intro left' H' hl hS1
    walk_at "w"
    refine w_anyL1 ?_
    walk_at "w"
    refine w_fld hS1 (by walk_at "mem") cf.cls_Disk cf.na_Disk_pending lk_p ?_
    walk_at "w"
    refine w_forL (ds := P.map eD) (fun i σ H' => (∃ v2 v3, σ = [some (.ref a), v2, v3]) ∧ St K (DL K a dx pb pp tv cuts left' (flushed B (P.take i)) P ts L) H') ⟨⟨_, _, rfl⟩, hS1⟩ (fun i σ H' _ hI => ?_) (fun i d v σ H' hd hI hlrn => ?_) (fun σ H' hI => ?_)
    · exact ⟨_, hI.2, by walk_at "lsin"⟩
    · obtain ⟨⟨v2, v3, rfl⟩, hS2⟩ := hI
      obtain ⟨e, he, rfl⟩ := map_at hd
      have hS3 := hlrn _ hS2 (by walk_at "lsin")
      clear hlrn
      obtain ⟨aa, rfl⟩ := hS3.tup_of
      refine w_unpT2 hS3 (.dat (.head _)) fun u1 u2 hS4 => ?_
      obtain rfl := hS4.int_of
      walk_at "w"
      refine w_fld hS4 (by walk_at "mem") cf.cls_Disk cf.na_Disk_blocks lk_b ?_
      walk_at "w"
      refine w_setL (k := e.1) (d := bD e.2) hS4 (L' := _) (by walk_at "put") (.dat (by walk_at "mem")) rfl (by rw [List.length_map, flushed_len]; exact (hok.pe e (List.mem_of_getElem? he)).1) fun H6 hS5 => ?_
      refine ⟨⟨_, _, rfl⟩, ?_⟩
      rw [flushed_step he]
      unfold putB
      rw [set_map] at hS5
      exact hS5.to (by walk_at "pick")
    · obtain ⟨⟨v2, v3, rfl⟩, hS2⟩ := hI
      rw [List.length_map, List.take_length] at hS2
      walk_at "w"
      rename_i p1 H1 hS3
      refine w_sfld hS3 (.there .here) cf.cls_Disk cf.na_Disk_pending (by show 5 < 1000; decide) fun H4 hS4 => ?_
      rw [put_p] at hS4
      exact hQ left' p1 H4 hl (hS4.to (by walk_at "pick"))
  refine ⟨L, a, dx, pb, pp, tv, cuts, left, B, P, ts, rfl, hS, hok, fun hl => ?_, fun m H' hl hS' => ?_, fun pp' tv' H' hl hS' => hE hl pp' tv' H' hS'⟩
  · subst hl
    exact go none H (.inl ⟨rfl, rfl⟩) hS
  · exact go (some m) H' (.inr ⟨m, hl, rfl⟩) hS'
theorem okT_nat {ts : List Int} (h : okT ts = true) : ts.map PyData.int = (ts.map Int.toNat).map tI ∧ ∀ t ∈ ts.map Int.toNat, t ≤ 32 := by
  unfold okT at h
  rw [List.all_eq_true] at h
  refine ⟨?_, fun t ht => ?_⟩
  · rw [List.map_map]
    refine List.map_congr_left fun x hx => ?_
    have := h x hx
    simp only [Bool.and_eq_true, decide_eq_true_eq] at this
    show PyData.int x = PyData.int ((x.toNat : Nat) : Int)
    rw [Int.toNat_of_nonneg this.1]
  · obtain ⟨x, hx, rfl⟩ := List.mem_map.mp ht
    have := h x hx
    simp only [Bool.and_eq_true, decide_eq_true_eq] at this
    omega
theorem DOK.to {B : List (List Int)} {P : List (Nat × List Int)} {ts us : List Nat} (h : DOK B P ts) (h1 : us.length ≤ 1000) (h2 : ∀ t ∈ us, t ≤ 32) : DOK B P us := ⟨h.n0, h.n1, h.bl, h.pe, h.pn, h1, h2⟩
def spPend (K : PySem.W.Frag) : Sp := fun vs H Q E => ∃ (L : List Ent) (a dx pb pp : Addr) (tv : V) (cuts : Int) (left : Option Nat) (B : List (List Int)) (P : List (Nat × List Int)) (ts : List Nat), vs = [.ref a] ∧ St K (DL K a dx pb pp tv cuts left B P ts L) H ∧ Q (.int P.length) H
theorem p_pend (cf : CF K) (vs : List V) (H : Hp) (Q : VK) (E : XK) (h : spPend K vs H Q E) : vs.length = 1 ∧ t_Disk_pending_count K { nx := fun _ H' => Q .non H', rt := Q } (start N_Disk_pending_count vs) H := by
  obtain ⟨L, a, dx, pb, pp, tv, cuts, left, B, P, ts, rfl, hS, hQ⟩ := h
  refine ⟨rfl, ?_⟩
  unfold t_Disk_pending_count
  show tRet _ _ [some (.ref a)] H
  walk_at "w"
  refine w_fld hS (by walk_at "mem") cf.cls_Disk cf.na_Disk_pending lk_p ?_
  walk_at "w"
  rw [List.length_map]
  exact hQ
def spCuts (K : PySem.W.Frag) : Sp := fun vs H Q E => ∃ (L : List Ent) (a dx pb pp : Addr) (tv : V) (cuts : Int) (left : Option Nat) (B : List (List Int)) (P : List (Nat × List Int)) (ts : List Nat), vs = [.ref a] ∧ St K (DL K a dx pb pp tv cuts left B P ts L) H ∧ Q (.int cuts) H
theorem p_cuts (cf : CF K) (vs : List V) (H : Hp) (Q : VK) (E : XK) (h : spCuts K vs H Q E) : vs.length = 1 ∧ t_Disk_cut_count K { nx := fun _ H' => Q .non H', rt := Q } (start N_Disk_cut_count vs) H := by
  obtain ⟨L, a, dx, pb, pp, tv, cuts, left, B, P, ts, rfl, hS, hQ⟩ := h
  refine ⟨rfl, ?_⟩
  unfold t_Disk_cut_count
  show tRet _ _ [some (.ref a)] H
  walk_at "w"
  exact w_fld hS (by walk_at "mem") cf.cls_Disk cf.na_Disk_cuts lk_c hQ
def B0 (n : Nat) : List (List Int) := List.replicate n (List.replicate 32 0)
theorem DOK.start {n : Nat} (h1 : 8 ≤ n) (h2 : n ≤ 400) : DOK (B0 n) [] [] := ⟨by simp [B0]; exact h1, by simp [B0]; exact h2, fun b hb => by rw [List.eq_of_mem_replicate hb]; simp, fun e he => (by cases he), (by simp), (by simp), fun t ht => (by cases ht)⟩
theorem b0_of {es : List PyData} {n : Nat} (h1 : es.length = n) (h2 : ∀ (i : Nat) (e : PyData), es[i]? = some e → e = bD (List.replicate 32 0)) : es = (B0 n).map bD := by
  have := list_by (f := fun _ => bD (List.replicate 32 0)) h1 h2
  rw [this]
  apply List.ext_getElem?
  intro i
  by_cases hi : i < n
  · simp [hi, B0]
  · simp [hi, B0]
def spInit (K : PySem.W.Frag) : Sp := fun vs H Q E => ∃ (L : List Ent) (a dx : Addr) (k : Int), vs = [.ref a, .int k] ∧ St K (Lg.own a (.ins (HD K) dx []) :: Lg.own dx (.own a) :: L) H ∧
  (∀ n : Nat, k = n → 8 ≤ n → n ≤ 400 → ∀ pb pp tv H', St K (DL K a dx pb pp tv 0 none (B0 n) [] [] L) H' → Q .non H') ∧
  (¬ (8 ≤ k ∧ k ≤ 400) → ∀ d H', St K (xd d zblocks :: L) H' → E (.ref (XO K)) (some d) H')
theorem p_init (cf : CF K) (vs : List V) (H : Hp) (Q : VK) (E : XK) (h : spInit K vs H Q E) : vs.length = 2 ∧ t_Disk_init K E { nx := fun _ H' => Q .non H', rt := Q } (start N_Disk_init vs) H := by
  obtain ⟨L, a, dx, k, rfl, hS, hQ, hE⟩ := h
  refine ⟨rfl, ?_⟩
  unfold t_Disk_init
  walk_at "z"
  show tSeq _ _ _ [some (.ref a), some (.int k), none] H
  walk_at "w"
  refine w_ite (fun h2 => ?_) (fun h2 => ?_)
  · rw [Bool.not_eq_true', Bool.and_eq_false_iff, decide_eq_false_iff_not, decide_eq_false_iff_not] at h2
    walk_at "w"
    exact w_mkO (v := .str (S zblocks)) hS cf.ox_OutOfRange cf.xn_OutOfRange (fun R hR => by walk_at "w"; exact hR) fun d H' hS3 => hE (by omega) d H' (hS3.to (by walk_at "pick"))
  · rw [Bool.not_eq_false', Bool.and_eq_true, decide_eq_true_eq, decide_eq_true_eq] at h2
    obtain ⟨n, rfl⟩ := Int.eq_ofNat_of_zero_le (show 0 ≤ k by omega)
    walk_at "w"
    refine w_lcR (R := fun _ e => e = bD (List.replicate 32 0)) hS (by omega) ?_ ?_
    · intro i q es H1 hi hlen hS1 Z hZ
      show gName 2 _ [some (.ref a), some (.int n), none] _ _
      walk_at "w"
      refine ⟨rfl, ?_⟩
      walk_at "w"
      rename_i q1 H2 hS2 q2 H3 hS3
      have hS4 := hS3.freeze
      exact hZ _ _ _ rfl (hS4.to (by walk_at "pick"))
    intro q es H1 hlen hes hS1
    rw [b0_of hlen hes] at hS1
    walk_at "w"
    refine w_sfld hS1 (.there .here) cf.cls_Disk cf.na_Disk_blocks (by show 0 < 1000; decide) fun H2 hS2 => ?_
    walk_at "w"
    rename_i p1 H3 hS3
    refine w_sfld hS3 (.there (.there .here)) cf.cls_Disk cf.na_Disk_pending (by show 1 < 1000; decide) fun H4 hS4 => ?_
    walk_at "w"
    refine w_sfld hS4 (.there (.there .here)) cf.cls_Disk cf.na_Disk_cuts (by show 2 < 1000; decide) fun H5 hS5 => ?_
    walk_at "w"
    refine w_sfld hS5 (.there (.there .here)) cf.cls_Disk cf.na_Disk_left (by show 3 < 1000; decide) fun H6 hS6 => ?_
    walk_at "w"
    rename_i p2 H7 hS7
    have hS8 := hS7.freeze
    refine w_sfld hS8 (.there (.there (.there .here))) cf.cls_Disk cf.na_Disk_torn (by show 4 < 1000; decide) fun H8 hS9 => ?_
    rw [put_0] at hS9
    have e : (Int.toNat ((n : Int))) = n := by omega
    rw [e] at hS9
    refine hQ n rfl (by omega) (by omega) q p1 (.ref p2) H8 ?_
    exact hS9.to (by walk_at "pick")
def spSize (K : PySem.W.Frag) : Sp := fun vs H Q E => ∃ (L : List Ent) (a dx pb pp : Addr) (tv : V) (cuts : Int) (left : Option Nat) (B : List (List Int)) (P : List (Nat × List Int)) (ts : List Nat), vs = [.ref a] ∧ St K (DL K a dx pb pp tv cuts left B P ts L) H ∧ Q (.int B.length) H
theorem p_size (cf : CF K) (vs : List V) (H : Hp) (Q : VK) (E : XK) (h : spSize K vs H Q E) : vs.length = 1 ∧ t_Disk_size K { nx := fun _ H' => Q .non H', rt := Q } (start N_Disk_size vs) H := by
  obtain ⟨L, a, dx, pb, pp, tv, cuts, left, B, P, ts, rfl, hS, hQ⟩ := h
  refine ⟨rfl, ?_⟩
  unfold t_Disk_size
  show tRet _ _ [some (.ref a)] H
  walk_at "w"
  refine w_fld hS (by walk_at "mem") cf.cls_Disk cf.na_Disk_blocks lk_b ?_
  walk_at "w"
  rw [List.length_map]
  exact hQ
end
/-! ### what the laws of disks share -/
section
variable {K : PySem.W.Frag} {L L' : List Ent} {H : Hp} {Q : VK} {a : Addr} {ds : List PyData}
theorem St.freezeIn (h : St K L H) (q : Put L (Lg.ls K a ds) (Lg.dat (.ref a) (.list ds)) L') : St K L' H := by
  obtain ⟨R, h1, h2⟩ := q.perm
  exact (h.perm h1).freeze.perm h2.symm
theorem w_makeSE {C : Addr} {sp : Sp} {E : L2.St → XK} {t : TA} {σ : L2.St} (h : t σ H fun vs H1 => ∀ x dx, H1 x = none → H1 dx = none → dx ≠ x →
    sp (.ref x :: vs) (upd (upd H1 dx (.own x)) x (.ins C dx [])) (fun v H2 => v = .non ∧ Q (.ref x) H2) (E σ)) : tMakeS C sp E t σ H Q := h
end
abbrev zrefused : List Nat := [114, 101, 102, 117, 115, 101, 100]
abbrev zcut : List Nat := [99, 117, 116]
abbrev refD (nm : List Nat) : PyData := .tuple [.str (S zrefused), .str (S nm)]
theorem shaped_dl {dd : List PyData} (h : ∀ d ∈ dd, Fit 2 d) : SeqAt.shaped (.list dd) = true := (fit_list h).shaped
theorem bD_fit (b : List Int) (n : Nat) : Fit (n + 1) (bD b) := fit_ints n b
theorem bD_shaped (b : List Int) : SeqAt.shaped (bD b) = true := (fit_ints 0 b).shaped
end Di
end K47

/-! k47: records (as k45 has them) -/
namespace K45
open PySem PySem.Spec PyProof.Rows L2 Lg PySem.NumText K47
local macro_rules | `(tactic| walk_at "ar") => `(tactic| first | omega | (simp; done) | (simp; omega) | (simp only [S_len]; omega) | (simp [Lg.repL_len]; done) | (simp [Lg.repL_len]; omega))
local macro_rules | `(tactic| walk_at "gt") => `(tactic| repeat (first | exact GetAt.here | apply GetAt.there))
local macro_rules | `(tactic| walk_at "st") => `(tactic| repeat (first | exact SetAt.here | apply SetAt.there))
local macro_rules | `(tactic| walk_at "mem") => `(tactic| first | assumption | exact List.mem_cons_self | (apply List.mem_cons_of_mem; walk_at "mem"))
local macro_rules | `(tactic| walk_at "put") => `(tactic| repeat (first | exact Put.here | apply Put.there))
local macro_rules | `(tactic| walk_at "rem") => `(tactic| repeat (first | exact Rem.here | apply Rem.there))
local macro_rules | `(tactic| walk_at "pick") => `(tactic| first | exact Pick.refl | exact Pick.cons (by walk_at "rem") (by walk_at "pick") | (apply Pick.drop; walk_at "pick") | exact Pick.nil)
local macro_rules | `(tactic| walk_at "is") => `(tactic| first | exact Is.int | exact Is.str | exact Is.bl | exact Is.non | assumption | exact Is.dat (by walk_at "mem") | (apply Is.cons; walk_at "is"))
local macro_rules | `(tactic| walk_at "isall") => `(tactic| first | exact IsAll.nil | exact IsAll.cons (by walk_at "is") (by walk_at "isall"))
local macro_rules | `(tactic| walk_at "lsin") => `(tactic| first | assumption | exact LsIn.own (by walk_at "mem") | exact LsIn.dat (by walk_at "mem") | (apply LsIn.cons; walk_at "lsin"))
local macro_rules | `(tactic| walk_at "see") => `(tactic| first | exact See.own (by walk_at "mem") | exact See.is (by walk_at "is"))
local macro_rules | `(tactic| walk_at "w1") => `(tactic| first
  | (with_reducible apply Lg.w_seq)
  | (with_reducible apply Lg.w_asg)
  | ((with_reducible show gName _ _ _ _ _); (with_reducible refine Lg.w_name (by walk_at "st") ?_))
  | ((with_reducible show tVar _ _ _ _); (with_reducible refine Lg.w_var (by walk_at "gt") ?_))
  | (with_reducible apply Lg.w_c)
  | (with_reducible apply Lg.w_op)
  | (with_reducible apply Lg.w_un)
  | (with_reducible apply Lg.w_nil)
  | (with_reducible apply Lg.w_cons)
  | (with_reducible apply Lg.w_call)
  | (with_reducible apply Lg.w_cb)
  | (with_reducible apply Lg.w_tup)
  | (with_reducible apply Lg.w_lst)
  | (with_reducible apply Lg.w_bm)
  | (with_reducible apply Lg.w_bm0)
  | (with_reducible apply Lg.w_sl)
  | (with_reducible apply Lg.w_nopart)
  | (with_reducible apply Lg.w_part)
  | (with_reducible apply Lg.w_isint)
  | (with_reducible apply Lg.w_test)
  | (with_reducible apply Lg.w_tB)
  | (with_reducible apply Lg.w_isbl')
  | (with_reducible apply Lg.w_not)
  | (with_reducible apply Lg.w_tru)
  | (with_reducible apply Lg.w_truI)
  | (with_reducible apply Lg.w_truB)
  | (with_reducible apply Lg.w_ifs)
  | (with_reducible apply Lg.w_next)
  | (with_reducible apply Lg.w_break)
  | (with_reducible apply Lg.w_cont)
  | (with_reducible apply Lg.w_ret)
  | (with_reducible apply Lg.w_retn)
  | (with_reducible apply Lg.w_drop)
  | (with_reducible apply Lg.w_sub)
  | (with_reducible apply Lg.w_gnil)
  | (with_reducible apply Lg.w_gcons)
  | (with_reducible apply Lg.w_ifT)
  | (with_reducible apply Lg.w_ifF)
  | (with_reducible apply Lg.w_add)
  | (with_reducible apply Lg.w_sub2)
  | ((with_reducible show rTimes (V.int _) (V.int _) _ _); (with_reducible refine Lg.w_mulR (by omega) ?_))
  | ((with_reducible show rTimes (V.int _) (V.int _) _ _); (with_reducible refine Lg.w_mulL (by omega) ?_))
  | ((with_reducible show rMod (V.int _) (V.int _) _ _); (with_reducible refine Lg.w_mod (by first | decide | omega) ?_))
  | ((with_reducible show rFdiv (V.int _) (V.int _) _ _); (with_reducible refine Lg.w_fdiv (by first | decide | omega) ?_))
  | (with_reducible apply Lg.w_band)
  | (with_reducible apply Lg.w_lt)
  | (with_reducible apply Lg.w_le)
  | (with_reducible apply Lg.w_gt)
  | (with_reducible apply Lg.w_ge)
  | (with_reducible apply Lg.w_eqI)
  | (with_reducible apply Lg.w_neI)
  | (with_reducible apply Lg.w_intI2)
  | (with_reducible apply Lg.w_neg)
  | (with_reducible apply Lg.w_inSS)
  | (with_reducible apply Lg.w_ninSS)
  | (with_reducible apply Lg.w_inSS')
  | (with_reducible apply Lg.w_neSS)
  | (with_reducible apply Lg.w_strS)
  | (with_reducible apply Lg.w_fldE)
  | (with_reducible apply Lg.w_sfldE)
  | (with_reducible apply Lg.w_makeE)
  | (with_reducible apply Lg.w_methE)
  | (with_reducible apply Lg.w_methSE)
  | (with_reducible apply Lg.w_callS)
  | (with_reducible apply Lg.w_raiseO)
  | (with_reducible apply Lg.w_raiseB)
  | (with_reducible apply Lg.w_try)
  | (with_reducible apply Lg.w_strS)
  | (with_reducible apply Lg.w_eqSS)
  | (with_reducible apply Lg.w_eqS)
  | (with_reducible apply Lg.w_neS)
  | (with_reducible apply Lg.w_isN)
  | (with_reducible apply Lg.w_isR)
  | (with_reducible apply Lg.w_isI)
  | (with_reducible apply Lg.w_isS)
  | (with_reducible apply Lg.w_nsN)
  | (with_reducible apply Lg.w_nsR)
  | (with_reducible apply Lg.w_nsI)
  | (with_reducible apply Lg.w_nsS)
  | (with_reducible apply Lg.w_int)
  | (with_reducible apply Lg.w_intb)
  | (with_reducible apply Lg.w_ord1)
  | (with_reducible apply Lg.w_tyS)
  | (with_reducible apply Lg.w_inSg)
  | (with_reducible apply Lg.w_ninSg)
  | ((with_reducible show NewL _ _ _); (with_reducible refine Lg.w_newL (by assumption) (by walk_at "isall") (by simp) ?_); (intro p' H' hS'))
  | ((with_reducible show NewT _ _ _); (with_reducible refine Lg.w_newT (by assumption) (by walk_at "isall") (by simp) ?_); (intro p' H' hS'))
  | ((with_reducible show TyThen _ _ (V.ref _) _ _); (with_reducible refine Lg.w_tyL (by assumption) (by walk_at "lsin") ?_))
  | ((with_reducible show rLenX _ [V.ref _] _ _); (with_reducible refine Lg.w_lenL (by assumption) (by walk_at "lsin") ?_))
  | ((with_reducible show rLenX _ [V.ref _] _ _); (with_reducible refine Lg.w_lenT (by assumption) (by walk_at "is") ?_))
  | ((with_reducible show spDraw _ _ _ _ _); (with_reducible refine Lg.w_draw (by assumption) (by walk_at "mem") (by first | decide | omega) ?_); (intro k' H' hk0' hk1' hS'))
  | ((with_reducible show rSlX _ (V.ref _) _ _ _ _); (with_reducible refine Lg.w_slL (by assumption) (by walk_at "lsin") ?_); (intro p' H' hS'))
  | ((with_reducible show rListOf _ [V.ref _] _ _); (with_reducible refine Lg.w_listL (by assumption) (by walk_at "lsin") ?_); (intro p' H' hS'))
  | (with_reducible apply Lg.w_for)
  | (with_reducible apply Lg.w_lc)
  | ((with_reducible show iAny _ (tVar _) _ _ _); (with_reducible refine Lg.w_anyVar (by walk_at "gt") ?_))
  | (with_reducible apply Lg.w_anyC)
  | (with_reducible apply Lg.w_vS)
  | (with_reducible apply Lg.w_itS)
  | ((with_reducible show AnyV _ (V.ref _) _ _); (with_reducible refine Lg.w_vL (by assumption) (by walk_at "lsin") ?_))
  | ((with_reducible show AnyL _ (V.ref _) _ _); (with_reducible refine Lg.w_itL (by assumption) (by walk_at "lsin") ?_))
  | ((with_reducible show AnyV _ (V.ref _) _ _); (with_reducible refine Lg.w_vT (by assumption) (by walk_at "is") ?_))
  | ((with_reducible show AnyT _ (V.ref _) _ _); (with_reducible refine Lg.w_itT (by assumption) (by walk_at "is") ?_))
  | ((with_reducible show Enu _ [V.ref _] _ _); (with_reducible refine Lg.w_itE (by assumption) (by walk_at "lsin") ?_))
  | ((with_reducible show rPlus _ (V.ref _) (V.ref _) _ _); (with_reducible refine Lg.w_plusL (by assumption) (by walk_at "lsin") (by walk_at "lsin") (by walk_at "ar") ?_); (intro p' H' hS'))
  | ((with_reducible show rTimes (V.ref _) (V.int _) _ _); (with_reducible refine Lg.w_repLs (by assumption) (by walk_at "lsin") (by walk_at "ar") (by walk_at "ar") (by walk_at "ar") ?_); (intro p' H' hS'))
  | ((with_reducible show rLenX _ [V.str (S _)] _ _); (with_reducible refine Lg.w_lenSS (by walk_at "ar") ?_))
  | ((with_reducible show rLenX _ [V.str _] _ _); (with_reducible refine Lg.w_lenS (by walk_at "ar") ?_))
  | ((with_reducible show rSlX _ (V.str _) _ _ _ _); (with_reducible refine Lg.w_slS (by walk_at "ar") ?_))
  | (with_reducible apply Lg.w_rng1)
  | (with_reducible apply Lg.w_rng2)
  | (with_reducible apply Lg.w_rng3)
  | (with_reducible apply Lg.w_enum)
  | ((with_reducible show Rng1 _ _ _); (with_reducible refine Lg.w_itR1 (by omega) ?_))
  | ((with_reducible show Rng2 _ _ _); (with_reducible refine Lg.w_itR2 (by omega) (by omega) ?_))
  | ((with_reducible show rIx _ (V.ref _) (V.int _) _ _); (with_reducible refine Lg.w_ixN (by assumption) (by walk_at "lsin") (by walk_at "ar") (by walk_at "ar") ?_))
  | ((with_reducible show rPlus _ (V.str (S _)) (V.str (S _)) _ _); (with_reducible refine Lg.w_addSS (by walk_at "ar") ?_))
  | ((with_reducible show rTimes (V.str (S _)) (V.int _) _ _); (with_reducible refine Lg.w_repSS (by walk_at "ar") (by walk_at "ar") (by walk_at "ar") ?_))
  | ((with_reducible show rIsi _ [V.ref _, V.ty "list"] _ _); (with_reducible refine Lg.w_isLL (by assumption) (by walk_at "lsin") ?_))
  | ((with_reducible show rIsi _ [V.ref _, V.ty "tuple"] _ _); (with_reducible refine Lg.w_isTT (by assumption) (by walk_at "is") ?_))
  | (with_reducible apply Lg.w_isII)
  | (with_reducible apply Lg.w_isSI)
  | (with_reducible apply Lg.w_isSS)
  | (with_reducible apply Lg.w_isIS)
  | (with_reducible apply Lg.w_ifexp)
  | (with_reducible apply Lg.w_chain)
  | ((with_reducible show ChainK _ _ _ _ _ _ _); (with_reducible refine Lg.w_chainLe (by (intro R' hR'; walk_at "w"; exact hR')) ?_))
  | ((with_reducible show ChainK _ _ _ _ _ _ _); (with_reducible refine Lg.w_chainLt (by (intro R' hR'; walk_at "w"; exact hR')) ?_))
  | ((with_reducible show tAnd _ _ _ _ _); (with_reducible refine Lg.w_andP (by (intro R' hR'; walk_at "w"; exact hR')) (by (intro hb' R' hR'; walk_at "w"; exact hR')) ?_))
  | ((with_reducible show tOr _ _ _ _ _); (with_reducible refine Lg.w_orP (by (intro R' hR'; walk_at "w"; exact hR')) (by (intro hb' R' hR'; walk_at "w"; exact hR')) ?_))
  | ((with_reducible show tAndV _ _ _ _ _); (with_reducible refine Lg.w_andVP (by (intro R' hR'; walk_at "w"; exact hR')) (by (intro hb' R' hR'; walk_at "w"; exact hR')) ?_))
  | ((with_reducible show tOrV _ _ _ _ _); (with_reducible refine Lg.w_orVP (by (intro R' hR'; walk_at "w"; exact hR')) (by (intro hb' R' hR'; walk_at "w"; exact hR')) ?_))
  | (with_reducible apply Lg.w_notV))
local macro_rules | `(tactic| walk_at "w") => `(tactic| repeat (walk_at "w1"))
local macro_rules | `(tactic| walk_at "z") => `(tactic| simp only [z_0, z_1, z_2, z_3, z_4, z_5, z_6, z_7, z_8, z_9, z_10, z_11, z_12, z_13, z_14, z_15, z_16, z_17, z_18, z_19, z_20, z_21, z_22, z_23, z_24, z_25, z_26, z_27, z_28, z_29, z_30, z_31, z_32, z_33, z_34, z_35, z_36, z_37])
theorem zl_letters : zl_2 = letters := by decide +kernel
/-! ### records: what their defs compute (shared; as k45 has it) -/
theorem tab_res : tab_RESERVED = resL.map S := by decide +kernel
theorem tab_ok {K : PySem.W.Frag} (cf : CF K) (H : Hp) : SqT K H (He.ga K "RESERVED") (sV resL) := by
  have h2 := He.tupB_ok cf.t_RESERVED H
  rw [tab_res] at h2
  exact h2
section
variable {K : PySem.W.Frag}
def spAlike (K : PySem.W.Frag) : Sp := fun vs H Q _ => ∃ (x y : V) (d : PyData) (n w : Nat), vs = [x, y] ∧ Dp K H x d ∧ Dp K H y d ∧ Shw n w d ∧ n ≤ 60 ∧ w ≤ 1048576 ∧ Q (.bl true) H
theorem p_alike (vs : List V) (H : Hp) (Q : VK) (E : XK) (h : spAlike K vs H Q E) : vs.length = 2 ∧ t_l_alike K { nx := fun _ H' => Q .non H', rt := Q } (start N_l_alike vs) H := by
  obtain ⟨x, y, d, n, w, rfl, hx, hy, sh, hn, hw, hQ⟩ := h
  refine ⟨rfl, ?_⟩
  unfold t_l_alike
  show tRet _ _ [some x, some y] H
  walk_at "w"
  refine ⟨x, d, n, w, rfl, hx, sh, hn, hw, ?_⟩
  walk_at "w"
  refine ⟨y, d, n, w, rfl, hy, sh, hn, hw, ?_⟩
  walk_at "w"
  rw [decide_eq_true rfl]
  exact hQ
abbrev resD : List PyData := resL.map fun y => PyData.str (S y)
def spName (K : PySem.W.Frag) : Sp := fun vs H Q _ => ∃ (L : List Ent) (l : List Nat), vs = [.str (S l)] ∧ St K L H ∧ l.length ≤ 100000 ∧ Is L (.ref (He.ga K "RESERVED")) (.tuple resD) ∧ ∀ H', St K L H' → Q (.bl (isName l)) H'
theorem p_name (vs : List V) (H : Hp) (Q : VK) (E : XK) (h : spName K vs H Q E) : vs.length = 1 ∧ t_is_name K { nx := fun _ H' => Q .non H', rt := Q } (start N_is_name vs) H := by
  obtain ⟨L, l, rfl, hS, hl, hres, hQ⟩ := h
  refine ⟨rfl, ?_⟩
  unfold t_is_name
  walk_at "z"
  rw [zl_letters]
  show tRet _ _ [some (.str (S l)), none] H
  walk_at "w"
  refine w_andV ?_
  walk_at "w"
  refine w_ite (fun h1 => ?_) (fun h1 => ?_)
  · refine w_andV ?_
    walk_at "w"
    refine w_lcS (R := fun i e => ∃ c, l[i]? = some c ∧ e = .bool (decide (c ∈ letters))) hS (by rw [S_len]; omega) ?_ ?_
    · intro i c q es H1 hc hlen hS1 Z hZ
      show gName 1 _ [some (.str (S l)), none] _ _
      walk_at "w"
      refine ⟨rfl, ?_⟩
      walk_at "w"
      exact hZ _ (.bool _) _ ⟨c, by simpa using hc, rfl⟩ (hS1.learn .bl)
    intro q es H1 hlen hes hS1
    have e : es = (l.map fun c => decide (c ∈ letters)).map PyData.bool := by
      have h1 := list_by (ds := es) (n := l.length) (f := fun i => .bool (decide (l.getD i 0 ∈ letters))) (by simpa using hlen) fun i e he => by
        obtain ⟨c, hc, rfl⟩ := hes i e he
        simp [List.getD_eq_getElem?_getD, hc]
      rw [h1]
      apply List.ext_getElem?
      intro i
      by_cases hi : i < l.length
      · simp [hi]
      · simp [hi]
    subst e
    walk_at "w"
    refine w_allB hS1 (by walk_at "lsin") ?_
    refine ⟨_, rfl, w_ite (fun h2 => ?_) (fun h2 => ?_)⟩
    · walk_at "w"
      refine w_ninTS (ys := resL) hS1 (Is.cons hres) ?_
      have e : isName l = !decide (l ∈ resL) := by
        unfold isName
        rw [h1]
        have : (l.all fun c => decide (c ∈ letters)) = true := by simpa [Function.comp_def] using h2
        rw [this]
        rfl
      rw [← e]
      exact hQ _ hS1.tail
    · have e : isName l = false := by
        unfold isName
        rw [h1]
        have : (l.all fun c => decide (c ∈ letters)) = false := by simpa [Function.comp_def] using h2
        rw [this]
        rfl
      have := hQ _ hS1.tail
      rw [e] at this
      exact this
  · have e : isName l = false := by
      unfold isName
      rw [h1]
      rfl
    have := hQ _ hS
    rw [e] at this
    exact this
def spValue (K : PySem.W.Frag) : Sp := fun vs H Q _ => (∃ i : Int, vs = [.int i] ∧ Q (.bl (decide (-99999 ≤ i) && decide (i ≤ 99999))) H) ∨ (∃ l, vs = [.str (S l)] ∧ l.length ≤ 100000 ∧ Q (.bl (strVal l)) H)
theorem p_value (vs : List V) (H : Hp) (Q : VK) (E : XK) (h : spValue K vs H Q E) : vs.length = 1 ∧ t_is_value K { nx := fun _ H' => Q .non H', rt := Q } (start N_is_value vs) H := by
  rcases h with ⟨i, rfl, hQ⟩ | ⟨l, rfl, hl, hQ⟩
  · refine ⟨rfl, ?_⟩
    unfold t_is_value
    show tSeq _ _ _ [some (.int i)] H
    walk_at "w"
    exact hQ
  · refine ⟨rfl, ?_⟩
    unfold t_is_value
    walk_at "z"
    show tSeq _ _ _ [some (.str (S l))] H
    walk_at "w"
    have e : decide ((l.length : Int) ≤ 20) = decide (l.length ≤ 20) := decide_eq_decide.mpr (by omega)
    rw [e]
    exact hQ

abbrev XO (K : PySem.W.Frag) : Addr := He.ga K "OutOfRange"
abbrev xd (d : Addr) (nm : List Nat) : Ent := Lg.own d (.xd [(("name" : Str), V.str (S nm))])
theorem sD_map (xs : List (List Nat)) : (xs.map sD)[0]? = xs[0]?.map sD := by simp
theorem sD_at {xs : List (List Nat)} {i : Nat} {d : PyData} (h : (xs.map sD)[i]? = some d) : ∃ x, xs[i]? = some x ∧ d = sD x := by
  rw [List.getElem?_map] at h
  obtain ⟨x, h1, rfl⟩ := Option.map_eq_some_iff.mp h
  exact ⟨x, h1, rfl⟩
def spCheckE (K : PySem.W.Frag) : Sp := fun vs H Q E => ∃ (L : List Ent) (aa : Addr) (xs : List (List Nat)), vs = [.ref aa] ∧ St K L H ∧ Is L (.ref aa) (.tuple (xs.map sD)) ∧ xs.length ≤ 100000 ∧ (∀ x ∈ xs, x.length ≤ 100000) ∧ Is L (.ref (He.ga K "RESERVED")) (.tuple resD) ∧
  (entOK xs = true → ∀ H', St K L H' → Q .non H') ∧ (entOK xs = false → ∀ d H', St K (xd d zent :: L) H' → E (.ref (XO K)) (some d) H')
theorem p_check_entries (cf : CF K) (vs : List V) (H : Hp) (Q : VK) (E : XK) (h : spCheckE K vs H Q E) : vs.length = 1 ∧ t_check_entries K (spName K) E { nx := fun _ H' => Q .non H', rt := Q } (start N_check_entries vs) H := by
  obtain ⟨L, aa, xs, rfl, hS, haa, hlen, hx, hres, hQ, hE⟩ := h
  refine ⟨rfl, ?_⟩
  unfold t_check_entries
  walk_at "z"
  show tSeq _ _ _ [some (.ref aa), none] H
  have raise : ∀ {H2 : Hp} {L0 : List Ent} {σ : L2.St}, entOK xs = false → St K (L0 ++ L) H2 → tMkO (XO K) (spExI K (XO K) "name") [] (tCons (tC (.str (S zent))) tNil) σ H2 fun cls d H => E cls d H := fun {H2 L0 σ} hb hS2 => by
    refine w_mkO (v := .str (S zent)) hS2 cf.ox_OutOfRange cf.xn_OutOfRange (fun R hR => by walk_at "w"; exact hR) fun d H' hS3 => ?_
    have h4 : St K (L0 ++ (xd d zent :: L)) H' := hS3.perm List.perm_middle.symm
    exact hE hb d H' h4.dropA
  walk_at "w"
  refine w_or ?_
  walk_at "w"
  rw [List.length_map]
  refine w_ite (fun h1 => ?_) (fun h1 => ?_)
  · walk_at "w"
    refine raise (L0 := []) ?_ hS
    rw [Bool.not_eq_true', Bool.and_eq_false_iff, decide_eq_false_iff_not, decide_eq_false_iff_not] at h1
    unfold entOK
    by_cases h2 : 1 ≤ xs.length
    · have : ¬ xs.length ≤ 3 := by omega
      rw [decide_eq_false this]
      simp
    · rw [decide_eq_false h2]; rfl
  rw [Bool.not_eq_false', Bool.and_eq_true, decide_eq_true_eq, decide_eq_true_eq] at h1
  walk_at "w"
  refine w_lenSetTV (xs := xs) GetAt.here hS haa (by omega) fun m hm hi => ?_
  walk_at "w"
  rw [List.length_map]
  walk_at "w"
  refine w_ifnd (fun h2 => ?_) (fun h2 => ?_)
  · walk_at "w"
    refine raise (L0 := []) ?_ hS
    unfold entOK
    have : ¬ xs.Nodup := fun z => h2 (by have := hi.mpr z; omega)
    rw [decide_eq_false this]
    simp
  have hnd : xs.Nodup := hi.mp (by omega)
  walk_at "w"
  obtain ⟨ys, hy, hS1⟩ := hS.tupF haa
  have hyl := (hS1.tf (.head _)).2.1
  refine w_forT (ds := xs.map sD) hyl (fun i σ H' => (∃ v1, σ = [some (.ref aa), v1]) ∧ St K (Ent.fact (Fr.tupf K aa ys (xs.map sD)) :: L) H' ∧ ((xs.take i).all isName) = true) ⟨⟨_, rfl⟩, hS1, by simp⟩ (fun i σ H' _ hI => (hI.2.1.tf (.head _)).1) (fun i d v σ H' hd hv hI => ?_) (fun σ H' hI => ?_)
  · obtain ⟨⟨v1, rfl⟩, hS2, hall⟩ := hI
    obtain ⟨x, hxi, rfl⟩ := sD_at hd
    have hS3 := (hS2.tf (.head _)).2.2 i _ v hd hv
    obtain rfl := hS3.str_of
    walk_at "w"
    refine ⟨_, x, rfl, hS2, hx x (List.mem_of_getElem? hxi), hres.cons, fun H2 hS4 => ?_⟩
    walk_at "w"
    cases hn : isName x with
    | false =>
      refine w_bt rfl ?_
      walk_at "w"
      refine raise (L0 := [_]) ?_ hS4
      unfold entOK
      have : xs.all isName = false := by
        rw [List.all_eq_false]
        exact ⟨x, List.mem_of_getElem? hxi, by rw [hn]; simp⟩
      rw [this]
      simp
    | true =>
      refine w_bf rfl ?_
      walk_at "w"
      refine ⟨⟨_, rfl⟩, hS4, ?_⟩
      rw [List.take_succ, hxi, List.all_append, hall]
      simp [hn]
  · obtain ⟨⟨v1, rfl⟩, hS2, hall⟩ := hI
    rw [List.length_map, List.take_length] at hall
    walk_at "w"
    refine hQ ?_ H' hS2.tail
    unfold entOK
    rw [decide_eq_true (show 1 ≤ xs.length by omega), decide_eq_true (show xs.length ≤ 3 by omega), decide_eq_true hnd, hall]
    rfl
def Va.v : Va → V
  | .i n => .int n
  | .s l => .str (S l)
def Va.few : Va → Prop
  | .i n => n.natAbs < 1000000
  | .s l => l.length ≤ 50000
theorem va_is {L : List Ent} {v : Va} : Is L v.v v.d := by
  cases v with
  | i n => exact .int
  | s l => exact .str
theorem va_of {H : Hp} {L : List Ent} {x : V} {v : Va} (h : St K (.dat x v.d :: L) H) : x = v.v := by
  cases v with
  | i n => exact h.int_of
  | s l => exact h.str_of
def spVText (K : PySem.W.Frag) : Sp := fun vs H Q _ => ∃ v : Va, vs = [v.v] ∧ v.few ∧ Q (.str (S v.t)) H
theorem p_value_text (vs : List V) (H : Hp) (Q : VK) (E : XK) (h : spVText K vs H Q E) : vs.length = 1 ∧ t_value_text K { nx := fun _ H' => Q .non H', rt := Q } (start N_value_text vs) H := by
  obtain ⟨v, rfl, hf, hQ⟩ := h
  refine ⟨rfl, ?_⟩
  unfold t_value_text
  walk_at "z"
  cases v with
  | i n =>
    show tRet _ _ [some (.int n)] H
    walk_at "w"
    refine w_strN ?_ hQ
    have hf : n.natAbs < 1000000 := hf
    omega
  | s l =>
    have hf : l.length ≤ 50000 := hf
    show tRet _ _ [some (.str (S l))] H
    walk_at "w"
    exact hQ
theorem p_lvalue_text (vs : List V) (H : Hp) (Q : VK) (E : XK) (h : spVText K vs H Q E) : vs.length = 1 ∧ t_l_value_text K { nx := fun _ H' => Q .non H', rt := Q } (start N_l_value_text vs) H := by
  obtain ⟨v, rfl, hf, hQ⟩ := h
  refine ⟨rfl, ?_⟩
  unfold t_l_value_text
  walk_at "z"
  cases v with
  | i n =>
    show tSeq _ _ _ [some (.int n)] H
    walk_at "w"
    refine w_strN ?_ hQ
    have hf : n.natAbs < 1000000 := hf
    omega
  | s l =>
    have hf : l.length ≤ 50000 := hf
    show tSeq _ _ _ [some (.str (S l))] H
    walk_at "w"
    exact hQ
theorem jn_joinL : ∀ xs : List (List Nat), jn xs = TL.joinL [32] xs
  | [] => rfl
  | [p] => rfl
  | p :: q :: r => by
    show p ++ 32 :: jn (q :: r) = p ++ ([32] ++ TL.joinL [32] (q :: r))
    rw [jn_joinL (q :: r)]
    rfl
theorem jn_len : ∀ xs : List (List Nat), (xs.map List.length).sum + xs.length ≤ (jn xs).length + 1
  | [] => by simp
  | [p] => by simp [jn]
  | p :: q :: r => by
    have := jn_len (q :: r)
    have e : jn (p :: q :: r) = p ++ 32 :: jn (q :: r) := rfl
    rw [e]
    simp only [List.length_append, List.length_cons, List.map_cons, List.sum_cons] at this ⊢
    omega
theorem log_ok {i : Int} (hn : i.natAbs < 1000000) : i.natAbs.log2 < 1920 := by
  have h2 : i.natAbs < 2 ^ 40 := by
    have : (1000000 : Nat) ≤ 2 ^ 40 := by decide
    omega
  have := log2_le h2
  omega
theorem zbar : (Str.ofString "|") = S [124] := by decide +kernel
theorem znl : (Str.ofString "\n") = S [10] := by decide +kernel
theorem join_is {xs : List (List Nat)} : Txt.join (S [32]) (xs.map S) = S (jn xs) := by
  rw [← TL.mk_tl (Txt.join (S [32]) (xs.map S)), TL.join_eq, TL.tl_join, jn_joinL]
  congr 1
  rw [List.map_map]
  have : TL.tl ∘ S = id := by funext x; rfl
  rw [this, List.map_id]
section
variable {L : List Ent} {H : Hp} {Q : VK} {a : Addr}
theorem w_joinB {xs : List (List Nat)} (hS : St K L H) (hl : LsIn K L a (xs.map sD)) (hn : (jn xs).length ≤ 50000) (h : Q (.str (S (jn xs))) H) : rJoin K (.str (S [32])) [.ref a] H Q := by
  have h1 := jn_len xs
  refine w_join (ys := xs.map S) hS (by rw [List.map_map]; exact hl) ?_ (by rw [join_is]; exact h)
  rw [List.map_map, List.length_map]
  have e : ((fun x : Str => x.length) ∘ S) = List.length := by funext x; exact S_len x
  have e2 : (S [32]).length = 1 := rfl
  show (xs.map ((fun x : Str => x.length) ∘ S)).sum + _ ≤ _
  rw [e, e2]
  omega
theorem w_repl0 {σ : L2.St} {to : TE} {y z : Str} (h : to σ H fun v H1 => ∃ x, v = .str x ∧ x.length + (x.length + 1) * z.length ≤ 16777216 ∧ Q (.str (Txt.replace x y z)) H1) : CwR.tReplC to y z σ H Q := h
theorem repl_room {l : List Nat} {z : Nat} (h : l.length ≤ 100000) : (S l).length + ((S l).length + 1) * (S [z]).length ≤ 16777216 := by
  rw [S_len]
  show l.length + (l.length + 1) * 1 ≤ _
  omega
end
theorem dgI_nat (n : Nat) : dgI (n : Int) = dg n := by
  unfold dgI
  rw [if_neg (by omega)]
  rfl
theorem jn_mem : ∀ {xs : List (List Nat)} {x : List Nat}, x ∈ xs → x.length ≤ (jn xs).length
  | [p], x, h => by
    rw [List.mem_singleton] at h
    subst h
    exact Nat.le_refl _
  | p :: q :: r, x, h => by
    have e : jn (p :: q :: r) = p ++ 32 :: jn (q :: r) := rfl
    rw [e, List.length_append, List.length_cons]
    rcases List.mem_cons.mp h with rfl | h
    · omega
    · have := jn_mem h
      omega
theorem vs_few {vs : List Va} (h1 : (vs.all fun | .i n => decide (n.natAbs < 1000000) | .s _ => true) = true) (h2 : ∀ v ∈ vs, v.t.length ≤ 20000) : ∀ v ∈ vs, v.few := by
  intro v hv
  have h3 := List.all_eq_true.mp h1 v hv
  have h4 := h2 v hv
  cases v with
  | i n =>
    have h3 : decide (n.natAbs < 1000000) = true := h3
    show n.natAbs < 1000000
    exact of_decide_eq_true h3
  | s l =>
    have e : (Va.s l).t.length = l.length + 2 := by simp [Va.t]
    show l.length ≤ 50000
    omega
theorem jn_two (a b : List Nat) (r : List (List Nat)) : jn (a :: b :: r) = jn ((a ++ 32 :: b) :: r) := by
  cases r with
  | nil => rfl
  | cons c r =>
    show a ++ 32 :: (b ++ 32 :: jn (c :: r)) = (a ++ 32 :: b) ++ 32 :: jn (c :: r)
    simp
theorem vt_list {es : List PyData} {vs : List Va} {n : Nat} (hlen : es.length = n) (hn : n = vs.length) (hes : ∀ (i : Nat) (e : PyData), es[i]? = some e → ∃ v : Va, vs[i]? = some v ∧ e = sD v.t) : es = (vs.map Va.t).map sD := by
  have h1 := list_by (ds := es) (n := vs.length) (f := fun i => sD ((vs.getD i (.i 0)).t)) (by omega) fun i e he => by
    obtain ⟨v, hv, rfl⟩ := hes i e he
    simp [List.getD_eq_getElem?_getD, hv]
  rw [h1]
  apply List.ext_getElem?
  intro i
  by_cases hi : i < vs.length
  · simp [hi]
  · simp [hi]
def spWriteR (K : PySem.W.Frag) : Sp := fun vs H Q _ => ∃ (L : List Ent) (a : Addr) (r : Rec), vs = [.ref a] ∧ St K L H ∧ Is L (.ref a) r.d ∧ r.few = true ∧ r.t.length ≤ 20000 ∧ ∀ H', St K L H' → Q (.str (S r.t)) H'
theorem p_write_record (vs : List V) (H : Hp) (Q : VK) (E : XK) (h : spWriteR K vs H Q E) : vs.length = 1 ∧ t_write_record K (spVText K) { nx := fun _ H' => Q .non H', rt := Q } (start N_write_record vs) H := by
  obtain ⟨L, a, r, rfl, hS, ha, hf, hl, hQ⟩ := h
  refine ⟨rfl, ?_⟩
  unfold t_write_record
  walk_at "z"
  show tSeq _ _ _ [some (.ref a), none, none, none] H
  walk_at "w"
  cases r with
  | ent ns =>
    refine w_ixTs (k := 0) (m := S zent) hS ha rfl rfl ?_
    walk_at "w"
    refine w_ifp rfl ?_
    walk_at "w"
    rename_i q1 H1 hS1
    refine w_ixT (k := 1) (d := .tuple (ns.map sD)) hS1 ha.cons rfl rfl fun v hS2 => ?_
    obtain ⟨av, rfl⟩ := hS2.tup_of
    walk_at "w"
    refine w_listT hS2 (.dat (.head _)) fun q2 H2 hS3 => ?_
    have hl' : (jn (zent :: ns)).length ≤ 20000 := hl
    have hj := jn_len (zent :: ns)
    refine w_plusL hS3 (.own (by walk_at "mem")) (.own (by walk_at "mem")) (by simp at hj ⊢; omega) fun q3 H3 hS4 => ?_
    walk_at "w"
    refine w_joinB (xs := zent :: ns) hS4 (.own (.head _)) (by omega) ?_
    exact hQ _ (hS4.to (by walk_at "pick"))
  | txt m t =>
    have hl' : (ztext ++ 32 :: (m ++ 32 :: t.map fun x => if x = 10 then 124 else x)).length ≤ 20000 := hl
    simp at hl'
    refine w_ixTs (k := 0) (m := S ztext) hS ha rfl rfl ?_
    walk_at "w"
    refine w_ifq (by decide) ?_
    walk_at "w"
    refine w_ifp rfl ?_
    walk_at "w"
    refine w_ixTs (k := 1) (m := S m) hS ha rfl rfl ?_
    walk_at "w"
    refine w_repl0 ?_
    walk_at "w"
    refine w_ixTs (k := 2) (m := S t) hS ha rfl rfl ?_
    refine ⟨S t, rfl, repl_room (by omega), ?_⟩
    rw [zbar, repl_is]
    refine w_addSS (by simp; omega) ?_
    have e : [116, 101, 120, 116, 32] ++ m ++ [32] ++ (t.map fun x => if x = 10 then 124 else x) = (Rec.txt m t).t := by simp [Rec.t]
    rw [e]
    exact hQ _ hS
  | rem m =>
    refine w_ixTs (k := 0) (m := S zrem) hS ha rfl rfl ?_
    walk_at "w"
    refine w_ifq (by decide) ?_
    walk_at "w"
    refine w_ifq (by decide) ?_
    walk_at "w"
    refine w_ifq (by decide) ?_
    walk_at "w"
    refine w_ixTs (k := 1) (m := S m) hS ha rfl rfl ?_
    walk_at "w"
    have e : zrem ++ [32] ++ m = (Rec.rem m).t := by simp [Rec.t]
    have hl' : (zrem ++ 32 :: m).length ≤ 20000 := hl
    simp at hl'
    refine w_addSS (by simp; omega) ?_
    rw [e]
    exact hQ _ hS
  | upd n =>
    have hf' : n < 1000000 := by simpa [Rec.few] using hf
    refine w_ixTs (k := 0) (m := S zupd) hS ha rfl rfl ?_
    walk_at "w"
    refine w_ifq (by decide) ?_
    walk_at "w"
    refine w_ifq (by decide) ?_
    walk_at "w"
    refine w_ifq (by decide) ?_
    walk_at "w"
    refine w_ixTi (k := 1) (m := n) hS ha rfl rfl ?_
    walk_at "w"
    refine w_strI rfl (by omega) ?_
    have hd := dg_len (n := n) (k := 6) (by omega) (by omega)
    refine w_addSS (by simp; omega) ?_
    have e : zupd ++ [32] ++ dg n = (Rec.upd n).t := by simp [Rec.t]
    rw [e]
    exact hQ _ hS
  | cal h k m f vs =>
    simp only [Rec.few, Bool.and_eq_true, decide_eq_true_eq] at hf
    obtain ⟨hf1, hf2, hf3⟩ := hf
    have hl' : (jn (head h k m f :: vs.map Va.t)).length ≤ 20000 := hl
    have hj := jn_len (head h k m f :: vs.map Va.t)
    have hhl : (head h k m f).length ≤ 20000 := by
      rw [List.map_cons, List.sum_cons] at hj
      simp only [List.length_cons] at hj
      omega
    have hdh := dg_len (n := h) (k := 6) (by omega) (by omega)
    have hdk := dg_len (n := k) (k := 6) (by omega) (by omega)
    simp [head] at hhl
    refine w_ixTs (k := 0) (m := S zcall) hS ha rfl rfl ?_
    walk_at "w"
    refine w_ifq (by decide) ?_
    walk_at "w"
    refine w_ifq (by decide) ?_
    walk_at "w"
    refine w_ifp rfl ?_
    walk_at "w"
    refine w_fs (w_js ?_)
    walk_at "w"
    refine w_jsS (by simp) (w_js (w_fmt ?_))
    walk_at "w"
    refine w_ixTi (k := 1) (m := h) hS ha rfl rfl ?_
    refine .inr ⟨_, rfl, log_ok (by omega), ?_⟩
    rw [dgI_text, dgI_nat]
    refine w_jsS (by simp; omega) (w_js ?_)
    walk_at "w"
    refine w_jsS (by simp; omega) (w_js (w_fmt ?_))
    walk_at "w"
    refine w_ixTi (k := 2) (m := k) hS ha rfl rfl ?_
    refine .inr ⟨_, rfl, log_ok (by omega), ?_⟩
    rw [dgI_text, dgI_nat]
    refine w_jsS (by simp; omega) (w_js ?_)
    walk_at "w"
    refine w_jsS (by simp; omega) (w_js (w_fmt ?_))
    walk_at "w"
    refine w_ixTs (k := 3) (m := S m) hS ha rfl rfl ?_
    refine .inl ⟨_, rfl, by rw [S_len, sizeLine_eq]; omega, ?_⟩
    refine w_jsS (by simp; omega) (w_js ?_)
    walk_at "w"
    refine w_jsS (by simp; omega) (w_js (w_fmt ?_))
    walk_at "w"
    refine w_ixTs (k := 4) (m := S f) hS ha rfl rfl ?_
    refine .inl ⟨_, rfl, by rw [S_len, sizeLine_eq]; omega, ?_⟩
    refine w_jsS (by simp; omega) (w_js0 ?_)
    have e : [] ++ [99, 97, 108, 108, 32] ++ dg h ++ [32] ++ dg k ++ [32] ++ m ++ [32] ++ f = head h k m f := by simp [head]
    rw [e]
    walk_at "w"
    rename_i q1 H1 hS1
    have hvf := vs_few hf3 fun v hv => Nat.le_trans (jn_mem (List.mem_cons_of_mem _ (List.mem_map_of_mem hv))) hl'
    have hvl : vs.length ≤ 20001 := by
      simp only [List.length_cons, List.length_map] at hj
      omega
    refine w_anyT1 ?_
    walk_at "w"
    refine w_ixT (k := 5) (d := .tuple (vs.map Va.d)) hS1 ha.cons rfl rfl fun v5 hS2 => ?_
    obtain ⟨av, rfl⟩ := hS2.tup_of
    walk_at "w"
    obtain ⟨ys, hy, hS3⟩ := hS2.tupF (.dat (.head _))
    refine w_lcT (R := fun i e => ∃ v : Va, vs[i]? = some v ∧ e = sD v.t) hS3 (.head _) (by rw [List.length_map]; omega) ?_ ?_
    · intro i d q es x H2 hd hlen hS4 Z hZ
      rw [List.getElem?_map] at hd
      obtain ⟨u, hu, rfl⟩ := Option.map_eq_some_iff.mp hd
      obtain rfl := va_of hS4
      show gName 3 _ [some (.ref a), some (.str (S zcall)), some (.str (S (head h k m f))), none] _ _
      walk_at "w"
      refine ⟨rfl, ?_⟩
      walk_at "w"
      exact ⟨u, rfl, hvf u (List.mem_of_getElem? hu), hZ _ _ _ ⟨u, hu, rfl⟩ (hS4.tail.learn .str)⟩
    intro q es H2 hlen hes hS4
    have ees := vt_list hlen (by rw [List.length_map]) hes
    subst ees
    refine w_plusL hS4 (.own (by walk_at "mem")) (.own (by walk_at "mem")) (by simp; omega) fun q3 H3 hS5 => ?_
    walk_at "w"
    refine w_joinB (xs := head h k m f :: vs.map Va.t) hS5 (.own (.head _)) (by omega) ?_
    exact hQ _ (hS5.to (by walk_at "pick"))
theorem p_lrecord_text (vs : List V) (H : Hp) (Q : VK) (E : XK) (h : spWriteR K vs H Q E) : vs.length = 1 ∧ t_l_record_text K (spVText K) { nx := fun _ H' => Q .non H', rt := Q } (start N_l_record_text vs) H := by
  obtain ⟨L, a, r, rfl, hS, ha, hf, hl, hQ⟩ := h
  refine ⟨rfl, ?_⟩
  unfold t_l_record_text
  walk_at "z"
  show tSeq _ _ _ [some (.ref a), none] H
  walk_at "w"
  cases r with
  | ent ns =>
    refine w_ixTs (k := 0) (m := S zent) hS ha rfl rfl ?_
    walk_at "w"
    refine w_ifq (by decide) ?_
    walk_at "w"
    refine w_ixTs (k := 0) (m := S zent) hS ha rfl rfl ?_
    walk_at "w"
    refine w_ifq (by decide) ?_
    walk_at "w"
    refine w_ixTs (k := 0) (m := S zent) hS ha rfl rfl ?_
    walk_at "w"
    refine w_ifp rfl ?_
    walk_at "w"
    rename_i q1 H1 hS1
    refine w_ixT (k := 1) (d := .tuple (ns.map sD)) hS1 ha.cons rfl rfl fun v hS2 => ?_
    obtain ⟨av, rfl⟩ := hS2.tup_of
    walk_at "w"
    refine w_listT hS2 (.dat (.head _)) fun q2 H2 hS3 => ?_
    have hl' : (jn (zent :: ns)).length ≤ 20000 := hl
    have hj := jn_len (zent :: ns)
    refine w_plusL hS3 (.own (by walk_at "mem")) (.own (by walk_at "mem")) (by simp at hj ⊢; omega) fun q3 H3 hS4 => ?_
    walk_at "w"
    refine w_joinB (xs := zent :: ns) hS4 (.own (.head _)) (by omega) ?_
    exact hQ _ (hS4.to (by walk_at "pick"))
  | txt m t =>
    have hl' : (ztext ++ 32 :: (m ++ 32 :: t.map fun x => if x = 10 then 124 else x)).length ≤ 20000 := hl
    simp at hl'
    refine w_ixTs (k := 0) (m := S ztext) hS ha rfl rfl ?_
    walk_at "w"
    refine w_ifp rfl ?_
    walk_at "w"
    refine w_ixTs (k := 1) (m := S m) hS ha rfl rfl ?_
    walk_at "w"
    refine w_repl0 ?_
    walk_at "w"
    refine w_ixTs (k := 2) (m := S t) hS ha rfl rfl ?_
    refine ⟨S t, rfl, repl_room (by omega), ?_⟩
    rw [zbar, repl_is]
    refine w_addSS (by simp; omega) ?_
    have e : [116, 101, 120, 116, 32] ++ m ++ [32] ++ (t.map fun x => if x = 10 then 124 else x) = (Rec.txt m t).t := by simp [Rec.t]
    rw [e]
    exact hQ _ hS
  | rem m =>
    refine w_ixTs (k := 0) (m := S zrem) hS ha rfl rfl ?_
    walk_at "w"
    refine w_ifq (by decide) ?_
    walk_at "w"
    refine w_ixTs (k := 0) (m := S zrem) hS ha rfl rfl ?_
    walk_at "w"
    refine w_ifq (by decide) ?_
    walk_at "w"
    refine w_ixTs (k := 0) (m := S zrem) hS ha rfl rfl ?_
    walk_at "w"
    refine w_ifq (by decide) ?_
    walk_at "w"
    refine w_ixTs (k := 0) (m := S zrem) hS ha rfl rfl ?_
    walk_at "w"
    refine w_ixTs (k := 1) (m := S m) hS ha rfl rfl ?_
    walk_at "w"
    have e : zrem ++ [32] ++ m = (Rec.rem m).t := by simp [Rec.t]
    have hl' : (zrem ++ 32 :: m).length ≤ 20000 := hl
    simp at hl'
    refine w_addSS (by simp; omega) ?_
    rw [e]
    exact hQ _ hS
  | upd n =>
    have hf' : n < 1000000 := by simpa [Rec.few] using hf
    refine w_ixTs (k := 0) (m := S zupd) hS ha rfl rfl ?_
    walk_at "w"
    refine w_ifq (by decide) ?_
    walk_at "w"
    refine w_ixTs (k := 0) (m := S zupd) hS ha rfl rfl ?_
    walk_at "w"
    refine w_ifq (by decide) ?_
    walk_at "w"
    refine w_ixTs (k := 0) (m := S zupd) hS ha rfl rfl ?_
    walk_at "w"
    refine w_ifq (by decide) ?_
    walk_at "w"
    refine w_ixTs (k := 0) (m := S zupd) hS ha rfl rfl ?_
    walk_at "w"
    refine w_ixTi (k := 1) (m := n) hS ha rfl rfl ?_
    walk_at "w"
    refine w_strI rfl (by omega) ?_
    have hd := dg_len (n := n) (k := 6) (by omega) (by omega)
    refine w_addSS (by simp; omega) ?_
    have e : zupd ++ [32] ++ dg n = (Rec.upd n).t := by simp [Rec.t]
    rw [e]
    exact hQ _ hS
  | cal h k m f vs =>
    simp only [Rec.few, Bool.and_eq_true, decide_eq_true_eq] at hf
    obtain ⟨hf1, hf2, hf3⟩ := hf
    have hl' : (jn (head h k m f :: vs.map Va.t)).length ≤ 20000 := hl
    have hj := jn_len (head h k m f :: vs.map Va.t)
    refine w_ixTs (k := 0) (m := S zcall) hS ha rfl rfl ?_
    walk_at "w"
    refine w_ifq (by decide) ?_
    walk_at "w"
    refine w_ixTs (k := 0) (m := S zcall) hS ha rfl rfl ?_
    walk_at "w"
    refine w_ifp rfl ?_
    walk_at "w"
    refine w_ixTi (k := 1) (m := h) hS ha rfl rfl ?_
    walk_at "w"
    refine w_strI rfl (by omega) ?_
    walk_at "w"
    refine w_ixTi (k := 2) (m := k) hS ha rfl rfl ?_
    walk_at "w"
    refine w_strI rfl (by omega) ?_
    walk_at "w"
    refine w_ixTs (k := 3) (m := S m) hS ha rfl rfl ?_
    walk_at "w"
    refine w_ixTs (k := 4) (m := S f) hS ha rfl rfl ?_
    walk_at "w"
    rename_i q1 H1 hS1
    have hvf := vs_few hf3 fun v hv => Nat.le_trans (jn_mem (List.mem_cons_of_mem _ (List.mem_map_of_mem hv))) hl'
    have hvl : vs.length ≤ 20001 := by
      simp only [List.length_cons, List.length_map] at hj
      omega
    refine w_anyT1 ?_
    walk_at "w"
    refine w_ixT (k := 5) (d := .tuple (vs.map Va.d)) hS1 ha.cons rfl rfl fun v5 hS2 => ?_
    obtain ⟨av, rfl⟩ := hS2.tup_of
    walk_at "w"
    obtain ⟨ys, hy, hS3⟩ := hS2.tupF (.dat (.head _))
    refine w_lcT (R := fun i e => ∃ v : Va, vs[i]? = some v ∧ e = sD v.t) hS3 (.head _) (by rw [List.length_map]; omega) ?_ ?_
    · intro i d q es x H2 hd hlen hS4 Z hZ
      rw [List.getElem?_map] at hd
      obtain ⟨u, hu, rfl⟩ := Option.map_eq_some_iff.mp hd
      obtain rfl := va_of hS4
      show gName 1 _ [some (.ref a), none] _ _
      walk_at "w"
      refine ⟨rfl, ?_⟩
      walk_at "w"
      exact ⟨u, rfl, hvf u (List.mem_of_getElem? hu), hZ _ _ _ ⟨u, hu, rfl⟩ (hS4.tail.learn .str)⟩
    intro q es H2 hlen hes hS4
    have ees := vt_list hlen (by rw [List.length_map]) hes
    subst ees
    refine w_plusL hS4 (.own (by walk_at "mem")) (.own (by walk_at "mem")) (by simp; omega) fun q3 H3 hS5 => ?_
    walk_at "w"
    have e : jn (zcall :: dg h :: dg k :: m :: f :: vs.map Va.t) = jn (head h k m f :: vs.map Va.t) := by
      rw [jn_two, jn_two, jn_two, jn_two]
      simp [head]
    refine w_joinB (xs := zcall :: dg h :: dg k :: m :: f :: vs.map Va.t) hS5 (.own (.head _)) (by rw [e]; omega) ?_
    rw [e]
    exact hQ _ (hS5.to (by walk_at "pick"))
theorem truS_ok {H : Hp} {l : List Nat} (hl : l.length ≤ 100000) : TruV K (.str (S l)) H (!l.isEmpty) := by
  refine ⟨by rw [S_len, sizeLine_eq]; omega, ?_⟩
  rw [S_len]
  cases l with
  | nil => rfl
  | cons x r =>
    show true = (((x :: r).length : Int) != 0)
    rw [List.length_cons]
    symm
    rw [bne_iff_ne]
    omega
theorem bools_of {l : List Nat} {es : List PyData} {p : Nat → Bool} (hlen : es.length = l.length) (hes : ∀ (i : Nat) (e : PyData), es[i]? = some e → ∃ x, l[i]? = some x ∧ e = .bool (p x)) : es = (l.map p).map PyData.bool := by
  apply List.ext_getElem?
  intro i
  by_cases hi : i < es.length
  · obtain ⟨x, h1, h2⟩ := hes i es[i] (List.getElem?_eq_getElem hi)
    rw [List.getElem?_eq_getElem hi, h2, List.getElem?_map, List.getElem?_map, h1]
    rfl
  · rw [List.getElem?_eq_none (by omega), List.getElem?_eq_none (by simp; omega)]
def numV : Option Nat → V
  | none => .non
  | some n => .int n
def spReadNum (K : PySem.W.Frag) : Sp := fun vs H Q _ => ∃ (L : List Ent) (l : List Nat) (most : Nat), vs = [.str (S l), .int most] ∧ St K L H ∧ l.length ≤ 100000 ∧ most < 1000000 ∧ ∀ H', St K L H' → Q (numV (readNum l most)) H'
theorem p_read_number (vs : List V) (H : Hp) (Q : VK) (E : XK) (h : spReadNum K vs H Q E) : vs.length = 2 ∧ t_read_number K { nx := fun _ H' => Q .non H', rt := Q } (start N_read_number vs) H := by
  obtain ⟨L, l, most, rfl, hS, hl, hm, hQ⟩ := h
  refine ⟨rfl, ?_⟩
  unfold t_read_number
  walk_at "z"
  show tSeq _ _ _ [some (.str (S l)), some (.int most), none] H
  have hdm := dg_len (n := most) (k := 6) (by omega) (by omega)
  walk_at "w"
  refine w_or ?_
  walk_at "w"
  refine ⟨_, truS_ok hl, ?_⟩
  cases l with
  | nil =>
    refine w_bt rfl ?_
    walk_at "w"
    exact hQ H hS
  | cons c r =>
    refine w_bf rfl ?_
    refine w_or ?_
    walk_at "w"
    refine w_lcS (R := fun i e => ∃ x, (c :: r)[i]? = some x ∧ e = .bool (!decide (x ∈ figs))) hS (by rw [S_len]; omega) ?_ ?_
    · intro i x q es H1 hx hlen hS1 Z hZ
      show gName 2 _ [some (.str (S (c :: r))), some (.int most), none] _ _
      walk_at "w"
      refine ⟨rfl, ?_⟩
      walk_at "w"
      exact hZ _ (.bool _) _ ⟨x, by simpa using hx, rfl⟩ (hS1.learn .bl)
    intro q es H1 hlen hes hS1
    have e := bools_of (l := c :: r) (p := fun x => !decide (x ∈ figs)) (by simpa using hlen) hes
    subst e
    walk_at "w"
    refine w_anyB hS1 (by walk_at "lsin") ?_
    have e2 : (((c :: r).map fun x => !decide (x ∈ figs)).any id) = (c :: r).any fun x => !decide (x ∈ figs) := by simp [Function.comp_def]
    rw [e2]
    walk_at "w"
    have hS2 := hS1.tail
    clear hS1
    refine w_ite (fun h1 => ?_) (fun h1 => ?_)
    · walk_at "w"
      have er : readNum (c :: r) most = none := by
        unfold readNum
        rw [h1, if_pos (by simp)]
      have := hQ H1 hS2
      rw [er] at this
      exact this
    walk_at "w"
    refine w_strI rfl (by omega) ?_
    walk_at "w"
    refine w_ifd (fun h2 => ?_) (fun h2 => ?_)
    · walk_at "w"
      have er : readNum (c :: r) most = none := by
        unfold readNum
        rw [if_pos]
        rw [h1, decide_eq_true (by omega)]
        simp
      have := hQ H1 hS2
      rw [er] at this
      exact this
    have e3 : readNum (c :: r) most = if (decide ((c :: r).head? = some 48) && decide (1 < (c :: r).length)) = true then none else if digitsVal (c :: r) ≤ most then some (digitsVal (c :: r)) else none := by
      unfold readNum
      rw [if_neg]
      rw [h1, decide_eq_false (by omega)]
      simp
    have hall : AllDigits (c :: r) := fun x hx => by
      have := List.any_eq_false.mp h1 x hx
      rw [Bool.not_eq_true, Bool.not_eq_false', decide_eq_true_eq] at this
      exact mem_figs.mp this
    have hlen2 : (c :: r).length ≤ 6 := by omega
    walk_at "w"
    refine w_and ?_
    walk_at "w"
    refine w_ixSg (c := c) (by omega) (by omega) rfl ?_
    walk_at "w"
    have fin : ∀ {H2 : Hp}, St K L H2 → ¬ (decide ((c :: r).head? = some 48) && decide (1 < (c :: r).length)) = true → tRet (tIf (tTest (tOp rLe (tCB rIntY (tCons (tVar 0) tNil)) (tVar 1))) (tCB rIntY (tCons (tVar 0) tNil)) (tC .non)) { nx := fun _ H' => Q .non H', rt := Q } [some (.str (S (c :: r))), some (.int most), none] H2 := by
      intro H2 hS3 hc
      rw [if_neg hc] at e3
      walk_at "w"
      refine w_intT (n := (digitsVal (c :: r) : Nat)) (intText_digits hall (by simp [S]) (by rw [S_len]; omega)) (by omega) ?_
      walk_at "w"
      refine w_ifd (fun h4 => ?_) (fun h4 => ?_)
      · walk_at "w"
        refine w_intT (n := (digitsVal (c :: r) : Nat)) (intText_digits hall (by simp [S]) (by rw [S_len]; omega)) (by omega) ?_
        rw [if_pos (by omega)] at e3
        have := hQ H2 hS3
        rw [e3] at this
        exact this
      · walk_at "w"
        rw [if_neg (by omega)] at e3
        have := hQ H2 hS3
        rw [e3] at this
        exact this
    refine w_ifd (fun h3 => ?_) (fun h3 => ?_)
    · walk_at "w"
      have hc : c = 48 := by simpa using h3
      refine w_ifd (fun h4 => ?_) (fun h4 => ?_)
      · walk_at "w"
        rw [if_pos] at e3
        · have := hQ H1 hS2
          rw [e3] at this
          exact this
        · rw [Bool.and_eq_true, decide_eq_true_eq, decide_eq_true_eq]
          exact ⟨by rw [hc]; rfl, by omega⟩
      · refine w_next (fin hS2 ?_)
        rw [decide_eq_false (show ¬ 1 < (c :: r).length by omega)]
        simp
    · refine w_ifF (w_next (fin hS2 ?_))
      have hc : ¬ c = 48 := by simpa using h3
      simp [hc]
theorem cutS_on {l : List Nat} {i : Int} {a : Nat} (hi : i = (a : Int)) : cutS (S l) (some i) none = S (l.drop a) := by
  unfold cutS
  rw [S_len, sIx_nat' _ _ a _ hi, HT.sIx_none]
  show S ((l.drop (min a l.length)).take (l.length - min a l.length)) = S _
  congr 1
  by_cases h : a ≤ l.length
  · rw [Nat.min_eq_left h, List.take_of_length_le (by rw [List.length_drop]; omega)]
  · have h3 : l.length ≤ a := by omega
    rw [Nat.min_eq_right h3, List.drop_of_length_le (Nat.le_refl _), List.drop_of_length_le h3]
    simp
theorem cutS_no {l : List Nat} {j : Int} {b : Nat} (hj : j = (b : Int)) : cutS (S l) none (some j) = S (l.take b) := by
  unfold cutS
  rw [S_len, HT.sIx_none, sIx_nat' _ _ b _ hj]
  show S ((l.drop 0).take (min b l.length - 0)) = S _
  rw [List.drop_zero, Nat.sub_zero]
  congr 1
  by_cases h : b ≤ l.length
  · rw [Nat.min_eq_left h]
  · rw [Nat.min_eq_right (by omega), List.take_of_length_le (Nat.le_refl _), List.take_of_length_le (by omega)]
theorem w_ifK {P : Prop} [Decidable P] {σ : L2.St} {H : Hp} {Q : VK} {ta tb : TE} {x : V} (h1 : P → ∀ R : VK, R x H → ta σ H R) (h2 : ¬ P → ∀ R : VK, R x H → tb σ H R) (h : Q x H) : if decide P = true then ta σ H Q else tb σ H Q := by
  by_cases hp : P
  · rw [if_pos (decide_eq_true hp)]; exact h1 hp Q h
  · rw [if_neg (by simp [hp])]; exact h2 hp Q h
def spReadVal (K : PySem.W.Frag) : Sp := fun vs H Q _ => ∃ (L : List Ent) (l : List Nat), vs = [.str (S l)] ∧ St K L H ∧ l.length ≤ 50000 ∧ (readVal l = none → ∀ H', St K L H' → Q .non H') ∧ (∀ v r, readVal l = some (v, r) → ∀ p H', St K (Lg.dat (.ref p) (.tuple [v.d, sD r]) :: L) H' → Q (.ref p) H')
theorem p_read_value (vs : List V) (H : Hp) (Q : VK) (E : XK) (h : spReadVal K vs H Q E) : vs.length = 1 ∧ t_read_value K (spReadNum K) { nx := fun _ H' => Q .non H', rt := Q } (start N_read_value vs) H := by
  obtain ⟨L, l, rfl, hS, hl, hQ0, hQ1⟩ := h
  refine ⟨rfl, ?_⟩
  unfold t_read_value
  walk_at "z"
  show tSeq _ _ _ [some (.str (S l)), none, none, none, none, none] H
  walk_at "w"
  refine w_starts ?_
  walk_at "w"
  refine w_ifd (fun h1 => ?_) (fun h1 => ?_)
  · cases l with
    | nil => cases h1
    | cons c r =>
      obtain rfl : c = 34 := Option.some.inj h1
      have er : readVal (34 :: r) = if 34 ∈ r then some (.s (r.takeWhile (· != 34)), (r.dropWhile (· != 34)).drop 1) else none := by
        unfold readVal
        rw [if_pos (show (34 :: r).head? = some 34 from rfl)]
        rfl
      walk_at "w"
      refine w_find3 ?_
      by_cases h2 : 34 ∈ r
      · obtain ⟨e1, e2⟩ := cut_at h2
        rw [if_pos h2] at er
        generalize r.takeWhile (· != 34) = p at *
        generalize (r.dropWhile (· != 34)).drop 1 = q at *
        subst e1
        have hf := find_some (l := 34 :: (p ++ 34 :: q)) (r := p ++ 34 :: q) (c := 34) (k := 1) (m := p.length) rfl (by simp) (by simpa using e2) (by simp)
        have e3 : ((1 : Nat) : Int) = 1 := rfl
        rw [e3] at hf
        rw [hf]
        walk_at "w"
        refine w_ifq (by omega) ?_
        walk_at "w"
        rename_i q1 H1 hS1
        rw [cutS_nn (i := 1) (j := ((1 + p.length : Nat) : Int)) (a := 1) (b := 1 + p.length) rfl rfl, cutS_on (a := 1 + p.length + 1) (by omega)] at hS1
        have e4 : ((34 :: (p ++ 34 :: q)).drop 1).take (1 + p.length - 1) = p := by simp
        have e5 : (34 :: (p ++ 34 :: q)).drop (1 + p.length + 1) = q := by
          rw [show 1 + p.length + 1 = (p.length + 1) + 1 by omega, List.drop_succ_cons]
          simp
        rw [e4, e5] at hS1
        exact hQ1 _ _ er q1 H1 hS1
      · rw [if_neg h2] at er
        have hf := find_none (l := 34 :: r) (c := 34) (k := 1) h2 (by simp)
        have e3 : ((1 : Nat) : Int) = 1 := rfl
        rw [e3] at hf
        rw [hf]
        walk_at "w"
        refine w_ifp (by decide) ?_
        walk_at "w"
        exact hQ0 er H hS
  · have er : readVal l = match readNum (if (l.takeWhile (· != 32)).head? = some 45 then (l.takeWhile (· != 32)).drop 1 else l.takeWhile (· != 32)) 99999 with
        | none => none
        | some n => some (.i (if (l.takeWhile (· != 32)).head? = some 45 then -(n : Int) else n), (if 32 ∈ l then [32] else []) ++ (l.dropWhile (· != 32)).drop 1) := by
      unfold readVal
      exact (if_neg h1).trans rfl
    have tw : (l.takeWhile (· != 32)).length ≤ l.length := List.IsPrefix.length_le (List.takeWhile_prefix _)
    have dw : (l.dropWhile (· != 32)).length ≤ l.length := List.IsSuffix.length_le (List.dropWhile_suffix _)
    walk_at "w"
    refine w_partn hS (by omega) fun p H1 hS1 => ?_
    refine w_unpT3 hS1 (.dat (.head _)) fun v1 v2 v3 hS2 => ?_
    obtain rfl := hS2.str_of
    obtain rfl := hS2.tail.str_of
    obtain rfl := hS2.tail.tail.str_of
    have hS3 := hS2.tail.tail.tail.tail
    clear hS1 hS2
    generalize l.takeWhile (· != 32) = w at *
    generalize hq : (l.dropWhile (· != 32)).drop 1 = q at *
    have hql : q.length ≤ l.length := by rw [← hq, List.length_drop]; omega
    walk_at "w"
    refine w_remp (by omega) ?_
    walk_at "w"
    have hrl : (if w.head? = some 45 then w.drop 1 else w).length ≤ 100000 := by
      split
      · rw [List.length_drop]; omega
      · omega
    generalize hx : (if w.head? = some 45 then w.drop 1 else w) = x at *
    refine ⟨_, x, 99999, rfl, hS3, hrl, by omega, fun H2 hS4 => ?_⟩
    cases hn : readNum x 99999 with
    | none =>
      rw [hn] at er
      show gName 5 .non _ _ _
      walk_at "w"
      exact hQ0 er H2 hS4
    | some n =>
      rw [hn] at er
      show gName 5 (.int n) _ _ _
      walk_at "w"
      refine w_starts ?_
      walk_at "w"
      refine w_ifK (x := .int (if w.head? = some 45 then -(n : Int) else n)) (fun h2 R hR => ?_) (fun h2 R hR => ?_) ?_
      · walk_at "w"
        rw [if_pos h2] at hR
        exact hR
      · walk_at "w"
        rw [if_neg h2] at hR
        exact hR
      walk_at "w"
      refine w_addSS (by split <;> simp <;> omega) ?_
      walk_at "w"
      rename_i q1 H3 hS5
      exact hQ1 _ _ er q1 H3 hS5
theorem readVals_fuel : ∀ (n m : Nat) (l : List Nat), l.length < n → l.length < m → readVals n l = readVals m l
  | n + 1, m + 1, [], _, _ => rfl
  | n + 1, m + 1, c :: r, h1, h2 => by
    unfold readVals
    by_cases hc : c = 32
    · rw [if_pos hc, if_pos hc]
      cases hv : readVal r with
      | none => rfl
      | some p =>
        obtain ⟨v, rest⟩ := p
        have hr := (readVal_few hv).2
        simp only [List.length_cons] at h1 h2
        dsimp only
        rw [readVals_fuel n m rest (by omega) (by omega)]
    · rw [if_neg hc, if_neg hc]
  | 0, _, _, h, _ => by omega
  | _, 0, _, _, h => by omega
def rv (l : List Nat) : Option (List Va) := readVals (l.length + 1) l
theorem rv_cons {r rest : List Nat} {v : Va} (h : readVal r = some (v, rest)) : rv (32 :: r) = (rv rest).map (v :: ·) := by
  have hr := (readVal_few h).2
  unfold rv
  rw [readVals_fuel (rest.length + 1) (32 :: r).length rest (by omega) (by simp; omega)]
  show (if 32 = 32 then _ else _) = _
  rw [if_pos rfl, h]
  dsimp only
  cases readVals (32 :: r).length rest <;> rfl
theorem rv_none {c : Nat} {r : List Nat} (h : c = 32 → readVal r = none) : rv (c :: r) = none := by
  unfold rv
  show (if c = 32 then _ else _) = _
  by_cases hc : c = 32
  · rw [if_pos hc, h hc]
  · rw [if_neg hc]
def spReadVals (K : PySem.W.Frag) : Sp := fun vs H Q _ => ∃ (L : List Ent) (l : List Nat), vs = [.str (S l)] ∧ St K L H ∧ l.length ≤ 50000 ∧ (rv l = none → ∀ H', St K L H' → Q .non H') ∧ (∀ ws, rv l = some ws → ∀ p H', St K (Lg.dat (.ref p) (.tuple (ws.map Va.d)) :: L) H' → Q (.ref p) H')
def μ0 : L2.St → Nat
  | some (.str z) :: _ => z.length
  | _ => 0
theorem p_read_values (vs : List V) (H : Hp) (Q : VK) (E : XK) (h : spReadVals K vs H Q E) : vs.length = 1 ∧ t_read_values K (spReadVal K) { nx := fun _ H' => Q .non H', rt := Q } (start N_read_values vs) H := by
  obtain ⟨L, l, rfl, hS, hl, hQ0, hQ1⟩ := h
  refine ⟨rfl, ?_⟩
  unfold t_read_values
  walk_at "z"
  show tSeq _ _ _ [some (.str (S l)), none, none] H
  walk_at "w"
  rename_i q H1 hS1
  refine w_while (fun σ H' => ∃ l' done v2, σ = [some (.str (S l')), some (.ref q), v2] ∧ St K (Lg.ls K q (done.map Va.d) :: L) H' ∧ l'.length ≤ 50000 ∧ done.length + l'.length ≤ 50000 ∧ rv l = (rv l').map (done ++ ·)) μ0 ⟨l, [], _, rfl, hS1, hl, by simpa using hl, by cases rv l <;> rfl⟩ ?_
  rintro σ H2 ⟨l', done, v2, rfl, hS2, hl2, hdl, hrv⟩
  walk_at "w"
  refine ⟨_, truS_ok (by omega), ?_⟩
  refine w_wb (fun hc => ?_) (fun hc => ?_)
  · cases l' with
    | nil => cases hc
    | cons c r =>
      simp only [List.length_cons] at hl2 hdl
      walk_at "w"
      refine w_ixSg (c := c) (by simp; omega) (by omega) rfl ?_
      walk_at "w"
      refine w_ifd (fun h1 => ?_) (fun h1 => ?_)
      · obtain rfl : c = 32 := by simpa using h1
        walk_at "w"
        refine w_slS (by rw [S_len, List.length_cons]; omega) ?_
        rw [cutS_on (i := 1) (a := 1) rfl]
        walk_at "w"
        refine ⟨_, r, rfl, hS2, by omega, fun hn H3 hS3 => ?_, fun v rest hv p H3 hS3 => ?_⟩
        · walk_at "w"
          refine hQ0 ?_ H3 hS3.tail
          rw [hrv, rv_none fun _ => hn]
          rfl
        · have hr := (readVal_few hv).2
          walk_at "w"
          refine w_ixT (k := 0) (d := v.d) hS3 (.dat (.head _)) rfl rfl fun x hS4 => ?_
          obtain rfl := va_of hS4
          walk_at "w"
          refine w_app hS4 (L' := _) (d := v.d) (by walk_at "put") va_is (by rw [List.length_map]; omega) fun H4 hS5 => ?_
          walk_at "w"
          refine w_ixTs (k := 1) (m := S rest) hS5 (.dat (.tail _ (.head _))) rfl rfl ?_
          walk_at "w"
          have e : done.map Va.d ++ [v.d] = (done ++ [v]).map Va.d := by simp
          rw [e] at hS5
          refine ⟨?_, rest, done ++ [v], _, rfl, hS5.to (by walk_at "pick"), by omega, by simp; omega, ?_⟩
          · show (S rest).length < (S (32 :: r)).length
            rw [S_len, S_len, List.length_cons]
            omega
          · rw [hrv, rv_cons hv]
            cases rv rest <;> simp
      · walk_at "w"
        refine hQ0 ?_ H2 hS2.tail
        rw [hrv, rv_none fun z => absurd (by rw [z]) h1]
        rfl
  · cases l' with
    | nil =>
      walk_at "w"
      refine w_tupL hS2 (.own (.head _)) fun p H3 hS3 => ?_
      refine hQ1 done ?_ p H3 (hS3.to (by walk_at "pick"))
      rw [hrv]
      show some (done ++ []) = _
      rw [List.append_nil]
    | cons c r => cases hc
theorem spM_mem {c : Nat} : ∀ {k : Nat} {l w : List Nat}, w ∈ spM c k l → w.length ≤ l.length
  | 0, l, w, h => by
    unfold spM at h
    rw [List.mem_singleton] at h
    rw [h]; exact Nat.le_refl _
  | k + 1, l, w, h => by
    unfold spM at h
    by_cases hc : c ∈ l
    · rw [if_pos hc] at h
      have h2 := congrArg List.length (cut_at hc).1
      rw [List.length_append, List.length_cons] at h2
      rcases List.mem_cons.mp h with rfl | h
      · omega
      · have := spM_mem h
        omega
    · rw [if_neg hc, List.mem_singleton] at h
      rw [h]; exact Nat.le_refl _
theorem spM_len {c : Nat} : ∀ (k : Nat) (l : List Nat), (spM c k l).length ≤ k + 1 ∧ (spM c k l).length ≤ l.length + 1
  | 0, l => by unfold spM; simp
  | k + 1, l => by
    unfold spM
    by_cases hc : c ∈ l
    · rw [if_pos hc, List.length_cons]
      have h2 := congrArg List.length (cut_at hc).1
      rw [List.length_append, List.length_cons] at h2
      have := spM_len (c := c) k ((l.dropWhile (· != c)).drop 1)
      omega
    · rw [if_neg hc]; simp
def Va.short (n : Nat) : Va → Prop
  | .i _ => True
  | .s l => l.length ≤ n
theorem readVal_short {l r : List Nat} {v : Va} (h : readVal l = some (v, r)) : v.short l.length := by
  unfold readVal at h
  split at h
  · split at h
    · cases h
      have := List.IsPrefix.length_le (List.takeWhile_prefix (l := l.drop 1) (· != 34))
      rw [List.length_drop] at this
      show (List.takeWhile _ _).length ≤ _
      omega
    · cases h
  · split at h
    · cases h
    · cases h; trivial
theorem Va.short.mono {n m : Nat} {v : Va} (h : v.short n) (hm : n ≤ m) : v.short m := by
  cases v with
  | i k => trivial
  | s l => exact Nat.le_trans (show l.length ≤ n from h) hm
theorem readVals_short : ∀ (k : Nat) {l : List Nat} {vs : List Va} (n : Nat), readVals k l = some vs → l.length ≤ n → vs.length ≤ n ∧ ∀ v ∈ vs, v.short n
  | 0, _, _, _, h, _ => by cases h
  | k + 1, [], vs, n, h, _ => by cases h; exact ⟨by simp, fun v hv => by cases hv⟩
  | k + 1, c :: r, vs, n, h, hn => by
    unfold readVals at h
    split at h
    · split at h
      · cases h
      · rename_i v rest hv
        have hr := (readVal_few hv).2
        split at h
        · cases h
        · rename_i ws hw
          cases h
          simp only [List.length_cons] at hn
          obtain ⟨g1, g2⟩ := readVals_short k (n - 1) hw (by omega)
          refine ⟨by simp; omega, fun u hu => ?_⟩
          rcases List.mem_cons.mp hu with rfl | hu
          · exact (readVal_short hv).mono (by omega)
          · exact (g2 u hu).mono (by omega)
    · cases h
theorem rv_short {l : List Nat} {vs : List Va} (h : rv l = some vs) : vs.length ≤ l.length ∧ ∀ v ∈ vs, v.short l.length := readVals_short _ _ h (Nat.le_refl _)
def vtx (tl : List (List Nat)) : List Nat := match tl with
  | [] => []
  | w4 :: _ => 32 :: w4
theorem tl_rv (tl : List (List Nat)) : readTl tl = rv (vtx tl) := by
  cases tl <;> rfl
theorem val_call {v : Va} {n : Nat} {H : Hp} {Q : VK} {E : XK} (h : v.short n) (hn : n ≤ 100000) (hQ : Q (.bl v.ok) H) : spValue K [v.v] H Q E := by
  cases v with
  | i k => exact .inl ⟨k, rfl, hQ⟩
  | s l => exact .inr ⟨l, rfl, Nat.le_trans h hn, hQ⟩
theorem oks_of {vs : List Va} {es : List PyData} {n : Nat} (hlen : es.length = n) (hn : n = vs.length) (hes : ∀ (i : Nat) (e : PyData), es[i]? = some e → ∃ v : Va, vs[i]? = some v ∧ e = .bool v.ok) : es = (vs.map Va.ok).map PyData.bool := by
  apply List.ext_getElem?
  intro i
  by_cases hi : i < es.length
  · obtain ⟨x, h1, h2⟩ := hes i es[i] (List.getElem?_eq_getElem hi)
    rw [List.getElem?_eq_getElem hi, h2, List.getElem?_map, List.getElem?_map, h1]
    rfl
  · rw [List.getElem?_eq_none (by omega), List.getElem?_eq_none (by simp; omega)]
def spReadCall (K : PySem.W.Frag) : Sp := fun vs H Q _ => ∃ (L : List Ent) (l : List Nat), vs = [.str (S l)] ∧ St K L H ∧ l.length ≤ 40000 ∧ Is L (.ref (He.ga K "RESERVED")) (.tuple resD) ∧ (readCallW (spM 32 4 l) = none → ∀ H', St K L H' → Q .non H') ∧ (∀ r, readCallW (spM 32 4 l) = some r → ∀ p H', St K (Lg.dat (.ref p) r.d :: L) H' → Q (.ref p) H')
theorem p_read_call (vs : List V) (H : Hp) (Q : VK) (E : XK) (h : spReadCall K vs H Q E) : vs.length = 1 ∧ t_read_call K (spValue K) (spName K) (spReadVals K) (spReadNum K) { nx := fun _ H' => Q .non H', rt := Q } (start N_read_call vs) H := by
  obtain ⟨L, l, rfl, hS, hl, hres, hQ0, hQ1⟩ := h
  refine ⟨rfl, ?_⟩
  unfold t_read_call
  walk_at "z"
  show tSeq _ _ _ [some (.str (S l)), none, none, none, none, none] H
  walk_at "w"
  refine w_splitM (k := 4) hS (by omega) (by decide) rfl (by decide) fun q H1 hS1 => ?_
  have hwl := (spM_len (c := 32) 4 l).1
  have hwm : ∀ w ∈ spM 32 4 l, w.length ≤ 40000 := fun w hw => Nat.le_trans (spM_mem hw) hl
  generalize spM 32 4 l = ws at *
  walk_at "w"
  rw [List.length_map]
  refine w_ifd (fun h1 => ?_) (fun h1 => ?_)
  · walk_at "w"
    refine hQ0 ?_ H1 hS1.tail
    match ws, h1 with
    | [], _ => rfl
    | [_], _ => rfl
    | [_, _], _ => rfl
    | [_, _, _], _ => rfl
    | _ :: _ :: _ :: _ :: _, h1 => simp at h1; omega
  obtain ⟨w0, w1, w2, w3, tl, rfl⟩ : ∃ w0 w1 w2 w3 tl, ws = w0 :: w1 :: w2 :: w3 :: tl := by
    match ws, h1 with
    | [], h1 => exact (h1 (by simp)).elim
    | [_], h1 => exact (h1 (by simp)).elim
    | [_, _], h1 => exact (h1 (by simp)).elim
    | [_, _, _], h1 => exact (h1 (by simp)).elim
    | a :: b :: c :: d :: e, _ => exact ⟨a, b, c, d, e, rfl⟩
  have m0 := hwm w0 (by simp)
  have m1 := hwm w1 (by simp)
  have m2 := hwm w2 (by simp)
  have m3 := hwm w3 (by simp)
  have hcall : readCallW (w0 :: w1 :: w2 :: w3 :: tl) = match readNum w0 2, readNum w1 9999, readTl tl with
    | some h, some k, some vs => if (isName w2 && isName w3) = true then
        if (decide (vs.length ≤ 3) && vs.all Va.ok) = true then some (.cal h k w2 w3 vs) else none
      else none
    | _, _, _ => none := rfl
  walk_at "w"
  refine w_ixLs (k := 0) (m := S w0) hS1 (by walk_at "lsin") rfl rfl ?_
  walk_at "w"
  refine ⟨_, w0, 2, rfl, hS1, by omega, by decide, fun H2 hS2 => ?_⟩
  walk_at "w"
  refine w_ixLs (k := 1) (m := S w1) hS2 (by walk_at "lsin") rfl rfl ?_
  walk_at "w"
  refine ⟨_, w1, 9999, rfl, hS2, by omega, by decide, fun H3 hS3 => ?_⟩
  clear hS1 hS2
  walk_at "w"
  rw [List.length_map]
  refine w_ifK (x := .str (S (vtx tl))) (fun h2 R hR => ?_) (fun h2 R hR => ?_) ?_
  · cases tl with
    | nil => simp at h2
    | cons w4 tl =>
      have m4 := hwm w4 (by simp)
      walk_at "w"
      refine w_ixLs (k := 4) (m := S w4) hS3 (by walk_at "lsin") rfl rfl ?_
      refine w_addSS (by simp; omega) ?_
      exact hR
  · cases tl with
    | nil =>
      walk_at "w"
      exact hR
    | cons w4 tl => exact absurd (by simp; omega) h2
  have htl : (vtx tl).length ≤ 40001 := by
    cases tl with
    | nil => simp [vtx]
    | cons w4 tl =>
      have m4 := hwm w4 (by simp)
      simp [vtx]; omega
  rw [tl_rv] at hcall
  generalize vtx tl = vt at *
  walk_at "w"
  refine ⟨_, vt, rfl, hS3, by omega, fun hn H4 hS4 => ?_, fun us hn p H4 hS4 => ?_⟩
  · rw [hn] at hcall
    have e : readCallW (w0 :: w1 :: w2 :: w3 :: tl) = none := by
      rw [hcall]
      cases readNum w0 2 <;> cases readNum w1 9999 <;> rfl
    have fin := hQ0 e H4 hS4.tail
    walk_at "w"
    refine w_or ?_
    cases readNum w0 2 with
    | none =>
      dsimp only [numV]
      walk_at "w"
      exact fin
    | some n0 =>
      dsimp only [numV]
      walk_at "w"
      refine w_or ?_
      cases readNum w1 9999 with
      | none =>
        dsimp only [numV]
        walk_at "w"
        exact fin
      | some n1 =>
        dsimp only [numV]
        walk_at "w"
        refine w_or ?_
        walk_at "w"
        exact fin
  · rw [hn] at hcall
    obtain ⟨u1, u2⟩ := rv_short hn
    walk_at "w"
    refine w_or ?_
    cases hn0 : readNum w0 2 with
    | none =>
      rw [hn0] at hcall
      have fin := hQ0 (hcall.trans (by cases readNum w1 9999 <;> rfl)) H4 hS4.tail.tail
      dsimp only [numV]
      walk_at "w"
      exact fin
    | some n0 =>
      dsimp only [numV]
      walk_at "w"
      refine w_or ?_
      cases hn1 : readNum w1 9999 with
      | none =>
        rw [hn0, hn1] at hcall
        have fin := hQ0 (hcall.trans rfl) H4 hS4.tail.tail
        dsimp only [numV]
        walk_at "w"
        exact fin
      | some n1 =>
        rw [hn0, hn1] at hcall
        dsimp only at hcall
        dsimp only [numV]
        walk_at "w"
        refine w_or ?_
        walk_at "w"
        refine w_or ?_
        walk_at "w"
        refine w_ixLs (k := 2) (m := S w2) hS4 (by walk_at "lsin") rfl rfl ?_
        walk_at "w"
        refine ⟨_, w2, rfl, hS4, by omega, hres.cons.cons, fun H5 hS5 => ?_⟩
        walk_at "w"
        cases hi2 : isName w2 with
        | false =>
          rw [hi2] at hcall
          have fin := hQ0 (hcall.trans (by simp)) H5 hS5.tail.tail
          refine w_bt rfl ?_
          walk_at "w"
          exact fin
        | true =>
          refine w_bf rfl ?_
          walk_at "w"
          refine w_ixLs (k := 3) (m := S w3) hS5 (by walk_at "lsin") rfl rfl ?_
          walk_at "w"
          refine ⟨_, w3, rfl, hS5, by omega, hres.cons.cons, fun H6 hS6 => ?_⟩
          walk_at "w"
          cases hi3 : isName w3 with
          | false =>
            rw [hi2, hi3] at hcall
            have fin := hQ0 (hcall.trans (by simp)) H6 hS6.tail.tail
            refine w_bt rfl ?_
            walk_at "w"
            exact fin
          | true =>
            rw [hi2, hi3] at hcall
            simp only [Bool.and_self, if_true] at hcall
            refine w_bf rfl ?_
            walk_at "w"
            refine w_or ?_
            walk_at "w"
            rw [List.length_map]
            refine w_ifd (fun h5 => ?_) (fun h5 => ?_)
            · have fin := hQ0 (hcall.trans (by rw [if_neg]; rw [decide_eq_false (by omega)]; simp)) H6 hS6.tail.tail
              walk_at "w"
              exact fin
            walk_at "w"
            obtain ⟨ys, hy, hS7⟩ := hS6.tupF (.dat (.head _))
            refine w_lcT (R := fun i e => ∃ v : Va, us[i]? = some v ∧ e = .bool v.ok) hS7 (.head _) (by rw [List.length_map]; omega) ?_ ?_
            · intro i d q2 es x H8 hd hlen hS8 Z hZ
              rw [List.getElem?_map] at hd
              obtain ⟨u, hu, rfl⟩ := Option.map_eq_some_iff.mp hd
              obtain rfl := va_of hS8
              show gName 5 _ [some (.str (S l)), some (.ref q), some (.int n0), some (.int n1), some (.ref p), none] _ _
              walk_at "w"
              refine ⟨rfl, ?_⟩
              walk_at "w"
              exact val_call (u2 u (List.mem_of_getElem? hu)) (by omega) (hZ _ (.bool _) _ ⟨u, hu, rfl⟩ (hS8.tail.learn .bl))
            intro q2 es H8 hlen hes hS8
            have ees := oks_of hlen (by rw [List.length_map]) hes
            subst ees
            walk_at "w"
            refine w_allB hS8 (by walk_at "lsin") ?_
            have e2 : ((us.map Va.ok).all id) = us.all Va.ok := by simp [Function.comp_def]
            rw [e2]
            walk_at "w"
            have hS9 := hS8.to (L' := Lg.dat (.ref p) (.tuple (us.map Va.d)) :: Lg.ls K q ((w0 :: w1 :: w2 :: w3 :: tl).map sD) :: L) (by walk_at "pick")
            clear hS4 hS5 hS6 hS7 hS8
            cases ha : us.all Va.ok with
            | false =>
              rw [ha] at hcall
              have fin := hQ0 (hcall.trans (by simp)) H8 hS9.tail.tail
              refine w_bt rfl ?_
              walk_at "w"
              exact fin
            | true =>
              rw [ha, decide_eq_true (by omega)] at hcall
              simp only [Bool.and_self, if_true] at hcall
              refine w_bf rfl ?_
              walk_at "w"
              refine w_ixLs (k := 2) (m := S w2) hS9 (by walk_at "lsin") rfl rfl ?_
              walk_at "w"
              refine w_ixLs (k := 3) (m := S w3) hS9 (by walk_at "lsin") rfl rfl ?_
              walk_at "w"
              rename_i p9 H9 hS10
              exact hQ1 _ hcall p9 H9 (hS10.to (by walk_at "pick"))
def spReadEnt (K : PySem.W.Frag) : Sp := fun vs H Q _ => ∃ (L : List Ent) (l : List Nat), vs = [.str (S l)] ∧ St K L H ∧ l.length ≤ 40000 ∧ Is L (.ref (He.ga K "RESERVED")) (.tuple resD) ∧ (entOK (spM 32 (l.length + 1) l) = false → ∀ H', St K L H' → Q .non H') ∧ (entOK (spM 32 (l.length + 1) l) = true → ∀ p H', St K (Lg.dat (.ref p) (Rec.ent (spM 32 (l.length + 1) l)).d :: L) H' → Q (.ref p) H')
theorem p_read_entries (cf : CF K) (vs : List V) (H : Hp) (Q : VK) (E : XK) (h : spReadEnt K vs H Q E) : vs.length = 1 ∧ t_read_entries K (spCheckE K) { nx := fun _ H' => Q .non H', rt := Q } (start N_read_entries vs) H := by
  obtain ⟨L, l, rfl, hS, hl, hres, hQ0, hQ1⟩ := h
  refine ⟨rfl, ?_⟩
  unfold t_read_entries
  walk_at "z"
  show tSeq _ _ _ [some (.str (S l)), none] H
  walk_at "w"
  refine w_split1 hS (by omega) (by decide) fun q H1 hS1 => ?_
  have hwl := (spM_len (c := 32) (l.length + 1) l).2
  have hwm : ∀ w ∈ spM 32 (l.length + 1) l, w.length ≤ 40000 := fun w hw => Nat.le_trans (spM_mem hw) hl
  generalize spM 32 (l.length + 1) l = ws at *
  walk_at "w"
  refine w_tupL hS1 (.own (.head _)) fun p H2 hS2 => ?_
  clear hS1
  walk_at "w"
  refine ⟨_, p, ws, rfl, hS2, .dat (.head _), by omega, fun x hx => by have := hwm x hx; omega, hres.cons.cons, fun hok H3 hS3 => ?_, fun hok d H3 hS3 => ?_⟩
  · walk_at "w"
    rename_i p4 H4 hS4
    exact hQ1 hok p4 H4 (hS4.to (by walk_at "pick"))
  · refine ⟨true, cf.em_OutOfRange_OutOfRange, fun _ a2 ha2 => ?_, fun z => by cases z⟩
    dsimp only [Cl.at_, Cl.ends, Cl.off, List.set]
    walk_at "w"
    exact hQ0 hok H3 hS3.tail.tail.tail
def spRead (K : PySem.W.Frag) : Sp := fun vs H Q _ => ∃ (L : List Ent) (w l : List Nat), vs = [.str (S w), .str (S l)] ∧ St K L H ∧ w.length ≤ 40000 ∧ l.length ≤ 40000 ∧ Is L (.ref (He.ga K "RESERVED")) (.tuple resD) ∧ (readR w l = none → ∀ H', St K L H' → Q .non H') ∧ (∀ r, readR w l = some r → ∀ p H', St K (Lg.dat (.ref p) r.d :: L) H' → Q (.ref p) H')
theorem p_read (vs : List V) (H : Hp) (Q : VK) (E : XK) (h : spRead K vs H Q E) : vs.length = 2 ∧ t_read K (spName K) (spReadNum K) (spReadCall K) (spReadEnt K) { nx := fun _ H' => Q .non H', rt := Q } (start N_read vs) H := by
  obtain ⟨L, w, l, rfl, hS, hw, hl, hres, hQ0, hQ1⟩ := h
  refine ⟨rfl, ?_⟩
  unfold t_read
  walk_at "z"
  show tSeq _ _ _ [some (.str (S w)), some (.str (S l)), none, none, none, none] H
  unfold readR at hQ0 hQ1
  walk_at "w"
  refine w_ifd (fun h1 => ?_) (fun h1 => ?_)
  · have h1 : w = zent := h1
    rw [if_pos h1] at hQ0
    rw [if_pos h1] at hQ1
    walk_at "w"
    refine ⟨_, l, rfl, hS, hl, hres, fun hok H1 hS1 => ?_, fun hok p H1 hS1 => ?_⟩
    · exact hQ0 (by rw [hok]; rfl) H1 hS1
    · exact hQ1 _ (by rw [hok]; rfl) p H1 hS1
  have h1 : ¬ w = zent := h1
  rw [if_neg h1] at hQ0
  rw [if_neg h1] at hQ1
  walk_at "w"
  refine w_ifd (fun h2 => ?_) (fun h2 => ?_)
  · have h2 : w = zcall := h2
    rw [if_pos h2] at hQ0
    rw [if_pos h2] at hQ1
    walk_at "w"
    exact ⟨_, l, rfl, hS, hl, hres, hQ0, hQ1⟩
  have h2 : ¬ w = zcall := h2
  rw [if_neg h2] at hQ0
  rw [if_neg h2] at hQ1
  walk_at "w"
  refine w_ifd (fun h3 => ?_) (fun h3 => ?_)
  · have h3 : w = zrem := h3
    rw [if_pos h3] at hQ0
    rw [if_pos h3] at hQ1
    walk_at "w"
    refine ⟨_, l, rfl, hS, by omega, hres, fun H1 hS1 => ?_⟩
    walk_at "w"
    cases hn : isName l with
    | false =>
      walk_at "w"
      exact hQ0 (by rw [hn]; rfl) H1 hS1
    | true =>
      walk_at "w"
      rename_i p2 H2 hS2
      exact hQ1 (.rem l) (by rw [hn]; rfl) p2 H2 hS2
  have h3 : ¬ w = zrem := h3
  rw [if_neg h3] at hQ0
  rw [if_neg h3] at hQ1
  walk_at "w"
  refine w_ifd (fun h4 => ?_) (fun h4 => ?_)
  · have h4 : w = zupd := h4
    rw [if_pos h4] at hQ0
    rw [if_pos h4] at hQ1
    walk_at "w"
    refine ⟨_, l, 8, rfl, hS, by omega, by decide, fun H1 hS1 => ?_⟩
    cases hn : readNum l 8 with
    | none =>
      dsimp only [numV]
      walk_at "w"
      exact hQ0 (by rw [hn]) H1 hS1
    | some n =>
      dsimp only [numV]
      walk_at "w"
      rename_i p2 H2 hS2
      exact hQ1 (.upd n) (by rw [hn]) p2 H2 hS2
  have h4 : ¬ w = zupd := h4
  rw [if_neg h4] at hQ0
  rw [if_neg h4] at hQ1
  walk_at "w"
  refine w_ifnd (fun h5 => ?_) (fun h5 => ?_)
  · have h5 : ¬ w = ztext := h5
    rw [if_neg h5] at hQ0
    walk_at "w"
    exact hQ0 rfl H hS
  have h5 : w = ztext := h5
  rw [if_pos h5] at hQ0
  rw [if_pos h5] at hQ1
  walk_at "w"
  refine w_partn hS (by omega) fun p H1 hS1 => ?_
  refine w_unpT3 hS1 (.dat (.head _)) fun v1 v2 v3 hS2 => ?_
  obtain rfl := hS2.str_of
  obtain rfl := hS2.tail.str_of
  obtain rfl := hS2.tail.tail.str_of
  have hS3 := hS2.tail.tail.tail.tail
  have tw : (l.takeWhile (· != 32)).length ≤ l.length := List.IsPrefix.length_le (List.takeWhile_prefix _)
  have dw : (l.dropWhile (· != 32)).length ≤ l.length := List.IsSuffix.length_le (List.dropWhile_suffix _)
  have ql : ((l.dropWhile (· != 32)).drop 1).length ≤ 40000 := by rw [List.length_drop]; omega
  clear hS1 hS2
  generalize l.takeWhile (· != 32) = m at *
  generalize (l.dropWhile (· != 32)).drop 1 = t at *
  walk_at "w"
  refine w_repl0 ?_
  walk_at "w"
  refine ⟨S t, rfl, repl_room (by omega), ?_⟩
  rw [zbar, repl_is]
  walk_at "w"
  refine w_and ?_
  walk_at "w"
  refine ⟨_, m, rfl, hS3, by omega, hres, fun H4 hS4 => ?_⟩
  walk_at "w"
  cases hn : isName m with
  | false =>
    walk_at "w"
    exact hQ0 (by rw [hn]; rfl) H4 hS4
  | true =>
    walk_at "w"
    rw [List.length_map]
    refine w_ifd (fun h6 => ?_) (fun h6 => ?_)
    · walk_at "w"
      rename_i p2 H5 hS5
      exact hQ1 (.txt m _) (by rw [hn, decide_eq_true (by omega)]; rfl) p2 H5 hS5
    · walk_at "w"
      exact hQ0 (by rw [hn, decide_eq_false (by omega)]; rfl) H4 hS4
theorem jn_cons {p : List Nat} {xs : List (List Nat)} (h : xs ≠ []) : jn (p :: xs) = p ++ 32 :: jn xs := by
  cases xs with
  | nil => exact absurd rfl h
  | cons x xs => rfl
theorem spM_ne {k : Nat} {l : List Nat} : spM 32 k l ≠ [] := by
  cases k with
  | zero => simp [spM]
  | succ k =>
    rw [spM]
    split <;> simp
theorem jn_spM : ∀ (k : Nat) (l : List Nat), jn (spM 32 k l) = l
  | 0, l => rfl
  | k + 1, l => by
    rw [spM]
    by_cases h : 32 ∈ l
    · rw [if_pos h, jn_cons spM_ne, jn_spM k]
      exact (cut_at h).1.symm
    · rw [if_neg h]; rfl
theorem dgI_len {n : Int} (h : n.natAbs < 1000000) : (dgI n).length ≤ 7 := by
  have := dg_len (n := n.natAbs) (k := 6) (by omega) (by omega)
  unfold dgI
  split
  · simp; omega
  · omega
theorem vals_len : ∀ (vs : List Va), (∀ v ∈ vs, v.ok = true) → (vals vs []).length ≤ vs.length * 30
  | [], _ => by simp [vals]
  | v :: vs, h => by
    have ih := vals_len vs fun u hu => h u (.tail _ hu)
    have hv := h v (.head _)
    have : v.t.length ≤ 28 := by
      cases v with
      | i n =>
        simp only [Va.ok, Bool.and_eq_true, decide_eq_true_eq] at hv
        have := dgI_len (n := n) (by omega)
        show (dgI n).length ≤ 28
        omega
      | s l =>
        simp only [Va.ok, strVal, Bool.and_eq_true, decide_eq_true_eq] at hv
        simp [Va.t]
        omega
    show (32 :: (v.t ++ vals vs [])).length ≤ _
    rw [List.length_cons, List.length_append, List.length_cons]
    omega
theorem name_len {m : List Nat} (h : isName m = true) : m.length ≤ 6 := by
  unfold isName at h
  simp only [Bool.and_eq_true, decide_eq_true_eq] at h
  omega
theorem readR_len {w l : List Nat} {r : Rec} (h : readR w l = some r) : r.t.length ≤ w.length + l.length + 200 := by
  unfold readR at h
  split at h
  · rename_i hw
    split at h
    · cases h
      show (jn (zent :: _)).length ≤ _
      rw [jn_cons spM_ne, jn_spM, hw]
      simp
      omega
    · cases h
  split at h
  · unfold readCallW at h
    split at h
    · split at h
      · rename_i hh k vs e1 e2 e3
        split at h
        · rename_i hn
          split at h
          · rename_i hv
            cases h
            simp only [Bool.and_eq_true, decide_eq_true_eq] at hn hv
            have n1 := name_len hn.1
            have n2 := name_len hn.2
            have h1 := readNum_le e1
            have h2 := readNum_le e2
            have d1 := dg_len (n := hh) (k := 6) (by omega) (by omega)
            have d2 := dg_len (n := k) (k := 6) (by omega) (by omega)
            have h3 := vals_len vs fun v hm => List.all_eq_true.mp hv.2 v hm
            show (jn (head _ _ _ _ :: vs.map Va.t)).length ≤ _
            rw [jn_vals, List.length_append]
            have hd : ∀ a b : List Nat, a.length ≤ 6 → b.length ≤ 6 → (head hh k a b).length ≤ 40 := by
              intro a b ha hb
              simp [head]
              omega
            have := hd _ _ n1 n2
            omega
          · cases h
        · cases h
      · cases h
    · cases h
  split at h
  · rename_i hw
    split at h
    · cases h
      rw [hw]
      show (zrem ++ 32 :: l).length ≤ _
      simp
      omega
    · cases h
  split at h
  · split at h
    · cases h
    · rename_i n hn
      cases h
      have h1 := readNum_le hn
      have d1 := dg_len (n := n) (k := 6) (by omega) (by omega)
      show (zupd ++ 32 :: dg n).length ≤ _
      simp
      omega
  split at h
  · rename_i hw
    split at h
    · rename_i hc
      cases h
      rw [Bool.and_eq_true, decide_eq_true_eq] at hc
      have n1 := name_len hc.1
      show (ztext ++ 32 :: (_ ++ 32 :: _)).length ≤ _
      have tw : (l.takeWhile (· != 32)).length ≤ l.length := List.IsPrefix.length_le (List.takeWhile_prefix _)
      have dw : ((l.dropWhile (· != 32)).drop 1).length ≤ l.length := by
        have := List.IsSuffix.length_le (List.dropWhile_suffix (l := l) (· != 32))
        rw [List.length_drop]; omega
      generalize (l.dropWhile (· != 32)).drop 1 = t at *
      simp only [List.length_append, List.length_cons, List.length_map, List.length_nil]
      omega
    · cases h
  · cases h
def spReadRec (K : PySem.W.Frag) : Sp := fun vs H Q _ => ∃ (L : List Ent) (l : List Nat), vs = [.str (S l)] ∧ St K L H ∧ l.length ≤ 9000 ∧ Is L (.ref (He.ga K "RESERVED")) (.tuple resD) ∧ (readRec l = none → ∀ H', St K L H' → Q .non H') ∧ (∀ r, readRec l = some r → ∀ p H', St K (Lg.dat (.ref p) r.d :: L) H' → Q (.ref p) H')
theorem p_read_record (vs : List V) (H : Hp) (Q : VK) (E : XK) (h : spReadRec K vs H Q E) : vs.length = 1 ∧ t_read_record K (spWriteR K) (spRead K) { nx := fun _ H' => Q .non H', rt := Q } (start N_read_record vs) H := by
  obtain ⟨L, l, rfl, hS, hl, hres, hQ0, hQ1⟩ := h
  refine ⟨rfl, ?_⟩
  unfold t_read_record
  walk_at "z"
  show tSeq _ _ _ [some (.str (S l)), none, none, none, none] H
  unfold readRec at hQ0 hQ1
  walk_at "w"
  refine w_partn hS (by omega) fun p H1 hS1 => ?_
  refine w_unpT3 hS1 (.dat (.head _)) fun v1 v2 v3 hS2 => ?_
  obtain rfl := hS2.str_of
  obtain rfl := hS2.tail.str_of
  obtain rfl := hS2.tail.tail.str_of
  have hS3 := hS2.tail.tail.tail.tail
  have tw : (l.takeWhile (· != 32)).length ≤ l.length := List.IsPrefix.length_le (List.takeWhile_prefix _)
  have dw : (l.dropWhile (· != 32)).length ≤ l.length := List.IsSuffix.length_le (List.dropWhile_suffix _)
  have ql : ((l.dropWhile (· != 32)).drop 1).length ≤ 9000 := by rw [List.length_drop]; omega
  clear hS1 hS2
  generalize l.takeWhile (· != 32) = w at *
  generalize (l.dropWhile (· != 32)).drop 1 = t at *
  walk_at "w"
  refine ⟨_, w, t, rfl, hS3, by omega, by omega, hres, fun hn H4 hS4 => ?_, fun r hr p2 H4 hS4 => ?_⟩
  · walk_at "w"
    refine w_and ?_
    walk_at "w"
    exact hQ0 (by rw [hn]) H4 hS4
  · have hlen := readR_len hr
    walk_at "w"
    refine w_and ?_
    walk_at "w"
    refine ⟨_, p2, r, rfl, hS4, .dat (.head _), readR_few hr, by omega, fun H5 hS5 => ?_⟩
    walk_at "w"
    refine w_ifd (fun h1 => ?_) (fun h1 => ?_)
    · walk_at "w"
      exact hQ1 r (by rw [hr]; dsimp only; rw [if_pos h1]) p2 H5 hS5
    · walk_at "w"
      exact hQ0 (by rw [hr]; dsimp only; rw [if_neg h1]) H5 hS5.tail
end
end K45

/-! k47: blocks and logs -/
namespace K47
open PySem PySem.Spec PyProof.Rows L2 Lg PySem.NumText K45 Blk
local macro_rules | `(tactic| walk_at "ar") => `(tactic| first | omega | (simp; done) | (simp; omega) | (simp only [S_len]; omega) | (simp [Lg.repL_len]; done) | (simp [Lg.repL_len]; omega))
local macro_rules | `(tactic| walk_at "gt") => `(tactic| repeat (first | exact GetAt.here | apply GetAt.there))
local macro_rules | `(tactic| walk_at "st") => `(tactic| repeat (first | exact SetAt.here | apply SetAt.there))
local macro_rules | `(tactic| walk_at "mem") => `(tactic| first | assumption | exact List.mem_cons_self | (apply List.mem_cons_of_mem; walk_at "mem"))
local macro_rules | `(tactic| walk_at "put") => `(tactic| repeat (first | exact Put.here | apply Put.there))
local macro_rules | `(tactic| walk_at "rem") => `(tactic| repeat (first | exact Rem.here | apply Rem.there))
local macro_rules | `(tactic| walk_at "pick") => `(tactic| first | exact Pick.refl | exact Pick.cons (by walk_at "rem") (by walk_at "pick") | (apply Pick.drop; walk_at "pick") | exact Pick.nil)
local macro_rules | `(tactic| walk_at "is") => `(tactic| first | exact Is.int | exact Is.str | exact Is.bl | exact Is.non | assumption | exact Is.dat (by walk_at "mem") | (apply Is.cons; walk_at "is"))
local macro_rules | `(tactic| walk_at "isall") => `(tactic| first | exact IsAll.nil | exact IsAll.cons (by walk_at "is") (by walk_at "isall"))
local macro_rules | `(tactic| walk_at "lsin") => `(tactic| first | assumption | exact LsIn.own (by walk_at "mem") | exact LsIn.dat (by walk_at "mem") | (apply LsIn.cons; walk_at "lsin"))
local macro_rules | `(tactic| walk_at "see") => `(tactic| first | exact See.own (by walk_at "mem") | exact See.is (by walk_at "is"))
local macro_rules | `(tactic| walk_at "w1") => `(tactic| first
  | (with_reducible apply Lg.w_seq)
  | (with_reducible apply Lg.w_asg)
  | ((with_reducible show gName _ _ _ _ _); (with_reducible refine Lg.w_name (by walk_at "st") ?_))
  | ((with_reducible show tVar _ _ _ _); (with_reducible refine Lg.w_var (by walk_at "gt") ?_))
  | (with_reducible apply Lg.w_c)
  | (with_reducible apply Lg.w_op)
  | (with_reducible apply Lg.w_un)
  | (with_reducible apply Lg.w_nil)
  | (with_reducible apply Lg.w_cons)
  | (with_reducible apply Lg.w_call)
  | (with_reducible apply Lg.w_cb)
  | (with_reducible apply Lg.w_tup)
  | (with_reducible apply Lg.w_lst)
  | (with_reducible apply Lg.w_bm)
  | (with_reducible apply Lg.w_bm0)
  | (with_reducible apply Lg.w_sl)
  | (with_reducible apply Lg.w_nopart)
  | (with_reducible apply Lg.w_part)
  | (with_reducible apply Lg.w_isint)
  | (with_reducible apply Lg.w_test)
  | (with_reducible apply Lg.w_tB)
  | (with_reducible apply Lg.w_isbl')
  | (with_reducible apply Lg.w_not)
  | (with_reducible apply Lg.w_tru)
  | (with_reducible apply Lg.w_truI)
  | (with_reducible apply Lg.w_truB)
  | (with_reducible apply Lg.w_ifs)
  | (with_reducible apply Lg.w_next)
  | (with_reducible apply Lg.w_break)
  | (with_reducible apply Lg.w_cont)
  | (with_reducible apply Lg.w_ret)
  | (with_reducible apply Lg.w_retn)
  | (with_reducible apply Lg.w_drop)
  | (with_reducible apply Lg.w_sub)
  | (with_reducible apply Lg.w_gnil)
  | (with_reducible apply Lg.w_gcons)
  | (with_reducible apply Lg.w_ifT)
  | (with_reducible apply Lg.w_ifF)
  | (with_reducible apply Lg.w_add)
  | (with_reducible apply Lg.w_sub2)
  | ((with_reducible show rTimes (V.int _) (V.int _) _ _); (with_reducible refine Lg.w_mulR (by omega) ?_))
  | ((with_reducible show rTimes (V.int _) (V.int _) _ _); (with_reducible refine Lg.w_mulL (by omega) ?_))
  | ((with_reducible show rMod (V.int _) (V.int _) _ _); (with_reducible refine Lg.w_mod (by first | decide | omega) ?_))
  | ((with_reducible show rFdiv (V.int _) (V.int _) _ _); (with_reducible refine Lg.w_fdiv (by first | decide | omega) ?_))
  | (with_reducible apply Lg.w_band)
  | (with_reducible apply Lg.w_lt)
  | (with_reducible apply Lg.w_le)
  | (with_reducible apply Lg.w_gt)
  | (with_reducible apply Lg.w_ge)
  | (with_reducible apply Lg.w_eqI)
  | (with_reducible apply Lg.w_neI)
  | (with_reducible apply Lg.w_intI2)
  | (with_reducible apply Lg.w_neg)
  | (with_reducible apply Lg.w_inSS)
  | (with_reducible apply Lg.w_ninSS)
  | (with_reducible apply Lg.w_inSS')
  | (with_reducible apply Lg.w_neSS)
  | (with_reducible apply Lg.w_strS)
  | (with_reducible apply Lg.w_fldE)
  | (with_reducible apply Lg.w_sfldE)
  | (with_reducible apply Lg.w_makeE)
  | (with_reducible apply Lg.w_methE)
  | (with_reducible apply Lg.w_methSE)
  | (with_reducible apply Lg.w_callS)
  | (with_reducible apply Lg.w_raiseO)
  | (with_reducible apply Lg.w_raiseB)
  | (with_reducible apply Lg.w_try)
  | (with_reducible apply Lg.w_strS)
  | (with_reducible apply Lg.w_eqSS)
  | (with_reducible apply Lg.w_eqS)
  | (with_reducible apply Lg.w_neS)
  | (with_reducible apply Lg.w_isN)
  | (with_reducible apply Lg.w_isR)
  | (with_reducible apply Lg.w_isI)
  | (with_reducible apply Lg.w_isS)
  | (with_reducible apply Lg.w_nsN)
  | (with_reducible apply Lg.w_nsR)
  | (with_reducible apply Lg.w_nsI)
  | (with_reducible apply Lg.w_nsS)
  | (with_reducible apply Lg.w_int)
  | (with_reducible apply Lg.w_intb)
  | (with_reducible apply Lg.w_ord1)
  | (with_reducible apply Lg.w_tyS)
  | (with_reducible apply Lg.w_inSg)
  | (with_reducible apply Lg.w_ninSg)
  | ((with_reducible show NewL _ _ _); (with_reducible refine Lg.w_newL (by assumption) (by walk_at "isall") (by simp) ?_); (intro p' H' hS'))
  | ((with_reducible show NewT _ _ _); (with_reducible refine Lg.w_newT (by assumption) (by walk_at "isall") (by simp) ?_); (intro p' H' hS'))
  | ((with_reducible show TyThen _ _ (V.ref _) _ _); (with_reducible refine Lg.w_tyL (by assumption) (by walk_at "lsin") ?_))
  | ((with_reducible show rLenX _ [V.ref _] _ _); (with_reducible refine Lg.w_lenL (by assumption) (by walk_at "lsin") ?_))
  | ((with_reducible show rLenX _ [V.ref _] _ _); (with_reducible refine Lg.w_lenT (by assumption) (by walk_at "is") ?_))
  | ((with_reducible show spDraw _ _ _ _ _); (with_reducible refine Lg.w_draw (by assumption) (by walk_at "mem") (by first | decide | omega) ?_); (intro k' H' hk0' hk1' hS'))
  | ((with_reducible show rSlX _ (V.ref _) _ _ _ _); (with_reducible refine Lg.w_slL (by assumption) (by walk_at "lsin") ?_); (intro p' H' hS'))
  | ((with_reducible show rListOf _ [V.ref _] _ _); (with_reducible refine Lg.w_listL (by assumption) (by walk_at "lsin") ?_); (intro p' H' hS'))
  | (with_reducible apply Lg.w_for)
  | (with_reducible apply Lg.w_lc)
  | ((with_reducible show iAny _ (tVar _) _ _ _); (with_reducible refine Lg.w_anyVar (by walk_at "gt") ?_))
  | (with_reducible apply Lg.w_anyC)
  | (with_reducible apply Lg.w_vS)
  | (with_reducible apply Lg.w_itS)
  | ((with_reducible show AnyV _ (V.ref _) _ _); (with_reducible refine Lg.w_vL (by assumption) (by walk_at "lsin") ?_))
  | ((with_reducible show AnyL _ (V.ref _) _ _); (with_reducible refine Lg.w_itL (by assumption) (by walk_at "lsin") ?_))
  | ((with_reducible show AnyV _ (V.ref _) _ _); (with_reducible refine Lg.w_vT (by assumption) (by walk_at "is") ?_))
  | ((with_reducible show AnyT _ (V.ref _) _ _); (with_reducible refine Lg.w_itT (by assumption) (by walk_at "is") ?_))
  | ((with_reducible show Enu _ [V.ref _] _ _); (with_reducible refine Lg.w_itE (by assumption) (by walk_at "lsin") ?_))
  | ((with_reducible show rPlus _ (V.ref _) (V.ref _) _ _); (with_reducible refine Lg.w_plusL (by assumption) (by walk_at "lsin") (by walk_at "lsin") (by walk_at "ar") ?_); (intro p' H' hS'))
  | ((with_reducible show rTimes (V.ref _) (V.int _) _ _); (with_reducible refine Lg.w_repLs (by assumption) (by walk_at "lsin") (by walk_at "ar") (by walk_at "ar") (by walk_at "ar") ?_); (intro p' H' hS'))
  | ((with_reducible show rLenX _ [V.str (S _)] _ _); (with_reducible refine Lg.w_lenSS (by walk_at "ar") ?_))
  | ((with_reducible show rLenX _ [V.str _] _ _); (with_reducible refine Lg.w_lenS (by walk_at "ar") ?_))
  | ((with_reducible show rSlX _ (V.str _) _ _ _ _); (with_reducible refine Lg.w_slS (by walk_at "ar") ?_))
  | (with_reducible apply Lg.w_rng1)
  | (with_reducible apply Lg.w_rng2)
  | (with_reducible apply Lg.w_rng3)
  | (with_reducible apply Lg.w_enum)
  | ((with_reducible show Rng1 _ _ _); (with_reducible refine Lg.w_itR1 (by omega) ?_))
  | ((with_reducible show Rng2 _ _ _); (with_reducible refine Lg.w_itR2 (by omega) (by omega) ?_))
  | ((with_reducible show rIx _ (V.ref _) (V.int _) _ _); (with_reducible refine Lg.w_ixN (by assumption) (by walk_at "lsin") (by walk_at "ar") (by walk_at "ar") ?_))
  | ((with_reducible show rPlus _ (V.str (S _)) (V.str (S _)) _ _); (with_reducible refine Lg.w_addSS (by walk_at "ar") ?_))
  | ((with_reducible show rTimes (V.str (S _)) (V.int _) _ _); (with_reducible refine Lg.w_repSS (by walk_at "ar") (by walk_at "ar") (by walk_at "ar") ?_))
  | ((with_reducible show rIsi _ [V.ref _, V.ty "list"] _ _); (with_reducible refine Lg.w_isLL (by assumption) (by walk_at "lsin") ?_))
  | ((with_reducible show rIsi _ [V.ref _, V.ty "tuple"] _ _); (with_reducible refine Lg.w_isTT (by assumption) (by walk_at "is") ?_))
  | (with_reducible apply Lg.w_isII)
  | (with_reducible apply Lg.w_isSI)
  | (with_reducible apply Lg.w_isSS)
  | (with_reducible apply Lg.w_isIS)
  | (with_reducible apply Lg.w_ifexp)
  | (with_reducible apply Lg.w_chain)
  | ((with_reducible show ChainK _ _ _ _ _ _ _); (with_reducible refine Lg.w_chainLe (by (intro R' hR'; walk_at "w"; exact hR')) ?_))
  | ((with_reducible show ChainK _ _ _ _ _ _ _); (with_reducible refine Lg.w_chainLt (by (intro R' hR'; walk_at "w"; exact hR')) ?_))
  | ((with_reducible show tAnd _ _ _ _ _); (with_reducible refine Lg.w_andP (by (intro R' hR'; walk_at "w"; exact hR')) (by (intro hb' R' hR'; walk_at "w"; exact hR')) ?_))
  | ((with_reducible show tOr _ _ _ _ _); (with_reducible refine Lg.w_orP (by (intro R' hR'; walk_at "w"; exact hR')) (by (intro hb' R' hR'; walk_at "w"; exact hR')) ?_))
  | ((with_reducible show tAndV _ _ _ _ _); (with_reducible refine Lg.w_andVP (by (intro R' hR'; walk_at "w"; exact hR')) (by (intro hb' R' hR'; walk_at "w"; exact hR')) ?_))
  | ((with_reducible show tOrV _ _ _ _ _); (with_reducible refine Lg.w_orVP (by (intro R' hR'; walk_at "w"; exact hR')) (by (intro hb' R' hR'; walk_at "w"; exact hR')) ?_))
  | (with_reducible apply Lg.w_notV))
local macro_rules | `(tactic| walk_at "w") => `(tactic| repeat (walk_at "w1"))
local macro_rules | `(tactic| walk_at "z") => `(tactic| simp only [z_0, z_1, z_2, z_3, z_4, z_5, z_6, z_7, z_8, z_9, z_10, z_11, z_12, z_13, z_14, z_15, z_16, z_17, z_18, z_19, z_20, z_21, z_22, z_23, z_24, z_25, z_26, z_27, z_28, z_29, z_30, z_31, z_32, z_33, z_34, z_35, z_36, z_37])
section
variable {K : PySem.W.Frag}
def spPiece (K : PySem.W.Frag) : Sp := fun vs H Q _ => ∃ (L : List Ent) (k m num : Int) (l : List Nat), vs = [.int k, .int m, .int num, .str (S l)] ∧ St K L H ∧ l.length ≤ 24 ∧ 0 ≤ num ∧
  ∀ p H', St K (Lg.ls K p (intsD (piece k m num l)) :: L) H' → Q (.ref p) H'
theorem p_piece (vs : List V) (H : Hp) (Q : VK) (E : XK) (h : spPiece K vs H Q E) : vs.length = 4 ∧ t_piece K { nx := fun _ H' => Q .non H', rt := Q } (start N_piece vs) H := by
  obtain ⟨L, k, m, num, l, rfl, hS, hl, hnum, hQ⟩ := h
  refine ⟨rfl, ?_⟩
  unfold t_piece
  show tSeq _ _ _ [some (.int k), some (.int m), some (.int num), some (.str (S l)), none, none, none] H
  walk_at "w"
  refine w_lcS (R := fun i e => ∃ c, l[i]? = some c ∧ e = .int (c : Int)) hS (by rw [S_len]; omega) ?_ ?_
  · intro i c q es H1 hc hlen hS1 Z hZ
    show gName 6 _ [some (.int k), some (.int m), some (.int num), some (.str (S l)), none, none, none] _ _
    walk_at "w"
    refine ⟨rfl, ?_⟩
    walk_at "w"
    exact hZ _ (.int c) _ ⟨c, by simpa using hc, rfl⟩ (hS1.learn .int)
  intro q es H1 hlen hes hS1
  have e : es = intsD (codes l) := by
    have h1 := list_by (ds := es) (n := l.length) (f := fun i => .int (l.getD i 0)) (by simpa using hlen) fun i e he => by
      obtain ⟨c, hc, rfl⟩ := hes i e he
      simp [List.getD_eq_getElem?_getD, hc]
    rw [h1]
    apply List.ext_getElem?
    intro i
    by_cases hi : i < l.length
    · simp [intsD, codes, hi]
    · simp [intsD, codes, hi]
  subst e
  walk_at "w"
  rename_i p2 H2 hS2
  refine hQ p2 H2 ?_
  have h2 := hS2.to (L' := Lg.ls K p2 _ :: L) (by walk_at "pick")
  have e : (24 - (l.length : Int) + 1).toNat = 25 - l.length := by omega
  rw [mask255 hnum] at h2
  simpa [piece, e, repD_one, codes, Function.comp_def] using h2
def spEnc (K : PySem.W.Frag) : Sp := fun vs H Q _ => ∃ (L : List Ent) (num : Int) (l : List Nat), vs = [.int num, .str (S l)] ∧ St K L H ∧ l.length ≤ 720 ∧ 0 ≤ num ∧
  ∀ p H', St K (Lg.ls K p (enc num l) :: L) H' → Q (.ref p) H'
theorem p_encode (vs : List V) (H : Hp) (Q : VK) (E : XK) (h : spEnc K vs H Q E) : vs.length = 2 ∧ t_encode_record K (spPiece K) { nx := fun _ H' => Q .non H', rt := Q } (start N_encode_record vs) H := by
  obtain ⟨L, num, l, rfl, hS, hl, hnum, hQ⟩ := h
  refine ⟨rfl, ?_⟩
  unfold t_encode_record
  show tSeq _ _ _ [some (.int num), some (.str (S l)), none, none, none, none] H
  walk_at "w"
  refine w_itR3 (n := many l) (rgc_24 (by omega)) ?_
  refine w_lcR3 (R := fun i e => e = .str (S (chunk l i))) hS (by unfold many; omega) ?_ ?_
  · intro i q es H1 hi hlen hS1 Z hZ
    show gName 3 _ [some (.int num), some (.str (S l)), none, none, none, none] _ _
    walk_at "w"
    refine ⟨rfl, ?_⟩
    walk_at "w"
    rw [cutS_nn (a := 24 * i) (b := 24 * i + 24) (by omega) (by omega), show 24 * i + 24 - 24 * i = 24 by omega]
    exact hZ _ (.str (S (chunk l i))) _ rfl (hS1.learn .str)
  intro q es H1 hlen hes hS1
  have e := list_by hlen hes
  subst e
  walk_at "w"
  refine w_lcE (R := fun i e => e = .list (intsD (piece (i : Int) (many l) num (chunk l i)))) hS1 (by walk_at "lsin") (by simp; unfold many; omega) ?_ ?_
  · intro i d q2 es T H2 hd hlen2 hS2 Z hZ
    have hi : i < many l := by
      have := (List.getElem?_eq_some_iff.mp hd).1
      simpa using this
    have ed : d = .str (S (chunk l i)) := by
      rw [List.getElem?_map] at hd
      simp [hi] at hd
      exact hd.symm
    subst ed
    show gUnp _ _ _ _ [some (.int num), some (.str (S l)), some (.ref q), none, none, none] _ _
    refine w_unpT2 hS2 (by walk_at "is") fun v1 v2 hS3 => ?_
    obtain rfl := hS3.int_of
    obtain rfl := hS3.tail.str_of
    walk_at "w"
    refine ⟨rfl, ?_⟩
    walk_at "w"
    refine ⟨_, _, _, _, _, rfl, hS3, by unfold chunk; simp; omega, hnum, fun p H4 hS4 => ?_⟩
    refine hZ _ _ _ rfl ?_
    have h5 := hS4.freeze
    simp only [List.length_map, List.length_range] at h5
    exact h5.to (by walk_at "pick")
  · intro q2 es H2 hlen2 hes2 hS2
    have e := list_by hlen2 hes2
    subst e
    refine hQ q2 H2 ?_
    have h3 := hS2.to (L' := Lg.ls K q2 _ :: L) (by walk_at "pick")
    simpa [enc] using h3
def spCodes (K : PySem.W.Frag) : Sp := fun vs H Q _ => ∃ (L : List Ent) (a : Addr) (ns : List Int), vs = [.ref a] ∧ St K L H ∧ LsIn K L a (intsD ns) ∧ Q (.bl (ns.all okB)) H
theorem p_codes (vs : List V) (H : Hp) (Q : VK) (E : XK) (h : spCodes K vs H Q E) : vs.length = 1 ∧ t_are_codes K { nx := fun _ H' => Q .non H', rt := Q } (start N_are_codes vs) H := by
  obtain ⟨L, a, ns, rfl, hS, hl, hQ⟩ := h
  refine ⟨rfl, ?_⟩
  unfold t_are_codes
  show tSeq _ _ _ [some (.ref a), none] H
  walk_at "w"
  refine w_forL (ds := intsD ns) (fun i σ H' => (∃ v, σ = [some (.ref a), v]) ∧ H' = H ∧ (ns.take i).all okB = true) ⟨⟨_, rfl⟩, rfl, by simp⟩ ?_ ?_ ?_
  · rintro i σ H' hi ⟨_, rfl, _⟩
    exact ⟨L, hS, hl⟩
  · rintro i d v σ H' hd ⟨⟨v0, rfl⟩, rfl, ht⟩ hcb
    rw [List.getElem?_map] at hd
    obtain ⟨n, hn, rfl⟩ := Option.map_eq_some_iff.mp hd
    obtain rfl := (hcb L hS hl).int_of
    have hi : i < ns.length := (List.getElem?_eq_some_iff.mp hn).1
    have e : ns.take (i + 1) = ns.take i ++ [n] := by
      rw [List.take_add_one, hn]; rfl
    walk_at "w"
    refine w_ite (fun h => ?_) (fun h => ?_)
    · walk_at "w"
      have hb : okB n = false := by
        unfold okB
        revert h
        cases decide (32 ≤ n) <;> cases decide (n ≤ 126) <;> cases decide (n = 37) <;> simp
      have : ns.all okB = false := List.all_eq_false.mpr ⟨n, List.mem_of_getElem? hn, by simp [hb]⟩
      rw [this] at hQ
      exact hQ
    · walk_at "w"
      have hb : okB n = true := by
        unfold okB
        revert h
        cases decide (32 ≤ n) <;> cases decide (n ≤ 126) <;> cases decide (n = 37) <;> simp
      exact ⟨⟨_, rfl⟩, rfl, by rw [e, List.all_append, ht]; simp [hb]⟩
  · rintro σ H' ⟨⟨v0, rfl⟩, rfl, ht⟩
    walk_at "w"
    rw [List.length_map, List.take_length] at ht
    rw [ht] at hQ
    exact hQ
def spSign (K : PySem.W.Frag) : Sp := fun vs H Q _ => ∃ c : Int, vs = [.int c] ∧ okB c = true ∧ Q (.str (S [c.toNat])) H
theorem p_sign (vs : List V) (H : Hp) (Q : VK) (E : XK) (h : spSign K vs H Q E) : vs.length = 1 ∧ t_sign K { nx := fun _ H' => Q .non H', rt := Q } (start N_sign vs) H := by
  obtain ⟨c, rfl, hc, hQ⟩ := h
  refine ⟨rfl, ?_⟩
  unfold okB at hc
  simp only [Bool.and_eq_true, decide_eq_true_eq, Bool.not_eq_true', decide_eq_false_iff_not] at hc
  obtain ⟨⟨h1, h2⟩, h3⟩ := hc
  unfold t_sign
  rw [signs_eq]
  show tRet _ _ [some (.int c)] H
  walk_at "w"
  refine w_ifd (fun h => ?_) (fun h => ?_)
  · walk_at "w"
    refine w_ixSg (c := c.toNat) (by rw [signs_len]; decide) (by omega) ?_ hQ
    have := signs_pre (c := c.toNat) (by omega) (by omega)
    rw [show (c - 32).toNat = c.toNat - 32 by omega]
    exact this
  · walk_at "w"
    refine w_ixSg (c := c.toNat) (by rw [signs_len]; decide) (by omega) ?_ hQ
    have := signs_post (c := c.toNat) (by omega) (by omega)
    rw [show (c - 33).toNat = c.toNat - 33 by omega]
    exact this
theorem five {ns : List Int} (h : ns.length = 32) : (ns.drop 1).take 5 = [ns.getD 1 0, ns.getD 2 0, ns.getD 3 0, ns.getD 4 0, ns.getD 5 0] := by
  match ns, h with
  | a :: b :: c :: d :: e :: f :: r, _ => rfl
theorem sum_ones : ∀ ms : List Int, (ms.map fun _ => 1).sum = ms.length
  | [] => rfl
  | m :: ms => by rw [List.map_cons, List.sum_cons, sum_ones ms, List.length_cons]; omega
def spDec (K : PySem.W.Frag) : Sp := fun vs H Q _ => ∃ (L : List Ent) (a : Addr) (ns : List Int), vs = [.ref a] ∧ St K L H ∧ LsIn K L a (intsD ns) ∧ ns.length = 32 ∧
  ∀ v H', St K (.dat v (dec ns) :: L) H' → Q v H'
theorem p_dec (vs : List V) (H : Hp) (Q : VK) (E : XK) (h : spDec K vs H Q E) : vs.length = 1 ∧ t_decode_piece K (spSign K) (spCodes K) { nx := fun _ H' => Q .non H', rt := Q } (start N_decode_piece vs) H := by
  obtain ⟨L, a, ns, rfl, hS, hl, hlen, hQ⟩ := h
  refine ⟨rfl, ?_⟩
  unfold t_decode_piece
  show tSeq _ _ _ [some (.ref a), none, none, none, none, none, none, none] H
  walk_at "w"
  refine w_ite (fun h => ?_) (fun h1 => ?_)
  · walk_at "w"
    refine hQ .non H (hS.learn ?_)
    have e : dec ns = .none := by
      unfold dec
      rw [if_pos]
      simp only [Bool.or_eq_true, Bool.not_eq_true', decide_eq_false_iff_not] at h
      exact h
    rw [e]
    exact .non
  simp only [Bool.or_eq_false_iff, Bool.not_eq_false', decide_eq_true_eq] at h1
  walk_at "w"
  rename_i p1 H1 hS1
  rw [cutD_nn (ds := intsD ns) (i := 1) (j := 6) (a := 1) (b := 6) rfl rfl, ← List.map_drop, ← List.map_take, five hlen] at hS1
  refine w_unpLi hS1 (by walk_at "lsin") rfl ?_
  show gCons _ _ [.int _, .int _, .int _, .int _, .int _] _ _ _
  walk_at "w"
  refine w_or ?_
  walk_at "w"
  have hd : dec ns = if ns.getD 2 0 ≤ ns.getD 1 0 ∨ ¬ (1 ≤ ns.getD 5 0 ∧ ns.getD 5 0 ≤ 24) ∨ ((ns.drop (6 + (ns.getD 5 0).toNat)).take (31 - (6 + (ns.getD 5 0).toNat))).any (· != 0) = true then .none
      else if ((ns.drop 6).take (ns.getD 5 0).toNat).all okB = false then .none
      else .tuple [.int (ns.getD 1 0), .int (ns.getD 2 0), .int (ns.getD 3 0 * 256 + ns.getD 4 0), .str (S (((ns.drop 6).take (ns.getD 5 0).toNat).map Int.toNat))] := by
    unfold dec
    rw [if_neg]
    intro q
    rcases q with q | q
    · exact q h1.1
    · exact q h1.2
  generalize ns.getD 5 0 = cnt at hd hS1 ⊢
  refine w_ifd (fun h2 => ?_) (fun h2 => ?_)
  · walk_at "w"
    refine hQ .non H1 (hS1.tail.learn ?_)
    rw [hd, if_pos (.inl h2)]
    exact .non
  refine w_or ?_
  walk_at "w"
  refine w_ite (fun h3 => ?_) (fun h3 => ?_)
  · walk_at "w"
    refine hQ .non H1 (hS1.tail.learn ?_)
    have hn : ¬ (1 ≤ cnt ∧ cnt ≤ 24) := fun q => by simp [q.1, q.2] at h3
    rw [hd, if_pos (.inr (.inl hn))]
    exact .non
  have hc : 1 ≤ cnt ∧ cnt ≤ 24 := by
    simp at h3
    exact h3
  walk_at "w"
  rename_i p2 H2 hS2
  rw [cutD_nn (ds := intsD ns) (i := 6 + cnt) (j := 31) (a := 6 + cnt.toNat) (b := 31) (by omega) rfl, ← List.map_drop, ← List.map_take] at hS2
  refine w_anyI hS2 (by walk_at "lsin") ?_
  walk_at "w"
  refine w_ite (fun h4 => ?_) (fun h4 => ?_)
  · walk_at "w"
    refine hQ .non H2 (hS2.tail.tail.learn ?_)
    rw [hd, if_pos (.inr (.inr h4))]
    exact .non
  rw [if_neg (by rw [h4]; rintro (q | q | q); exact h2 q; exact q hc; cases q)] at hd
  walk_at "w"
  rename_i p3 H3 hS3
  rw [cutD_nn (ds := intsD ns) (i := 6) (j := 6 + cnt) (a := 6) (b := 6 + cnt.toNat) rfl (by omega), ← List.map_drop, ← List.map_take, show 6 + cnt.toNat - 6 = cnt.toNat by omega] at hS3
  generalize hms : (ns.drop 6).take cnt.toNat = ms at hd hS3
  have hml : ms.length ≤ 24 := by rw [← hms]; simp; omega
  refine ⟨_, _, ms, rfl, hS3, by walk_at "lsin", ?_⟩
  walk_at "w"
  refine w_ite (fun h5 => ?_) (fun h5 => ?_)
  · walk_at "w"
    refine hQ .non H3 (hS3.tail.tail.tail.learn ?_)
    rw [hd, if_pos (by simpa using h5)]
    exact .non
  have h5' : ms.all okB = true := by simpa using h5
  rw [if_neg (by rw [h5']; decide)] at hd
  walk_at "w"
  rw [S_nil]
  walk_at "w"
  refine w_lcL (R := fun i e => ∃ c, ms[i]? = some c ∧ e = .str (S [c.toNat])) hS3 (ds := intsD ms) (by walk_at "lsin") (by simp; omega) ?_ ?_
  · intro i d q es v H4 hd4 hlen4 hS4 Z hZ
    rw [List.getElem?_map] at hd4
    obtain ⟨c, hc4, rfl⟩ := Option.map_eq_some_iff.mp hd4
    obtain rfl := hS4.int_of
    show gName 7 _ [some (.ref a), some (.int _), some (.int _), some (.int _), some (.int _), some (.int _), some (.ref p3), none] _ _
    walk_at "w"
    refine ⟨rfl, ?_⟩
    walk_at "w"
    refine ⟨c, rfl, List.all_eq_true.mp h5' c (List.mem_of_getElem? hc4), ?_⟩
    exact hZ _ _ _ ⟨c, hc4, rfl⟩ (hS4.tail.learn .str)
  intro q es H4 hlen4 hes hS4
  have e : es = (ms.map fun c => [c.toNat]).map fun y => PyData.str (S y) := by
    have h1 := list_by (ds := es) (n := ms.length) (f := fun i => .str (S [(ms.getD i 0).toNat])) (by simpa using hlen4) fun i e he => by
      obtain ⟨c, hc, rfl⟩ := hes i e he
      simp [List.getD_eq_getElem?_getD, hc]
    rw [h1]
    apply List.ext_getElem?
    intro i
    by_cases hi : i < ms.length
    · simp [hi]
    · simp [hi]
  subst e
  walk_at "w"
  refine w_joinSS (z := []) hS4 (by walk_at "lsin") (by have := sum_ones ms; simp [Function.comp_def] at this ⊢; omega) ?_
  walk_at "w"
  rename_i p5 H5 hS5
  refine hQ _ _ ?_
  have e : TL.joinL [] (ms.map fun c => [c.toNat]) = ms.map Int.toNat := by
    have := joinL_one (ms.map Int.toNat)
    rw [List.map_map] at this
    exact this
  rw [hd, ← e]
  exact hS5.to (by walk_at "pick")
end
/-! ### logs (shared by the laws of logs) -/
/-! blocks that are written -/
theorem seen_is {B : List (List Int)} {P : List (Nat × List Int)} {k : Nat} (hp : ∀ e ∈ P, e.1 < B.length) : Di.seen B P k = (Di.flushed B P).getD k [] := by
  unfold Di.seen Di.flushed
  induction P generalizing B with
  | nil => rfl
  | cons e P ih =>
    rw [List.foldl_cons, List.foldl_cons]
    have h1 := hp e (.head _)
    have : (Di.putB B e).getD k [] = if e.1 = k then e.2 else B.getD k [] := by
      unfold Di.putB
      rw [List.getD_eq_getElem?_getD, List.getElem?_set]
      by_cases h : e.1 = k
      · subst h
        rw [if_pos rfl, if_pos h1, if_pos rfl]
        rfl
      · rw [if_neg h, if_neg h, ← List.getD_eq_getElem?_getD]
    rw [← this]
    exact ih (B := Di.putB B e) fun x hx => by
      have := hp x (.tail _ hx)
      simpa [Di.putB] using this
def placed : Nat → List (List Int) → List (Nat × List Int)
  | _, [] => []
  | e, b :: bs => (e, b) :: placed (e + 1) bs
theorem placed_snoc {b : List Int} : ∀ {bs : List (List Int)} {e : Nat}, placed e (bs ++ [b]) = placed e bs ++ [(e + bs.length, b)]
  | [], e => rfl
  | c :: bs, e => by
    show (e, c) :: placed (e + 1) (bs ++ [b]) = (e, c) :: placed (e + 1) bs ++ [(e + (c :: bs).length, b)]
    rw [placed_snoc, List.length_cons, show e + 1 + bs.length = e + (bs.length + 1) by omega]
    rfl
theorem placed_mem {x : Nat × List Int} : ∀ {bs : List (List Int)} {e : Nat}, x ∈ placed e bs → e ≤ x.1 ∧ x.1 < e + bs.length ∧ x.2 ∈ bs
  | [], e, h => by cases h
  | c :: bs, e, h => by
    rcases List.mem_cons.mp h with rfl | h
    · exact ⟨Nat.le_refl _, by simp, .head _⟩
    · obtain ⟨h1, h2, h3⟩ := placed_mem h
      exact ⟨by omega, by simp; omega, .tail _ h3⟩
theorem placed_len : ∀ {bs : List (List Int)} {e : Nat}, (placed e bs).length = bs.length
  | [], _ => rfl
  | _ :: bs, e => by
    show (placed (e + 1) bs).length + 1 = bs.length + 1
    rw [placed_len]
/-- blocks that are written over others -/
def over (D : List (List Int)) (e : Nat) (bs : List (List Int)) : List (List Int) := D.take e ++ bs ++ D.drop (e + bs.length)
theorem flushed_placed : ∀ {bs D : List (List Int)} {e : Nat}, e + bs.length ≤ D.length → Di.flushed D (placed e bs) = over D e bs
  | [], D, e, h => by simp [placed, Di.flushed, over]
  | b :: bs, D, e, h => by
    simp only [List.length_cons] at h
    show Di.flushed (D.set e b) (placed (e + 1) bs) = _
    rw [flushed_placed (by simp; omega)]
    unfold over
    rw [List.drop_set_of_lt (by omega), List.length_cons]
    have : (D.set e b).take (e + 1) = D.take e ++ [b] := by
      rw [List.take_succ, List.getElem?_set_self (by omega), List.take_set_of_le (by omega)]
      rfl
    rw [this, show e + 1 + bs.length = e + (bs.length + 1) by omega]
    simp
theorem flushed_app {B : List (List Int)} {P P' : List (Nat × List Int)} : Di.flushed B (P ++ P') = Di.flushed (Di.flushed B P) P' := by
  unfold Di.flushed
  rw [List.foldl_append]
/-- so many writes and flushes go through -/
def enough (left : Option Nat) (n : Nat) : Prop := ∀ m, left = some m → n ≤ m
def spendN (left : Option Nat) (n : Nat) : Option Nat := left.map (· - n)
theorem spendN_0 {left : Option Nat} : spendN left 0 = left := by cases left <;> rfl
theorem enough_none {n : Nat} : enough none n := fun _ h => by cases h
theorem enough_0 {left : Option Nat} : enough left 0 := fun _ _ => Nat.zero_le _
theorem enough_to {left left' : Option Nat} {n : Nat} (h : enough left n) (hl : Di.spentTo (spendN left n) left') : enough left (n + 1) ∧ left' = spendN left (n + 1) := by
  rcases hl with ⟨h1, rfl⟩ | ⟨m, h1, rfl⟩
  · cases left with
    | none => exact ⟨enough_none, rfl⟩
    | some k => cases h1
  · cases left with
    | none => cases h1
    | some k =>
      have h2 := h k rfl
      have h3 : k - n = m + 1 := by simpa [spendN] using h1
      refine ⟨fun m' hm' => ?_, ?_⟩
      · cases hm'
        omega
      · show some m = some (k - (n + 1))
        congr 1
        omega
theorem enough_at {left : Option Nat} {n : Nat} (h : enough left n) (hl : spendN left n = some 0) : left = some n := by
  cases left with
  | none => cases hl
  | some k =>
    have h2 := h k rfl
    have h3 : k - n = 0 := by simpa [spendN] using hl
    congr 1
    omega
theorem DOK.more {B : List (List Int)} {P : List (Nat × List Int)} {ts : List Nat} {e : Nat} {bs : List (List Int)} (h : Di.DOK B P ts) (h1 : e + bs.length ≤ B.length) (h2 : ∀ b ∈ bs, b.length = 32) (h3 : P.length + bs.length ≤ 1000) : Di.DOK B (P ++ placed e bs) ts :=
  ⟨h.n0, h.n1, h.bl, fun x hx => by
    rcases List.mem_append.mp hx with hx | hx
    · exact h.pe x hx
    · obtain ⟨h4, h5, h6⟩ := placed_mem hx
      exact ⟨by omega, h2 _ h6⟩, by rw [List.length_append, placed_len]; exact h3, h.tn, h.tb⟩
theorem isB_len {b : List Int} (h : Di.isB b = true) : b.length = 32 := by
  unfold Di.isB at h
  simp only [Bool.and_eq_true, decide_eq_true_eq] at h
  exact h.1
abbrev XP (K : PySem.W.Frag) : Addr := He.ga K "PowerCut"
section
variable {K : PySem.W.Frag}
def spWriteB (K : PySem.W.Frag) : Sp := fun vs H Q E => ∃ (L : List Ent) (a dx pb pp qa : Addr) (tv : V) (cuts : Int) (left : Option Nat) (B : List (List Int)) (P : List (Nat × List Int)) (ts : List Nat) (first : Nat) (bs : List (List Int)), vs = [.ref a, .int first, .ref qa] ∧
  St K (Di.DL K a dx pb pp tv cuts left B P ts L) H ∧ Di.DOK B P ts ∧ LsIn K L qa (bs.map Di.bD) ∧ (∀ b ∈ bs, Di.isB b = true) ∧ first + bs.length ≤ B.length ∧ P.length + bs.length ≤ 1000 ∧
  (enough left bs.length → ∀ H', St K (Di.DL K a dx pb pp tv cuts (spendN left bs.length) B (P ++ placed first bs) ts L) H' → Q .non H') ∧
  (∀ j, left = some j → j < bs.length → ∀ pp' tv' H', St K (Di.DL K a dx pb pp' tv' (cuts + 1) none (Di.torn B (P ++ placed first (bs.take j)) ts) [] [] L) H' → E (.ref (XP K)) none H')
theorem p_write_blocks (vs : List V) (H : Hp) (Q : VK) (E : XK) (h : spWriteB K vs H Q E) : vs.length = 3 ∧ t_write_blocks K (Di.spWrite K) E { nx := fun _ H' => Q .non H', rt := Q } (start N_write_blocks vs) H := by
  obtain ⟨L, a, dx, pb, pp, qa, tv, cuts, left, B, P, ts, first, bs, rfl, hS, hok, hb, hB, hfit, hP, hQ, hE⟩ := h
  refine ⟨rfl, ?_⟩
  unfold t_write_blocks
  show tFor _ _ _ _ [some (.ref a), some (.int first), some (.ref qa), none, none] H
  walk_at "w"
  refine w_forE (ds := bs.map Di.bD) (fun i σ H' => (∃ v3 v4, σ = [some (.ref a), some (.int first), some (.ref qa), v3, v4]) ∧ enough left i ∧ St K (Di.DL K a dx pb pp tv cuts (spendN left i) B (P ++ placed first (bs.take i)) ts L) H') ⟨⟨_, _, rfl⟩, enough_0, ?_⟩ (fun i σ H' _ hI => ?_) (fun i d T σ H' H2 hd hI hlrn => ?_) (fun σ H' hI => ?_)
  · rw [spendN_0, List.take_zero]
    show St K (Di.DL K a dx pb pp tv cuts left B (P ++ []) ts L) H
    rw [List.append_nil]
    exact hS
  · exact ⟨_, hI.2.2, by walk_at "lsin"⟩
  · obtain ⟨⟨v3, v4, rfl⟩, hen, hS1⟩ := hI
    obtain ⟨b, hbi, rfl⟩ := Di.map_at hd
    have hi : i < bs.length := (List.getElem?_eq_some_iff.mp hbi).1
    have hbB := hB b (List.mem_of_getElem? hbi)
    have hS2 := hlrn _ hS1 (by walk_at "lsin")
    clear hlrn hS1
    refine w_unpT2 hS2 (.dat (.head _)) fun u1 u2 hS3 => ?_
    obtain rfl := hS3.int_of
    obtain ⟨aa, rfl⟩ := St.lst_of hS3.tail
    walk_at "w"
    have hS4 := hS3.to (L' := Di.DL K a dx pb pp tv cuts (spendN left i) B (P ++ placed first (bs.take i)) ts (Lg.dat (.ref aa) (Di.bD b) :: L)) (by walk_at "pick")
    have hl32 := isB_len hbB
    have htk : (bs.take i).length = i := by rw [List.length_take]; omega
    have hsn : placed first (bs.take (i + 1)) = placed first (bs.take i) ++ [(first + i, b)] := by
      rw [Di.take_succ' hbi, placed_snoc, htk]
    have hok' := DOK.more (e := first) (bs := bs.take i) hok (by omega) (fun x hx => isB_len (hB x (List.mem_of_mem_take hx))) (by omega)
    refine w_meth hS4 (.head _) (Di.lk_no (by decide)) ?_
    walk_at "w"
    refine ⟨_, a, dx, pb, pp, aa, tv, cuts, spendN left i, B, _, ts, _, b, rfl, hS4, hok', .dat (.head _), by omega, fun z => absurd ⟨by omega, by omega⟩ z, fun _ z => (by rw [hbB] at z; cases z), fun n hn hnl _ left' H5 hl hS5 => ?_, fun _ _ h0 pp' tv' H5 hS5 => ?_⟩
    · obtain rfl : n = first + i := by omega
      obtain ⟨e1, rfl⟩ := enough_to hen hl
      refine ⟨⟨_, _, rfl⟩, e1, ?_⟩
      rw [hsn, ← List.append_assoc]
      exact hS5.to (by walk_at "pick")
    · exact hE i (enough_at hen h0) hi pp' tv' H5 (hS5.to (by walk_at "pick"))
  · obtain ⟨⟨v3, v4, rfl⟩, hen, hS1⟩ := hI
    rw [List.length_map] at hen hS1
    rw [List.take_length] at hS1
    walk_at "w"
    exact hQ hen H' hS1
end
end K47

/-! k47: logs -/
namespace K47
open PySem PySem.Spec PyProof.Rows L2 Lg PySem.NumText K45 Blk
local macro_rules | `(tactic| walk_at "ar") => `(tactic| first | omega | (simp; done) | (simp; omega) | (simp only [S_len]; omega) | (simp [Lg.repL_len]; done) | (simp [Lg.repL_len]; omega))
local macro_rules | `(tactic| walk_at "gt") => `(tactic| repeat (first | exact GetAt.here | apply GetAt.there))
local macro_rules | `(tactic| walk_at "st") => `(tactic| repeat (first | exact SetAt.here | apply SetAt.there))
local macro_rules | `(tactic| walk_at "mem") => `(tactic| first | assumption | exact List.mem_cons_self | (apply List.mem_cons_of_mem; walk_at "mem"))
local macro_rules | `(tactic| walk_at "put") => `(tactic| repeat (first | exact Put.here | apply Put.there))
local macro_rules | `(tactic| walk_at "rem") => `(tactic| repeat (first | exact Rem.here | apply Rem.there))
local macro_rules | `(tactic| walk_at "pick") => `(tactic| first | exact Pick.refl | exact Pick.cons (by walk_at "rem") (by walk_at "pick") | (apply Pick.drop; walk_at "pick") | exact Pick.nil)
local macro_rules | `(tactic| walk_at "is") => `(tactic| first | exact Is.int | exact Is.str | exact Is.bl | exact Is.non | assumption | exact Is.dat (by walk_at "mem") | (apply Is.cons; walk_at "is"))
local macro_rules | `(tactic| walk_at "isall") => `(tactic| first | exact IsAll.nil | exact IsAll.cons (by walk_at "is") (by walk_at "isall"))
local macro_rules | `(tactic| walk_at "lsin") => `(tactic| first | assumption | exact LsIn.own (by walk_at "mem") | exact LsIn.dat (by walk_at "mem") | (apply LsIn.cons; walk_at "lsin"))
local macro_rules | `(tactic| walk_at "see") => `(tactic| first | exact See.own (by walk_at "mem") | exact See.is (by walk_at "is"))
local macro_rules | `(tactic| walk_at "w1") => `(tactic| first
  | (with_reducible apply Lg.w_seq)
  | (with_reducible apply Lg.w_asg)
  | ((with_reducible show gName _ _ _ _ _); (with_reducible refine Lg.w_name (by walk_at "st") ?_))
  | ((with_reducible show tVar _ _ _ _); (with_reducible refine Lg.w_var (by walk_at "gt") ?_))
  | (with_reducible apply Lg.w_c)
  | (with_reducible apply Lg.w_op)
  | (with_reducible apply Lg.w_un)
  | (with_reducible apply Lg.w_nil)
  | (with_reducible apply Lg.w_cons)
  | (with_reducible apply Lg.w_call)
  | (with_reducible apply Lg.w_cb)
  | (with_reducible apply Lg.w_tup)
  | (with_reducible apply Lg.w_lst)
  | (with_reducible apply Lg.w_bm)
  | (with_reducible apply Lg.w_bm0)
  | (with_reducible apply Lg.w_sl)
  | (with_reducible apply Lg.w_nopart)
  | (with_reducible apply Lg.w_part)
  | (with_reducible apply Lg.w_isint)
  | (with_reducible apply Lg.w_test)
  | (with_reducible apply Lg.w_tB)
  | (with_reducible apply Lg.w_isbl')
  | (with_reducible apply Lg.w_not)
  | (with_reducible apply Lg.w_tru)
  | (with_reducible apply Lg.w_truI)
  | (with_reducible apply Lg.w_truB)
  | (with_reducible apply Lg.w_ifs)
  | (with_reducible apply Lg.w_next)
  | (with_reducible apply Lg.w_break)
  | (with_reducible apply Lg.w_cont)
  | (with_reducible apply Lg.w_ret)
  | (with_reducible apply Lg.w_retn)
  | (with_reducible apply Lg.w_drop)
  | (with_reducible apply Lg.w_sub)
  | (with_reducible apply Lg.w_gnil)
  | (with_reducible apply Lg.w_gcons)
  | (with_reducible apply Lg.w_ifT)
  | (with_reducible apply Lg.w_ifF)
  | (with_reducible apply Lg.w_add)
  | (with_reducible apply Lg.w_sub2)
  | ((with_reducible show rTimes (V.int _) (V.int _) _ _); (with_reducible refine Lg.w_mulR (by omega) ?_))
  | ((with_reducible show rTimes (V.int _) (V.int _) _ _); (with_reducible refine Lg.w_mulL (by omega) ?_))
  | ((with_reducible show rMod (V.int _) (V.int _) _ _); (with_reducible refine Lg.w_mod (by first | decide | omega) ?_))
  | ((with_reducible show rFdiv (V.int _) (V.int _) _ _); (with_reducible refine Lg.w_fdiv (by first | decide | omega) ?_))
  | (with_reducible apply Lg.w_band)
  | (with_reducible apply Lg.w_lt)
  | (with_reducible apply Lg.w_le)
  | (with_reducible apply Lg.w_gt)
  | (with_reducible apply Lg.w_ge)
  | (with_reducible apply Lg.w_eqI)
  | (with_reducible apply Lg.w_neI)
  | (with_reducible apply Lg.w_intI2)
  | (with_reducible apply Lg.w_neg)
  | (with_reducible apply Lg.w_inSS)
  | (with_reducible apply Lg.w_ninSS)
  | (with_reducible apply Lg.w_inSS')
  | (with_reducible apply Lg.w_neSS)
  | (with_reducible apply Lg.w_strS)
  | (with_reducible apply Lg.w_fldE)
  | (with_reducible apply Lg.w_sfldE)
  | (with_reducible apply Lg.w_makeE)
  | (with_reducible apply Lg.w_methE)
  | (with_reducible apply Lg.w_methSE)
  | (with_reducible apply Lg.w_callS)
  | (with_reducible apply Lg.w_raiseO)
  | (with_reducible apply Lg.w_raiseB)
  | (with_reducible apply Lg.w_try)
  | (with_reducible apply Lg.w_strS)
  | (with_reducible apply Lg.w_eqSS)
  | (with_reducible apply Lg.w_eqS)
  | (with_reducible apply Lg.w_neS)
  | (with_reducible apply Lg.w_isN)
  | (with_reducible apply Lg.w_isR)
  | (with_reducible apply Lg.w_isI)
  | (with_reducible apply Lg.w_isS)
  | (with_reducible apply Lg.w_nsN)
  | (with_reducible apply Lg.w_nsR)
  | (with_reducible apply Lg.w_nsI)
  | (with_reducible apply Lg.w_nsS)
  | (with_reducible apply Lg.w_int)
  | (with_reducible apply Lg.w_intb)
  | (with_reducible apply Lg.w_ord1)
  | (with_reducible apply Lg.w_tyS)
  | (with_reducible apply Lg.w_inSg)
  | (with_reducible apply Lg.w_ninSg)
  | ((with_reducible show NewL _ _ _); (with_reducible refine Lg.w_newL (by assumption) (by walk_at "isall") (by simp) ?_); (intro p' H' hS'))
  | ((with_reducible show NewT _ _ _); (with_reducible refine Lg.w_newT (by assumption) (by walk_at "isall") (by simp) ?_); (intro p' H' hS'))
  | ((with_reducible show TyThen _ _ (V.ref _) _ _); (with_reducible refine Lg.w_tyL (by assumption) (by walk_at "lsin") ?_))
  | ((with_reducible show rLenX _ [V.ref _] _ _); (with_reducible refine Lg.w_lenL (by assumption) (by walk_at "lsin") ?_))
  | ((with_reducible show rLenX _ [V.ref _] _ _); (with_reducible refine Lg.w_lenT (by assumption) (by walk_at "is") ?_))
  | ((with_reducible show spDraw _ _ _ _ _); (with_reducible refine Lg.w_draw (by assumption) (by walk_at "mem") (by first | decide | omega) ?_); (intro k' H' hk0' hk1' hS'))
  | ((with_reducible show rSlX _ (V.ref _) _ _ _ _); (with_reducible refine Lg.w_slL (by assumption) (by walk_at "lsin") ?_); (intro p' H' hS'))
  | ((with_reducible show rListOf _ [V.ref _] _ _); (with_reducible refine Lg.w_listL (by assumption) (by walk_at "lsin") ?_); (intro p' H' hS'))
  | (with_reducible apply Lg.w_for)
  | (with_reducible apply Lg.w_lc)
  | ((with_reducible show iAny _ (tVar _) _ _ _); (with_reducible refine Lg.w_anyVar (by walk_at "gt") ?_))
  | (with_reducible apply Lg.w_anyC)
  | (with_reducible apply Lg.w_vS)
  | (with_reducible apply Lg.w_itS)
  | ((with_reducible show AnyV _ (V.ref _) _ _); (with_reducible refine Lg.w_vL (by assumption) (by walk_at "lsin") ?_))
  | ((with_reducible show AnyL _ (V.ref _) _ _); (with_reducible refine Lg.w_itL (by assumption) (by walk_at "lsin") ?_))
  | ((with_reducible show AnyV _ (V.ref _) _ _); (with_reducible refine Lg.w_vT (by assumption) (by walk_at "is") ?_))
  | ((with_reducible show AnyT _ (V.ref _) _ _); (with_reducible refine Lg.w_itT (by assumption) (by walk_at "is") ?_))
  | ((with_reducible show Enu _ [V.ref _] _ _); (with_reducible refine Lg.w_itE (by assumption) (by walk_at "lsin") ?_))
  | ((with_reducible show rPlus _ (V.ref _) (V.ref _) _ _); (with_reducible refine Lg.w_plusL (by assumption) (by walk_at "lsin") (by walk_at "lsin") (by walk_at "ar") ?_); (intro p' H' hS'))
  | ((with_reducible show rTimes (V.ref _) (V.int _) _ _); (with_reducible refine Lg.w_repLs (by assumption) (by walk_at "lsin") (by walk_at "ar") (by walk_at "ar") (by walk_at "ar") ?_); (intro p' H' hS'))
  | ((with_reducible show rLenX _ [V.str (S _)] _ _); (with_reducible refine Lg.w_lenSS (by walk_at "ar") ?_))
  | ((with_reducible show rLenX _ [V.str _] _ _); (with_reducible refine Lg.w_lenS (by walk_at "ar") ?_))
  | ((with_reducible show rSlX _ (V.str _) _ _ _ _); (with_reducible refine Lg.w_slS (by walk_at "ar") ?_))
  | (with_reducible apply Lg.w_rng1)
  | (with_reducible apply Lg.w_rng2)
  | (with_reducible apply Lg.w_rng3)
  | (with_reducible apply Lg.w_enum)
  | ((with_reducible show Rng1 _ _ _); (with_reducible refine Lg.w_itR1 (by omega) ?_))
  | ((with_reducible show Rng2 _ _ _); (with_reducible refine Lg.w_itR2 (by omega) (by omega) ?_))
  | ((with_reducible show rIx _ (V.ref _) (V.int _) _ _); (with_reducible refine Lg.w_ixN (by assumption) (by walk_at "lsin") (by walk_at "ar") (by walk_at "ar") ?_))
  | ((with_reducible show rPlus _ (V.str (S _)) (V.str (S _)) _ _); (with_reducible refine Lg.w_addSS (by walk_at "ar") ?_))
  | ((with_reducible show rTimes (V.str (S _)) (V.int _) _ _); (with_reducible refine Lg.w_repSS (by walk_at "ar") (by walk_at "ar") (by walk_at "ar") ?_))
  | ((with_reducible show rIsi _ [V.ref _, V.ty "list"] _ _); (with_reducible refine Lg.w_isLL (by assumption) (by walk_at "lsin") ?_))
  | ((with_reducible show rIsi _ [V.ref _, V.ty "tuple"] _ _); (with_reducible refine Lg.w_isTT (by assumption) (by walk_at "is") ?_))
  | (with_reducible apply Lg.w_isII)
  | (with_reducible apply Lg.w_isSI)
  | (with_reducible apply Lg.w_isSS)
  | (with_reducible apply Lg.w_isIS)
  | (with_reducible apply Lg.w_ifexp)
  | (with_reducible apply Lg.w_chain)
  | ((with_reducible show ChainK _ _ _ _ _ _ _); (with_reducible refine Lg.w_chainLe (by (intro R' hR'; walk_at "w"; exact hR')) ?_))
  | ((with_reducible show ChainK _ _ _ _ _ _ _); (with_reducible refine Lg.w_chainLt (by (intro R' hR'; walk_at "w"; exact hR')) ?_))
  | ((with_reducible show tAnd _ _ _ _ _); (with_reducible refine Lg.w_andP (by (intro R' hR'; walk_at "w"; exact hR')) (by (intro hb' R' hR'; walk_at "w"; exact hR')) ?_))
  | ((with_reducible show tOr _ _ _ _ _); (with_reducible refine Lg.w_orP (by (intro R' hR'; walk_at "w"; exact hR')) (by (intro hb' R' hR'; walk_at "w"; exact hR')) ?_))
  | ((with_reducible show tAndV _ _ _ _ _); (with_reducible refine Lg.w_andVP (by (intro R' hR'; walk_at "w"; exact hR')) (by (intro hb' R' hR'; walk_at "w"; exact hR')) ?_))
  | ((with_reducible show tOrV _ _ _ _ _); (with_reducible refine Lg.w_orVP (by (intro R' hR'; walk_at "w"; exact hR')) (by (intro hb' R' hR'; walk_at "w"; exact hR')) ?_))
  | (with_reducible apply Lg.w_notV))
local macro_rules | `(tactic| walk_at "w") => `(tactic| repeat (walk_at "w1"))
local macro_rules | `(tactic| walk_at "z") => `(tactic| simp only [z_0, z_1, z_2, z_3, z_4, z_5, z_6, z_7, z_8, z_9, z_10, z_11, z_12, z_13, z_14, z_15, z_16, z_17, z_18, z_19, z_20, z_21, z_22, z_23, z_24, z_25, z_26, z_27, z_28, z_29, z_30, z_31, z_32, z_33, z_34, z_35, z_36, z_37])
theorem Z_len (n : Nat) : (Z n).length = n := by simp [Z]
theorem Z_isB {n : Nat} : ∀ b ∈ Z n, Di.isB b = true := fun b hb => by
  rw [List.eq_of_mem_replicate hb]
  decide +kernel
theorem Z_snoc {n : Nat} : Z (n + 1) = Z n ++ [List.replicate 32 0] := by
  unfold Z
  rw [List.replicate_succ']
section
variable {K : PySem.W.Frag}
def spClear (K : PySem.W.Frag) : Sp := fun vs H Q E => ∃ (L : List Ent) (a dx pb pp : Addr) (tv : V) (cuts : Int) (left : Option Nat) (B : List (List Int)) (P : List (Nat × List Int)) (ts : List Nat) (first n : Nat), vs = [.ref a, .int first] ∧
  St K (Di.DL K a dx pb pp tv cuts left B P ts L) H ∧ Di.DOK B P ts ∧ first + n = B.length ∧ P.length + n ≤ 1000 ∧
  (enough left n → ∀ H', St K (Di.DL K a dx pb pp tv cuts (spendN left n) B (P ++ placed first (Z n)) ts L) H' → Q .non H') ∧
  (∀ j, left = some j → j < n → ∀ pp' tv' H', St K (Di.DL K a dx pb pp' tv' (cuts + 1) none (Di.torn B (P ++ placed first (Z j)) ts) [] [] L) H' → E (.ref (XP K)) none H')
theorem p_clear (vs : List V) (H : Hp) (Q : VK) (E : XK) (h : spClear K vs H Q E) : vs.length = 2 ∧ t_clear K (Di.spSize K) (Di.spWrite K) E { nx := fun _ H' => Q .non H', rt := Q } (start N_clear vs) H := by
  obtain ⟨L, a, dx, pb, pp, tv, cuts, left, B, P, ts, first, n, rfl, hS, hok, hfit, hP, hQ, hE⟩ := h
  have hB4 := hok.n1
  refine ⟨rfl, ?_⟩
  unfold t_clear
  show tFor _ _ _ _ [some (.ref a), some (.int first), none] H
  walk_at "w"
  refine w_meth hS (.head _) (Di.lk_no (by decide)) ?_
  walk_at "w"
  refine ⟨_, a, dx, pb, pp, tv, cuts, left, B, P, ts, rfl, hS, ?_⟩
  walk_at "w"
  have en : ((B.length : Int) - (first : Int)).toNat = n := by omega
  rw [en]
  refine w_forR (fun i σ H' => (∃ v2, σ = [some (.ref a), some (.int first), v2]) ∧ enough left i ∧ St K (Di.DL K a dx pb pp tv cuts (spendN left i) B (P ++ placed first (Z i)) ts L) H') ⟨⟨_, rfl⟩, enough_0, ?_⟩ (fun i σ H' hi hI => ?_) (fun σ H' hI => ?_)
  · rw [spendN_0]
    show St K (Di.DL K a dx pb pp tv cuts left B (P ++ []) ts L) H
    rw [List.append_nil]
    exact hS
  · obtain ⟨⟨v2, rfl⟩, hen, hS1⟩ := hI
    clear hS
    walk_at "w"
    refine w_meth hS1 (.head _) (Di.lk_no (by decide)) ?_
    walk_at "w"
    rename_i q1 H2 hS2 q2 H3 hS3
    have hS4 := hS3.to (L' := Di.DL K a dx pb pp tv cuts (spendN left i) B (P ++ placed first (Z i)) ts (Lg.ls K q2 ((List.replicate 32 (0 : Int)).map PyData.int) :: L)) (by walk_at "pick")
    have hok' := DOK.more (e := first) (bs := Z i) hok (by rw [Z_len]; omega) (fun x hx => isB_len (Z_isB x hx)) (by rw [Z_len]; omega)
    refine ⟨_, a, dx, pb, pp, q2, tv, cuts, spendN left i, B, _, ts, _, List.replicate 32 0, rfl, hS4, hok', by walk_at "lsin", by simp, fun z => absurd ⟨by omega, by omega⟩ z, fun _ z => absurd z (by decide +kernel), fun m hm hml _ left' H5 hl hS5 => ?_, fun _ _ h0 pp' tv' H5 hS5 => ?_⟩
    · obtain rfl : m = first + i := by omega
      obtain ⟨e1, rfl⟩ := enough_to hen hl
      refine ⟨⟨_, rfl⟩, e1, ?_⟩
      rw [Z_snoc, placed_snoc, Z_len, ← List.append_assoc]
      exact hS5.to (by walk_at "pick")
    · exact hE i (enough_at hen h0) hi pp' tv' H5 (hS5.to (by walk_at "pick"))
  · obtain ⟨⟨v2, rfl⟩, hen, hS1⟩ := hI
    walk_at "w"
    exact hQ hen H' hS1
end
end K47

/-! k47: logs -/
namespace K47
open PySem PySem.Spec PyProof.Rows L2 Lg PySem.NumText K45 Blk
local macro_rules | `(tactic| walk_at "ar") => `(tactic| first | omega | (simp; done) | (simp; omega) | (simp only [S_len]; omega) | (simp [Lg.repL_len]; done) | (simp [Lg.repL_len]; omega))
local macro_rules | `(tactic| walk_at "gt") => `(tactic| repeat (first | exact GetAt.here | apply GetAt.there))
local macro_rules | `(tactic| walk_at "st") => `(tactic| repeat (first | exact SetAt.here | apply SetAt.there))
local macro_rules | `(tactic| walk_at "mem") => `(tactic| first | assumption | exact List.mem_cons_self | (apply List.mem_cons_of_mem; walk_at "mem"))
local macro_rules | `(tactic| walk_at "put") => `(tactic| repeat (first | exact Put.here | apply Put.there))
local macro_rules | `(tactic| walk_at "rem") => `(tactic| repeat (first | exact Rem.here | apply Rem.there))
local macro_rules | `(tactic| walk_at "pick") => `(tactic| first | exact Pick.refl | exact Pick.cons (by walk_at "rem") (by walk_at "pick") | (apply Pick.drop; walk_at "pick") | exact Pick.nil)
local macro_rules | `(tactic| walk_at "is") => `(tactic| first | exact Is.int | exact Is.str | exact Is.bl | exact Is.non | assumption | exact Is.dat (by walk_at "mem") | (apply Is.cons; walk_at "is"))
local macro_rules | `(tactic| walk_at "isall") => `(tactic| first | exact IsAll.nil | exact IsAll.cons (by walk_at "is") (by walk_at "isall"))
local macro_rules | `(tactic| walk_at "lsin") => `(tactic| first | assumption | exact LsIn.own (by walk_at "mem") | exact LsIn.dat (by walk_at "mem") | (apply LsIn.cons; walk_at "lsin"))
local macro_rules | `(tactic| walk_at "see") => `(tactic| first | exact See.own (by walk_at "mem") | exact See.is (by walk_at "is"))
local macro_rules | `(tactic| walk_at "w1") => `(tactic| first
  | (with_reducible apply Lg.w_seq)
  | (with_reducible apply Lg.w_asg)
  | ((with_reducible show gName _ _ _ _ _); (with_reducible refine Lg.w_name (by walk_at "st") ?_))
  | ((with_reducible show tVar _ _ _ _); (with_reducible refine Lg.w_var (by walk_at "gt") ?_))
  | (with_reducible apply Lg.w_c)
  | (with_reducible apply Lg.w_op)
  | (with_reducible apply Lg.w_un)
  | (with_reducible apply Lg.w_nil)
  | (with_reducible apply Lg.w_cons)
  | (with_reducible apply Lg.w_call)
  | (with_reducible apply Lg.w_cb)
  | (with_reducible apply Lg.w_tup)
  | (with_reducible apply Lg.w_lst)
  | (with_reducible apply Lg.w_bm)
  | (with_reducible apply Lg.w_bm0)
  | (with_reducible apply Lg.w_sl)
  | (with_reducible apply Lg.w_nopart)
  | (with_reducible apply Lg.w_part)
  | (with_reducible apply Lg.w_isint)
  | (with_reducible apply Lg.w_test)
  | (with_reducible apply Lg.w_tB)
  | (with_reducible apply Lg.w_isbl')
  | (with_reducible apply Lg.w_not)
  | (with_reducible apply Lg.w_tru)
  | (with_reducible apply Lg.w_truI)
  | (with_reducible apply Lg.w_truB)
  | (with_reducible apply Lg.w_ifs)
  | (with_reducible apply Lg.w_next)
  | (with_reducible apply Lg.w_break)
  | (with_reducible apply Lg.w_cont)
  | (with_reducible apply Lg.w_ret)
  | (with_reducible apply Lg.w_retn)
  | (with_reducible apply Lg.w_drop)
  | (with_reducible apply Lg.w_sub)
  | (with_reducible apply Lg.w_gnil)
  | (with_reducible apply Lg.w_gcons)
  | (with_reducible apply Lg.w_ifT)
  | (with_reducible apply Lg.w_ifF)
  | (with_reducible apply Lg.w_add)
  | (with_reducible apply Lg.w_sub2)
  | ((with_reducible show rTimes (V.int _) (V.int _) _ _); (with_reducible refine Lg.w_mulR (by omega) ?_))
  | ((with_reducible show rTimes (V.int _) (V.int _) _ _); (with_reducible refine Lg.w_mulL (by omega) ?_))
  | ((with_reducible show rMod (V.int _) (V.int _) _ _); (with_reducible refine Lg.w_mod (by first | decide | omega) ?_))
  | ((with_reducible show rFdiv (V.int _) (V.int _) _ _); (with_reducible refine Lg.w_fdiv (by first | decide | omega) ?_))
  | (with_reducible apply Lg.w_band)
  | (with_reducible apply Lg.w_lt)
  | (with_reducible apply Lg.w_le)
  | (with_reducible apply Lg.w_gt)
  | (with_reducible apply Lg.w_ge)
  | (with_reducible apply Lg.w_eqI)
  | (with_reducible apply Lg.w_neI)
  | (with_reducible apply Lg.w_intI2)
  | (with_reducible apply Lg.w_neg)
  | (with_reducible apply Lg.w_inSS)
  | (with_reducible apply Lg.w_ninSS)
  | (with_reducible apply Lg.w_inSS')
  | (with_reducible apply Lg.w_neSS)
  | (with_reducible apply Lg.w_strS)
  | (with_reducible apply Lg.w_fldE)
  | (with_reducible apply Lg.w_sfldE)
  | (with_reducible apply Lg.w_makeE)
  | (with_reducible apply Lg.w_methE)
  | (with_reducible apply Lg.w_methSE)
  | (with_reducible apply Lg.w_callS)
  | (with_reducible apply Lg.w_raiseO)
  | (with_reducible apply Lg.w_raiseB)
  | (with_reducible apply Lg.w_try)
  | (with_reducible apply Lg.w_strS)
  | (with_reducible apply Lg.w_eqSS)
  | (with_reducible apply Lg.w_eqS)
  | (with_reducible apply Lg.w_neS)
  | (with_reducible apply Lg.w_isN)
  | (with_reducible apply Lg.w_isR)
  | (with_reducible apply Lg.w_isI)
  | (with_reducible apply Lg.w_isS)
  | (with_reducible apply Lg.w_nsN)
  | (with_reducible apply Lg.w_nsR)
  | (with_reducible apply Lg.w_nsI)
  | (with_reducible apply Lg.w_nsS)
  | (with_reducible apply Lg.w_int)
  | (with_reducible apply Lg.w_intb)
  | (with_reducible apply Lg.w_ord1)
  | (with_reducible apply Lg.w_tyS)
  | (with_reducible apply Lg.w_inSg)
  | (with_reducible apply Lg.w_ninSg)
  | ((with_reducible show NewL _ _ _); (with_reducible refine Lg.w_newL (by assumption) (by walk_at "isall") (by simp) ?_); (intro p' H' hS'))
  | ((with_reducible show NewT _ _ _); (with_reducible refine Lg.w_newT (by assumption) (by walk_at "isall") (by simp) ?_); (intro p' H' hS'))
  | ((with_reducible show TyThen _ _ (V.ref _) _ _); (with_reducible refine Lg.w_tyL (by assumption) (by walk_at "lsin") ?_))
  | ((with_reducible show rLenX _ [V.ref _] _ _); (with_reducible refine Lg.w_lenL (by assumption) (by walk_at "lsin") ?_))
  | ((with_reducible show rLenX _ [V.ref _] _ _); (with_reducible refine Lg.w_lenT (by assumption) (by walk_at "is") ?_))
  | ((with_reducible show spDraw _ _ _ _ _); (with_reducible refine Lg.w_draw (by assumption) (by walk_at "mem") (by first | decide | omega) ?_); (intro k' H' hk0' hk1' hS'))
  | ((with_reducible show rSlX _ (V.ref _) _ _ _ _); (with_reducible refine Lg.w_slL (by assumption) (by walk_at "lsin") ?_); (intro p' H' hS'))
  | ((with_reducible show rListOf _ [V.ref _] _ _); (with_reducible refine Lg.w_listL (by assumption) (by walk_at "lsin") ?_); (intro p' H' hS'))
  | (with_reducible apply Lg.w_for)
  | (with_reducible apply Lg.w_lc)
  | ((with_reducible show iAny _ (tVar _) _ _ _); (with_reducible refine Lg.w_anyVar (by walk_at "gt") ?_))
  | (with_reducible apply Lg.w_anyC)
  | (with_reducible apply Lg.w_vS)
  | (with_reducible apply Lg.w_itS)
  | ((with_reducible show AnyV _ (V.ref _) _ _); (with_reducible refine Lg.w_vL (by assumption) (by walk_at "lsin") ?_))
  | ((with_reducible show AnyL _ (V.ref _) _ _); (with_reducible refine Lg.w_itL (by assumption) (by walk_at "lsin") ?_))
  | ((with_reducible show AnyV _ (V.ref _) _ _); (with_reducible refine Lg.w_vT (by assumption) (by walk_at "is") ?_))
  | ((with_reducible show AnyT _ (V.ref _) _ _); (with_reducible refine Lg.w_itT (by assumption) (by walk_at "is") ?_))
  | ((with_reducible show Enu _ [V.ref _] _ _); (with_reducible refine Lg.w_itE (by assumption) (by walk_at "lsin") ?_))
  | ((with_reducible show rPlus _ (V.ref _) (V.ref _) _ _); (with_reducible refine Lg.w_plusL (by assumption) (by walk_at "lsin") (by walk_at "lsin") (by walk_at "ar") ?_); (intro p' H' hS'))
  | ((with_reducible show rTimes (V.ref _) (V.int _) _ _); (with_reducible refine Lg.w_repLs (by assumption) (by walk_at "lsin") (by walk_at "ar") (by walk_at "ar") (by walk_at "ar") ?_); (intro p' H' hS'))
  | ((with_reducible show rLenX _ [V.str (S _)] _ _); (with_reducible refine Lg.w_lenSS (by walk_at "ar") ?_))
  | ((with_reducible show rLenX _ [V.str _] _ _); (with_reducible refine Lg.w_lenS (by walk_at "ar") ?_))
  | ((with_reducible show rSlX _ (V.str _) _ _ _ _); (with_reducible refine Lg.w_slS (by walk_at "ar") ?_))
  | (with_reducible apply Lg.w_rng1)
  | (with_reducible apply Lg.w_rng2)
  | (with_reducible apply Lg.w_rng3)
  | (with_reducible apply Lg.w_enum)
  | ((with_reducible show Rng1 _ _ _); (with_reducible refine Lg.w_itR1 (by omega) ?_))
  | ((with_reducible show Rng2 _ _ _); (with_reducible refine Lg.w_itR2 (by omega) (by omega) ?_))
  | ((with_reducible show rIx _ (V.ref _) (V.int _) _ _); (with_reducible refine Lg.w_ixN (by assumption) (by walk_at "lsin") (by walk_at "ar") (by walk_at "ar") ?_))
  | ((with_reducible show rPlus _ (V.str (S _)) (V.str (S _)) _ _); (with_reducible refine Lg.w_addSS (by walk_at "ar") ?_))
  | ((with_reducible show rTimes (V.str (S _)) (V.int _) _ _); (with_reducible refine Lg.w_repSS (by walk_at "ar") (by walk_at "ar") (by walk_at "ar") ?_))
  | ((with_reducible show rIsi _ [V.ref _, V.ty "list"] _ _); (with_reducible refine Lg.w_isLL (by assumption) (by walk_at "lsin") ?_))
  | ((with_reducible show rIsi _ [V.ref _, V.ty "tuple"] _ _); (with_reducible refine Lg.w_isTT (by assumption) (by walk_at "is") ?_))
  | (with_reducible apply Lg.w_isII)
  | (with_reducible apply Lg.w_isSI)
  | (with_reducible apply Lg.w_isSS)
  | (with_reducible apply Lg.w_isIS)
  | (with_reducible apply Lg.w_ifexp)
  | (with_reducible apply Lg.w_chain)
  | ((with_reducible show ChainK _ _ _ _ _ _ _); (with_reducible refine Lg.w_chainLe (by (intro R' hR'; walk_at "w"; exact hR')) ?_))
  | ((with_reducible show ChainK _ _ _ _ _ _ _); (with_reducible refine Lg.w_chainLt (by (intro R' hR'; walk_at "w"; exact hR')) ?_))
  | ((with_reducible show tAnd _ _ _ _ _); (with_reducible refine Lg.w_andP (by (intro R' hR'; walk_at "w"; exact hR')) (by (intro hb' R' hR'; walk_at "w"; exact hR')) ?_))
  | ((with_reducible show tOr _ _ _ _ _); (with_reducible refine Lg.w_orP (by (intro R' hR'; walk_at "w"; exact hR')) (by (intro hb' R' hR'; walk_at "w"; exact hR')) ?_))
  | ((with_reducible show tAndV _ _ _ _ _); (with_reducible refine Lg.w_andVP (by (intro R' hR'; walk_at "w"; exact hR')) (by (intro hb' R' hR'; walk_at "w"; exact hR')) ?_))
  | ((with_reducible show tOrV _ _ _ _ _); (with_reducible refine Lg.w_orVP (by (intro R' hR'; walk_at "w"; exact hR')) (by (intro hb' R' hR'; walk_at "w"; exact hR')) ?_))
  | (with_reducible apply Lg.w_notV))
local macro_rules | `(tactic| walk_at "w") => `(tactic| repeat (walk_at "w1"))
local macro_rules | `(tactic| walk_at "z") => `(tactic| simp only [z_0, z_1, z_2, z_3, z_4, z_5, z_6, z_7, z_8, z_9, z_10, z_11, z_12, z_13, z_14, z_15, z_16, z_17, z_18, z_19, z_20, z_21, z_22, z_23, z_24, z_25, z_26, z_27, z_28, z_29, z_30, z_31, z_32, z_33, z_34, z_35, z_36, z_37])
theorem rdT_go {D : List (List Int)} {first n f : Nat} {ts : List (List Nat)} {m : Int} : rdT D first n (f + 1) ts m = (if (ts.length : Int) < m then
      if first + ts.length = D.length then none
      else match decP (D.getD (first + ts.length) []) with
        | none => none
        | some (p, k, n', t) =>
          if p ≠ ts.length ∨ n' ≠ n ∨ (ts ≠ [] ∧ k ≠ m) then none
          else if ts ≠ [] ∧ (ts.getLastD []).length < 24 then none
          else rdT D first n f (ts ++ [t]) k
    else if 30 < m then none else some (ts.flatten, m)) := by rfl
abbrev txD (ts : List (List Nat)) : List PyData := ts.map fun y => PyData.str (S y)
def foD : Option (List Nat × Int) → PyData
  | none => .none
  | some (l, k) => .tuple [sD l, .int k]
section
variable {K : PySem.W.Frag}
def spReadText (K : PySem.W.Frag) : Sp := fun vs H Q E => ∃ (L : List Ent) (a dx pb pp : Addr) (tv : V) (cuts : Int) (left : Option Nat) (B : List (List Int)) (P : List (Nat × List Int)) (ts : List Nat) (first n : Nat), vs = [.ref a, .int first, .int n] ∧
  St K (Di.DL K a dx pb pp tv cuts left B P ts L) H ∧ Di.DOK B P ts ∧ first ≤ B.length ∧
  (∀ v H', St K (Lg.dat v (foD (readText (Di.flushed B P) first n)) :: Di.DL K a dx pb pp tv cuts left B P ts L) H' → Q v H')
structure RdI (D : List (List Int)) (first n : Nat) (us : List (List Nat)) (m : Int) : Prop where
  fit : first + us.length ≤ D.length
  go : readText D first n = rdT D first n (D.length + 2 - us.length) us m
  one : us = [] → m = 1
  le : (us.length : Int) ≤ m
  sh : ∀ t ∈ us, t.length ≤ 24
theorem RdI.start {D : List (List Int)} {first n : Nat} (h : first ≤ D.length) : RdI D first n [] 1 := ⟨by simpa using h, rfl, fun _ => rfl, by simp, fun _ h => by cases h⟩
theorem RdI.step {D : List (List Int)} {first n : Nat} {us : List (List Nat)} {m : Int} (h : RdI D first n us m) : readText D first n = rdT D first n ((D.length + 1 - us.length) + 1) us m := by
  have := h.fit
  rw [show D.length + 1 - us.length + 1 = D.length + 2 - us.length by omega]
  exact h.go
theorem us_sum {us : List (List Nat)} (h : ∀ t ∈ us, t.length ≤ 24) : (us.map (·.length)).sum ≤ 24 * us.length := by
  induction us with
  | nil => simp
  | cons t us ih =>
    have h4 := h t (.head _)
    have h5 := ih fun x hx => h x (.tail _ hx)
    simp only [List.map_cons, List.sum_cons, List.length_cons]
    omega
theorem p_read_text (vs : List V) (H : Hp) (Q : VK) (E : XK) (h : spReadText K vs H Q E) : vs.length = 3 ∧ t_read_text K (spDec K) (Di.spRead K) (Di.spSize K) E { nx := fun _ H' => Q .non H', rt := Q } (start N_read_text vs) H := by
  obtain ⟨L, a, dx, pb, pp, tv, cuts, left, B, P, ts, first, n, rfl, hS, hok, hf, hQ⟩ := h
  have hQ0 : readText (Di.flushed B P) first n = none → ∀ H', St K (Di.DL K a dx pb pp tv cuts left B P ts L) H' → Q .non H' := fun h H' hS' => hQ .non H' (by rw [h]; exact hS'.learn .non)
  have hQ1 : ∀ l k, readText (Di.flushed B P) first n = some (l, k) → ∀ q H', St K (Lg.dat (.ref q) (.tuple [sD l, .int k]) :: Di.DL K a dx pb pp tv cuts left B P ts L) H' → Q (.ref q) H' := fun l k h q H' hS' => hQ (.ref q) H' (by rw [h]; exact hS')
  have hB4 := hok.n1
  have hfl : (Di.flushed B P).length = B.length := Di.flushed_len P B
  refine ⟨rfl, ?_⟩
  unfold t_read_text
  rw [S_nil]
  show tSeq _ _ _ [some (.ref a), some (.int first), some (.int n), none, none, none] H
  walk_at "w"
  rename_i pt H1 hS1
  refine w_whileN (fun j σ H' => ∃ us m v5, σ = [some (.ref a), some (.int first), some (.int n), some (.ref pt), some (.int m), v5] ∧ St K (Lg.ls K pt (txD us) :: Di.DL K a dx pb pp tv cuts left B P ts L) H' ∧ RdI (Di.flushed B P) first n us m ∧ j = B.length - us.length) B.length ⟨[], 1, _, rfl, hS1, .start (by omega), by simp⟩ ?_
  rintro j σ H2 ⟨us, m, v5, rfl, hS2, hI, rfl⟩
  clear hS hS1
  have hfit := hI.fit
  rw [hfl] at hfit
  have hst := hI.step
  rw [rdT_go] at hst
  walk_at "w"
  rw [List.length_map]
  refine w_wbn (fun hc => ?_) (fun hc => ?_)
  · rw [decide_eq_true_eq] at hc
    rw [if_pos hc] at hst
    walk_at "w"
    rw [List.length_map]
    refine w_meth hS2 (.tail _ (.head _)) (Di.lk_no (by decide)) ?_
    walk_at "w"
    refine ⟨_, a, dx, pb, pp, tv, cuts, left, B, P, ts, rfl, hS2.to (by walk_at "pick"), ?_⟩
    walk_at "w"
    refine w_ifd (fun h1 => ?_) (fun h1 => ?_)
    · rw [if_pos (by omega)] at hst
      walk_at "w"
      exact hQ0 hst H2 (hS2.to (by walk_at "pick"))
    rw [if_neg (by omega)] at hst
    walk_at "w"
    refine w_meth hS2 (.tail _ (.head _)) (Di.lk_no (by decide)) ?_
    walk_at "w"
    rw [List.length_map]
    refine ⟨Lg.ls K pt (txD us) :: L, a, dx, pb, pp, tv, cuts, left, B, P, ts, _, rfl, hS2.to (by walk_at "pick"), hok, fun k hk hkl q H3 hS3 => ?_, fun z => absurd ⟨by omega, by omega⟩ z⟩
    obtain rfl : k = first + us.length := by omega
    rw [seen_is fun e he => (hok.pe e he).1] at hS3
    walk_at "w"
    have h32 : ((Di.flushed B P).getD (first + us.length) []).length = 32 := Di.getD_len (Di.flushed_bl hok.bl fun e he => (hok.pe e he).2) (by omega)
    refine ⟨_, q, _, rfl, hS3, by walk_at "lsin", h32, fun v H4 hS4 => ?_⟩
    rw [dec_is] at hS4
    clear hS2 hS3
    walk_at "w"
    cases hd : decP ((Di.flushed B P).getD (first + us.length) []) with
    | none =>
      rw [hd] at hst hS4
      obtain rfl := St.non_of (show St K (Lg.dat v .none :: _) H4 from hS4)
      refine w_or ?_
      walk_at "w"
      exact hQ0 hst H4 (hS4.to (by walk_at "pick"))
    | some q5 =>
      obtain ⟨p, k, n', t⟩ := q5
      obtain ⟨d1, d2⟩ := decP_some hd
      rw [hd] at hst hS4
      dsimp only at hst
      have hS5 : St K (Lg.dat v (.tuple [.int p, .int k, .int n', sD t]) :: _) H4 := hS4
      clear hS4
      obtain ⟨va, rfl⟩ := St.tup_of hS5
      refine w_or ?_
      walk_at "w"
      refine w_or ?_
      walk_at "w"
      refine w_ixTi (k := 0) hS5 (.dat (.head _)) rfl rfl ?_
      walk_at "w"
      rw [List.length_map]
      have no : (p ≠ us.length ∨ n' ≠ n ∨ (us ≠ [] ∧ k ≠ m)) → Q .non H4 := fun z => by
        rw [if_pos z] at hst
        exact hQ0 hst H4 (hS5.to (by walk_at "pick"))
      refine w_ifnd (fun h2 => ?_) (fun h2 => ?_)
      · walk_at "w"
        exact no (.inl h2)
      refine w_or ?_
      walk_at "w"
      refine w_ixTi (k := 2) hS5 (.dat (.head _)) rfl rfl ?_
      walk_at "w"
      refine w_ifnd (fun h3 => ?_) (fun h3 => ?_)
      · walk_at "w"
        exact no (.inr (.inl h3))
      refine w_and ?_
      walk_at "w"
      refine ⟨_, truL_ok hS5 (by walk_at "lsin"), ?_⟩
      have hp : p = us.length := h2
      have stp : ¬ (us ≠ [] ∧ k ≠ m) → ¬ (us ≠ [] ∧ (us.getLastD []).length < 24) → RdI (Di.flushed B P) first n (us ++ [t]) k := fun z1 z2 => by
        rw [if_neg (fun z => by
          rcases z with z | z | z
          · exact z h2
          · exact z h3
          · exact z1 z), if_neg z2] at hst
        refine ⟨by simp; omega, ?_, fun z => by simp at z, by simp; omega, fun x hx => ?_⟩
        · rw [hst, List.length_append, List.length_singleton, show (Di.flushed B P).length + 2 - (us.length + 1) = (Di.flushed B P).length + 1 - us.length by omega]
        · rcases List.mem_append.mp hx with hx | hx
          · exact hI.sh x hx
          · simp only [List.mem_cons, List.mem_nil_iff, or_false] at hx
            subst hx
            exact d2
      rcases List.eq_nil_or_concat us with hus | ⟨pre, last, hus⟩
      · subst hus
        refine w_bf rfl ?_
        walk_at "w"
        refine w_and ?_
        walk_at "w"
        refine ⟨_, truL_ok hS5 (by walk_at "lsin"), w_bf rfl ?_⟩
        walk_at "w"
        refine w_ixTi (k := 1) hS5 (.dat (.head _)) rfl rfl ?_
        walk_at "w"
        refine w_ixTs (k := 3) hS5 (.dat (.head _)) rfl rfl ?_
        walk_at "w"
        refine w_app hS5 (L' := _) (d := sD t) (by walk_at "put") .str (by simp) fun H6 hS6 => ?_
        refine ⟨_, by simp; omega, [] ++ [t], k, _, rfl, hS6.to (by walk_at "pick"), stp (fun z => z.1 rfl) (fun z => z.1 rfl), rfl⟩
      · rw [List.concat_eq_append] at hus
        have hne : us ≠ [] := by rw [hus]; simp
        have hem : (!(txD us).isEmpty) = true := by rw [hus]; simp
        have hla : us.getLastD [] = last := by rw [hus]; simp
        refine w_bt hem ?_
        walk_at "w"
        refine w_ixTi (k := 1) hS5 (.dat (.head _)) rfl rfl ?_
        walk_at "w"
        refine w_ifnd (fun h4 => ?_) (fun h4 => ?_)
        · walk_at "w"
          exact no (.inr (.inr ⟨hne, h4⟩))
        walk_at "w"
        refine w_and ?_
        walk_at "w"
        refine ⟨_, truL_ok hS5 (by walk_at "lsin"), w_bt hem ?_⟩
        walk_at "w"
        have hll : last.length ≤ 24 := hI.sh last (by rw [hus]; simp)
        have htx : txD us = txD pre ++ [sD last] := by rw [hus]; simp
        have hlin : LsIn K (Lg.dat (.ref va) (.tuple [.int p, .int k, .int n', sD t]) :: Lg.ls K q (((Di.flushed B P).getD (first + us.length) []).map PyData.int) :: Di.DL K a dx pb pp tv cuts left B P ts (Lg.ls K pt (txD us) :: L)) pt (txD pre ++ [sD last]) := by
          rw [← htx]
          walk_at "lsin"
        refine w_ixM1s hS5 hlin rfl ?_
        walk_at "w"
        refine w_ifd (fun h5 => ?_) (fun h5 => ?_)
        · rw [if_neg (fun z => by
            rcases z with z | z | z
            · exact z h2
            · exact z h3
            · exact z.2 h4), if_pos ⟨hne, by rw [hla]; omega⟩] at hst
          walk_at "w"
          exact hQ0 hst H4 (hS5.to (by walk_at "pick"))
        walk_at "w"
        refine w_ixTi (k := 1) hS5 (.dat (.head _)) rfl rfl ?_
        walk_at "w"
        refine w_ixTs (k := 3) hS5 (.dat (.head _)) rfl rfl ?_
        walk_at "w"
        refine w_app hS5 (L' := _) (d := sD t) (by walk_at "put") .str (by rw [List.length_map]; omega) fun H6 hS6 => ?_
        have e : txD us ++ [sD t] = txD (us ++ [t]) := by simp
        rw [e] at hS6
        refine ⟨_, by rw [List.length_append, List.length_singleton]; omega, us ++ [t], k, _, rfl, hS6.to (by walk_at "pick"), stp (fun z => z.2 h4) (fun z => by rw [hla] at z; omega), rfl⟩
  · rw [decide_eq_false_iff_not] at hc
    rw [if_neg hc] at hst
    walk_at "w"
    refine w_ifd (fun h1 => ?_) (fun h1 => ?_)
    · rw [if_pos (by omega)] at hst
      walk_at "w"
      exact hQ0 hst H2 (hS2.to (by walk_at "pick"))
    rw [if_neg (by omega)] at hst
    walk_at "w"
    have := us_sum hI.sh
    refine w_joinSS (ys := us) hS2 (by walk_at "lsin") (by simp; omega) ?_
    walk_at "w"
    rename_i q6 H6 hS6
    rw [joinL_nil] at hS6
    exact hQ1 _ _ hst q6 H6 (hS6.to (by walk_at "pick"))
end
end K47

/-! k47: logs -/
namespace K47
open PySem PySem.Spec PyProof.Rows L2 Lg PySem.NumText K45 Blk
local macro_rules | `(tactic| walk_at "ar") => `(tactic| first | omega | (simp; done) | (simp; omega) | (simp only [S_len]; omega) | (simp [Lg.repL_len]; done) | (simp [Lg.repL_len]; omega))
local macro_rules | `(tactic| walk_at "gt") => `(tactic| repeat (first | exact GetAt.here | apply GetAt.there))
local macro_rules | `(tactic| walk_at "st") => `(tactic| repeat (first | exact SetAt.here | apply SetAt.there))
local macro_rules | `(tactic| walk_at "mem") => `(tactic| first | assumption | exact List.mem_cons_self | (apply List.mem_cons_of_mem; walk_at "mem"))
local macro_rules | `(tactic| walk_at "put") => `(tactic| repeat (first | exact Put.here | apply Put.there))
local macro_rules | `(tactic| walk_at "rem") => `(tactic| repeat (first | exact Rem.here | apply Rem.there))
local macro_rules | `(tactic| walk_at "pick") => `(tactic| first | exact Pick.refl | exact Pick.cons (by walk_at "rem") (by walk_at "pick") | (apply Pick.drop; walk_at "pick") | exact Pick.nil)
local macro_rules | `(tactic| walk_at "is") => `(tactic| first | exact Is.int | exact Is.str | exact Is.bl | exact Is.non | assumption | exact Is.dat (by walk_at "mem") | (apply Is.cons; walk_at "is"))
local macro_rules | `(tactic| walk_at "isall") => `(tactic| first | exact IsAll.nil | exact IsAll.cons (by walk_at "is") (by walk_at "isall"))
local macro_rules | `(tactic| walk_at "lsin") => `(tactic| first | assumption | exact LsIn.own (by walk_at "mem") | exact LsIn.dat (by walk_at "mem") | (apply LsIn.cons; walk_at "lsin"))
local macro_rules | `(tactic| walk_at "see") => `(tactic| first | exact See.own (by walk_at "mem") | exact See.is (by walk_at "is"))
local macro_rules | `(tactic| walk_at "w1") => `(tactic| first
  | (with_reducible apply Lg.w_seq)
  | (with_reducible apply Lg.w_asg)
  | ((with_reducible show gName _ _ _ _ _); (with_reducible refine Lg.w_name (by walk_at "st") ?_))
  | ((with_reducible show tVar _ _ _ _); (with_reducible refine Lg.w_var (by walk_at "gt") ?_))
  | (with_reducible apply Lg.w_c)
  | (with_reducible apply Lg.w_op)
  | (with_reducible apply Lg.w_un)
  | (with_reducible apply Lg.w_nil)
  | (with_reducible apply Lg.w_cons)
  | (with_reducible apply Lg.w_call)
  | (with_reducible apply Lg.w_cb)
  | (with_reducible apply Lg.w_tup)
  | (with_reducible apply Lg.w_lst)
  | (with_reducible apply Lg.w_bm)
  | (with_reducible apply Lg.w_bm0)
  | (with_reducible apply Lg.w_sl)
  | (with_reducible apply Lg.w_nopart)
  | (with_reducible apply Lg.w_part)
  | (with_reducible apply Lg.w_isint)
  | (with_reducible apply Lg.w_test)
  | (with_reducible apply Lg.w_tB)
  | (with_reducible apply Lg.w_isbl')
  | (with_reducible apply Lg.w_not)
  | (with_reducible apply Lg.w_tru)
  | (with_reducible apply Lg.w_truI)
  | (with_reducible apply Lg.w_truB)
  | (with_reducible apply Lg.w_ifs)
  | (with_reducible apply Lg.w_next)
  | (with_reducible apply Lg.w_break)
  | (with_reducible apply Lg.w_cont)
  | (with_reducible apply Lg.w_ret)
  | (with_reducible apply Lg.w_retn)
  | (with_reducible apply Lg.w_drop)
  | (with_reducible apply Lg.w_sub)
  | (with_reducible apply Lg.w_gnil)
  | (with_reducible apply Lg.w_gcons)
  | (with_reducible apply Lg.w_ifT)
  | (with_reducible apply Lg.w_ifF)
  | (with_reducible apply Lg.w_add)
  | (with_reducible apply Lg.w_sub2)
  | ((with_reducible show rTimes (V.int _) (V.int _) _ _); (with_reducible refine Lg.w_mulR (by omega) ?_))
  | ((with_reducible show rTimes (V.int _) (V.int _) _ _); (with_reducible refine Lg.w_mulL (by omega) ?_))
  | ((with_reducible show rMod (V.int _) (V.int _) _ _); (with_reducible refine Lg.w_mod (by first | decide | omega) ?_))
  | ((with_reducible show rFdiv (V.int _) (V.int _) _ _); (with_reducible refine Lg.w_fdiv (by first | decide | omega) ?_))
  | (with_reducible apply Lg.w_band)
  | (with_reducible apply Lg.w_lt)
  | (with_reducible apply Lg.w_le)
  | (with_reducible apply Lg.w_gt)
  | (with_reducible apply Lg.w_ge)
  | (with_reducible apply Lg.w_eqI)
  | (with_reducible apply Lg.w_neI)
  | (with_reducible apply Lg.w_intI2)
  | (with_reducible apply Lg.w_neg)
  | (with_reducible apply Lg.w_inSS)
  | (with_reducible apply Lg.w_ninSS)
  | (with_reducible apply Lg.w_inSS')
  | (with_reducible apply Lg.w_neSS)
  | (with_reducible apply Lg.w_strS)
  | (with_reducible apply Lg.w_fldE)
  | (with_reducible apply Lg.w_sfldE)
  | (with_reducible apply Lg.w_makeE)
  | (with_reducible apply Lg.w_methE)
  | (with_reducible apply Lg.w_methSE)
  | (with_reducible apply Lg.w_callS)
  | (with_reducible apply Lg.w_raiseO)
  | (with_reducible apply Lg.w_raiseB)
  | (with_reducible apply Lg.w_try)
  | (with_reducible apply Lg.w_strS)
  | (with_reducible apply Lg.w_eqSS)
  | (with_reducible apply Lg.w_eqS)
  | (with_reducible apply Lg.w_neS)
  | (with_reducible apply Lg.w_isN)
  | (with_reducible apply Lg.w_isR)
  | (with_reducible apply Lg.w_isI)
  | (with_reducible apply Lg.w_isS)
  | (with_reducible apply Lg.w_nsN)
  | (with_reducible apply Lg.w_nsR)
  | (with_reducible apply Lg.w_nsI)
  | (with_reducible apply Lg.w_nsS)
  | (with_reducible apply Lg.w_int)
  | (with_reducible apply Lg.w_intb)
  | (with_reducible apply Lg.w_ord1)
  | (with_reducible apply Lg.w_tyS)
  | (with_reducible apply Lg.w_inSg)
  | (with_reducible apply Lg.w_ninSg)
  | ((with_reducible show NewL _ _ _); (with_reducible refine Lg.w_newL (by assumption) (by walk_at "isall") (by simp) ?_); (intro p' H' hS'))
  | ((with_reducible show NewT _ _ _); (with_reducible refine Lg.w_newT (by assumption) (by walk_at "isall") (by simp) ?_); (intro p' H' hS'))
  | ((with_reducible show TyThen _ _ (V.ref _) _ _); (with_reducible refine Lg.w_tyL (by assumption) (by walk_at "lsin") ?_))
  | ((with_reducible show rLenX _ [V.ref _] _ _); (with_reducible refine Lg.w_lenL (by assumption) (by walk_at "lsin") ?_))
  | ((with_reducible show rLenX _ [V.ref _] _ _); (with_reducible refine Lg.w_lenT (by assumption) (by walk_at "is") ?_))
  | ((with_reducible show spDraw _ _ _ _ _); (with_reducible refine Lg.w_draw (by assumption) (by walk_at "mem") (by first | decide | omega) ?_); (intro k' H' hk0' hk1' hS'))
  | ((with_reducible show rSlX _ (V.ref _) _ _ _ _); (with_reducible refine Lg.w_slL (by assumption) (by walk_at "lsin") ?_); (intro p' H' hS'))
  | ((with_reducible show rListOf _ [V.ref _] _ _); (with_reducible refine Lg.w_listL (by assumption) (by walk_at "lsin") ?_); (intro p' H' hS'))
  | (with_reducible apply Lg.w_for)
  | (with_reducible apply Lg.w_lc)
  | ((with_reducible show iAny _ (tVar _) _ _ _); (with_reducible refine Lg.w_anyVar (by walk_at "gt") ?_))
  | (with_reducible apply Lg.w_anyC)
  | (with_reducible apply Lg.w_vS)
  | (with_reducible apply Lg.w_itS)
  | ((with_reducible show AnyV _ (V.ref _) _ _); (with_reducible refine Lg.w_vL (by assumption) (by walk_at "lsin") ?_))
  | ((with_reducible show AnyL _ (V.ref _) _ _); (with_reducible refine Lg.w_itL (by assumption) (by walk_at "lsin") ?_))
  | ((with_reducible show AnyV _ (V.ref _) _ _); (with_reducible refine Lg.w_vT (by assumption) (by walk_at "is") ?_))
  | ((with_reducible show AnyT _ (V.ref _) _ _); (with_reducible refine Lg.w_itT (by assumption) (by walk_at "is") ?_))
  | ((with_reducible show Enu _ [V.ref _] _ _); (with_reducible refine Lg.w_itE (by assumption) (by walk_at "lsin") ?_))
  | ((with_reducible show rPlus _ (V.ref _) (V.ref _) _ _); (with_reducible refine Lg.w_plusL (by assumption) (by walk_at "lsin") (by walk_at "lsin") (by walk_at "ar") ?_); (intro p' H' hS'))
  | ((with_reducible show rTimes (V.ref _) (V.int _) _ _); (with_reducible refine Lg.w_repLs (by assumption) (by walk_at "lsin") (by walk_at "ar") (by walk_at "ar") (by walk_at "ar") ?_); (intro p' H' hS'))
  | ((with_reducible show rLenX _ [V.str (S _)] _ _); (with_reducible refine Lg.w_lenSS (by walk_at "ar") ?_))
  | ((with_reducible show rLenX _ [V.str _] _ _); (with_reducible refine Lg.w_lenS (by walk_at "ar") ?_))
  | ((with_reducible show rSlX _ (V.str _) _ _ _ _); (with_reducible refine Lg.w_slS (by walk_at "ar") ?_))
  | (with_reducible apply Lg.w_rng1)
  | (with_reducible apply Lg.w_rng2)
  | (with_reducible apply Lg.w_rng3)
  | (with_reducible apply Lg.w_enum)
  | ((with_reducible show Rng1 _ _ _); (with_reducible refine Lg.w_itR1 (by omega) ?_))
  | ((with_reducible show Rng2 _ _ _); (with_reducible refine Lg.w_itR2 (by omega) (by omega) ?_))
  | ((with_reducible show rIx _ (V.ref _) (V.int _) _ _); (with_reducible refine Lg.w_ixN (by assumption) (by walk_at "lsin") (by walk_at "ar") (by walk_at "ar") ?_))
  | ((with_reducible show rPlus _ (V.str (S _)) (V.str (S _)) _ _); (with_reducible refine Lg.w_addSS (by walk_at "ar") ?_))
  | ((with_reducible show rTimes (V.str (S _)) (V.int _) _ _); (with_reducible refine Lg.w_repSS (by walk_at "ar") (by walk_at "ar") (by walk_at "ar") ?_))
  | ((with_reducible show rIsi _ [V.ref _, V.ty "list"] _ _); (with_reducible refine Lg.w_isLL (by assumption) (by walk_at "lsin") ?_))
  | ((with_reducible show rIsi _ [V.ref _, V.ty "tuple"] _ _); (with_reducible refine Lg.w_isTT (by assumption) (by walk_at "is") ?_))
  | (with_reducible apply Lg.w_isII)
  | (with_reducible apply Lg.w_isSI)
  | (with_reducible apply Lg.w_isSS)
  | (with_reducible apply Lg.w_isIS)
  | (with_reducible apply Lg.w_ifexp)
  | (with_reducible apply Lg.w_chain)
  | ((with_reducible show ChainK _ _ _ _ _ _ _); (with_reducible refine Lg.w_chainLe (by (intro R' hR'; walk_at "w"; exact hR')) ?_))
  | ((with_reducible show ChainK _ _ _ _ _ _ _); (with_reducible refine Lg.w_chainLt (by (intro R' hR'; walk_at "w"; exact hR')) ?_))
  | ((with_reducible show tAnd _ _ _ _ _); (with_reducible refine Lg.w_andP (by (intro R' hR'; walk_at "w"; exact hR')) (by (intro hb' R' hR'; walk_at "w"; exact hR')) ?_))
  | ((with_reducible show tOr _ _ _ _ _); (with_reducible refine Lg.w_orP (by (intro R' hR'; walk_at "w"; exact hR')) (by (intro hb' R' hR'; walk_at "w"; exact hR')) ?_))
  | ((with_reducible show tAndV _ _ _ _ _); (with_reducible refine Lg.w_andVP (by (intro R' hR'; walk_at "w"; exact hR')) (by (intro hb' R' hR'; walk_at "w"; exact hR')) ?_))
  | ((with_reducible show tOrV _ _ _ _ _); (with_reducible refine Lg.w_orVP (by (intro R' hR'; walk_at "w"; exact hR')) (by (intro hb' R' hR'; walk_at "w"; exact hR')) ?_))
  | (with_reducible apply Lg.w_notV))
local macro_rules | `(tactic| walk_at "w") => `(tactic| repeat (walk_at "w1"))
local macro_rules | `(tactic| walk_at "z") => `(tactic| simp only [z_0, z_1, z_2, z_3, z_4, z_5, z_6, z_7, z_8, z_9, z_10, z_11, z_12, z_13, z_14, z_15, z_16, z_17, z_18, z_19, z_20, z_21, z_22, z_23, z_24, z_25, z_26, z_27, z_28, z_29, z_30, z_31, z_32, z_33, z_34, z_35, z_36, z_37])
/-- what the word of a record is -/
def Rec.tag : Rec → List Nat
  | .ent _ => zent
  | .txt _ _ => ztext
  | .rem _ => zrem
  | .upd _ => zupd
  | .cal _ _ _ _ _ => zcall
def Rec.rest : Rec → List PyData
  | .ent ns => [.tuple (ns.map sD)]
  | .txt m t => [sD m, sD t]
  | .rem m => [sD m]
  | .upd n => [.int n]
  | .cal h k m f vs => [.int h, .int k, sD m, sD f, .tuple (vs.map Va.d)]
theorem rec_is (r : Rec) : r.d = .tuple (sD (Rec.tag r) :: Rec.rest r) := by cases r <;> rfl
theorem tag_ent (r : Rec) : decide (Rec.tag r = zent) = isEnt r := by cases r <;> rfl
/-- where the reading of a log stands -/
structure ReI (D : List (List Int)) (rs : List Rec) (es : List Nat) (e : Nat) (fo : Option (List Nat × Int)) : Prop where
  go : readLog D = rdL D (D.length - rs.length + 1) rs (es ++ [e]) fo
  le : rs.length ≤ e
  fit : e ≤ D.length
  fo : ∀ l k, fo = some (l, k) → 1 ≤ k ∧ e + k.toNat ≤ D.length ∧ l.length ≤ 720
theorem ReI.start (D : List (List Int)) : ReI D [] [] 0 (readText D 0 0) :=
  ⟨rfl, Nat.le_refl _, Nat.zero_le _, fun l k h => by
    obtain ⟨h1, h2, h3, h4⟩ := readText_some h (Nat.zero_le _)
    exact ⟨h1, h3, h4⟩⟩
theorem ReI.next {D : List (List Int)} {rs : List Rec} {es : List Nat} {e : Nat} {l : List Nat} {k : Int} {r : Rec} (h : ReI D rs es e (some (l, k))) (hr : readRec l = some r) (hn : ¬ isEnt r ≠ rs.isEmpty) :
    ReI D (rs ++ [r]) (es ++ [e]) (e + k.toNat) (readText D (e + k.toNat) (rs.length + 1)) := by
  obtain ⟨h1, h2, h3⟩ := h.fo l k rfl
  have hle := h.le
  have hfit := h.fit
  refine ⟨?_, by rw [List.length_append, List.length_singleton]; omega, h2, fun l' k' h' => ?_⟩
  · rw [h.go]
    conv => lhs; unfold rdL
    rw [hr]
    dsimp only
    rw [if_neg hn, List.getLastD_concat, List.length_append, List.length_singleton, show D.length - (rs.length + 1) + 1 = D.length - rs.length by omega]
  · obtain ⟨h4, h5, h6, h7⟩ := readText_some h' h2
    exact ⟨h4, h6, h7⟩
abbrev natD (es : List Nat) : List PyData := es.map fun (e : Nat) => PyData.int (e : Int)
theorem fo_none {v : V} {L : List Ent} {H : Hp} {K : PySem.W.Frag} (h : St K (Lg.dat v (foD none) :: L) H) : v = .non := St.non_of (show St K (Lg.dat v .none :: L) H from h)
section
variable {K : PySem.W.Frag}
def spReadRecs (K : PySem.W.Frag) : Sp := fun vs H Q E => ∃ (L : List Ent) (a dx pb pp : Addr) (tv : V) (cuts : Int) (left : Option Nat) (B : List (List Int)) (P : List (Nat × List Int)) (ts : List Nat), vs = [.ref a] ∧
  St K (Di.DL K a dx pb pp tv cuts left B P ts L) H ∧ Di.DOK B P ts ∧ Is L (.ref (He.ga K "RESERVED")) (.tuple resD) ∧
  (∀ rs es, readLog (Di.flushed B P) = (rs, es) → es.length ≤ 500 → ∀ q H', St K (Lg.dat (.ref q) (.tuple [.list (rs.map Rec.d), .list (natD es)]) :: Di.DL K a dx pb pp tv cuts left B P ts L) H' → Q (.ref q) H')
theorem p_read_records (vs : List V) (H : Hp) (Q : VK) (E : XK) (h : spReadRecs K vs H Q E) : vs.length = 1 ∧ t_read_records K (spReadText K) (spReadRec K) E { nx := fun _ H' => Q .non H', rt := Q } (start N_read_records vs) H := by
  obtain ⟨L, a, dx, pb, pp, tv, cuts, left, B, P, ts, rfl, hS, hok, hres, hQ⟩ := h
  have hB4 := hok.n1
  have hfl : (Di.flushed B P).length = B.length := Di.flushed_len P B
  refine ⟨rfl, ?_⟩
  unfold t_read_records
  walk_at "z"
  show tSeq _ _ _ [some (.ref a), none, none, none, none] H
  walk_at "w"
  rename_i pr H1 hS1 pe H2 hS2
  clear hS hS1
  have hS3 := hS2.to (L' := Di.DL K a dx pb pp tv cuts left B P ts (Lg.ls K pr [] :: Lg.ls K pe [.int 0] :: L)) (by walk_at "pick")
  clear hS2
  refine ⟨_, a, dx, pb, pp, tv, cuts, left, B, P, ts, 0, 0, rfl, hS3, hok, Nat.zero_le _, fun fv H3 hS4 => ?_⟩
  walk_at "w"
  refine w_whileN (fun (j : Nat) σ H' => ∃ (rs : List Rec) (es : List Nat) (e : Nat) (fo : Option (List Nat × Int)) (fv : V) (v4 : Option V), σ = [some (.ref a), some (.ref pr), some (.ref pe), some fv, v4] ∧ St K (Lg.dat fv (foD fo) :: Lg.ls K pr (rs.map Rec.d) :: Lg.ls K pe (natD es ++ [.int (e : Int)]) :: Di.DL K a dx pb pp tv cuts left B P ts L) H' ∧ ReI (Di.flushed B P) rs es e fo ∧ es.length = rs.length ∧ j = B.length - rs.length) _ ⟨[], [], 0, _, fv, none, rfl, hS4.to (by walk_at "pick"), ReI.start _, rfl, rfl⟩ ?_
  rintro j σ H4 ⟨rs, es, e, fo, fv, v4, rfl, hS5, hI, hel, rfl⟩
  clear hS3 hS4
  have hfit := hI.fit
  have hle := hI.le
  rw [hfl] at hfit
  have hgo := hI.go
  have fin : ∀ H', St K (Lg.ls K pr (rs.map Rec.d) :: Lg.ls K pe (natD es ++ [.int (e : Int)]) :: Di.DL K a dx pb pp tv cuts left B P ts L) H' → readLog (Di.flushed B P) = (rs, es ++ [e]) → NewT [.ref pr, .ref pe] H' fun q H'' => Q q H'' := by
    intro H' hS' hg
    have h1 := Di.St.freezeIn (a := pr) hS' (by walk_at "put")
    have h2 := Di.St.freezeIn (a := pe) h1 (by walk_at "put")
    refine w_newT h2 (by walk_at "isall") (by simp) fun p H'' hS'' => ?_
    refine hQ rs (es ++ [e]) hg (by rw [List.length_append, List.length_singleton]; omega) p H'' ?_
    have e1 : natD (es ++ [e]) = natD es ++ [.int (e : Int)] := by simp
    rw [e1]
    exact hS''.to (by walk_at "pick")
  cases fo with
  | none =>
    obtain rfl := fo_none hS5
    walk_at "w"
    refine w_wbn (fun z => by cases z) fun _ => ?_
    walk_at "w"
    exact fin H4 (hS5.to (by walk_at "pick")) (by rw [hgo]; rfl)
  | some f2 =>
    obtain ⟨l, k⟩ := f2
    have hS6 : St K (Lg.dat fv (.tuple [sD l, .int k]) :: _) H4 := hS5
    clear hS5
    obtain ⟨vf, rfl⟩ := St.tup_of hS6
    walk_at "w"
    refine w_wbn (fun _ => ?_) (fun z => by cases z)
    walk_at "w"
    refine w_ixTs (k := 0) hS6 (.dat (.head _)) rfl rfl ?_
    walk_at "w"
    obtain ⟨f1, f2, f3⟩ := hI.fo l k rfl
    refine ⟨_, l, rfl, hS6, by omega, by walk_at "is", fun hn H5 hS7 => ?_, fun r hr p H5 hS7 => ?_⟩
    · walk_at "w"
      refine w_or ?_
      walk_at "w"
      exact fin H5 (hS7.to (by walk_at "pick")) (by rw [hgo]; unfold rdL; rw [hn])
    · rw [rec_is] at hS7
      clear hS6
      walk_at "w"
      refine w_or ?_
      walk_at "w"
      refine w_ixTs (k := 0) hS7 (.dat (.head _)) rfl rfl ?_
      walk_at "w"
      refine w_neB ?_
      walk_at "w"
      rw [tag_ent, List.length_map]
      have e0 : decide ((rs.length : Int) = 0) = rs.isEmpty := by cases rs <;> simp <;> omega
      rw [e0]
      refine w_ifnd (fun h1 => ?_) (fun h1 => ?_)
      · walk_at "w"
        exact fin H5 (hS7.to (by walk_at "pick")) (by rw [hgo]; unfold rdL; rw [hr]; dsimp only; rw [if_pos h1])
      walk_at "w"
      rw [← rec_is] at hS7
      refine w_app hS7 (L' := _) (d := r.d) (by walk_at "put") (.dat (.head _)) (by rw [List.length_map]; omega) fun H6 hS8 => ?_
      clear hS7
      walk_at "w"
      refine w_ixM1i hS8 (ds := natD es) (m := (e : Int)) (.own (by walk_at "mem")) rfl ?_
      walk_at "w"
      refine w_ixTi (k := 1) hS8 (.dat (by walk_at "mem")) rfl rfl ?_
      walk_at "w"
      refine w_app hS8 (L' := _) (d := .int ((e : Int) + k)) (by walk_at "put") .int (by simp; omega) fun H7 hS9 => ?_
      clear hS8
      walk_at "w"
      refine w_ixM1i hS9 (ds := natD es ++ [.int (e : Int)]) (m := (e : Int) + k) (.own (by walk_at "mem")) rfl ?_
      walk_at "w"
      have nx := hI.next hr (fun z => z h1)
      have ee : (e : Int) + k = ((e + k.toNat : Nat) : Int) := by omega
      have el : ((rs.map Rec.d ++ [r.d]).length : Int) = ((rs.length + 1 : Nat) : Int) := by simp
      rw [ee, el]
      rw [ee] at hS9
      have hS10 := hS9.to (L' := Di.DL K a dx pb pp tv cuts left B P ts (Lg.ls K pr (rs.map Rec.d ++ [r.d]) :: Lg.ls K pe (natD es ++ [.int (e : Int)] ++ [.int ((e + k.toNat : Nat) : Int)]) :: L)) (by walk_at "pick")
      refine ⟨_, a, dx, pb, pp, tv, cuts, left, B, P, ts, _, _, rfl, hS10, hok, by omega, fun fv' H8 hS11 => ?_⟩
      walk_at "w"
      have e1 : rs.map Rec.d ++ [r.d] = (rs ++ [r]).map Rec.d := by simp
      have e2 : natD es ++ [.int (e : Int)] = natD (es ++ [e]) := by simp
      rw [e1, e2] at hS11
      have hnf := nx.le
      have hnf2 := nx.fit
      rw [List.length_append, List.length_singleton] at hnf
      rw [hfl] at hnf2
      exact ⟨_, by rw [List.length_append, List.length_singleton]; omega, rs ++ [r], es ++ [e], e + k.toNat, _, fv', _, rfl, hS11.to (by walk_at "pick"), nx, by simp [hel], rfl⟩
end
end K47

namespace K47
open PySem PySem.Spec PyProof.Rows L2 Lg PySem.NumText K45 Blk
local macro_rules | `(tactic| walk_at "ar") => `(tactic| first | omega | (simp; done) | (simp; omega) | (simp only [S_len]; omega) | (simp [Lg.repL_len]; done) | (simp [Lg.repL_len]; omega))
local macro_rules | `(tactic| walk_at "gt") => `(tactic| repeat (first | exact GetAt.here | apply GetAt.there))
local macro_rules | `(tactic| walk_at "st") => `(tactic| repeat (first | exact SetAt.here | apply SetAt.there))
local macro_rules | `(tactic| walk_at "mem") => `(tactic| first | assumption | exact List.mem_cons_self | (apply List.mem_cons_of_mem; walk_at "mem"))
local macro_rules | `(tactic| walk_at "put") => `(tactic| repeat (first | exact Put.here | apply Put.there))
local macro_rules | `(tactic| walk_at "rem") => `(tactic| repeat (first | exact Rem.here | apply Rem.there))
local macro_rules | `(tactic| walk_at "pick") => `(tactic| first | exact Pick.refl | exact Pick.cons (by walk_at "rem") (by walk_at "pick") | (apply Pick.drop; walk_at "pick") | exact Pick.nil)
local macro_rules | `(tactic| walk_at "is") => `(tactic| first | exact Is.int | exact Is.str | exact Is.bl | exact Is.non | assumption | exact Is.dat (by walk_at "mem") | (apply Is.cons; walk_at "is"))
local macro_rules | `(tactic| walk_at "isall") => `(tactic| first | exact IsAll.nil | exact IsAll.cons (by walk_at "is") (by walk_at "isall"))
local macro_rules | `(tactic| walk_at "lsin") => `(tactic| first | assumption | exact LsIn.own (by walk_at "mem") | exact LsIn.dat (by walk_at "mem") | (apply LsIn.cons; walk_at "lsin"))
local macro_rules | `(tactic| walk_at "see") => `(tactic| first | exact See.own (by walk_at "mem") | exact See.is (by walk_at "is"))
local macro_rules | `(tactic| walk_at "w1") => `(tactic| first
  | (with_reducible apply Lg.w_seq)
  | (with_reducible apply Lg.w_asg)
  | ((with_reducible show gName _ _ _ _ _); (with_reducible refine Lg.w_name (by walk_at "st") ?_))
  | ((with_reducible show tVar _ _ _ _); (with_reducible refine Lg.w_var (by walk_at "gt") ?_))
  | (with_reducible apply Lg.w_c)
  | (with_reducible apply Lg.w_op)
  | (with_reducible apply Lg.w_un)
  | (with_reducible apply Lg.w_nil)
  | (with_reducible apply Lg.w_cons)
  | (with_reducible apply Lg.w_call)
  | (with_reducible apply Lg.w_cb)
  | (with_reducible apply Lg.w_tup)
  | (with_reducible apply Lg.w_lst)
  | (with_reducible apply Lg.w_bm)
  | (with_reducible apply Lg.w_bm0)
  | (with_reducible apply Lg.w_sl)
  | (with_reducible apply Lg.w_nopart)
  | (with_reducible apply Lg.w_part)
  | (with_reducible apply Lg.w_isint)
  | (with_reducible apply Lg.w_test)
  | (with_reducible apply Lg.w_tB)
  | (with_reducible apply Lg.w_isbl')
  | (with_reducible apply Lg.w_not)
  | (with_reducible apply Lg.w_tru)
  | (with_reducible apply Lg.w_truI)
  | (with_reducible apply Lg.w_truB)
  | (with_reducible apply Lg.w_ifs)
  | (with_reducible apply Lg.w_next)
  | (with_reducible apply Lg.w_break)
  | (with_reducible apply Lg.w_cont)
  | (with_reducible apply Lg.w_ret)
  | (with_reducible apply Lg.w_retn)
  | (with_reducible apply Lg.w_drop)
  | (with_reducible apply Lg.w_sub)
  | (with_reducible apply Lg.w_gnil)
  | (with_reducible apply Lg.w_gcons)
  | (with_reducible apply Lg.w_ifT)
  | (with_reducible apply Lg.w_ifF)
  | (with_reducible apply Lg.w_add)
  | (with_reducible apply Lg.w_sub2)
  | ((with_reducible show rTimes (V.int _) (V.int _) _ _); (with_reducible refine Lg.w_mulR (by omega) ?_))
  | ((with_reducible show rTimes (V.int _) (V.int _) _ _); (with_reducible refine Lg.w_mulL (by omega) ?_))
  | ((with_reducible show rMod (V.int _) (V.int _) _ _); (with_reducible refine Lg.w_mod (by first | decide | omega) ?_))
  | ((with_reducible show rFdiv (V.int _) (V.int _) _ _); (with_reducible refine Lg.w_fdiv (by first | decide | omega) ?_))
  | (with_reducible apply Lg.w_band)
  | (with_reducible apply Lg.w_lt)
  | (with_reducible apply Lg.w_le)
  | (with_reducible apply Lg.w_gt)
  | (with_reducible apply Lg.w_ge)
  | (with_reducible apply Lg.w_eqI)
  | (with_reducible apply Lg.w_neI)
  | (with_reducible apply Lg.w_intI2)
  | (with_reducible apply Lg.w_neg)
  | (with_reducible apply Lg.w_inSS)
  | (with_reducible apply Lg.w_ninSS)
  | (with_reducible apply Lg.w_inSS')
  | (with_reducible apply Lg.w_neSS)
  | (with_reducible apply Lg.w_strS)
  | (with_reducible apply Lg.w_fldE)
  | (with_reducible apply Lg.w_sfldE)
  | (with_reducible apply Lg.w_makeE)
  | (with_reducible apply Lg.w_methE)
  | (with_reducible apply Lg.w_methSE)
  | (with_reducible apply Lg.w_callS)
  | (with_reducible apply Lg.w_raiseO)
  | (with_reducible apply Lg.w_raiseB)
  | (with_reducible apply Lg.w_try)
  | (with_reducible apply Lg.w_strS)
  | (with_reducible apply Lg.w_eqSS)
  | (with_reducible apply Lg.w_eqS)
  | (with_reducible apply Lg.w_neS)
  | (with_reducible apply Lg.w_isN)
  | (with_reducible apply Lg.w_isR)
  | (with_reducible apply Lg.w_isI)
  | (with_reducible apply Lg.w_isS)
  | (with_reducible apply Lg.w_nsN)
  | (with_reducible apply Lg.w_nsR)
  | (with_reducible apply Lg.w_nsI)
  | (with_reducible apply Lg.w_nsS)
  | (with_reducible apply Lg.w_int)
  | (with_reducible apply Lg.w_intb)
  | (with_reducible apply Lg.w_ord1)
  | (with_reducible apply Lg.w_tyS)
  | (with_reducible apply Lg.w_inSg)
  | (with_reducible apply Lg.w_ninSg)
  | ((with_reducible show NewL _ _ _); (with_reducible refine Lg.w_newL (by assumption) (by walk_at "isall") (by simp) ?_); (intro p' H' hS'))
  | ((with_reducible show NewT _ _ _); (with_reducible refine Lg.w_newT (by assumption) (by walk_at "isall") (by simp) ?_); (intro p' H' hS'))
  | ((with_reducible show TyThen _ _ (V.ref _) _ _); (with_reducible refine Lg.w_tyL (by assumption) (by walk_at "lsin") ?_))
  | ((with_reducible show rLenX _ [V.ref _] _ _); (with_reducible refine Lg.w_lenL (by assumption) (by walk_at "lsin") ?_))
  | ((with_reducible show rLenX _ [V.ref _] _ _); (with_reducible refine Lg.w_lenT (by assumption) (by walk_at "is") ?_))
  | ((with_reducible show spDraw _ _ _ _ _); (with_reducible refine Lg.w_draw (by assumption) (by walk_at "mem") (by first | decide | omega) ?_); (intro k' H' hk0' hk1' hS'))
  | ((with_reducible show rSlX _ (V.ref _) _ _ _ _); (with_reducible refine Lg.w_slL (by assumption) (by walk_at "lsin") ?_); (intro p' H' hS'))
  | ((with_reducible show rListOf _ [V.ref _] _ _); (with_reducible refine Lg.w_listL (by assumption) (by walk_at "lsin") ?_); (intro p' H' hS'))
  | (with_reducible apply Lg.w_for)
  | (with_reducible apply Lg.w_lc)
  | ((with_reducible show iAny _ (tVar _) _ _ _); (with_reducible refine Lg.w_anyVar (by walk_at "gt") ?_))
  | (with_reducible apply Lg.w_anyC)
  | (with_reducible apply Lg.w_vS)
  | (with_reducible apply Lg.w_itS)
  | ((with_reducible show AnyV _ (V.ref _) _ _); (with_reducible refine Lg.w_vL (by assumption) (by walk_at "lsin") ?_))
  | ((with_reducible show AnyL _ (V.ref _) _ _); (with_reducible refine Lg.w_itL (by assumption) (by walk_at "lsin") ?_))
  | ((with_reducible show AnyV _ (V.ref _) _ _); (with_reducible refine Lg.w_vT (by assumption) (by walk_at "is") ?_))
  | ((with_reducible show AnyT _ (V.ref _) _ _); (with_reducible refine Lg.w_itT (by assumption) (by walk_at "is") ?_))
  | ((with_reducible show Enu _ [V.ref _] _ _); (with_reducible refine Lg.w_itE (by assumption) (by walk_at "lsin") ?_))
  | ((with_reducible show rPlus _ (V.ref _) (V.ref _) _ _); (with_reducible refine Lg.w_plusL (by assumption) (by walk_at "lsin") (by walk_at "lsin") (by walk_at "ar") ?_); (intro p' H' hS'))
  | ((with_reducible show rTimes (V.ref _) (V.int _) _ _); (with_reducible refine Lg.w_repLs (by assumption) (by walk_at "lsin") (by walk_at "ar") (by walk_at "ar") (by walk_at "ar") ?_); (intro p' H' hS'))
  | ((with_reducible show rLenX _ [V.str (S _)] _ _); (with_reducible refine Lg.w_lenSS (by walk_at "ar") ?_))
  | ((with_reducible show rLenX _ [V.str _] _ _); (with_reducible refine Lg.w_lenS (by walk_at "ar") ?_))
  | ((with_reducible show rSlX _ (V.str _) _ _ _ _); (with_reducible refine Lg.w_slS (by walk_at "ar") ?_))
  | (with_reducible apply Lg.w_rng1)
  | (with_reducible apply Lg.w_rng2)
  | (with_reducible apply Lg.w_rng3)
  | (with_reducible apply Lg.w_enum)
  | ((with_reducible show Rng1 _ _ _); (with_reducible refine Lg.w_itR1 (by omega) ?_))
  | ((with_reducible show Rng2 _ _ _); (with_reducible refine Lg.w_itR2 (by omega) (by omega) ?_))
  | ((with_reducible show rIx _ (V.ref _) (V.int _) _ _); (with_reducible refine Lg.w_ixN (by assumption) (by walk_at "lsin") (by walk_at "ar") (by walk_at "ar") ?_))
  | ((with_reducible show rPlus _ (V.str (S _)) (V.str (S _)) _ _); (with_reducible refine Lg.w_addSS (by walk_at "ar") ?_))
  | ((with_reducible show rTimes (V.str (S _)) (V.int _) _ _); (with_reducible refine Lg.w_repSS (by walk_at "ar") (by walk_at "ar") (by walk_at "ar") ?_))
  | ((with_reducible show rIsi _ [V.ref _, V.ty "list"] _ _); (with_reducible refine Lg.w_isLL (by assumption) (by walk_at "lsin") ?_))
  | ((with_reducible show rIsi _ [V.ref _, V.ty "tuple"] _ _); (with_reducible refine Lg.w_isTT (by assumption) (by walk_at "is") ?_))
  | (with_reducible apply Lg.w_isII)
  | (with_reducible apply Lg.w_isSI)
  | (with_reducible apply Lg.w_isSS)
  | (with_reducible apply Lg.w_isIS)
  | (with_reducible apply Lg.w_ifexp)
  | (with_reducible apply Lg.w_chain)
  | ((with_reducible show ChainK _ _ _ _ _ _ _); (with_reducible refine Lg.w_chainLe (by (intro R' hR'; walk_at "w"; exact hR')) ?_))
  | ((with_reducible show ChainK _ _ _ _ _ _ _); (with_reducible refine Lg.w_chainLt (by (intro R' hR'; walk_at "w"; exact hR')) ?_))
  | ((with_reducible show tAnd _ _ _ _ _); (with_reducible refine Lg.w_andP (by (intro R' hR'; walk_at "w"; exact hR')) (by (intro hb' R' hR'; walk_at "w"; exact hR')) ?_))
  | ((with_reducible show tOr _ _ _ _ _); (with_reducible refine Lg.w_orP (by (intro R' hR'; walk_at "w"; exact hR')) (by (intro hb' R' hR'; walk_at "w"; exact hR')) ?_))
  | ((with_reducible show tAndV _ _ _ _ _); (with_reducible refine Lg.w_andVP (by (intro R' hR'; walk_at "w"; exact hR')) (by (intro hb' R' hR'; walk_at "w"; exact hR')) ?_))
  | ((with_reducible show tOrV _ _ _ _ _); (with_reducible refine Lg.w_orVP (by (intro R' hR'; walk_at "w"; exact hR')) (by (intro hb' R' hR'; walk_at "w"; exact hR')) ?_))
  | (with_reducible apply Lg.w_notV))
local macro_rules | `(tactic| walk_at "w") => `(tactic| repeat (walk_at "w1"))
local macro_rules | `(tactic| walk_at "z") => `(tactic| simp only [z_0, z_1, z_2, z_3, z_4, z_5, z_6, z_7, z_8, z_9, z_10, z_11, z_12, z_13, z_14, z_15, z_16, z_17, z_18, z_19, z_20, z_21, z_22, z_23, z_24, z_25, z_26, z_27, z_28, z_29, z_30, z_31, z_32, z_33, z_34, z_35, z_36, z_37])
theorem drop_at {α : Type} {l : List α} {i : Nat} {x : α} (h : l[i]? = some x) : l.drop i = x :: l.drop (i + 1) := by
  obtain ⟨h1, rfl⟩ := List.getElem?_eq_some_iff.mp h
  exact List.drop_eq_getElem_cons h1
section
variable {K : PySem.W.Frag}
def spGood (K : PySem.W.Frag) : Sp := fun vs H Q _ => ∃ (L : List Ent) (a : Addr) (rs : List Rec), vs = [.ref a] ∧ St K L H ∧ LsIn K L a (rs.map Rec.d) ∧ rs.length ≤ 500 ∧ (∀ r ∈ rs, holdOK r) ∧
  ∀ H', St K L H' → Q (.int (good rs : Nat)) H'
theorem p_good_records (vs : List V) (H : Hp) (Q : VK) (E : XK) (h : spGood K vs H Q E) : vs.length = 1 ∧ t_good_records K { nx := fun _ H' => Q .non H', rt := Q } (start N_good_records vs) H := by
  obtain ⟨L, a, rs, rfl, hS, hl, hlen, hh, hQ⟩ := h
  refine ⟨rfl, ?_⟩
  unfold t_good_records
  walk_at "z"
  show tSeq _ _ _ [some (.ref a), none, none, none, none, none] H
  walk_at "w"
  rename_i pc H1 hS1 p0 H2 hS2 pk H3 hS3
  refine w_forE (ds := rs.map Rec.d) (fun i σ H' => ∃ (ch : List (List Nat)) (cs : List Int) (pc pk : Addr) (v3 v4 v5 : Option V), σ = [some (.ref a), some (.ref pc), some (.ref pk), v3, v4, v5] ∧ St K (Lg.ls K pc (ch.map sD) :: Lg.ls K pk (cs.map PyData.int) :: L) H' ∧ good rs = goodGo i (rs.drop i) (ch, cs) ∧ ch.length ≤ i ∧ cs.length = 3) ⟨[], [0, 0, 0], pc, pk, _, _, _, rfl, hS3.to (by walk_at "pick"), rfl, Nat.le_refl _, rfl⟩ (fun i σ H' _ hI => ?_) (fun i d T σ H' H4 hd hI hlrn => ?_) (fun σ H' hI => ?_)
  · obtain ⟨ch, cs, pc, pk, v3, v4, v5, rfl, hS4, _⟩ := hI
    exact ⟨_, hS4, by walk_at "lsin"⟩
  · obtain ⟨ch, cs, pc, pk, v3, v4, v5, rfl, hS4, hgo, hch, hcs⟩ := hI
    obtain ⟨r, hr, rfl⟩ := Di.map_at hd
    have hi : i < rs.length := (List.getElem?_eq_some_iff.mp hr).1
    have hhr := hh r (List.mem_of_getElem? hr)
    rw [drop_at hr] at hgo
    unfold goodGo at hgo
    have hS5 := hlrn _ hS4 (by walk_at "lsin")
    clear hlrn hS hS1 hS2 hS3 hS4
    refine w_unpT2 hS5 (.dat (.head _)) fun u1 u2 hS6 => ?_
    obtain rfl := hS6.int_of
    have hS7 := hS6.tail
    clear hS5 hS6
    obtain ⟨aa, rfl⟩ : ∃ aa, u2 = .ref aa := by
      rw [rec_is] at hS7
      exact St.tup_of hS7
    walk_at "w"
    rw [List.length_map]
    have ef : ((i : Int) - (ch.length : Int)) = ((i - ch.length : Nat) : Int) := by omega
    rw [ef]
    have bad : ∀ H', gst1 (ch, cs) r = none → St K (Lg.dat (.ref aa) r.d :: Lg.dat (.ref T) (.tuple [.int (i : Nat), r.d]) :: Lg.ls K pc (ch.map sD) :: Lg.ls K pk (cs.map PyData.int) :: L) H' → Q (.int ((i - ch.length : Nat) : Int)) H' := fun H' hg hS' => by
      have e := hQ H' (hS'.to (by walk_at "pick"))
      rw [hgo, hg] at e
      exact e
    cases r with
    | txt m t =>
      have hS8 : St K (Lg.dat (.ref aa) (.tuple [sD ztext, sD m, sD t]) :: _) H4 := hS7
      walk_at "w"
      refine w_or ?_
      walk_at "w"
      refine w_ixTs (k := 0) hS8 (.dat (.head _)) rfl rfl ?_
      walk_at "w"
      refine w_ifp rfl ?_
      walk_at "w"
      refine w_ixTs (k := 1) hS8 (.dat (.head _)) rfl rfl ?_
      walk_at "w"
      refine w_app hS8 (L' := _) (d := sD m) (by walk_at "put") .str (by rw [List.length_map]; omega) fun H5 hS9 => ?_
      have e1 : ch.map sD ++ [sD m] = (ch ++ [m]).map sD := by simp
      rw [e1] at hS9
      exact ⟨ch ++ [m], cs, pc, pk, _, _, _, rfl, hS9.to (by walk_at "pick"), hgo, by rw [List.length_append, List.length_singleton]; omega, hcs⟩
    | rem m =>
      have hS8 : St K (Lg.dat (.ref aa) (.tuple [sD zrem, sD m]) :: _) H4 := hS7
      walk_at "w"
      refine w_or ?_
      walk_at "w"
      refine w_ixTs (k := 0) hS8 (.dat (.head _)) rfl rfl ?_
      walk_at "w"
      refine w_ifq (by decide) ?_
      walk_at "w"
      refine w_ixTs (k := 0) hS8 (.dat (.head _)) rfl rfl ?_
      walk_at "w"
      refine w_ifp rfl ?_
      walk_at "w"
      refine w_ixTs (k := 1) hS8 (.dat (.head _)) rfl rfl ?_
      walk_at "w"
      refine w_app hS8 (L' := _) (d := sD m) (by walk_at "put") .str (by rw [List.length_map]; omega) fun H5 hS9 => ?_
      have e1 : ch.map sD ++ [sD m] = (ch ++ [m]).map sD := by simp
      rw [e1] at hS9
      exact ⟨ch ++ [m], cs, pc, pk, _, _, _, rfl, hS9.to (by walk_at "pick"), hgo, by rw [List.length_append, List.length_singleton]; omega, hcs⟩
    | upd n =>
      have hS8 : St K (Lg.dat (.ref aa) (.tuple [sD zupd, .int n]) :: _) H4 := hS7
      walk_at "w"
      refine w_or ?_
      walk_at "w"
      refine w_ixTs (k := 0) hS8 (.dat (.head _)) rfl rfl ?_
      walk_at "w"
      refine w_ifq (by decide) ?_
      walk_at "w"
      refine w_ixTs (k := 0) hS8 (.dat (.head _)) rfl rfl ?_
      walk_at "w"
      refine w_ifq (by decide) ?_
      walk_at "w"
      refine w_ixTs (k := 0) hS8 (.dat (.head _)) rfl rfl ?_
      walk_at "w"
      refine w_ifp rfl ?_
      walk_at "w"
      refine w_or ?_
      walk_at "w"
      refine w_ixTi (k := 1) hS8 (.dat (.head _)) rfl rfl ?_
      walk_at "w"
      rw [List.length_map]
      refine w_ifnd (fun h1 => ?_) (fun h1 => ?_)
      · walk_at "w"
        exact bad H4 (by unfold gst1; dsimp only; rw [if_pos]; exact .inl (by omega)) hS7
      walk_at "w"
      refine w_lenSetLV (xs := ch) (by walk_at "gt") hS8 (by walk_at "lsin") (by omega) fun mm hm hi2 => ?_
      walk_at "w"
      rw [List.length_map]
      refine w_ifnd (fun h2 => ?_) (fun h2 => ?_)
      · walk_at "w"
        exact bad H4 (by unfold gst1; dsimp only; rw [if_pos]; exact .inr (fun z => h2 (by rw [hi2.mpr z]))) hS7
      walk_at "w"
      rename_i pc2 H5 hS9
      have hg : gst1 (ch, cs) (.upd n) = some ([], cs) := by
        unfold gst1
        dsimp only
        rw [if_neg]
        rintro (z | z)
        · exact z (by show n = ch.length; omega)
        · exact z (hi2.mp (by omega))
      rw [hg] at hgo
      exact ⟨[], cs, pc2, pk, _, _, _, rfl, hS9.to (by walk_at "pick"), hgo, Nat.zero_le _, hcs⟩
    | cal h k m f vs =>
      have hS8 : St K (Lg.dat (.ref aa) (.tuple [sD zcall, .int h, .int k, sD m, sD f, .tuple (vs.map Va.d)]) :: _) H4 := hS7
      have hh3 : h < 3 := hhr
      walk_at "w"
      refine w_or ?_
      walk_at "w"
      refine w_ixTs (k := 0) hS8 (.dat (.head _)) rfl rfl ?_
      walk_at "w"
      refine w_ifq (by decide) ?_
      walk_at "w"
      refine w_ixTs (k := 0) hS8 (.dat (.head _)) rfl rfl ?_
      walk_at "w"
      refine w_ifq (by decide) ?_
      walk_at "w"
      refine w_ixTs (k := 0) hS8 (.dat (.head _)) rfl rfl ?_
      walk_at "w"
      refine w_ifq (by decide) ?_
      walk_at "w"
      refine w_ixTs (k := 0) hS8 (.dat (.head _)) rfl rfl ?_
      walk_at "w"
      refine w_ifp rfl ?_
      walk_at "w"
      refine w_or ?_
      walk_at "w"
      refine ⟨_, truL_ok hS8 (by walk_at "lsin"), w_ite (fun h1 => ?_) (fun h1 => ?_)⟩
      · walk_at "w"
        refine bad H4 ?_ hS7
        unfold gst1
        dsimp only
        rw [if_pos]
        refine .inl fun z => ?_
        have z' : ch = [] := z
        rw [z'] at h1
        cases h1
      have hch0 : ch = [] := by
        cases ch with
        | nil => rfl
        | cons _ _ => cases h1
      subst hch0
      walk_at "w"
      refine w_ixTi (k := 2) hS8 (.dat (.head _)) rfl rfl ?_
      walk_at "w"
      refine w_ixTi (k := 1) hS8 (.dat (.head _)) rfl rfl ?_
      walk_at "w"
      refine w_ifnd (fun h2 => ?_) (fun h2 => ?_)
      · walk_at "w"
        refine bad H4 ?_ hS7
        unfold gst1
        dsimp only
        rw [if_pos]
        exact .inr h2
      walk_at "w"
      refine w_ixTi (k := 2) hS8 (.dat (.head _)) rfl rfl ?_
      walk_at "w"
      refine w_ixTi (k := 1) hS8 (.dat (.head _)) rfl rfl ?_
      refine w_setL (k := h) (d := .int ((k : Int) + 1)) hS8 (L' := _) (by walk_at "put") .int rfl (by rw [List.length_map]; omega) fun H5 hS9 => ?_
      have hg : gst1 ([], cs) (.cal h k m f vs) = some ([], cs.set h ((k : Int) + 1)) := by
        unfold gst1
        dsimp only
        rw [if_neg]
        rintro (z | z)
        · exact z rfl
        · exact z h2
      rw [hg] at hgo
      have e1 : (cs.map PyData.int).set h (.int ((k : Int) + 1)) = (cs.set h ((k : Int) + 1)).map PyData.int := by rw [List.map_set]
      rw [e1] at hS9
      exact ⟨[], _, pc, pk, _, _, _, rfl, hS9.to (by walk_at "pick"), hgo, Nat.zero_le _, by rw [List.length_set]; exact hcs⟩
    | ent ns =>
      have hS8 : St K (Lg.dat (.ref aa) (.tuple [sD zent, .tuple (ns.map sD)]) :: _) H4 := hS7
      walk_at "w"
      refine w_or ?_
      walk_at "w"
      refine w_ixTs (k := 0) hS8 (.dat (.head _)) rfl rfl ?_
      walk_at "w"
      refine w_ifq (by decide) ?_
      walk_at "w"
      refine w_ixTs (k := 0) hS8 (.dat (.head _)) rfl rfl ?_
      walk_at "w"
      refine w_ifq (by decide) ?_
      walk_at "w"
      refine w_ixTs (k := 0) hS8 (.dat (.head _)) rfl rfl ?_
      walk_at "w"
      refine w_ifq (by decide) ?_
      walk_at "w"
      refine w_ixTs (k := 0) hS8 (.dat (.head _)) rfl rfl ?_
      walk_at "w"
      refine w_ifq (by decide) ?_
      walk_at "w"
      exact ⟨ch, cs, pc, pk, _, _, _, rfl, hS8.to (by walk_at "pick"), hgo, by omega, hcs⟩
  · obtain ⟨ch, cs, pc, pk, v3, v4, v5, rfl, hS4, hgo, hch, hcs⟩ := hI
    rw [List.length_map] at hgo hch
    walk_at "w"
    rw [List.length_map, List.length_map]
    rw [List.drop_length] at hgo
    have e := hQ H' (hS4.to (by walk_at "pick"))
    rw [hgo] at e
    have ef : ((rs.length : Int) - (ch.length : Int)) = ((rs.length - ch.length : Nat) : Int) := by omega
    rw [ef]
    exact e
end
end K47

namespace K47
open PySem PySem.Spec PyProof.Rows L2 Lg PySem.NumText K45 Blk
local macro_rules | `(tactic| walk_at "ar") => `(tactic| first | omega | (simp; done) | (simp; omega) | (simp only [S_len]; omega) | (simp [Lg.repL_len]; done) | (simp [Lg.repL_len]; omega))
local macro_rules | `(tactic| walk_at "gt") => `(tactic| repeat (first | exact GetAt.here | apply GetAt.there))
local macro_rules | `(tactic| walk_at "st") => `(tactic| repeat (first | exact SetAt.here | apply SetAt.there))
local macro_rules | `(tactic| walk_at "mem") => `(tactic| first | assumption | exact List.mem_cons_self | (apply List.mem_cons_of_mem; walk_at "mem"))
local macro_rules | `(tactic| walk_at "put") => `(tactic| repeat (first | exact Put.here | apply Put.there))
local macro_rules | `(tactic| walk_at "rem") => `(tactic| repeat (first | exact Rem.here | apply Rem.there))
local macro_rules | `(tactic| walk_at "pick") => `(tactic| first | exact Pick.refl | exact Pick.cons (by walk_at "rem") (by walk_at "pick") | (apply Pick.drop; walk_at "pick") | exact Pick.nil)
local macro_rules | `(tactic| walk_at "is") => `(tactic| first | exact Is.int | exact Is.str | exact Is.bl | exact Is.non | assumption | exact Is.dat (by walk_at "mem") | (apply Is.cons; walk_at "is"))
local macro_rules | `(tactic| walk_at "isall") => `(tactic| first | exact IsAll.nil | exact IsAll.cons (by walk_at "is") (by walk_at "isall"))
local macro_rules | `(tactic| walk_at "lsin") => `(tactic| first | assumption | exact LsIn.own (by walk_at "mem") | exact LsIn.dat (by walk_at "mem") | (apply LsIn.cons; walk_at "lsin"))
local macro_rules | `(tactic| walk_at "see") => `(tactic| first | exact See.own (by walk_at "mem") | exact See.is (by walk_at "is"))
local macro_rules | `(tactic| walk_at "w1") => `(tactic| first
  | (with_reducible apply Lg.w_seq)
  | (with_reducible apply Lg.w_asg)
  | ((with_reducible show gName _ _ _ _ _); (with_reducible refine Lg.w_name (by walk_at "st") ?_))
  | ((with_reducible show tVar _ _ _ _); (with_reducible refine Lg.w_var (by walk_at "gt") ?_))
  | (with_reducible apply Lg.w_c)
  | (with_reducible apply Lg.w_op)
  | (with_reducible apply Lg.w_un)
  | (with_reducible apply Lg.w_nil)
  | (with_reducible apply Lg.w_cons)
  | (with_reducible apply Lg.w_call)
  | (with_reducible apply Lg.w_cb)
  | (with_reducible apply Lg.w_tup)
  | (with_reducible apply Lg.w_lst)
  | (with_reducible apply Lg.w_bm)
  | (with_reducible apply Lg.w_bm0)
  | (with_reducible apply Lg.w_sl)
  | (with_reducible apply Lg.w_nopart)
  | (with_reducible apply Lg.w_part)
  | (with_reducible apply Lg.w_isint)
  | (with_reducible apply Lg.w_test)
  | (with_reducible apply Lg.w_tB)
  | (with_reducible apply Lg.w_isbl')
  | (with_reducible apply Lg.w_not)
  | (with_reducible apply Lg.w_tru)
  | (with_reducible apply Lg.w_truI)
  | (with_reducible apply Lg.w_truB)
  | (with_reducible apply Lg.w_ifs)
  | (with_reducible apply Lg.w_next)
  | (with_reducible apply Lg.w_break)
  | (with_reducible apply Lg.w_cont)
  | (with_reducible apply Lg.w_ret)
  | (with_reducible apply Lg.w_retn)
  | (with_reducible apply Lg.w_drop)
  | (with_reducible apply Lg.w_sub)
  | (with_reducible apply Lg.w_gnil)
  | (with_reducible apply Lg.w_gcons)
  | (with_reducible apply Lg.w_ifT)
  | (with_reducible apply Lg.w_ifF)
  | (with_reducible apply Lg.w_add)
  | (with_reducible apply Lg.w_sub2)
  | ((with_reducible show rTimes (V.int _) (V.int _) _ _); (with_reducible refine Lg.w_mulR (by omega) ?_))
  | ((with_reducible show rTimes (V.int _) (V.int _) _ _); (with_reducible refine Lg.w_mulL (by omega) ?_))
  | ((with_reducible show rMod (V.int _) (V.int _) _ _); (with_reducible refine Lg.w_mod (by first | decide | omega) ?_))
  | ((with_reducible show rFdiv (V.int _) (V.int _) _ _); (with_reducible refine Lg.w_fdiv (by first | decide | omega) ?_))
  | (with_reducible apply Lg.w_band)
  | (with_reducible apply Lg.w_lt)
  | (with_reducible apply Lg.w_le)
  | (with_reducible apply Lg.w_gt)
  | (with_reducible apply Lg.w_ge)
  | (with_reducible apply Lg.w_eqI)
  | (with_reducible apply Lg.w_neI)
  | (with_reducible apply Lg.w_intI2)
  | (with_reducible apply Lg.w_neg)
  | (with_reducible apply Lg.w_inSS)
  | (with_reducible apply Lg.w_ninSS)
  | (with_reducible apply Lg.w_inSS')
  | (with_reducible apply Lg.w_neSS)
  | (with_reducible apply Lg.w_strS)
  | (with_reducible apply Lg.w_fldE)
  | (with_reducible apply Lg.w_sfldE)
  | (with_reducible apply Lg.w_makeE)
  | (with_reducible apply Lg.w_methE)
  | (with_reducible apply Lg.w_methSE)
  | (with_reducible apply Lg.w_callS)
  | (with_reducible apply Lg.w_raiseO)
  | (with_reducible apply Lg.w_raiseB)
  | (with_reducible apply Lg.w_try)
  | (with_reducible apply Lg.w_strS)
  | (with_reducible apply Lg.w_eqSS)
  | (with_reducible apply Lg.w_eqS)
  | (with_reducible apply Lg.w_neS)
  | (with_reducible apply Lg.w_isN)
  | (with_reducible apply Lg.w_isR)
  | (with_reducible apply Lg.w_isI)
  | (with_reducible apply Lg.w_isS)
  | (with_reducible apply Lg.w_nsN)
  | (with_reducible apply Lg.w_nsR)
  | (with_reducible apply Lg.w_nsI)
  | (with_reducible apply Lg.w_nsS)
  | (with_reducible apply Lg.w_int)
  | (with_reducible apply Lg.w_intb)
  | (with_reducible apply Lg.w_ord1)
  | (with_reducible apply Lg.w_tyS)
  | (with_reducible apply Lg.w_inSg)
  | (with_reducible apply Lg.w_ninSg)
  | ((with_reducible show NewL _ _ _); (with_reducible refine Lg.w_newL (by assumption) (by walk_at "isall") (by simp) ?_); (intro p' H' hS'))
  | ((with_reducible show NewT _ _ _); (with_reducible refine Lg.w_newT (by assumption) (by walk_at "isall") (by simp) ?_); (intro p' H' hS'))
  | ((with_reducible show TyThen _ _ (V.ref _) _ _); (with_reducible refine Lg.w_tyL (by assumption) (by walk_at "lsin") ?_))
  | ((with_reducible show rLenX _ [V.ref _] _ _); (with_reducible refine Lg.w_lenL (by assumption) (by walk_at "lsin") ?_))
  | ((with_reducible show rLenX _ [V.ref _] _ _); (with_reducible refine Lg.w_lenT (by assumption) (by walk_at "is") ?_))
  | ((with_reducible show spDraw _ _ _ _ _); (with_reducible refine Lg.w_draw (by assumption) (by walk_at "mem") (by first | decide | omega) ?_); (intro k' H' hk0' hk1' hS'))
  | ((with_reducible show rSlX _ (V.ref _) _ _ _ _); (with_reducible refine Lg.w_slL (by assumption) (by walk_at "lsin") ?_); (intro p' H' hS'))
  | ((with_reducible show rListOf _ [V.ref _] _ _); (with_reducible refine Lg.w_listL (by assumption) (by walk_at "lsin") ?_); (intro p' H' hS'))
  | (with_reducible apply Lg.w_for)
  | (with_reducible apply Lg.w_lc)
  | ((with_reducible show iAny _ (tVar _) _ _ _); (with_reducible refine Lg.w_anyVar (by walk_at "gt") ?_))
  | (with_reducible apply Lg.w_anyC)
  | (with_reducible apply Lg.w_vS)
  | (with_reducible apply Lg.w_itS)
  | ((with_reducible show AnyV _ (V.ref _) _ _); (with_reducible refine Lg.w_vL (by assumption) (by walk_at "lsin") ?_))
  | ((with_reducible show AnyL _ (V.ref _) _ _); (with_reducible refine Lg.w_itL (by assumption) (by walk_at "lsin") ?_))
  | ((with_reducible show AnyV _ (V.ref _) _ _); (with_reducible refine Lg.w_vT (by assumption) (by walk_at "is") ?_))
  | ((with_reducible show AnyT _ (V.ref _) _ _); (with_reducible refine Lg.w_itT (by assumption) (by walk_at "is") ?_))
  | ((with_reducible show Enu _ [V.ref _] _ _); (with_reducible refine Lg.w_itE (by assumption) (by walk_at "lsin") ?_))
  | ((with_reducible show rPlus _ (V.ref _) (V.ref _) _ _); (with_reducible refine Lg.w_plusL (by assumption) (by walk_at "lsin") (by walk_at "lsin") (by walk_at "ar") ?_); (intro p' H' hS'))
  | ((with_reducible show rTimes (V.ref _) (V.int _) _ _); (with_reducible refine Lg.w_repLs (by assumption) (by walk_at "lsin") (by walk_at "ar") (by walk_at "ar") (by walk_at "ar") ?_); (intro p' H' hS'))
  | ((with_reducible show rLenX _ [V.str (S _)] _ _); (with_reducible refine Lg.w_lenSS (by walk_at "ar") ?_))
  | ((with_reducible show rLenX _ [V.str _] _ _); (with_reducible refine Lg.w_lenS (by walk_at "ar") ?_))
  | ((with_reducible show rSlX _ (V.str _) _ _ _ _); (with_reducible refine Lg.w_slS (by walk_at "ar") ?_))
  | (with_reducible apply Lg.w_rng1)
  | (with_reducible apply Lg.w_rng2)
  | (with_reducible apply Lg.w_rng3)
  | (with_reducible apply Lg.w_enum)
  | ((with_reducible show Rng1 _ _ _); (with_reducible refine Lg.w_itR1 (by omega) ?_))
  | ((with_reducible show Rng2 _ _ _); (with_reducible refine Lg.w_itR2 (by omega) (by omega) ?_))
  | ((with_reducible show rIx _ (V.ref _) (V.int _) _ _); (with_reducible refine Lg.w_ixN (by assumption) (by walk_at "lsin") (by walk_at "ar") (by walk_at "ar") ?_))
  | ((with_reducible show rPlus _ (V.str (S _)) (V.str (S _)) _ _); (with_reducible refine Lg.w_addSS (by walk_at "ar") ?_))
  | ((with_reducible show rTimes (V.str (S _)) (V.int _) _ _); (with_reducible refine Lg.w_repSS (by walk_at "ar") (by walk_at "ar") (by walk_at "ar") ?_))
  | ((with_reducible show rIsi _ [V.ref _, V.ty "list"] _ _); (with_reducible refine Lg.w_isLL (by assumption) (by walk_at "lsin") ?_))
  | ((with_reducible show rIsi _ [V.ref _, V.ty "tuple"] _ _); (with_reducible refine Lg.w_isTT (by assumption) (by walk_at "is") ?_))
  | (with_reducible apply Lg.w_isII)
  | (with_reducible apply Lg.w_isSI)
  | (with_reducible apply Lg.w_isSS)
  | (with_reducible apply Lg.w_isIS)
  | (with_reducible apply Lg.w_ifexp)
  | (with_reducible apply Lg.w_chain)
  | ((with_reducible show ChainK _ _ _ _ _ _ _); (with_reducible refine Lg.w_chainLe (by (intro R' hR'; walk_at "w"; exact hR')) ?_))
  | ((with_reducible show ChainK _ _ _ _ _ _ _); (with_reducible refine Lg.w_chainLt (by (intro R' hR'; walk_at "w"; exact hR')) ?_))
  | ((with_reducible show tAnd _ _ _ _ _); (with_reducible refine Lg.w_andP (by (intro R' hR'; walk_at "w"; exact hR')) (by (intro hb' R' hR'; walk_at "w"; exact hR')) ?_))
  | ((with_reducible show tOr _ _ _ _ _); (with_reducible refine Lg.w_orP (by (intro R' hR'; walk_at "w"; exact hR')) (by (intro hb' R' hR'; walk_at "w"; exact hR')) ?_))
  | ((with_reducible show tAndV _ _ _ _ _); (with_reducible refine Lg.w_andVP (by (intro R' hR'; walk_at "w"; exact hR')) (by (intro hb' R' hR'; walk_at "w"; exact hR')) ?_))
  | ((with_reducible show tOrV _ _ _ _ _); (with_reducible refine Lg.w_orVP (by (intro R' hR'; walk_at "w"; exact hR')) (by (intro hb' R' hR'; walk_at "w"; exact hR')) ?_))
  | (with_reducible apply Lg.w_notV))
local macro_rules | `(tactic| walk_at "w") => `(tactic| repeat (walk_at "w1"))
local macro_rules | `(tactic| walk_at "z") => `(tactic| simp only [z_0, z_1, z_2, z_3, z_4, z_5, z_6, z_7, z_8, z_9, z_10, z_11, z_12, z_13, z_14, z_15, z_16, z_17, z_18, z_19, z_20, z_21, z_22, z_23, z_24, z_25, z_26, z_27, z_28, z_29, z_30, z_31, z_32, z_33, z_34, z_35, z_36, z_37])
/-! ### Log: its fields, its methods -/
abbrev HL (K : PySem.W.Frag) : Addr := He.ga K "Log"
abbrev XN (K : PySem.W.Frag) : Addr := He.ga K "NotOpen"
abbrev XF (K : PySem.W.Frag) : Addr := He.ga K "LogFull"
def lfs (a pr : Addr) (e cuts : Int) : List (Str × V) := [("_disk", .ref a), ("_records", .ref pr), ("_end", .int e), ("_cuts", .int cuts)]
section
variable {a pr : Addr} {e cuts c : Int}
theorem lk_ld : (lfs a pr e cuts).lookup ("_disk" : Str) = some (V.ref a) := by rfl
theorem lk_lr : (lfs a pr e cuts).lookup ("_records" : Str) = some (V.ref pr) := by rfl
theorem lk_le : (lfs a pr e cuts).lookup ("_end" : Str) = some (V.int e) := by rfl
theorem lk_lc : (lfs a pr e cuts).lookup ("_cuts" : Str) = some (V.int cuts) := by rfl
theorem put_le : putF "_end" (.int c) (lfs a pr e cuts) = lfs a pr c cuts := by rfl
theorem put_l0 : putF "_cuts" (.int cuts) (putF "_end" (.int e) (putF "_records" (.ref pr) (putF "_disk" (.ref a) []))) = lfs a pr e cuts := by rfl
theorem llk_no {m : Str} (h : (lfs 0 0 0 0).lookup m = none) : (lfs a pr e cuts).lookup m = none := by
  unfold lfs at *
  simp only [List.lookup] at *
  revert h
  cases m == ("_disk" : Str) <;> cases m == ("_records" : Str) <;> cases m == ("_end" : Str) <;> cases m == ("_cuts" : Str) <;> simp
end
/-- the log in the ledger -/
abbrev LL (K : PySem.W.Frag) (lo lx a pr : Addr) (e cuts : Int) (rs : List Rec) (L : List Ent) : List Ent :=
  Lg.own lo (.ins (HL K) lx (lfs a pr e cuts)) :: Lg.own lx (.own lo) :: Lg.ls K pr (rs.map Rec.d) :: L
/-! blocks of records are blocks -/
theorem signs_few : ∀ c ∈ Blk.signs, c ≤ 255 := by decide +kernel
theorem piece_isB {k m num : Int} {l : List Nat} (hk : 0 ≤ k ∧ k ≤ 255) (hm : 0 ≤ m ∧ m ≤ 255) (hn : 0 ≤ num ∧ num ≤ 65535) (hl : l.length ≤ 24) (hc : ∀ c ∈ l, c ≤ 255) : Di.isB (piece k m num l) = true := by
  unfold Di.isB
  rw [Bool.and_eq_true, decide_eq_true_eq, List.all_eq_true]
  refine ⟨piece_len hl, fun x hx => ?_⟩
  rw [Bool.and_eq_true, decide_eq_true_eq, decide_eq_true_eq]
  unfold piece at hx
  simp only [List.mem_append, List.mem_cons, List.mem_nil_iff, or_false] at hx
  rcases hx with (((h | h | h | h | h | h) | hx) | hx) | h
  · omega
  · omega
  · omega
  · omega
  · omega
  · omega
  · obtain ⟨c, h1, rfl⟩ := List.mem_map.mp hx
    have := hc c h1
    omega
  · rw [List.eq_of_mem_replicate hx]
    omega
  · omega
theorem encB_isB {n : Nat} {l : List Nat} (hn : n ≤ 65535) (hl : l.length ≤ 720) (hc : ∀ c ∈ l, c ∈ Blk.signs) : ∀ b ∈ encB n l, Di.isB b = true := by
  intro b hb
  obtain ⟨k, hk, rfl⟩ := List.mem_map.mp hb
  have hk' := List.mem_range.mp hk
  have hm : many l ≤ 30 := by unfold many; omega
  obtain ⟨c1, c2⟩ := chunk_len hk'
  exact piece_isB ⟨by omega, by omega⟩ ⟨by omega, by omega⟩ ⟨by omega, by omega⟩ c2 fun c h => signs_few c (hc c (chunk_mem h))
theorem blk_isB : ∀ (rs : List Rec) (n : Nat), n + rs.length ≤ 65535 → (∀ r ∈ rs, Wr r) → ∀ b ∈ blk n rs, Di.isB b = true
  | [], _, _, _, _, h => by cases h
  | r :: rs, n, hn, hw, b, h => by
    rw [List.length_cons] at hn
    unfold blk at h
    have hr := hw r (.head _)
    rcases List.mem_append.mp h with h | h
    · exact encB_isB (by omega) hr.t1 hr.sg b h
    · exact blk_isB rs (n + 1) (by omega) (fun x hx => hw x (.tail _ hx)) b h
theorem enc_is (n : Nat) (l : List Nat) : enc (n : Int) l = (encB n l).map Di.bD := by
  unfold enc encB
  rw [List.map_map]
  rfl
theorem rec_at {K : PySem.W.Frag} {v : V} {r : Rec} {L : List Ent} {H : Hp} (h : St K (Lg.dat v r.d :: L) H) : ∃ aa, v = .ref aa := by
  rw [rec_is] at h
  exact St.tup_of h
section
variable {K : PySem.W.Frag}
def spLogInit (K : PySem.W.Frag) : Sp := fun vs H Q _ => ∃ (L : List Ent) (lo lx a dx pb pp pr : Addr) (tv : V) (cuts e : Int) (left : Option Nat) (B : List (List Int)) (P : List (Nat × List Int)) (ts : List Nat) (rs : List Rec), vs = [.ref lo, .ref a, .ref pr, .int e] ∧
  St K (Lg.own lo (.ins (HL K) lx []) :: Lg.own lx (.own lo) :: Lg.ls K pr (rs.map Rec.d) :: Di.DL K a dx pb pp tv cuts left B P ts L) H ∧
  ∀ H', St K (LL K lo lx a pr e cuts rs (Di.DL K a dx pb pp tv cuts left B P ts L)) H' → Q .non H'
theorem p_log_init (cf : CF K) (vs : List V) (H : Hp) (Q : VK) (E : XK) (h : spLogInit K vs H Q E) : vs.length = 4 ∧ t_Log_init K (Di.spCuts K) { nx := fun _ H' => Q .non H', rt := Q } (start N_Log_init vs) H := by
  obtain ⟨L, lo, lx, a, dx, pb, pp, pr, tv, cuts, e, left, B, P, ts, rs, rfl, hS, hQ⟩ := h
  refine ⟨rfl, ?_⟩
  unfold t_Log_init
  show tSeq _ _ _ [some (.ref lo), some (.ref a), some (.ref pr), some (.int e)] H
  walk_at "w"
  refine w_sfld hS .here cf.cls_Log cf.na_Log_disk (by show 0 < 1000; decide) fun H1 hS1 => ?_
  walk_at "w"
  refine w_sfld hS1 .here cf.cls_Log cf.na_Log_records (by show 1 < 1000; decide) fun H2 hS2 => ?_
  walk_at "w"
  refine w_sfld hS2 .here cf.cls_Log cf.na_Log_end (by show 2 < 1000; decide) fun H3 hS3 => ?_
  walk_at "w"
  refine w_meth hS3 (.tail _ (.tail _ (.tail _ (.head _)))) (Di.lk_no (by decide)) ?_
  walk_at "w"
  refine ⟨_, a, dx, pb, pp, tv, cuts, left, B, P, ts, rfl, hS3.to (by walk_at "pick"), ?_⟩
  walk_at "w"
  refine w_sfld hS3 .here cf.cls_Log cf.na_Log_cuts (by show 3 < 1000; decide) fun H4 hS4 => ?_
  rw [put_l0] at hS4
  exact hQ H4 hS4
def spCheckOpen (K : PySem.W.Frag) : Sp := fun vs H Q E => ∃ (L : List Ent) (lo lx a dx pb pp pr : Addr) (tv : V) (cuts lc e : Int) (left : Option Nat) (B : List (List Int)) (P : List (Nat × List Int)) (ts : List Nat) (rs : List Rec), vs = [.ref lo] ∧
  St K (LL K lo lx a pr e lc rs (Di.DL K a dx pb pp tv cuts left B P ts L)) H ∧ (cuts = lc → Q .non H) ∧ (cuts ≠ lc → E (.ref (XN K)) none H)
theorem p_check_open (cf : CF K) (vs : List V) (H : Hp) (Q : VK) (E : XK) (h : spCheckOpen K vs H Q E) : vs.length = 1 ∧ t_Log_check_open K (Di.spCuts K) E { nx := fun _ H' => Q .non H', rt := Q } (start N_Log_check_open vs) H := by
  obtain ⟨L, lo, lx, a, dx, pb, pp, pr, tv, cuts, lc, e, left, B, P, ts, rs, rfl, hS, hQ, hE⟩ := h
  refine ⟨rfl, ?_⟩
  unfold t_Log_check_open
  show tIfS _ _ _ _ [some (.ref lo)] H
  walk_at "w"
  refine w_fld hS (.head _) cf.cls_Log cf.na_Log_disk lk_ld ?_
  refine w_meth hS (.tail _ (.tail _ (.tail _ (.head _)))) (Di.lk_no (by decide)) ?_
  walk_at "w"
  refine ⟨_, a, dx, pb, pp, tv, cuts, left, B, P, ts, rfl, hS.to (by walk_at "pick"), ?_⟩
  walk_at "w"
  refine w_fld hS (.head _) cf.cls_Log cf.na_Log_cuts lk_lc ?_
  walk_at "w"
  refine w_ifnd (fun h1 => ?_) (fun h1 => ?_)
  · walk_at "w"
    exact hE h1
  · walk_at "w"
    exact hQ h1
def spRecords (K : PySem.W.Frag) : Sp := fun vs H Q _ => ∃ (L : List Ent) (lo lx a pr : Addr) (lc e : Int) (rs : List Rec), vs = [.ref lo] ∧ St K (LL K lo lx a pr e lc rs L) H ∧
  ∀ q H', St K (Lg.ls K q (rs.map Rec.d) :: LL K lo lx a pr e lc rs L) H' → Q (.ref q) H'
theorem p_records (cf : CF K) (vs : List V) (H : Hp) (Q : VK) (E : XK) (h : spRecords K vs H Q E) : vs.length = 1 ∧ t_Log_records K { nx := fun _ H' => Q .non H', rt := Q } (start N_Log_records vs) H := by
  obtain ⟨L, lo, lx, a, pr, lc, e, rs, rfl, hS, hQ⟩ := h
  refine ⟨rfl, ?_⟩
  unfold t_Log_records
  show tRet _ _ [some (.ref lo)] H
  walk_at "w"
  refine w_fld hS (.head _) cf.cls_Log cf.na_Log_records lk_lr ?_
  walk_at "w"
  exact hQ _ _ (by assumption)
def spBlocksOf (K : PySem.W.Frag) : Sp := fun vs H Q _ => ∃ (L : List Ent) (lo lx a pr rq : Addr) (e lc : Int) (rs ss : List Rec), vs = [.ref lo, .ref rq] ∧
  St K (LL K lo lx a pr e lc rs L) H ∧ LsIn K L rq (ss.map Rec.d) ∧ (∀ r ∈ ss, Wr r) ∧ ss.length ≤ 1000 ∧
  ∀ q H', St K (Lg.ls K q ((blk rs.length ss).map Di.bD) :: LL K lo lx a pr e lc rs L) H' → Q (.ref q) H'
theorem p_blocks_of (cf : CF K) (vs : List V) (H : Hp) (Q : VK) (E : XK) (h : spBlocksOf K vs H Q E) : vs.length = 2 ∧ t_Log_blocks_of K (spEnc K) (spWriteR K) { nx := fun _ H' => Q .non H', rt := Q } (start N_Log_blocks_of vs) H := by
  obtain ⟨L, lo, lx, a, pr, rq, e, lc, rs, ss, rfl, hS, hl, hw, hn, hQ⟩ := h
  refine ⟨rfl, ?_⟩
  unfold t_Log_blocks_of
  show tSeq _ _ _ [some (.ref lo), some (.ref rq), none, none, none] H
  walk_at "w"
  rename_i q0 H1 hS1
  refine w_forE (ds := ss.map Rec.d) (fun i σ H' => (∃ v3 v4, σ = [some (.ref lo), some (.ref rq), some (.ref q0), v3, v4]) ∧ St K (Lg.ls K q0 ((blk rs.length (ss.take i)).map Di.bD) :: LL K lo lx a pr e lc rs L) H') ⟨⟨_, _, rfl⟩, hS1⟩ (fun i σ H' _ hI => ⟨_, hI.2, by walk_at "lsin"⟩) (fun i d T σ H' H2 hd hI hlrn => ?_) (fun σ H' hI => ?_)
  · obtain ⟨⟨v3, v4, rfl⟩, hS2⟩ := hI
    obtain ⟨r, hr, rfl⟩ := Di.map_at hd
    have hi : i < ss.length := (List.getElem?_eq_some_iff.mp hr).1
    have hwr := hw r (List.mem_of_getElem? hr)
    have ht1 := hwr.t1
    have hS3 := hlrn _ hS2 (by walk_at "lsin")
    clear hlrn hS hS1 hS2
    refine w_unpT2 hS3 (.dat (.head _)) fun u1 u2 hS4 => ?_
    obtain rfl := hS4.int_of
    obtain ⟨aa, rfl⟩ := rec_at hS4.tail
    clear hS3
    walk_at "w"
    refine w_fld hS4 (by walk_at "mem") cf.cls_Log cf.na_Log_records lk_lr ?_
    walk_at "w"
    rw [List.length_map]
    refine ⟨_, aa, r, rfl, hS4, by walk_at "is", hwr.few, by omega, fun H5 hS5 => ?_⟩
    walk_at "w"
    refine ⟨_, _, r.t, rfl, hS5, ht1, by omega, fun q1 H6 hS6 => ?_⟩
    have en : ((rs.length : Int) + (i : Int)) = ((rs.length + i : Nat) : Int) := by omega
    rw [en, enc_is] at hS6
    clear hS4 hS5
    walk_at "w"
    have hb1 := blk_len_le (ss.take i) rs.length fun x hx => hw x (List.mem_of_mem_take hx)
    have hb2 : (ss.take i).length = i := by rw [List.length_take]; omega
    have hb3 : many r.t ≤ 30 := by unfold many; omega
    refine w_extend hS6 (L' := _) (by walk_at "put") (.own (.head _)) (by rw [List.length_map, List.length_map, encB_len]; omega) fun H7 hS7 => ?_
    refine ⟨⟨_, _, rfl⟩, ?_⟩
    rw [Di.take_succ' hr, blk_app, hb2]
    have e1 : blk (rs.length + i) [r] = encB (rs.length + i) r.t := by simp [blk]
    rw [e1, List.map_append]
    exact hS7.to (by walk_at "pick")
  · obtain ⟨⟨v3, v4, rfl⟩, hS2⟩ := hI
    rw [List.length_map, List.take_length] at hS2
    walk_at "w"
    exact hQ _ _ hS2
def spFree (K : PySem.W.Frag) : Sp := fun vs H Q _ => ∃ (L : List Ent) (lo lx a dx pb pp pr : Addr) (tv : V) (cuts lc e : Int) (left : Option Nat) (B : List (List Int)) (P : List (Nat × List Int)) (ts : List Nat) (rs : List Rec), vs = [.ref lo] ∧
  St K (LL K lo lx a pr e lc rs (Di.DL K a dx pb pp tv cuts left B P ts L)) H ∧ Q (.int ((B.length : Int) - e)) H
theorem p_free (cf : CF K) (vs : List V) (H : Hp) (Q : VK) (E : XK) (h : spFree K vs H Q E) : vs.length = 1 ∧ t_Log_free_blocks K (Di.spSize K) { nx := fun _ H' => Q .non H', rt := Q } (start N_Log_free_blocks vs) H := by
  obtain ⟨L, lo, lx, a, dx, pb, pp, pr, tv, cuts, lc, e, left, B, P, ts, rs, rfl, hS, hQ⟩ := h
  refine ⟨rfl, ?_⟩
  unfold t_Log_free_blocks
  show tRet _ _ [some (.ref lo)] H
  walk_at "w"
  refine w_fld hS (.head _) cf.cls_Log cf.na_Log_disk lk_ld ?_
  refine w_meth hS (.tail _ (.tail _ (.tail _ (.head _)))) (Di.lk_no (by decide)) ?_
  walk_at "w"
  refine ⟨_, a, dx, pb, pp, tv, cuts, left, B, P, ts, rfl, hS.to (by walk_at "pick"), ?_⟩
  walk_at "w"
  refine w_fld hS (.head _) cf.cls_Log cf.na_Log_end lk_le ?_
  walk_at "w"
  exact hQ
def spRoom (K : PySem.W.Frag) : Sp := fun vs H Q _ => ∃ (L : List Ent) (lo lx a dx pb pp pr rq : Addr) (tv : V) (cuts lc e : Int) (left : Option Nat) (B : List (List Int)) (P : List (Nat × List Int)) (ts : List Nat) (rs ss : List Rec), vs = [.ref lo, .ref rq] ∧
  St K (LL K lo lx a pr e lc rs (Di.DL K a dx pb pp tv cuts left B P ts L)) H ∧ LsIn K L rq (ss.map Rec.d) ∧ (∀ r ∈ ss, Wr r) ∧ ss.length ≤ 1000 ∧
  ∀ H', St K (LL K lo lx a pr e lc rs (Di.DL K a dx pb pp tv cuts left B P ts L)) H' → Q (.bl (decide (((blk rs.length ss).length : Int) ≤ (B.length : Int) - e))) H'
theorem p_room (cf : CF K) (vs : List V) (H : Hp) (Q : VK) (E : XK) (h : spRoom K vs H Q E) : vs.length = 2 ∧ t_Log_room K (spBlocksOf K) (spFree K) { nx := fun _ H' => Q .non H', rt := Q } (start N_Log_room vs) H := by
  obtain ⟨L, lo, lx, a, dx, pb, pp, pr, rq, tv, cuts, lc, e, left, B, P, ts, rs, ss, rfl, hS, hl, hw, hn, hQ⟩ := h
  refine ⟨rfl, ?_⟩
  unfold t_Log_room
  show tRet _ _ [some (.ref lo), some (.ref rq)] H
  walk_at "w"
  refine w_meth hS (.head _) (llk_no (by decide)) ?_
  walk_at "w"
  refine ⟨_, lo, lx, a, pr, rq, e, lc, rs, ss, rfl, hS, by walk_at "lsin", hw, hn, fun q H1 hS1 => ?_⟩
  walk_at "w"
  rw [List.length_map]
  refine w_meth hS1 (.tail _ (.head _)) (llk_no (by decide)) ?_
  walk_at "w"
  refine ⟨_, lo, lx, a, dx, pb, pp, pr, tv, cuts, lc, e, left, B, P, ts, rs, rfl, hS1.to (by walk_at "pick"), ?_⟩
  walk_at "w"
  exact hQ H1 hS1.tail
end
end K47

namespace K47
open PySem PySem.Spec PyProof.Rows L2 Lg PySem.NumText K45 Blk
local macro_rules | `(tactic| walk_at "ar") => `(tactic| first | omega | (simp; done) | (simp; omega) | (simp only [S_len]; omega) | (simp [Lg.repL_len]; done) | (simp [Lg.repL_len]; omega))
local macro_rules | `(tactic| walk_at "gt") => `(tactic| repeat (first | exact GetAt.here | apply GetAt.there))
local macro_rules | `(tactic| walk_at "st") => `(tactic| repeat (first | exact SetAt.here | apply SetAt.there))
local macro_rules | `(tactic| walk_at "mem") => `(tactic| first | assumption | exact List.mem_cons_self | (apply List.mem_cons_of_mem; walk_at "mem"))
local macro_rules | `(tactic| walk_at "put") => `(tactic| repeat (first | exact Put.here | apply Put.there))
local macro_rules | `(tactic| walk_at "rem") => `(tactic| repeat (first | exact Rem.here | apply Rem.there))
local macro_rules | `(tactic| walk_at "pick") => `(tactic| first | exact Pick.refl | exact Pick.cons (by walk_at "rem") (by walk_at "pick") | (apply Pick.drop; walk_at "pick") | exact Pick.nil)
local macro_rules | `(tactic| walk_at "is") => `(tactic| first | exact Is.int | exact Is.str | exact Is.bl | exact Is.non | assumption | exact Is.dat (by walk_at "mem") | (apply Is.cons; walk_at "is"))
local macro_rules | `(tactic| walk_at "isall") => `(tactic| first | exact IsAll.nil | exact IsAll.cons (by walk_at "is") (by walk_at "isall"))
local macro_rules | `(tactic| walk_at "lsin") => `(tactic| first | assumption | exact LsIn.own (by walk_at "mem") | exact LsIn.dat (by walk_at "mem") | (apply LsIn.cons; walk_at "lsin"))
local macro_rules | `(tactic| walk_at "see") => `(tactic| first | exact See.own (by walk_at "mem") | exact See.is (by walk_at "is"))
local macro_rules | `(tactic| walk_at "w1") => `(tactic| first
  | (with_reducible apply Lg.w_seq)
  | (with_reducible apply Lg.w_asg)
  | ((with_reducible show gName _ _ _ _ _); (with_reducible refine Lg.w_name (by walk_at "st") ?_))
  | ((with_reducible show tVar _ _ _ _); (with_reducible refine Lg.w_var (by walk_at "gt") ?_))
  | (with_reducible apply Lg.w_c)
  | (with_reducible apply Lg.w_op)
  | (with_reducible apply Lg.w_un)
  | (with_reducible apply Lg.w_nil)
  | (with_reducible apply Lg.w_cons)
  | (with_reducible apply Lg.w_call)
  | (with_reducible apply Lg.w_cb)
  | (with_reducible apply Lg.w_tup)
  | (with_reducible apply Lg.w_lst)
  | (with_reducible apply Lg.w_bm)
  | (with_reducible apply Lg.w_bm0)
  | (with_reducible apply Lg.w_sl)
  | (with_reducible apply Lg.w_nopart)
  | (with_reducible apply Lg.w_part)
  | (with_reducible apply Lg.w_isint)
  | (with_reducible apply Lg.w_test)
  | (with_reducible apply Lg.w_tB)
  | (with_reducible apply Lg.w_isbl')
  | (with_reducible apply Lg.w_not)
  | (with_reducible apply Lg.w_tru)
  | (with_reducible apply Lg.w_truI)
  | (with_reducible apply Lg.w_truB)
  | (with_reducible apply Lg.w_ifs)
  | (with_reducible apply Lg.w_next)
  | (with_reducible apply Lg.w_break)
  | (with_reducible apply Lg.w_cont)
  | (with_reducible apply Lg.w_ret)
  | (with_reducible apply Lg.w_retn)
  | (with_reducible apply Lg.w_drop)
  | (with_reducible apply Lg.w_sub)
  | (with_reducible apply Lg.w_gnil)
  | (with_reducible apply Lg.w_gcons)
  | (with_reducible apply Lg.w_ifT)
  | (with_reducible apply Lg.w_ifF)
  | (with_reducible apply Lg.w_add)
  | (with_reducible apply Lg.w_sub2)
  | ((with_reducible show rTimes (V.int _) (V.int _) _ _); (with_reducible refine Lg.w_mulR (by omega) ?_))
  | ((with_reducible show rTimes (V.int _) (V.int _) _ _); (with_reducible refine Lg.w_mulL (by omega) ?_))
  | ((with_reducible show rMod (V.int _) (V.int _) _ _); (with_reducible refine Lg.w_mod (by first | decide | omega) ?_))
  | ((with_reducible show rFdiv (V.int _) (V.int _) _ _); (with_reducible refine Lg.w_fdiv (by first | decide | omega) ?_))
  | (with_reducible apply Lg.w_band)
  | (with_reducible apply Lg.w_lt)
  | (with_reducible apply Lg.w_le)
  | (with_reducible apply Lg.w_gt)
  | (with_reducible apply Lg.w_ge)
  | (with_reducible apply Lg.w_eqI)
  | (with_reducible apply Lg.w_neI)
  | (with_reducible apply Lg.w_intI2)
  | (with_reducible apply Lg.w_neg)
  | (with_reducible apply Lg.w_inSS)
  | (with_reducible apply Lg.w_ninSS)
  | (with_reducible apply Lg.w_inSS')
  | (with_reducible apply Lg.w_neSS)
  | (with_reducible apply Lg.w_strS)
  | (with_reducible apply Lg.w_fldE)
  | (with_reducible apply Lg.w_sfldE)
  | (with_reducible apply Lg.w_makeE)
  | (with_reducible apply Lg.w_methE)
  | (with_reducible apply Lg.w_methSE)
  | (with_reducible apply Lg.w_callS)
  | (with_reducible apply Lg.w_raiseO)
  | (with_reducible apply Lg.w_raiseB)
  | (with_reducible apply Lg.w_try)
  | (with_reducible apply Lg.w_strS)
  | (with_reducible apply Lg.w_eqSS)
  | (with_reducible apply Lg.w_eqS)
  | (with_reducible apply Lg.w_neS)
  | (with_reducible apply Lg.w_isN)
  | (with_reducible apply Lg.w_isR)
  | (with_reducible apply Lg.w_isI)
  | (with_reducible apply Lg.w_isS)
  | (with_reducible apply Lg.w_nsN)
  | (with_reducible apply Lg.w_nsR)
  | (with_reducible apply Lg.w_nsI)
  | (with_reducible apply Lg.w_nsS)
  | (with_reducible apply Lg.w_int)
  | (with_reducible apply Lg.w_intb)
  | (with_reducible apply Lg.w_ord1)
  | (with_reducible apply Lg.w_tyS)
  | (with_reducible apply Lg.w_inSg)
  | (with_reducible apply Lg.w_ninSg)
  | ((with_reducible show NewL _ _ _); (with_reducible refine Lg.w_newL (by assumption) (by walk_at "isall") (by simp) ?_); (intro p' H' hS'))
  | ((with_reducible show NewT _ _ _); (with_reducible refine Lg.w_newT (by assumption) (by walk_at "isall") (by simp) ?_); (intro p' H' hS'))
  | ((with_reducible show TyThen _ _ (V.ref _) _ _); (with_reducible refine Lg.w_tyL (by assumption) (by walk_at "lsin") ?_))
  | ((with_reducible show rLenX _ [V.ref _] _ _); (with_reducible refine Lg.w_lenL (by assumption) (by walk_at "lsin") ?_))
  | ((with_reducible show rLenX _ [V.ref _] _ _); (with_reducible refine Lg.w_lenT (by assumption) (by walk_at "is") ?_))
  | ((with_reducible show spDraw _ _ _ _ _); (with_reducible refine Lg.w_draw (by assumption) (by walk_at "mem") (by first | decide | omega) ?_); (intro k' H' hk0' hk1' hS'))
  | ((with_reducible show rSlX _ (V.ref _) _ _ _ _); (with_reducible refine Lg.w_slL (by assumption) (by walk_at "lsin") ?_); (intro p' H' hS'))
  | ((with_reducible show rListOf _ [V.ref _] _ _); (with_reducible refine Lg.w_listL (by assumption) (by walk_at "lsin") ?_); (intro p' H' hS'))
  | (with_reducible apply Lg.w_for)
  | (with_reducible apply Lg.w_lc)
  | ((with_reducible show iAny _ (tVar _) _ _ _); (with_reducible refine Lg.w_anyVar (by walk_at "gt") ?_))
  | (with_reducible apply Lg.w_anyC)
  | (with_reducible apply Lg.w_vS)
  | (with_reducible apply Lg.w_itS)
  | ((with_reducible show AnyV _ (V.ref _) _ _); (with_reducible refine Lg.w_vL (by assumption) (by walk_at "lsin") ?_))
  | ((with_reducible show AnyL _ (V.ref _) _ _); (with_reducible refine Lg.w_itL (by assumption) (by walk_at "lsin") ?_))
  | ((with_reducible show AnyV _ (V.ref _) _ _); (with_reducible refine Lg.w_vT (by assumption) (by walk_at "is") ?_))
  | ((with_reducible show AnyT _ (V.ref _) _ _); (with_reducible refine Lg.w_itT (by assumption) (by walk_at "is") ?_))
  | ((with_reducible show Enu _ [V.ref _] _ _); (with_reducible refine Lg.w_itE (by assumption) (by walk_at "lsin") ?_))
  | ((with_reducible show rPlus _ (V.ref _) (V.ref _) _ _); (with_reducible refine Lg.w_plusL (by assumption) (by walk_at "lsin") (by walk_at "lsin") (by walk_at "ar") ?_); (intro p' H' hS'))
  | ((with_reducible show rTimes (V.ref _) (V.int _) _ _); (with_reducible refine Lg.w_repLs (by assumption) (by walk_at "lsin") (by walk_at "ar") (by walk_at "ar") (by walk_at "ar") ?_); (intro p' H' hS'))
  | ((with_reducible show rLenX _ [V.str (S _)] _ _); (with_reducible refine Lg.w_lenSS (by walk_at "ar") ?_))
  | ((with_reducible show rLenX _ [V.str _] _ _); (with_reducible refine Lg.w_lenS (by walk_at "ar") ?_))
  | ((with_reducible show rSlX _ (V.str _) _ _ _ _); (with_reducible refine Lg.w_slS (by walk_at "ar") ?_))
  | (with_reducible apply Lg.w_rng1)
  | (with_reducible apply Lg.w_rng2)
  | (with_reducible apply Lg.w_rng3)
  | (with_reducible apply Lg.w_enum)
  | ((with_reducible show Rng1 _ _ _); (with_reducible refine Lg.w_itR1 (by omega) ?_))
  | ((with_reducible show Rng2 _ _ _); (with_reducible refine Lg.w_itR2 (by omega) (by omega) ?_))
  | ((with_reducible show rIx _ (V.ref _) (V.int _) _ _); (with_reducible refine Lg.w_ixN (by assumption) (by walk_at "lsin") (by walk_at "ar") (by walk_at "ar") ?_))
  | ((with_reducible show rPlus _ (V.str (S _)) (V.str (S _)) _ _); (with_reducible refine Lg.w_addSS (by walk_at "ar") ?_))
  | ((with_reducible show rTimes (V.str (S _)) (V.int _) _ _); (with_reducible refine Lg.w_repSS (by walk_at "ar") (by walk_at "ar") (by walk_at "ar") ?_))
  | ((with_reducible show rIsi _ [V.ref _, V.ty "list"] _ _); (with_reducible refine Lg.w_isLL (by assumption) (by walk_at "lsin") ?_))
  | ((with_reducible show rIsi _ [V.ref _, V.ty "tuple"] _ _); (with_reducible refine Lg.w_isTT (by assumption) (by walk_at "is") ?_))
  | (with_reducible apply Lg.w_isII)
  | (with_reducible apply Lg.w_isSI)
  | (with_reducible apply Lg.w_isSS)
  | (with_reducible apply Lg.w_isIS)
  | (with_reducible apply Lg.w_ifexp)
  | (with_reducible apply Lg.w_chain)
  | ((with_reducible show ChainK _ _ _ _ _ _ _); (with_reducible refine Lg.w_chainLe (by (intro R' hR'; walk_at "w"; exact hR')) ?_))
  | ((with_reducible show ChainK _ _ _ _ _ _ _); (with_reducible refine Lg.w_chainLt (by (intro R' hR'; walk_at "w"; exact hR')) ?_))
  | ((with_reducible show tAnd _ _ _ _ _); (with_reducible refine Lg.w_andP (by (intro R' hR'; walk_at "w"; exact hR')) (by (intro hb' R' hR'; walk_at "w"; exact hR')) ?_))
  | ((with_reducible show tOr _ _ _ _ _); (with_reducible refine Lg.w_orP (by (intro R' hR'; walk_at "w"; exact hR')) (by (intro hb' R' hR'; walk_at "w"; exact hR')) ?_))
  | ((with_reducible show tAndV _ _ _ _ _); (with_reducible refine Lg.w_andVP (by (intro R' hR'; walk_at "w"; exact hR')) (by (intro hb' R' hR'; walk_at "w"; exact hR')) ?_))
  | ((with_reducible show tOrV _ _ _ _ _); (with_reducible refine Lg.w_orVP (by (intro R' hR'; walk_at "w"; exact hR')) (by (intro hb' R' hR'; walk_at "w"; exact hR')) ?_))
  | (with_reducible apply Lg.w_notV))
local macro_rules | `(tactic| walk_at "w") => `(tactic| repeat (walk_at "w1"))
local macro_rules | `(tactic| walk_at "z") => `(tactic| simp only [z_0, z_1, z_2, z_3, z_4, z_5, z_6, z_7, z_8, z_9, z_10, z_11, z_12, z_13, z_14, z_15, z_16, z_17, z_18, z_19, z_20, z_21, z_22, z_23, z_24, z_25, z_26, z_27, z_28, z_29, z_30, z_31, z_32, z_33, z_34, z_35, z_36, z_37])
/-! ### Log: what writes -/
theorem placed_app {bs cs : List (List Int)} : ∀ {e : Nat}, placed e (bs ++ cs) = placed e bs ++ placed (e + bs.length) cs := by
  induction bs with
  | nil => intro e; rfl
  | cons b bs ih =>
    intro e
    show (e, b) :: placed (e + 1) (bs ++ cs) = (e, b) :: (placed (e + 1) bs ++ placed (e + (b :: bs).length) cs)
    rw [ih, List.length_cons, show e + 1 + bs.length = e + (bs.length + 1) by omega]
theorem enough_add {left : Option Nat} {m n : Nat} (h1 : enough left m) (h2 : enough (spendN left m) n) : enough left (m + n) := by
  intro k hk
  have h3 := h1 k hk
  have h4 := h2 (k - m) (by rw [hk]; rfl)
  omega
theorem spendN_add {left : Option Nat} {m n : Nat} : spendN (spendN left m) n = spendN left (m + n) := by
  cases left with
  | none => rfl
  | some k =>
    show some (k - m - n) = some (k - (m + n))
    rw [Nat.sub_sub]
theorem left_add {left : Option Nat} {m j : Nat} (h1 : enough left m) (h2 : spendN left m = some j) : left = some (m + j) := by
  cases left with
  | none => cases h2
  | some k =>
    have h3 := h1 k rfl
    have h4 : k - m = j := by simpa [spendN] using h2
    congr 1
    omega
theorem Z_take {n j : Nat} (h : j ≤ n) : (Z n).take j = Z j := by
  unfold Z
  rw [List.take_replicate, Nat.min_eq_left h]
section
variable {K : PySem.W.Frag}
def spAppend (K : PySem.W.Frag) : Sp := fun vs H Q E => ∃ (L : List Ent) (lo lx a dx pb pp pr rq : Addr) (tv : V) (cuts lc : Int) (e : Nat) (left : Option Nat) (B : List (List Int)) (P : List (Nat × List Int)) (ts : List Nat) (rs ss : List Rec), vs = [.ref lo, .ref rq] ∧
  St K (LL K lo lx a pr (e : Int) lc rs (Di.DL K a dx pb pp tv cuts left B P ts L)) H ∧ Di.DOK B P ts ∧ LsIn K L rq (ss.map Rec.d) ∧ (∀ r ∈ ss, Wr r) ∧ ss.length ≤ 1000 ∧ rs.length + ss.length ≤ 60000 ∧ P.length + B.length ≤ 1000 ∧
  (cuts ≠ lc → E (.ref (XN K)) none H) ∧
  (cuts = lc → B.length < e + (blk rs.length ss).length → ∀ H', St K (LL K lo lx a pr (e : Int) lc rs (Di.DL K a dx pb pp tv cuts left B P ts L)) H' → E (.ref (XF K)) none H') ∧
  (cuts = lc → e + (blk rs.length ss).length ≤ B.length → enough left (blk rs.length ss).length → ∀ H', St K (LL K lo lx a pr ((e + (blk rs.length ss).length : Nat) : Int) lc (rs ++ ss) (Di.DL K a dx pb pp tv cuts (spendN left (blk rs.length ss).length) B (P ++ placed e (blk rs.length ss)) ts L)) H' → Q (.int ((rs.length + ss.length : Nat) : Int)) H') ∧
  (cuts = lc → e + (blk rs.length ss).length ≤ B.length → ∀ j, left = some j → j < (blk rs.length ss).length → ∀ pp' tv' H', St K (LL K lo lx a pr (e : Int) lc rs (Di.DL K a dx pb pp' tv' (cuts + 1) none (Di.torn B (P ++ placed e ((blk rs.length ss).take j)) ts) [] [] L)) H' → E (.ref (XP K)) none H')
theorem p_append (cf : CF K) (vs : List V) (H : Hp) (Q : VK) (E : XK) (h : spAppend K vs H Q E) : vs.length = 2 ∧ t_Log_append K (spWriteB K) (spFree K) (spBlocksOf K) (spCheckOpen K) E { nx := fun _ H' => Q .non H', rt := Q } (start N_Log_append vs) H := by
  obtain ⟨L, lo, lx, a, dx, pb, pp, pr, rq, tv, cuts, lc, e, left, B, P, ts, rs, ss, rfl, hS, hok, hl, hw, hn, hn2, hP, hE0, hE1, hQ, hE2⟩ := h
  refine ⟨rfl, ?_⟩
  unfold t_Log_append
  show tSeq _ _ _ [some (.ref lo), some (.ref rq), none] H
  walk_at "w"
  refine w_meth hS (.head _) (llk_no (by decide)) ?_
  walk_at "w"
  refine ⟨_, lo, lx, a, dx, pb, pp, pr, tv, cuts, lc, e, left, B, P, ts, rs, rfl, hS, fun hc => ?_, hE0⟩
  walk_at "w"
  refine w_meth hS (.head _) (llk_no (by decide)) ?_
  walk_at "w"
  refine ⟨_, lo, lx, a, pr, rq, e, lc, rs, ss, rfl, hS, by walk_at "lsin", hw, hn, fun q H1 hS1 => ?_⟩
  clear hS
  walk_at "w"
  rw [List.length_map]
  refine w_meth hS1 (.tail _ (.head _)) (llk_no (by decide)) ?_
  walk_at "w"
  refine ⟨_, lo, lx, a, dx, pb, pp, pr, tv, cuts, lc, e, left, B, P, ts, rs, rfl, hS1.to (by walk_at "pick"), ?_⟩
  walk_at "w"
  refine w_ifd (fun h1 => ?_) (fun h1 => ?_)
  · walk_at "w"
    exact hE1 hc (by omega) H1 hS1.tail
  walk_at "w"
  have hfit : e + (blk rs.length ss).length ≤ B.length := by omega
  refine w_fld hS1 (by walk_at "mem") cf.cls_Log cf.na_Log_disk lk_ld ?_
  walk_at "w"
  refine w_fld hS1 (by walk_at "mem") cf.cls_Log cf.na_Log_end lk_le ?_
  walk_at "w"
  refine ⟨Lg.ls K q ((blk rs.length ss).map Di.bD) :: LL K lo lx a pr (e : Int) lc rs L, a, dx, pb, pp, q, tv, cuts, left, B, P, ts, e, blk rs.length ss, rfl, hS1.to (by walk_at "pick"), hok, .own (.head _), blk_isB ss rs.length (by omega) hw, hfit, by omega, fun hen H2 hS2 => ?_, fun j hj hjn pp' tv' H2 hS2 => hE2 hc hfit j hj hjn pp' tv' H2 (hS2.to (by walk_at "pick"))⟩
  clear hS1
  walk_at "w"
  refine w_fld hS2 (by walk_at "mem") cf.cls_Log cf.na_Log_records lk_lr ?_
  walk_at "w"
  refine w_extend hS2 (L' := _) (es := ss.map Rec.d) (by walk_at "put") (by walk_at "lsin") (by rw [List.length_map, List.length_map]; omega) fun H3 hS3 => ?_
  rw [← List.map_append] at hS3
  clear hS2
  walk_at "w"
  refine w_fld hS3 (by walk_at "mem") cf.cls_Log cf.na_Log_end lk_le ?_
  walk_at "w"
  rw [List.length_map]
  refine w_sfld hS3 (L' := _) (by walk_at "put") cf.cls_Log cf.na_Log_end (by show 4 < 1000; decide) fun H4 hS4 => ?_
  rw [put_le] at hS4
  clear hS3
  walk_at "w"
  refine w_fld hS4 (by walk_at "mem") cf.cls_Log cf.na_Log_records lk_lr ?_
  walk_at "w"
  rw [List.length_map, List.length_append]
  have ee : (e : Int) + ((blk rs.length ss).length : Int) = ((e + (blk rs.length ss).length : Nat) : Int) := by omega
  rw [ee] at hS4
  exact hQ hc hfit hen H4 (hS4.to (by walk_at "pick"))
def spSync (K : PySem.W.Frag) : Sp := fun vs H Q E => ∃ (L : List Ent) (lo lx a dx pb pp pr : Addr) (tv : V) (cuts lc e : Int) (left : Option Nat) (B : List (List Int)) (P : List (Nat × List Int)) (ts : List Nat) (rs : List Rec), vs = [.ref lo] ∧
  St K (LL K lo lx a pr e lc rs (Di.DL K a dx pb pp tv cuts left B P ts L)) H ∧ Di.DOK B P ts ∧
  (cuts ≠ lc → E (.ref (XN K)) none H) ∧
  (cuts = lc → ∀ left' pp' H', Di.spentTo left left' → St K (LL K lo lx a pr e lc rs (Di.DL K a dx pb pp' tv cuts left' (Di.flushed B P) [] ts L)) H' → Q .non H') ∧
  (cuts = lc → left = some 0 → ∀ pp' tv' H', St K (LL K lo lx a pr e lc rs (Di.DL K a dx pb pp' tv' (cuts + 1) none (Di.torn B P ts) [] [] L)) H' → E (.ref (XP K)) none H')
theorem p_sync (cf : CF K) (vs : List V) (H : Hp) (Q : VK) (E : XK) (h : spSync K vs H Q E) : vs.length = 1 ∧ t_Log_sync K (Di.spFlush K) (spCheckOpen K) E { nx := fun _ H' => Q .non H', rt := Q } (start N_Log_sync vs) H := by
  obtain ⟨L, lo, lx, a, dx, pb, pp, pr, tv, cuts, lc, e, left, B, P, ts, rs, rfl, hS, hok, hE0, hQ, hE1⟩ := h
  refine ⟨rfl, ?_⟩
  unfold t_Log_sync
  show tSeq _ _ _ [some (.ref lo)] H
  walk_at "w"
  refine w_meth hS (.head _) (llk_no (by decide)) ?_
  walk_at "w"
  refine ⟨_, lo, lx, a, dx, pb, pp, pr, tv, cuts, lc, e, left, B, P, ts, rs, rfl, hS, fun hc => ?_, hE0⟩
  walk_at "w"
  refine w_fld hS (.head _) cf.cls_Log cf.na_Log_disk lk_ld ?_
  refine w_meth hS (.tail _ (.tail _ (.tail _ (.head _)))) (Di.lk_no (by decide)) ?_
  walk_at "w"
  refine ⟨LL K lo lx a pr e lc rs L, a, dx, pb, pp, tv, cuts, left, B, P, ts, rfl, hS.to (by walk_at "pick"), hok, fun left' pp' H' hl hS' => hQ hc left' pp' H' hl (hS'.to (by walk_at "pick")), fun h0 pp' tv' H' hS' => hE1 hc h0 pp' tv' H' (hS'.to (by walk_at "pick"))⟩
/-! format_disk -/
theorem DOK.flush {B : List (List Int)} {P : List (Nat × List Int)} {ts : List Nat} (h : Di.DOK B P ts) : Di.DOK (Di.flushed B P) [] ts :=
  ⟨by rw [Di.flushed_len]; exact h.n0, by rw [Di.flushed_len]; exact h.n1, Di.flushed_bl h.bl fun e he => (h.pe e he).2, fun e he => (by cases he), (by simp), h.tn, h.tb⟩
/-- what formatting writes -/
def fresh (ns : List (List Nat)) (n : Nat) : List (List Int) := encB 0 (Rec.ent ns).t ++ Z (n - many (Rec.ent ns).t)
def spFormat (K : PySem.W.Frag) : Sp := fun vs H Q E => ∃ (L : List Ent) (a dx pb pp ta : Addr) (tv : V) (cuts : Int) (left : Option Nat) (B : List (List Int)) (P : List (Nat × List Int)) (ts : List Nat) (ns : List (List Nat)), vs = [.ref a, .ref ta] ∧
  St K (Di.DL K a dx pb pp tv cuts left B P ts L) H ∧ Di.DOK B P ts ∧ Is L (.ref ta) (.tuple (ns.map sD)) ∧ ns.length ≤ 100000 ∧ (∀ x ∈ ns, x.length ≤ 100000) ∧ Is L (.ref (He.ga K "RESERVED")) (.tuple resD) ∧ P.length + B.length ≤ 1000 ∧
  (entOK ns = false → ∀ d H', St K (xd d zent :: Di.DL K a dx pb pp tv cuts left B P ts L) H' → E (.ref (XO K)) (some d) H') ∧
  (entOK ns = true → enough left (B.length + 1) → ∀ pp' H', St K (Di.DL K a dx pb pp' tv cuts (spendN left (B.length + 1)) (Di.flushed B (P ++ placed 0 (fresh ns B.length))) [] ts L) H' → Q .non H') ∧
  (entOK ns = true → ∀ j, left = some j → j ≤ B.length → ∀ pp' tv' H', St K (Di.DL K a dx pb pp' tv' (cuts + 1) none (Di.torn B (P ++ placed 0 ((fresh ns B.length).take j)) ts) [] [] L) H' → E (.ref (XP K)) none H')
theorem p_format (vs : List V) (H : Hp) (Q : VK) (E : XK) (h : spFormat K vs H Q E) : vs.length = 2 ∧ t_format_disk K (Di.spFlush K) (spClear K) (spWriteB K) (spEnc K) (spWriteR K) (spCheckE K) E { nx := fun _ H' => Q .non H', rt := Q } (start N_format_disk vs) H := by
  obtain ⟨L, a, dx, pb, pp, ta, tv, cuts, left, B, P, ts, ns, rfl, hS, hok, hta, hn, hx, hres, hP, hE0, hQ, hE1⟩ := h
  refine ⟨rfl, ?_⟩
  unfold t_format_disk
  walk_at "z"
  show tSeq _ _ _ [some (.ref a), some (.ref ta), none] H
  walk_at "w"
  refine ⟨_, ta, ns, rfl, hS, by walk_at "is", hn, hx, by walk_at "is", fun hen H1 hS1 => ?_, fun hen d H' hS' => hE0 hen d H' hS'⟩
  clear hS
  obtain ⟨hwr, hm2⟩ := ent_wr hen
  have ht1 := hwr.t1
  have hB8 := hok.n0
  have hB4 := hok.n1
  walk_at "w"
  refine w_tupT (ds := ns.map sD) hS1 (by walk_at "is") ?_
  walk_at "w"
  rename_i tq H2 hS2
  refine ⟨_, tq, .ent ns, rfl, hS2, .dat (.head _), hwr.few, by omega, fun H3 hS3 => ?_⟩
  walk_at "w"
  refine ⟨_, 0, (Rec.ent ns).t, rfl, hS3, ht1, Int.le_refl _, fun q H4 hS4 => ?_⟩
  have e0 : enc 0 (Rec.ent ns).t = (encB 0 (Rec.ent ns).t).map Di.bD := enc_is 0 _
  rw [e0] at hS4
  clear hS1 hS2 hS3
  walk_at "w"
  have hlm : (encB 0 (Rec.ent ns).t).length = many (Rec.ent ns).t := encB_len
  refine ⟨Lg.ls K q ((encB 0 (Rec.ent ns).t).map Di.bD) :: L, a, dx, pb, pp, q, tv, cuts, left, B, P, ts, 0, encB 0 (Rec.ent ns).t, rfl, hS4.to (by walk_at "pick"), hok, .own (.head _), encB_isB (by omega) ht1 hwr.sg, by omega, by omega, fun hen1 H5 hS5 => ?_, fun j hj hjn pp' tv' H5 hS5 => ?_⟩
  rotate_left
  · refine hE1 hen j hj (by omega) pp' tv' H5 ?_
    unfold fresh
    rw [List.take_append_of_le_length (by omega)]
    exact hS5.to (by walk_at "pick")
  clear hS4
  walk_at "w"
  rw [List.length_map]
  rw [hlm] at hen1 hS5
  have hok1 := DOK.more (e := 0) (bs := encB 0 (Rec.ent ns).t) hok (by omega) (fun x hx => isB_len (encB_isB (by omega) ht1 hwr.sg x hx)) (by omega)
  have hpl : (P ++ placed 0 (encB 0 (Rec.ent ns).t)).length = P.length + many (Rec.ent ns).t := by rw [List.length_append, placed_len, hlm]
  rw [hlm]
  have hfr : ∀ j, j ≤ B.length - many (Rec.ent ns).t → placed 0 (encB 0 (Rec.ent ns).t) ++ placed (many (Rec.ent ns).t) (Z j) = placed 0 ((fresh ns B.length).take (many (Rec.ent ns).t + j)) := by
    intro j hj
    unfold fresh
    rw [← hlm, List.take_length_add_append, hlm, Z_take hj, placed_app, hlm, Nat.zero_add]
  have hall : (fresh ns B.length).take (many (Rec.ent ns).t + (B.length - many (Rec.ent ns).t)) = fresh ns B.length := by
    rw [List.take_of_length_le]
    unfold fresh
    rw [List.length_append, hlm, Z_len]
    exact Nat.le_refl _
  refine ⟨Lg.ls K q ((encB 0 (Rec.ent ns).t).map Di.bD) :: L, a, dx, pb, pp, tv, cuts, spendN left (many (Rec.ent ns).t), B, _, ts, many (Rec.ent ns).t, B.length - many (Rec.ent ns).t, rfl, hS5, hok1, by omega, by omega, fun hen2 H6 hS6 => ?_, fun j hj hjn pp' tv' H6 hS6 => ?_⟩
  rotate_left
  · refine hE1 hen _ (left_add hen1 hj) (by omega) pp' tv' H6 ?_
    rw [← hfr j (by omega), ← List.append_assoc]
    exact hS6.to (by walk_at "pick")
  clear hS5
  walk_at "w"
  have hen3 := enough_add hen1 hen2
  rw [spendN_add] at hS6
  rw [List.append_assoc, hfr _ (Nat.le_refl _), hall] at hS6
  have en : many (Rec.ent ns).t + (B.length - many (Rec.ent ns).t) = B.length := by omega
  rw [en] at hS6 hen3
  have hfl : (fresh ns B.length).length = B.length := by
    unfold fresh
    rw [List.length_append, hlm, Z_len, en]
  have hok2 := DOK.more (e := 0) (bs := fresh ns B.length) hok (by omega) (fun x hx => by
    rcases List.mem_append.mp hx with hx | hx
    · exact isB_len (encB_isB (by omega) ht1 hwr.sg x hx)
    · exact isB_len (Z_isB x hx)) (by omega)
  refine w_meth hS6 (.head _) (Di.lk_no (by decide)) ?_
  walk_at "w"
  refine ⟨_, a, dx, pb, pp, tv, cuts, spendN left B.length, B, _, ts, rfl, hS6, hok2, fun left' pp' H7 hl hS7 => ?_, fun h0 pp' tv' H7 hS7 => ?_⟩
  · obtain ⟨e1, rfl⟩ := enough_to hen3 hl
    exact hQ hen e1 pp' H7 (hS7.to (by walk_at "pick"))
  · refine hE1 hen B.length (enough_at hen3 h0) (Nat.le_refl _) pp' tv' H7 ?_
    rw [List.take_of_length_le (by omega)]
    exact hS7.to (by walk_at "pick")
/-! open_log -/
theorem natD_at {es : List Nat} {k : Nat} (h : k < es.length) : (natD es)[k]? = some (.int ((es.getD k 0 : Nat) : Int)) := by
  rw [List.getElem?_map, List.getD_eq_getElem?_getD, List.getElem?_eq_getElem h]
  rfl
def spOpen (K : PySem.W.Frag) : Sp := fun vs H Q E => ∃ (L : List Ent) (a dx pb pp : Addr) (tv : V) (cuts : Int) (left : Option Nat) (B : List (List Int)) (P : List (Nat × List Int)) (ts : List Nat) (rs : List Rec) (es : List Nat) (e n : Nat), vs = [.ref a] ∧
  St K (Di.DL K a dx pb pp tv cuts left B P ts L) H ∧ Di.DOK B P ts ∧ Is L (.ref (He.ga K "RESERVED")) (.tuple resD) ∧ P.length + B.length ≤ 1000 ∧ readLog (Di.flushed B P) = (rs, es) ∧ es.getD (good rs) 0 = e ∧ e + n = B.length ∧
  (rs = [] → ∀ H', St K (Di.DL K a dx pb pp tv cuts left B P ts L) H' → E (.ref (He.ga K "NotKept")) none H') ∧
  (rs ≠ [] → enough left (n + 1) → ∀ lo lx pr pp' H', St K (LL K lo lx a pr (e : Int) cuts (rs.take (good rs)) (Di.DL K a dx pb pp' tv cuts (spendN left (n + 1)) (Di.flushed B (P ++ placed e (Z n))) [] ts L)) H' → Q (.ref lo) H') ∧
  (rs ≠ [] → ∀ j, left = some j → j ≤ n → ∀ pp' tv' H', St K (Di.DL K a dx pb pp' tv' (cuts + 1) none (Di.torn B (P ++ placed e (Z j)) ts) [] [] L) H' → E (.ref (XP K)) none H')
theorem p_open_log (vs : List V) (H : Hp) (Q : VK) (E : XK) (h : spOpen K vs H Q E) : vs.length = 1 ∧ t_open_log K (spLogInit K) (Di.spFlush K) (spClear K) (spGood K) (spReadRecs K) E { nx := fun _ H' => Q .non H', rt := Q } (start N_open_log vs) H := by
  obtain ⟨L, a, dx, pb, pp, tv, cuts, left, B, P, ts, rs, es, e, n, rfl, hS, hok, hres, hP, hlog, hes, hfit, hE0, hQ, hE1⟩ := h
  have inv := readLog_inv (Di.flushed B P)
  rw [hlog] at inv
  have hgl := good_le rs
  have hlen : es.length = rs.length + 1 := inv.len
  have hlast : es.getLastD 0 ≤ (Di.flushed B P).length := inv.last
  have hfew : rs.length ≤ es.getLastD 0 := inv.few
  rw [Di.flushed_len] at hlast
  have hB4 := hok.n1
  refine ⟨rfl, ?_⟩
  unfold t_open_log
  show tSeq _ _ _ [some (.ref a), none, none, none] H
  walk_at "w"
  refine ⟨_, a, dx, pb, pp, tv, cuts, left, B, P, ts, rfl, hS, hok, hres, fun rs' es' hl' _ q H1 hS1 => ?_⟩
  rw [hlog] at hl'
  cases hl'
  clear hS
  walk_at "w"
  refine w_unpT2 hS1 (.dat (.head _)) fun u1 u2 hS2 => ?_
  obtain ⟨qr, rfl⟩ := St.lst_of hS2
  obtain ⟨qe, rfl⟩ := St.lst_of hS2.tail
  clear hS1
  have hix : (natD es)[good rs]? = some (.int (e : Int)) := by rw [natD_at (by omega), hes]
  walk_at "w"
  refine ⟨_, truL_ok hS2 (by walk_at "lsin"), w_ite (fun h1 => ?_) (fun h1 => ?_)⟩
  · walk_at "w"
    refine hE0 ?_ H1 (hS2.to (by walk_at "pick"))
    cases rs with
    | nil => rfl
    | cons r rs => simp at h1
  have hne : rs ≠ [] := by
    rintro rfl
    simp at h1
  walk_at "w"
  refine ⟨_, qr, rs, rfl, hS2, by walk_at "lsin", by omega, inv.hold, fun H3 hS3 => ?_⟩
  clear hS2
  walk_at "w"
  refine w_ixLi (k := good rs) (m := (e : Int)) hS3 (ds := natD es) (by walk_at "lsin") rfl hix ?_
  walk_at "w"
  have hZl : ∀ x ∈ Z n, x.length = 32 := fun x hx => isB_len (Z_isB x hx)
  have hok1 := DOK.more (e := e) (bs := Z n) hok (by rw [Z_len]; omega) hZl (by rw [Z_len]; omega)
  refine ⟨Lg.dat (.ref qr) (.list (rs.map Rec.d)) :: Lg.dat (.ref qe) (.list (natD es)) :: L, a, dx, pb, pp, tv, cuts, left, B, P, ts, e, n, rfl, hS3.to (by walk_at "pick"), hok, hfit, by omega, fun hen H4 hS4 => ?_, fun j hj hjn pp' tv' H4 hS4 => hE1 hne j hj (by omega) pp' tv' H4 (hS4.to (by walk_at "pick"))⟩
  clear hS3
  walk_at "w"
  refine w_meth hS4 (.head _) (Di.lk_no (by decide)) ?_
  walk_at "w"
  refine ⟨_, a, dx, pb, pp, tv, cuts, spendN left n, B, _, ts, rfl, hS4, hok1, fun left' pp' H5 hl hS5 => ?_, fun h0 pp' tv' H5 hS5 => hE1 hne n (enough_at hen h0) (Nat.le_refl _) pp' tv' H5 (hS5.to (by walk_at "pick"))⟩
  obtain ⟨e1, rfl⟩ := enough_to hen hl
  clear hS4
  walk_at "w"
  rename_i pr H6 hS6
  rw [cutD_no (b := good rs) rfl, ← List.map_take] at hS6
  refine w_ixLi (k := good rs) (m := (e : Int)) hS6 (ds := natD es) (by walk_at "lsin") rfl hix ?_
  walk_at "w"
  intro lo lx hx hdx hdn
  have hS7 := hS6.to (L' := Lg.ls K pr ((rs.take (good rs)).map Rec.d) :: Di.DL K a dx pb pp' tv cuts (spendN left (n + 1)) (Di.flushed B (P ++ placed e (Z n))) [] ts L) (by walk_at "pick")
  refine ⟨_, lo, lx, a, dx, pb, pp', pr, tv, cuts, _, _, _, _, _, rs.take (good rs), rfl, hS7.born hx hdx hdn, fun H8 hS8 => ⟨rfl, hQ hne e1 lo lx pr pp' H8 hS8⟩⟩
end
end K47

namespace K47
open PySem PySem.Spec PyProof.Rows L2 Lg PySem.NumText K45 Blk
local macro_rules | `(tactic| walk_at "ar") => `(tactic| first | omega | (simp; done) | (simp; omega) | (simp only [S_len]; omega) | (simp [Lg.repL_len]; done) | (simp [Lg.repL_len]; omega))
local macro_rules | `(tactic| walk_at "gt") => `(tactic| repeat (first | exact GetAt.here | apply GetAt.there))
local macro_rules | `(tactic| walk_at "st") => `(tactic| repeat (first | exact SetAt.here | apply SetAt.there))
local macro_rules | `(tactic| walk_at "mem") => `(tactic| first | assumption | exact List.mem_cons_self | (apply List.mem_cons_of_mem; walk_at "mem"))
local macro_rules | `(tactic| walk_at "put") => `(tactic| repeat (first | exact Put.here | apply Put.there))
local macro_rules | `(tactic| walk_at "rem") => `(tactic| repeat (first | exact Rem.here | apply Rem.there))
local macro_rules | `(tactic| walk_at "pick") => `(tactic| first | exact Pick.refl | exact Pick.cons (by walk_at "rem") (by walk_at "pick") | (apply Pick.drop; walk_at "pick") | exact Pick.nil)
local macro_rules | `(tactic| walk_at "is") => `(tactic| first | exact Is.int | exact Is.str | exact Is.bl | exact Is.non | assumption | exact Is.dat (by walk_at "mem") | (apply Is.cons; walk_at "is"))
local macro_rules | `(tactic| walk_at "isall") => `(tactic| first | exact IsAll.nil | exact IsAll.cons (by walk_at "is") (by walk_at "isall"))
local macro_rules | `(tactic| walk_at "lsin") => `(tactic| first | assumption | exact LsIn.own (by walk_at "mem") | exact LsIn.dat (by walk_at "mem") | (apply LsIn.cons; walk_at "lsin"))
local macro_rules | `(tactic| walk_at "see") => `(tactic| first | exact See.own (by walk_at "mem") | exact See.is (by walk_at "is"))
local macro_rules | `(tactic| walk_at "w1") => `(tactic| first
  | (with_reducible apply Lg.w_seq)
  | (with_reducible apply Lg.w_asg)
  | ((with_reducible show gName _ _ _ _ _); (with_reducible refine Lg.w_name (by walk_at "st") ?_))
  | ((with_reducible show tVar _ _ _ _); (with_reducible refine Lg.w_var (by walk_at "gt") ?_))
  | (with_reducible apply Lg.w_c)
  | (with_reducible apply Lg.w_op)
  | (with_reducible apply Lg.w_un)
  | (with_reducible apply Lg.w_nil)
  | (with_reducible apply Lg.w_cons)
  | (with_reducible apply Lg.w_call)
  | (with_reducible apply Lg.w_cb)
  | (with_reducible apply Lg.w_tup)
  | (with_reducible apply Lg.w_lst)
  | (with_reducible apply Lg.w_bm)
  | (with_reducible apply Lg.w_bm0)
  | (with_reducible apply Lg.w_sl)
  | (with_reducible apply Lg.w_nopart)
  | (with_reducible apply Lg.w_part)
  | (with_reducible apply Lg.w_isint)
  | (with_reducible apply Lg.w_test)
  | (with_reducible apply Lg.w_tB)
  | (with_reducible apply Lg.w_isbl')
  | (with_reducible apply Lg.w_not)
  | (with_reducible apply Lg.w_tru)
  | (with_reducible apply Lg.w_truI)
  | (with_reducible apply Lg.w_truB)
  | (with_reducible apply Lg.w_ifs)
  | (with_reducible apply Lg.w_next)
  | (with_reducible apply Lg.w_break)
  | (with_reducible apply Lg.w_cont)
  | (with_reducible apply Lg.w_ret)
  | (with_reducible apply Lg.w_retn)
  | (with_reducible apply Lg.w_drop)
  | (with_reducible apply Lg.w_sub)
  | (with_reducible apply Lg.w_gnil)
  | (with_reducible apply Lg.w_gcons)
  | (with_reducible apply Lg.w_ifT)
  | (with_reducible apply Lg.w_ifF)
  | (with_reducible apply Lg.w_add)
  | (with_reducible apply Lg.w_sub2)
  | ((with_reducible show rTimes (V.int _) (V.int _) _ _); (with_reducible refine Lg.w_mulR (by omega) ?_))
  | ((with_reducible show rTimes (V.int _) (V.int _) _ _); (with_reducible refine Lg.w_mulL (by omega) ?_))
  | ((with_reducible show rMod (V.int _) (V.int _) _ _); (with_reducible refine Lg.w_mod (by first | decide | omega) ?_))
  | ((with_reducible show rFdiv (V.int _) (V.int _) _ _); (with_reducible refine Lg.w_fdiv (by first | decide | omega) ?_))
  | (with_reducible apply Lg.w_band)
  | (with_reducible apply Lg.w_lt)
  | (with_reducible apply Lg.w_le)
  | (with_reducible apply Lg.w_gt)
  | (with_reducible apply Lg.w_ge)
  | (with_reducible apply Lg.w_eqI)
  | (with_reducible apply Lg.w_neI)
  | (with_reducible apply Lg.w_intI2)
  | (with_reducible apply Lg.w_neg)
  | (with_reducible apply Lg.w_inSS)
  | (with_reducible apply Lg.w_ninSS)
  | (with_reducible apply Lg.w_inSS')
  | (with_reducible apply Lg.w_neSS)
  | (with_reducible apply Lg.w_strS)
  | (with_reducible apply Lg.w_fldE)
  | (with_reducible apply Lg.w_sfldE)
  | (with_reducible apply Lg.w_makeE)
  | (with_reducible apply Lg.w_methE)
  | (with_reducible apply Lg.w_methSE)
  | (with_reducible apply Lg.w_callS)
  | (with_reducible apply Lg.w_raiseO)
  | (with_reducible apply Lg.w_raiseB)
  | (with_reducible apply Lg.w_try)
  | (with_reducible apply Lg.w_strS)
  | (with_reducible apply Lg.w_eqSS)
  | (with_reducible apply Lg.w_eqS)
  | (with_reducible apply Lg.w_neS)
  | (with_reducible apply Lg.w_isN)
  | (with_reducible apply Lg.w_isR)
  | (with_reducible apply Lg.w_isI)
  | (with_reducible apply Lg.w_isS)
  | (with_reducible apply Lg.w_nsN)
  | (with_reducible apply Lg.w_nsR)
  | (with_reducible apply Lg.w_nsI)
  | (with_reducible apply Lg.w_nsS)
  | (with_reducible apply Lg.w_int)
  | (with_reducible apply Lg.w_intb)
  | (with_reducible apply Lg.w_ord1)
  | (with_reducible apply Lg.w_tyS)
  | (with_reducible apply Lg.w_inSg)
  | (with_reducible apply Lg.w_ninSg)
  | ((with_reducible show NewL _ _ _); (with_reducible refine Lg.w_newL (by assumption) (by walk_at "isall") (by simp) ?_); (intro p' H' hS'))
  | ((with_reducible show NewT _ _ _); (with_reducible refine Lg.w_newT (by assumption) (by walk_at "isall") (by simp) ?_); (intro p' H' hS'))
  | ((with_reducible show TyThen _ _ (V.ref _) _ _); (with_reducible refine Lg.w_tyL (by assumption) (by walk_at "lsin") ?_))
  | ((with_reducible show rLenX _ [V.ref _] _ _); (with_reducible refine Lg.w_lenL (by assumption) (by walk_at "lsin") ?_))
  | ((with_reducible show rLenX _ [V.ref _] _ _); (with_reducible refine Lg.w_lenT (by assumption) (by walk_at "is") ?_))
  | ((with_reducible show spDraw _ _ _ _ _); (with_reducible refine Lg.w_draw (by assumption) (by walk_at "mem") (by first | decide | omega) ?_); (intro k' H' hk0' hk1' hS'))
  | ((with_reducible show rSlX _ (V.ref _) _ _ _ _); (with_reducible refine Lg.w_slL (by assumption) (by walk_at "lsin") ?_); (intro p' H' hS'))
  | ((with_reducible show rListOf _ [V.ref _] _ _); (with_reducible refine Lg.w_listL (by assumption) (by walk_at "lsin") ?_); (intro p' H' hS'))
  | (with_reducible apply Lg.w_for)
  | (with_reducible apply Lg.w_lc)
  | ((with_reducible show iAny _ (tVar _) _ _ _); (with_reducible refine Lg.w_anyVar (by walk_at "gt") ?_))
  | (with_reducible apply Lg.w_anyC)
  | (with_reducible apply Lg.w_vS)
  | (with_reducible apply Lg.w_itS)
  | ((with_reducible show AnyV _ (V.ref _) _ _); (with_reducible refine Lg.w_vL (by assumption) (by walk_at "lsin") ?_))
  | ((with_reducible show AnyL _ (V.ref _) _ _); (with_reducible refine Lg.w_itL (by assumption) (by walk_at "lsin") ?_))
  | ((with_reducible show AnyV _ (V.ref _) _ _); (with_reducible refine Lg.w_vT (by assumption) (by walk_at "is") ?_))
  | ((with_reducible show AnyT _ (V.ref _) _ _); (with_reducible refine Lg.w_itT (by assumption) (by walk_at "is") ?_))
  | ((with_reducible show Enu _ [V.ref _] _ _); (with_reducible refine Lg.w_itE (by assumption) (by walk_at "lsin") ?_))
  | ((with_reducible show rPlus _ (V.ref _) (V.ref _) _ _); (with_reducible refine Lg.w_plusL (by assumption) (by walk_at "lsin") (by walk_at "lsin") (by walk_at "ar") ?_); (intro p' H' hS'))
  | ((with_reducible show rTimes (V.ref _) (V.int _) _ _); (with_reducible refine Lg.w_repLs (by assumption) (by walk_at "lsin") (by walk_at "ar") (by walk_at "ar") (by walk_at "ar") ?_); (intro p' H' hS'))
  | ((with_reducible show rLenX _ [V.str (S _)] _ _); (with_reducible refine Lg.w_lenSS (by walk_at "ar") ?_))
  | ((with_reducible show rLenX _ [V.str _] _ _); (with_reducible refine Lg.w_lenS (by walk_at "ar") ?_))
  | ((with_reducible show rSlX _ (V.str _) _ _ _ _); (with_reducible refine Lg.w_slS (by walk_at "ar") ?_))
  | (with_reducible apply Lg.w_rng1)
  | (with_reducible apply Lg.w_rng2)
  | (with_reducible apply Lg.w_rng3)
  | (with_reducible apply Lg.w_enum)
  | ((with_reducible show Rng1 _ _ _); (with_reducible refine Lg.w_itR1 (by omega) ?_))
  | ((with_reducible show Rng2 _ _ _); (with_reducible refine Lg.w_itR2 (by omega) (by omega) ?_))
  | ((with_reducible show rIx _ (V.ref _) (V.int _) _ _); (with_reducible refine Lg.w_ixN (by assumption) (by walk_at "lsin") (by walk_at "ar") (by walk_at "ar") ?_))
  | ((with_reducible show rPlus _ (V.str (S _)) (V.str (S _)) _ _); (with_reducible refine Lg.w_addSS (by walk_at "ar") ?_))
  | ((with_reducible show rTimes (V.str (S _)) (V.int _) _ _); (with_reducible refine Lg.w_repSS (by walk_at "ar") (by walk_at "ar") (by walk_at "ar") ?_))
  | ((with_reducible show rIsi _ [V.ref _, V.ty "list"] _ _); (with_reducible refine Lg.w_isLL (by assumption) (by walk_at "lsin") ?_))
  | ((with_reducible show rIsi _ [V.ref _, V.ty "tuple"] _ _); (with_reducible refine Lg.w_isTT (by assumption) (by walk_at "is") ?_))
  | (with_reducible apply Lg.w_isII)
  | (with_reducible apply Lg.w_isSI)
  | (with_reducible apply Lg.w_isSS)
  | (with_reducible apply Lg.w_isIS)
  | (with_reducible apply Lg.w_ifexp)
  | (with_reducible apply Lg.w_chain)
  | ((with_reducible show ChainK _ _ _ _ _ _ _); (with_reducible refine Lg.w_chainLe (by (intro R' hR'; walk_at "w"; exact hR')) ?_))
  | ((with_reducible show ChainK _ _ _ _ _ _ _); (with_reducible refine Lg.w_chainLt (by (intro R' hR'; walk_at "w"; exact hR')) ?_))
  | ((with_reducible show tAnd _ _ _ _ _); (with_reducible refine Lg.w_andP (by (intro R' hR'; walk_at "w"; exact hR')) (by (intro hb' R' hR'; walk_at "w"; exact hR')) ?_))
  | ((with_reducible show tOr _ _ _ _ _); (with_reducible refine Lg.w_orP (by (intro R' hR'; walk_at "w"; exact hR')) (by (intro hb' R' hR'; walk_at "w"; exact hR')) ?_))
  | ((with_reducible show tAndV _ _ _ _ _); (with_reducible refine Lg.w_andVP (by (intro R' hR'; walk_at "w"; exact hR')) (by (intro hb' R' hR'; walk_at "w"; exact hR')) ?_))
  | ((with_reducible show tOrV _ _ _ _ _); (with_reducible refine Lg.w_orVP (by (intro R' hR'; walk_at "w"; exact hR')) (by (intro hb' R' hR'; walk_at "w"; exact hR')) ?_))
  | (with_reducible apply Lg.w_notV))
local macro_rules | `(tactic| walk_at "w") => `(tactic| repeat (walk_at "w1"))
local macro_rules | `(tactic| walk_at "z") => `(tactic| simp only [z_0, z_1, z_2, z_3, z_4, z_5, z_6, z_7, z_8, z_9, z_10, z_11, z_12, z_13, z_14, z_15, z_16, z_17, z_18, z_19, z_20, z_21, z_22, z_23, z_24, z_25, z_26, z_27, z_28, z_29, z_30, z_31, z_32, z_33, z_34, z_35, z_36, z_37])
/-! ### the laws of logs: their own defs -/
section
variable {K : PySem.W.Frag}
def spPieces (K : PySem.W.Frag) : Sp := fun vs H Q _ => ∃ (L : List Ent) (num : Int) (l : List Nat), vs = [.int num, .str (S l)] ∧ St K L H ∧ l.length ≤ 720 ∧ 0 ≤ num ∧
  ∀ p H', St K (Lg.ls K p (enc num l) :: L) H' → Q (.ref p) H'
theorem p_pieces (vs : List V) (H : Hp) (Q : VK) (E : XK) (h : spPieces K vs H Q E) : vs.length = 2 ∧ t_l_pieces K { nx := fun _ H' => Q .non H', rt := Q } (start N_l_pieces vs) H := by
  obtain ⟨L, num, l, rfl, hS, hl, hnum, hQ⟩ := h
  refine ⟨rfl, ?_⟩
  unfold t_l_pieces
  show tSeq _ _ _ [some (.int num), some (.str (S l)), none, none, none, none, none, none] H
  walk_at "w"
  rename_i p H1 hS1
  have hm : ((l.length : Int) + 23) / 24 = (many l : Int) := by unfold many; omega
  have hmb : many l ≤ 30 := by unfold many; omega
  rw [hm]
  walk_at "w"
  refine w_forR (fun i σ H' => (∃ v4 v5 v6 v7, σ = [some (.int num), some (.str (S l)), some (.ref p), some (.int (many l)), v4, v5, v6, v7]) ∧
    St K (Lg.ls K p ((List.range i).map fun (k : Nat) => .list (intsD (piece (k : Int) (many l) num (chunk l k)))) :: L) H') ⟨⟨_, _, _, _, rfl⟩, hS1⟩ ?_ ?_
  · rintro i σ H2 hi ⟨⟨v4, v5, v6, v7, rfl⟩, hS2⟩
    have hi' : i < many l := by simpa using hi
    have hcl : (chunk l i).length ≤ 24 := by unfold chunk; simp; omega
    walk_at "w"
    rw [cutS_nn (a := 24 * i) (b := 24 * i + 24) (by omega) (by omega), show 24 * i + 24 - 24 * i = 24 by omega]
    rw [show List.take 24 (List.drop (24 * i) l) = chunk l i from rfl]
    walk_at "w"
    rename_i p3 H3 hS3
    refine w_forS (fun j σ H' => (∃ v7, σ = [some (.int num), some (.str (S l)), some (.ref p), some (.int (many l)), some (.int (0 + i)), some (.str (S (chunk l i))), some (.ref p3), v7]) ∧
      St K (Lg.ls K p3 (intsD ([83, 0 + (i : Int), (many l : Int), num / 256, num % 256, ((chunk l i).length : Int)] ++ codes ((chunk l i).take j))) :: Lg.ls K p ((List.range i).map fun (k : Nat) => .list (intsD (piece (k : Int) (many l) num (chunk l k)))) :: L) H')
      ⟨⟨_, rfl⟩, hS3⟩ ?_ ?_
    · rintro j c σ H4 hc ⟨⟨v7, rfl⟩, hS4⟩
      have hc' : (chunk l i)[j]? = some c := hc
      have hj : j < (chunk l i).length := (List.getElem?_eq_some_iff.mp hc').1
      walk_at "w"
      refine w_app hS4 .here (d := .int c) .int (by simp; omega) fun H5 hS5 => ?_
      walk_at "w"
      refine ⟨⟨_, rfl⟩, ?_⟩
      have e : (chunk l i).take (j + 1) = (chunk l i).take j ++ [c] := by rw [List.take_add_one, hc']; rfl
      rw [e]
      simpa [codes] using hS5
    · rintro σ H4 ⟨⟨v7, rfl⟩, hS4⟩
      rw [S_tl, List.take_length] at hS4
      walk_at "w"
      rename_i p5 H5 hS5 p6 H6 hS6 p7 H7 hS7 p8 H8 hS8 p9 H9 hS9
      have hS10 := (hS9.to (L' := Lg.ls K p9 _ :: Lg.ls K p _ :: L) (by walk_at "pick")).freeze
      refine w_app hS10 (.there .here) (by walk_at "is") (by simp; omega) fun H11 hS11 => ?_
      walk_at "w"
      refine ⟨⟨_, _, _, _, rfl⟩, ?_⟩
      have h12 := hS11.tail
      have e : (31 - (1 + (1 + (1 + (1 + (1 + (((chunk l i).length : Int) + 1))))))).toNat = 25 - (chunk l i).length := by omega
      rw [List.range_succ, List.map_append]
      simpa [piece, e, repD_one, codes, Function.comp_def, Int.add_comm] using h12
  · rintro σ H2 ⟨⟨v4, v5, v6, v7, rfl⟩, hS2⟩
    walk_at "w"
    refine hQ p H2 ?_
    simpa [enc] using hS2
def spUsed (K : PySem.W.Frag) : Sp := fun vs H Q _ => ∃ (L : List Ent) (a : Addr) (rs : List Rec), vs = [.ref a] ∧ St K L H ∧ LsIn K L a (rs.map Rec.d) ∧ (∀ r ∈ rs, Wr r) ∧ rs.length ≤ 1000 ∧ ∀ H', St K L H' → Q (.int ((blk 0 rs).length : Nat)) H'
theorem p_used (vs : List V) (H : Hp) (Q : VK) (E : XK) (h : spUsed K vs H Q E) : vs.length = 1 ∧ t_l_used_blocks K (spPieces K) (spWriteR K) { nx := fun _ H' => Q .non H', rt := Q } (start N_l_used_blocks vs) H := by
  obtain ⟨L, a, rs, rfl, hS, hl, hw, hn, hQ⟩ := h
  refine ⟨rfl, ?_⟩
  unfold t_l_used_blocks
  show tRet _ _ [some (.ref a), none] H
  walk_at "w"
  refine w_lcL (R := fun i e => ∃ r, rs[i]? = some r ∧ e = .int (many r.t : Nat)) hS hl (by rw [List.length_map]; omega) ?_ ?_
  · intro i d q es v H1 hd hlen hS1 Z hZ
    obtain ⟨r, hr, rfl⟩ := Di.map_at hd
    have hwr := hw r (List.mem_of_getElem? hr)
    have ht1 := hwr.t1
    obtain ⟨aa, rfl⟩ := rec_at hS1
    show gName 1 _ [some (.ref a), none] _ _
    walk_at "w"
    refine ⟨rfl, ?_⟩
    walk_at "w"
    refine ⟨_, aa, r, rfl, hS1, .dat (.head _), hwr.few, by omega, fun H2 hS2 => ?_⟩
    walk_at "w"
    refine ⟨_, 0, r.t, rfl, hS2, ht1, Int.le_refl _, fun p H3 hS3 => ?_⟩
    walk_at "w"
    have e1 : (enc 0 r.t).length = many r.t := by unfold enc; simp
    rw [e1]
    exact hZ _ (.int (many r.t : Nat)) _ ⟨r, hr, rfl⟩ ((hS3.learn .int).to (by walk_at "pick"))
  intro q es H1 hlen hes hS1
  have e : es = (rs.map fun r => ((many r.t : Nat) : Int)).map PyData.int := by
    rw [List.length_map] at hlen
    apply List.ext_getElem?
    intro i
    by_cases hi : i < rs.length
    · obtain ⟨r, hr, he⟩ := hes i es[i] (by simp [show i < es.length by omega])
      have : es[i]? = some es[i] := by simp [show i < es.length by omega]
      rw [this, he]
      simp [hr]
    · simp [show es.length ≤ i by omega, show rs.length ≤ i by omega]
  subst e
  walk_at "w"
  refine w_sum hS1 (.own (.head _)) ?_
  have e2 : (rs.map fun r => ((many r.t : Nat) : Int)).sum = ((blk 0 rs).length : Nat) := by
    rw [blk_sum]
    clear hS1 hes hlen hQ hl hw hn hS
    induction rs with
    | nil => rfl
    | cons r rs ih =>
      simp only [List.map_cons, List.sum_cons]
      rw [ih]
      omega
  rw [e2]
  exact hQ H1 hS1.tail
def spSome (K : PySem.W.Frag) : Sp := fun vs H Q _ => ∃ (L : List Ent) (b : Addr), vs = [.ref b] ∧ St K L H ∧ bx K b ∈ L ∧ ∀ (v : Va) H', Va.w v → St K L H' → Q v.v H'
theorem p_some (vs : List V) (H : Hp) (Q : VK) (E : XK) (h : spSome K vs H Q E) : vs.length = 1 ∧ t_l_some_value K (spDraw K) { nx := fun _ H' => Q .non H', rt := Q } (start N_l_some_value vs) H := by
  obtain ⟨L, b, rfl, hS, hb, hQ⟩ := h
  refine ⟨rfl, ?_⟩
  unfold t_l_some_value
  walk_at "z"
  show tRet _ _ [some (.ref b)] H
  walk_at "w"
  rename_i k1 H1 k10 k11 hS1 q H2 hS2 k2 H3 k20 k21 hS3
  refine w_ixLD (P := fun d => ∃ v, Va.w v ∧ d = Va.d v) hS3 (by walk_at "lsin") k20 (by simp; omega) (fun d hd => ?_) (fun v d hd hS4 => ?_)
  · simp only [List.mem_cons, List.mem_nil_iff, or_false] at hd
    obtain ⟨m, rfl⟩ := Int.eq_ofNat_of_zero_le k10
    rcases hd with rfl | rfl | rfl | rfl | rfl | rfl | rfl | rfl | rfl
    · exact ⟨.i 0, va8_w _ (by decide), rfl⟩
    · exact ⟨.i (-5), va8_w _ (by decide), rfl⟩
    · exact ⟨.i 99999, va8_w _ (by decide), rfl⟩
    · exact ⟨.i (-99999), va8_w _ (by decide), rfl⟩
    · exact ⟨.s [], va8_w _ (by decide), rfl⟩
    · exact ⟨.s [115], va8_w _ (by decide), rfl⟩
    · exact ⟨.s [120, 32, 121], va8_w _ (by decide), rfl⟩
    · exact ⟨.s (List.replicate 20 120), va8_w _ (by decide), rfl⟩
    · exact ⟨.i m, va_nat (by omega), rfl⟩
  · obtain ⟨w, hw, rfl⟩ := hd
    obtain rfl := va_of hS4
    exact hQ w H3 hw (hS4.to (by walk_at "pick"))
theorem tx9_len : ∀ t ∈ tx9, t.length ≤ 100 := by decide
def spSmall (K : PySem.W.Frag) : Sp := fun vs H Q _ => ∃ (L : List Ent) (b : Addr), vs = [.ref b] ∧ St K L H ∧ bx K b ∈ L ∧ ∀ (t : List Nat) H', t ∈ tx9 → St K L H' → Q (.str (S (nl t))) H'
theorem p_small (vs : List V) (H : Hp) (Q : VK) (E : XK) (h : spSmall K vs H Q E) : vs.length = 1 ∧ t_l_small_text K (spDraw K) { nx := fun _ H' => Q .non H', rt := Q } (start N_l_small_text vs) H := by
  obtain ⟨L, b, rfl, hS, hb, hQ⟩ := h
  refine ⟨rfl, ?_⟩
  unfold t_l_small_text
  walk_at "z"
  show tRet _ _ [some (.ref b)] H
  walk_at "w"
  refine w_repl0 ?_
  walk_at "w"
  rename_i q H2 hS2 k2 H3 k20 k21 hS3
  refine w_ixLSP (P := fun m => m ∈ tx9) hS3 (by walk_at "lsin") k20 (by simp; omega) (fun d hd => ?_) (fun t ht => ?_)
  · simp only [List.mem_cons, List.mem_nil_iff, or_false] at hd
    rcases hd with rfl | rfl | rfl | rfl | rfl | rfl | rfl | rfl | rfl <;> exact ⟨_, rfl, by decide⟩
  · have ht' := tx9_len t ht
    refine ⟨S t, rfl, by rw [S_len]; show t.length + (t.length + 1) * 1 ≤ _; omega, ?_⟩
    rw [zbar, repl_is]
    exact hQ t H3 ht hS3.tail
def spEntries (K : PySem.W.Frag) : Sp := fun vs H Q _ => ∃ (L : List Ent) (b : Addr), vs = [.ref b] ∧ St K L H ∧ bx K b ∈ L ∧ ∀ (ns : List (List Nat)) p H', ns ∈ ent3 → St K (Lg.dat (.ref p) (.tuple (ns.map sD)) :: L) H' → Q (.ref p) H'
theorem p_entries (vs : List V) (H : Hp) (Q : VK) (E : XK) (h : spEntries K vs H Q E) : vs.length = 1 ∧ t_l_entries K (spDraw K) { nx := fun _ H' => Q .non H', rt := Q } (start N_l_entries vs) H := by
  obtain ⟨L, b, rfl, hS, hb, hQ⟩ := h
  refine ⟨rfl, ?_⟩
  unfold t_l_entries
  walk_at "z"
  show tRet _ _ [some (.ref b)] H
  walk_at "w"
  rename_i t1 H1 hS1 t2 H2 hS2 t3 H3 hS3 q H4 hS4 k2 H5 k20 k21 hS5
  refine w_ixLD (P := fun d => ∃ ns ∈ ent3, d = .tuple (ns.map sD)) hS5 (by walk_at "lsin") k20 (by simp; omega) (fun d hd => ?_) (fun v d hd hS6 => ?_)
  · simp only [List.mem_cons, List.mem_nil_iff, or_false] at hd
    rcases hd with rfl | rfl | rfl
    · exact ⟨[[97]], by decide, rfl⟩
    · exact ⟨[[97], [98]], by decide, rfl⟩
    · exact ⟨[[98], [97], [99]], by decide, rfl⟩
  · obtain ⟨ns, hns, rfl⟩ := hd
    obtain ⟨p, rfl⟩ := St.tup_of hS6
    exact hQ ns p H5 hns (hS6.to (by walk_at "pick"))
/-- whether this is a call of that holder, by the data -/
def isCalD (h : Nat) : PyData → Bool
  | .tuple (.str t :: .int h' :: _) => decide (t = S zcall) && decide (h' = (h : Int))
  | _ => false
theorem isCalD_is {h : Nat} (r : Rec) : isCalD h r.d = isCal h r := by
  cases r with
  | ent ns => rfl
  | txt m t => rfl
  | rem m => rfl
  | upd n =>
    show (decide (S zupd = S zcall) && decide ((n : Int) = (h : Int))) = false
    rw [decide_eq_false (fun z => absurd (S_inj z) (by decide))]
    rfl
  | cal h' k m f vs =>
    show (decide (S zcall = S zcall) && decide ((h' : Int) = (h : Int))) = decide (h' = h)
    rw [decide_eq_true rfl, Bool.true_and]
    exact decide_eq_decide.mpr (by omega)
theorem calls_data {h : Nat} {rs : List Rec} : ((rs.map Rec.d).filter (isCalD h)).length = calls h rs := by
  have e : isCalD h ∘ Rec.d = isCal h := by funext r; exact isCalD_is r
  rw [List.filter_map, e, List.length_map]
  rfl
def spRows (K : PySem.W.Frag) : Sp := fun vs H Q _ => ∃ (L : List Ent) (b rq : Addr) (rs : List Rec), vs = [.ref b, .ref rq] ∧ St K L H ∧ bx K b ∈ L ∧ LsIn K L rq (rs.map Rec.d) ∧ rs.length ≤ 1000 ∧
  ∀ p ss H', Rows rs ss → St K (Lg.ls K p (ss.map Rec.d) :: L) H' → Q (.ref p) H'
theorem p_rows (vs : List V) (H : Hp) (Q : VK) (E : XK) (h : spRows K vs H Q E) : vs.length = 2 ∧ t_l_some_rows K (spSmall K) (spDraw K) (spSome K) { nx := fun _ H' => Q .non H', rt := Q } (start N_l_some_rows vs) H := by
  obtain ⟨L, b, rq, rs, rfl, hS, hb, hl, hn, hQ⟩ := h
  refine ⟨rfl, ?_⟩
  unfold t_l_some_rows
  walk_at "z"
  show tSeq _ _ _ [some (.ref b), some (.ref rq), none, none, none, none, none, none, none, none, none] H
  walk_at "w"
  rename_i kk H1 kk0 kk1 hS1
  refine w_ifd (fun h1 => ?_) (fun h1 => ?_)
  · walk_at "w"
    rename_i hh H2 hh0 hh1 hS2
    obtain ⟨ho, rfl⟩ := Int.eq_ofNat_of_zero_le hh0
    refine w_lcFD (isCalD ho) hS2 hl (by rw [List.length_map]; omega) (fun v d H3 L3 Z1 Z2 hd hS3 hZ1 hZ2 => ?_) (fun q H3 hS3 => ?_)
    · obtain ⟨r, hr, rfl⟩ := List.mem_map.mp hd
      obtain ⟨aa, rfl⟩ := rec_at hS3
      rw [isCalD_is] at hZ1 hZ2
      show gName 9 _ [some (.ref b), some (.ref rq), some (.int kk), some (.int ho), none, none, none, none, none, none, none] _ _
      walk_at "w"
      refine ⟨rfl, ?_⟩
      refine w_and ?_
      walk_at "w"
      have hS4 := hS3
      rw [rec_is] at hS4
      refine w_ixTs (k := 0) hS4 (.dat (.head _)) rfl rfl ?_
      walk_at "w"
      cases r with
      | cal h' k m f us =>
        refine w_ifp rfl ?_
        walk_at "w"
        refine w_ixTi (k := 1) hS4 (.dat (.head _)) rfl rfl ?_
        walk_at "w"
        refine w_ifd (fun h2 => ?_) (fun h2 => ?_)
        · walk_at "w"
          exact hZ1 (decide_eq_true (by omega))
        · exact hZ2 (decide_eq_false (by omega))
      | ent ns =>
        refine w_ifq (show ¬ zent = zcall by decide) ?_
        exact w_ifF (hZ2 rfl)
      | txt m t =>
        refine w_ifq (show ¬ ztext = zcall by decide) ?_
        exact w_ifF (hZ2 rfl)
      | rem m =>
        refine w_ifq (show ¬ zrem = zcall by decide) ?_
        exact w_ifF (hZ2 rfl)
      | upd n =>
        refine w_ifq (show ¬ zupd = zcall by decide) ?_
        exact w_ifF (hZ2 rfl)
    walk_at "w"
    rw [calls_data]
    have hS4 := hS3.tail
    clear hS3
    walk_at "w"
    rename_i k4 H4 k40 k41 hS5
    refine w_lcR (R := fun _ e => ∃ v, Va.w v ∧ e = Va.d v) hS5 (by omega) ?_ ?_
    · intro i q1 es H5 hi hlen hS6 Z hZ
      show gName 10 _ [some (.ref b), some (.ref rq), some (.int kk), some (.int ho), some (.int (calls ho rs : Nat)), none, none, none, none, none, none] _ _
      walk_at "w"
      refine ⟨rfl, ?_⟩
      walk_at "w"
      refine ⟨_, b, rfl, hS6, by walk_at "mem", fun v H6 hv hS7 => ?_⟩
      exact hZ _ v.d _ ⟨v, hv, rfl⟩ (hS7.learn va_is)
    intro q1 es H5 hlen hes hS6
    obtain ⟨us, rfl, hus⟩ : ∃ us : List Va, es = us.map Va.d ∧ ∀ v ∈ us, Va.w v := by
      clear hS6 hlen
      induction es with
      | nil => exact ⟨[], rfl, fun v hv => by cases hv⟩
      | cons e es ih =>
        obtain ⟨v, hv, rfl⟩ := hes 0 e rfl
        obtain ⟨us, rfl, hus⟩ := ih fun i e he => hes (i + 1) e (by simpa using he)
        refine ⟨v :: us, rfl, fun x hx => ?_⟩
        rcases List.mem_cons.mp hx with rfl | hx
        · exact hv
        · exact hus x hx
    rw [List.length_map] at hlen
    walk_at "w"
    refine w_tupL hS6 (.own (.head _)) fun q2 H6 hS7 => ?_
    have hS8 := hS7.to (L' := Lg.dat (.ref q2) (.tuple (us.map Va.d)) :: L) (by walk_at "pick")
    clear hS1 hS2 hS4 hS5 hS6 hS7
    walk_at "w"
    rename_i q3 H7 hS9 k5 H8 k50 k51 hS10
    refine w_ixLSP (P := fun m => m ∈ nm3) hS10 (by walk_at "lsin") k50 (by simp; omega) (fun d hd => ?_) (fun m hm => ?_)
    · simp only [List.mem_cons, List.mem_nil_iff, or_false] at hd
      rcases hd with rfl | rfl | rfl <;> exact ⟨_, rfl, by decide⟩
    clear hS8 hS9
    walk_at "w"
    rename_i q4 H9 hS11 k6 H10 k60 k61 hS12
    refine w_ixLSP (P := fun m => m ∈ fn4) hS12 (by walk_at "lsin") k60 (by simp; omega) (fun d hd => ?_) (fun f hf => ?_)
    · simp only [List.mem_cons, List.mem_nil_iff, or_false] at hd
      rcases hd with rfl | rfl | rfl | rfl <;> exact ⟨_, rfl, by decide⟩
    clear hS10 hS11
    walk_at "w"
    rename_i q5 H11 hS13 q6 H12 hS14
    refine hQ q6 [.cal ho (calls ho rs) m f us] H12 (rows_call (by omega) (by omega) (nm3_ok m hm) (fn4_ok f hf) (by omega) hus) ?_
    exact hS14.to (by walk_at "pick")
  walk_at "w"
  rename_i q0 H2 hS2
  refine w_anyL1 ?_
  walk_at "w"
  rename_i q1 H3 hS3
  have hS4 := hS3.to (L' := Lg.ls K q0 [] :: Lg.ls K q1 (nm4.map sD) :: L) (by walk_at "pick")
  clear hS1 hS2 hS3
  refine w_forL (ds := nm4.map sD) (fun i σ H' => ∃ (ss : List Rec) (ms : List (List Nat)) (v7 v8 : Option V), σ = [some (.ref b), some (.ref rq), some (.int kk), none, none, none, some (.ref q0), v7, v8, none, none] ∧ St K (Lg.ls K q0 (ss.map Rec.d) :: Lg.ls K q1 (nm4.map sD) :: L) H' ∧ ss.map modN = ms.map some ∧ ms.Sublist (nm4.take i) ∧ (∀ r ∈ ss, Rec.w r) ∧ ∀ r ∈ ss, Rec.sm r) ⟨[], [], _, _, rfl, hS4, rfl, List.Sublist.refl _, fun r hr => (by cases hr), fun r hr => (by cases hr)⟩ (fun i σ H' _ hI => ?_) (fun i d v σ H' hd hI hlrn => ?_) (fun σ H' hI => ?_)
  · obtain ⟨ss, ms, v7, v8, rfl, hS5, _⟩ := hI
    exact ⟨_, hS5, by walk_at "lsin"⟩
  · obtain ⟨ss, ms, v7, v8, rfl, hS5, hm1, hm2, hw, hsm⟩ := hI
    obtain ⟨nm, hnm, rfl⟩ := sD_at hd
    have hnm' := nm4_ok nm (List.mem_of_getElem? hnm)
    have hS6 := (hlrn _ hS5 (by walk_at "lsin")).str_of
    subst hS6
    clear hlrn hS4
    have hsl : ss.length ≤ 4 := by
      have e1 := congrArg List.length hm1
      rw [List.length_map, List.length_map] at e1
      have e2 := hm2.length_le
      rw [List.length_take] at e2
      have e3 : nm4.length = 4 := rfl
      omega
    have more : ∀ (r : Rec) H', modN r = some nm → Rec.w r → Rec.sm r → St K (Lg.ls K q0 (ss.map Rec.d ++ [r.d]) :: Lg.ls K q1 (nm4.map sD) :: L) H' → ∀ v8 : Option V, ∃ (ss : List Rec) (ms : List (List Nat)) (v7 v8' : Option V), [some (.ref b), some (.ref rq), some (.int kk), none, none, none, some (.ref q0), some (.str (S nm)), v8, none, none] = [some (.ref b), some (.ref rq), some (.int kk), none, none, none, some (.ref q0), v7, v8', none, none] ∧ St K (Lg.ls K q0 (ss.map Rec.d) :: Lg.ls K q1 (nm4.map sD) :: L) H' ∧ ss.map modN = ms.map some ∧ ms.Sublist (nm4.take (i + 1)) ∧ (∀ r ∈ ss, Rec.w r) ∧ ∀ r ∈ ss, Rec.sm r := by
      intro r H' hr hrw hrs hS' v8
      refine ⟨ss ++ [r], ms ++ [nm], _, _, rfl, by rw [List.map_append]; exact hS', by rw [List.map_append, List.map_append, hm1, List.map_singleton, List.map_singleton, hr], ?_, fun x hx => ?_, fun x hx => ?_⟩
      · rw [Di.take_succ' hnm]
        exact hm2.append (List.Sublist.refl _)
      · rcases List.mem_append.mp hx with hx | hx
        · exact hw x hx
        · rw [List.mem_singleton] at hx
          subst hx
          exact hrw
      · rcases List.mem_append.mp hx with hx | hx
        · exact hsm x hx
        · rw [List.mem_singleton] at hx
          subst hx
          exact hrs
    have same : ∀ H', St K (Lg.ls K q0 (ss.map Rec.d) :: Lg.ls K q1 (nm4.map sD) :: L) H' → ∀ v8 : Option V, ∃ (ss : List Rec) (ms : List (List Nat)) (v7 v8' : Option V), [some (.ref b), some (.ref rq), some (.int kk), none, none, none, some (.ref q0), some (.str (S nm)), v8, none, none] = [some (.ref b), some (.ref rq), some (.int kk), none, none, none, some (.ref q0), v7, v8', none, none] ∧ St K (Lg.ls K q0 (ss.map Rec.d) :: Lg.ls K q1 (nm4.map sD) :: L) H' ∧ ss.map modN = ms.map some ∧ ms.Sublist (nm4.take (i + 1)) ∧ (∀ r ∈ ss, Rec.w r) ∧ ∀ r ∈ ss, Rec.sm r := by
      intro H' hS' v8
      refine ⟨ss, ms, _, _, rfl, hS', hm1, ?_, hw, hsm⟩
      rw [Di.take_succ' hnm]
      exact hm2.trans (List.sublist_append_left _ _)
    walk_at "w"
    rename_i k7 H6 k70 k71 hS7
    refine w_ifd (fun h2 => ?_) (fun h2 => ?_)
    · walk_at "w"
      rename_i t1 H7 hS8
      refine w_app hS8 (L' := _) (d := (Rec.rem nm).d) (by walk_at "put") (.dat (.head _)) (by rw [List.length_map]; omega) fun H8 hS9 => ?_
      exact more (.rem nm) H8 rfl hnm' trivial (hS9.to (by walk_at "pick")) _
    walk_at "w"
    refine w_ifd (fun h3 => ?_) (fun h3 => ?_)
    · walk_at "w"
      refine ⟨_, b, rfl, hS7, by walk_at "mem", fun t H7 ht hS8 => ?_⟩
      obtain ⟨t1, t2, t3⟩ := tx9_ok t ht
      walk_at "w"
      rename_i tq H8 hS9
      refine w_app hS9 (L' := _) (d := (Rec.txt nm (nl t)).d) (by walk_at "put") (.dat (.head _)) (by rw [List.length_map]; omega) fun H9 hS10 => ?_
      exact more (.txt nm (nl t)) H9 rfl ⟨hnm', t1, by omega, t3⟩ t2 (hS10.to (by walk_at "pick")) _
    walk_at "w"
    exact same H6 (hS7.to (by walk_at "pick")) _
  · obtain ⟨ss, ms, v7, v8, rfl, hS5, hm1, hm2, hw, hsm⟩ := hI
    rw [List.length_map] at hm2
    have hms : ms.Nodup := hm2.nodup (by exact nm4_nd)
    have hml : ms.length ≤ 4 := hm2.length_le
    have hsl : ss.length = ms.length := by
      have e1 := congrArg List.length hm1
      simpa using e1
    walk_at "w"
    rename_i t1 H9 hS9 t2 H10 hS10 t3 H11 hS11
    refine hQ t3 (ss ++ [.upd ss.length]) H11 (rows_upd hm1 hms hml hw hsm) ?_
    have e1 : (ss ++ [Rec.upd ss.length]).map Rec.d = ss.map Rec.d ++ [.tuple [sD zupd, .int ((ss.map Rec.d).length : Nat)]] := by
      rw [List.map_append, List.length_map]
      rfl
    rw [e1]
    exact hS11.to (by walk_at "pick")
end
end K47

namespace K47
open PySem PySem.Spec PyProof.Rows L2 Lg PySem.NumText K45 Blk
local macro_rules | `(tactic| walk_at "ar") => `(tactic| first | omega | (simp; done) | (simp; omega) | (simp only [S_len]; omega) | (simp [Lg.repL_len]; done) | (simp [Lg.repL_len]; omega))
local macro_rules | `(tactic| walk_at "gt") => `(tactic| repeat (first | exact GetAt.here | apply GetAt.there))
local macro_rules | `(tactic| walk_at "st") => `(tactic| repeat (first | exact SetAt.here | apply SetAt.there))
local macro_rules | `(tactic| walk_at "mem") => `(tactic| first | assumption | exact List.mem_cons_self | (apply List.mem_cons_of_mem; walk_at "mem"))
local macro_rules | `(tactic| walk_at "put") => `(tactic| repeat (first | exact Put.here | apply Put.there))
local macro_rules | `(tactic| walk_at "rem") => `(tactic| repeat (first | exact Rem.here | apply Rem.there))
local macro_rules | `(tactic| walk_at "pick") => `(tactic| first | exact Pick.refl | exact Pick.cons (by walk_at "rem") (by walk_at "pick") | (apply Pick.drop; walk_at "pick") | exact Pick.nil)
local macro_rules | `(tactic| walk_at "is") => `(tactic| first | exact Is.int | exact Is.str | exact Is.bl | exact Is.non | assumption | exact Is.dat (by walk_at "mem") | (apply Is.cons; walk_at "is"))
local macro_rules | `(tactic| walk_at "isall") => `(tactic| first | exact IsAll.nil | exact IsAll.cons (by walk_at "is") (by walk_at "isall"))
local macro_rules | `(tactic| walk_at "lsin") => `(tactic| first | assumption | exact LsIn.own (by walk_at "mem") | exact LsIn.dat (by walk_at "mem") | (apply LsIn.cons; walk_at "lsin"))
local macro_rules | `(tactic| walk_at "see") => `(tactic| first | exact See.own (by walk_at "mem") | exact See.is (by walk_at "is"))
local macro_rules | `(tactic| walk_at "w1") => `(tactic| first
  | (with_reducible apply Lg.w_seq)
  | (with_reducible apply Lg.w_asg)
  | ((with_reducible show gName _ _ _ _ _); (with_reducible refine Lg.w_name (by walk_at "st") ?_))
  | ((with_reducible show tVar _ _ _ _); (with_reducible refine Lg.w_var (by walk_at "gt") ?_))
  | (with_reducible apply Lg.w_c)
  | (with_reducible apply Lg.w_op)
  | (with_reducible apply Lg.w_un)
  | (with_reducible apply Lg.w_nil)
  | (with_reducible apply Lg.w_cons)
  | (with_reducible apply Lg.w_call)
  | (with_reducible apply Lg.w_cb)
  | (with_reducible apply Lg.w_tup)
  | (with_reducible apply Lg.w_lst)
  | (with_reducible apply Lg.w_bm)
  | (with_reducible apply Lg.w_bm0)
  | (with_reducible apply Lg.w_sl)
  | (with_reducible apply Lg.w_nopart)
  | (with_reducible apply Lg.w_part)
  | (with_reducible apply Lg.w_isint)
  | (with_reducible apply Lg.w_test)
  | (with_reducible apply Lg.w_tB)
  | (with_reducible apply Lg.w_isbl')
  | (with_reducible apply Lg.w_not)
  | (with_reducible apply Lg.w_tru)
  | (with_reducible apply Lg.w_truI)
  | (with_reducible apply Lg.w_truB)
  | (with_reducible apply Lg.w_ifs)
  | (with_reducible apply Lg.w_next)
  | (with_reducible apply Lg.w_break)
  | (with_reducible apply Lg.w_cont)
  | (with_reducible apply Lg.w_ret)
  | (with_reducible apply Lg.w_retn)
  | (with_reducible apply Lg.w_drop)
  | (with_reducible apply Lg.w_sub)
  | (with_reducible apply Lg.w_gnil)
  | (with_reducible apply Lg.w_gcons)
  | (with_reducible apply Lg.w_ifT)
  | (with_reducible apply Lg.w_ifF)
  | (with_reducible apply Lg.w_add)
  | (with_reducible apply Lg.w_sub2)
  | ((with_reducible show rTimes (V.int _) (V.int _) _ _); (with_reducible refine Lg.w_mulR (by omega) ?_))
  | ((with_reducible show rTimes (V.int _) (V.int _) _ _); (with_reducible refine Lg.w_mulL (by omega) ?_))
  | ((with_reducible show rMod (V.int _) (V.int _) _ _); (with_reducible refine Lg.w_mod (by first | decide | omega) ?_))
  | ((with_reducible show rFdiv (V.int _) (V.int _) _ _); (with_reducible refine Lg.w_fdiv (by first | decide | omega) ?_))
  | (with_reducible apply Lg.w_band)
  | (with_reducible apply Lg.w_lt)
  | (with_reducible apply Lg.w_le)
  | (with_reducible apply Lg.w_gt)
  | (with_reducible apply Lg.w_ge)
  | (with_reducible apply Lg.w_eqI)
  | (with_reducible apply Lg.w_neI)
  | (with_reducible apply Lg.w_intI2)
  | (with_reducible apply Lg.w_neg)
  | (with_reducible apply Lg.w_inSS)
  | (with_reducible apply Lg.w_ninSS)
  | (with_reducible apply Lg.w_inSS')
  | (with_reducible apply Lg.w_neSS)
  | (with_reducible apply Lg.w_strS)
  | (with_reducible apply Lg.w_fldE)
  | (with_reducible apply Lg.w_sfldE)
  | (with_reducible apply Lg.w_makeE)
  | (with_reducible apply Lg.w_methE)
  | (with_reducible apply Lg.w_methSE)
  | (with_reducible apply Lg.w_callS)
  | (with_reducible apply Lg.w_raiseO)
  | (with_reducible apply Lg.w_raiseB)
  | (with_reducible apply Lg.w_try)
  | (with_reducible apply Lg.w_strS)
  | (with_reducible apply Lg.w_eqSS)
  | (with_reducible apply Lg.w_eqS)
  | (with_reducible apply Lg.w_neS)
  | (with_reducible apply Lg.w_isN)
  | (with_reducible apply Lg.w_isR)
  | (with_reducible apply Lg.w_isI)
  | (with_reducible apply Lg.w_isS)
  | (with_reducible apply Lg.w_nsN)
  | (with_reducible apply Lg.w_nsR)
  | (with_reducible apply Lg.w_nsI)
  | (with_reducible apply Lg.w_nsS)
  | (with_reducible apply Lg.w_int)
  | (with_reducible apply Lg.w_intb)
  | (with_reducible apply Lg.w_ord1)
  | (with_reducible apply Lg.w_tyS)
  | (with_reducible apply Lg.w_inSg)
  | (with_reducible apply Lg.w_ninSg)
  | ((with_reducible show NewL _ _ _); (with_reducible refine Lg.w_newL (by assumption) (by walk_at "isall") (by simp) ?_); (intro p' H' hS'))
  | ((with_reducible show NewT _ _ _); (with_reducible refine Lg.w_newT (by assumption) (by walk_at "isall") (by simp) ?_); (intro p' H' hS'))
  | ((with_reducible show TyThen _ _ (V.ref _) _ _); (with_reducible refine Lg.w_tyL (by assumption) (by walk_at "lsin") ?_))
  | ((with_reducible show rLenX _ [V.ref _] _ _); (with_reducible refine Lg.w_lenL (by assumption) (by walk_at "lsin") ?_))
  | ((with_reducible show rLenX _ [V.ref _] _ _); (with_reducible refine Lg.w_lenT (by assumption) (by walk_at "is") ?_))
  | ((with_reducible show spDraw _ _ _ _ _); (with_reducible refine Lg.w_draw (by assumption) (by walk_at "mem") (by first | decide | omega) ?_); (intro k' H' hk0' hk1' hS'))
  | ((with_reducible show rSlX _ (V.ref _) _ _ _ _); (with_reducible refine Lg.w_slL (by assumption) (by walk_at "lsin") ?_); (intro p' H' hS'))
  | ((with_reducible show rListOf _ [V.ref _] _ _); (with_reducible refine Lg.w_listL (by assumption) (by walk_at "lsin") ?_); (intro p' H' hS'))
  | (with_reducible apply Lg.w_for)
  | (with_reducible apply Lg.w_lc)
  | ((with_reducible show iAny _ (tVar _) _ _ _); (with_reducible refine Lg.w_anyVar (by walk_at "gt") ?_))
  | (with_reducible apply Lg.w_anyC)
  | (with_reducible apply Lg.w_vS)
  | (with_reducible apply Lg.w_itS)
  | ((with_reducible show AnyV _ (V.ref _) _ _); (with_reducible refine Lg.w_vL (by assumption) (by walk_at "lsin") ?_))
  | ((with_reducible show AnyL _ (V.ref _) _ _); (with_reducible refine Lg.w_itL (by assumption) (by walk_at "lsin") ?_))
  | ((with_reducible show AnyV _ (V.ref _) _ _); (with_reducible refine Lg.w_vT (by assumption) (by walk_at "is") ?_))
  | ((with_reducible show AnyT _ (V.ref _) _ _); (with_reducible refine Lg.w_itT (by assumption) (by walk_at "is") ?_))
  | ((with_reducible show Enu _ [V.ref _] _ _); (with_reducible refine Lg.w_itE (by assumption) (by walk_at "lsin") ?_))
  | ((with_reducible show rPlus _ (V.ref _) (V.ref _) _ _); (with_reducible refine Lg.w_plusL (by assumption) (by walk_at "lsin") (by walk_at "lsin") (by walk_at "ar") ?_); (intro p' H' hS'))
  | ((with_reducible show rTimes (V.ref _) (V.int _) _ _); (with_reducible refine Lg.w_repLs (by assumption) (by walk_at "lsin") (by walk_at "ar") (by walk_at "ar") (by walk_at "ar") ?_); (intro p' H' hS'))
  | ((with_reducible show rLenX _ [V.str (S _)] _ _); (with_reducible refine Lg.w_lenSS (by walk_at "ar") ?_))
  | ((with_reducible show rLenX _ [V.str _] _ _); (with_reducible refine Lg.w_lenS (by walk_at "ar") ?_))
  | ((with_reducible show rSlX _ (V.str _) _ _ _ _); (with_reducible refine Lg.w_slS (by walk_at "ar") ?_))
  | (with_reducible apply Lg.w_rng1)
  | (with_reducible apply Lg.w_rng2)
  | (with_reducible apply Lg.w_rng3)
  | (with_reducible apply Lg.w_enum)
  | ((with_reducible show Rng1 _ _ _); (with_reducible refine Lg.w_itR1 (by omega) ?_))
  | ((with_reducible show Rng2 _ _ _); (with_reducible refine Lg.w_itR2 (by omega) (by omega) ?_))
  | ((with_reducible show rIx _ (V.ref _) (V.int _) _ _); (with_reducible refine Lg.w_ixN (by assumption) (by walk_at "lsin") (by walk_at "ar") (by walk_at "ar") ?_))
  | ((with_reducible show rPlus _ (V.str (S _)) (V.str (S _)) _ _); (with_reducible refine Lg.w_addSS (by walk_at "ar") ?_))
  | ((with_reducible show rTimes (V.str (S _)) (V.int _) _ _); (with_reducible refine Lg.w_repSS (by walk_at "ar") (by walk_at "ar") (by walk_at "ar") ?_))
  | ((with_reducible show rIsi _ [V.ref _, V.ty "list"] _ _); (with_reducible refine Lg.w_isLL (by assumption) (by walk_at "lsin") ?_))
  | ((with_reducible show rIsi _ [V.ref _, V.ty "tuple"] _ _); (with_reducible refine Lg.w_isTT (by assumption) (by walk_at "is") ?_))
  | (with_reducible apply Lg.w_isII)
  | (with_reducible apply Lg.w_isSI)
  | (with_reducible apply Lg.w_isSS)
  | (with_reducible apply Lg.w_isIS)
  | (with_reducible apply Lg.w_ifexp)
  | (with_reducible apply Lg.w_chain)
  | ((with_reducible show ChainK _ _ _ _ _ _ _); (with_reducible refine Lg.w_chainLe (by (intro R' hR'; walk_at "w"; exact hR')) ?_))
  | ((with_reducible show ChainK _ _ _ _ _ _ _); (with_reducible refine Lg.w_chainLt (by (intro R' hR'; walk_at "w"; exact hR')) ?_))
  | ((with_reducible show tAnd _ _ _ _ _); (with_reducible refine Lg.w_andP (by (intro R' hR'; walk_at "w"; exact hR')) (by (intro hb' R' hR'; walk_at "w"; exact hR')) ?_))
  | ((with_reducible show tOr _ _ _ _ _); (with_reducible refine Lg.w_orP (by (intro R' hR'; walk_at "w"; exact hR')) (by (intro hb' R' hR'; walk_at "w"; exact hR')) ?_))
  | ((with_reducible show tAndV _ _ _ _ _); (with_reducible refine Lg.w_andVP (by (intro R' hR'; walk_at "w"; exact hR')) (by (intro hb' R' hR'; walk_at "w"; exact hR')) ?_))
  | ((with_reducible show tOrV _ _ _ _ _); (with_reducible refine Lg.w_orVP (by (intro R' hR'; walk_at "w"; exact hR')) (by (intro hb' R' hR'; walk_at "w"; exact hR')) ?_))
  | (with_reducible apply Lg.w_notV))
local macro_rules | `(tactic| walk_at "w") => `(tactic| repeat (walk_at "w1"))
local macro_rules | `(tactic| walk_at "z") => `(tactic| simp only [z_0, z_1, z_2, z_3, z_4, z_5, z_6, z_7, z_8, z_9, z_10, z_11, z_12, z_13, z_14, z_15, z_16, z_17, z_18, z_19, z_20, z_21, z_22, z_23, z_24, z_25, z_26, z_27, z_28, z_29, z_30, z_31, z_32, z_33, z_34, z_35, z_36, z_37])
/-! ### the law -/
/-- the disk of a log -/
structure Dk (n : Nat) (rs : List Rec) (B : List (List Int)) (P : List (Nat × List Int)) : Prop where
  ok : Di.DOK B P []
  len : B.length = n
  fl : Di.flushed B P = blk 0 rs ++ Z (n - (blk 0 rs).length)
  fit : (blk 0 rs).length ≤ n
  pn : P.length ≤ (blk 0 rs).length
theorem over_log {X bs : List (List Int)} {n : Nat} (h : bs.length ≤ n) : over (X ++ Z n) X.length bs = X ++ bs ++ Z (n - bs.length) := by
  unfold over
  rw [List.take_left', List.append_assoc, List.append_assoc, List.drop_append]
  · have e1 : X.drop (X.length + bs.length) = [] := List.drop_eq_nil_of_le (by omega)
    have e2 : X.length + bs.length - X.length = bs.length := by omega
    rw [e1, e2, List.nil_append]
    unfold Z
    rw [List.drop_replicate]
  · rfl
theorem Dk.app {n : Nat} {rs ss : List Rec} {B : List (List Int)} {P : List (Nat × List Int)} (h : Dk n rs B P) (hw : ∀ r ∈ ss, Wr r) (hn : rs.length + ss.length ≤ 60000) (hf : (blk 0 rs).length + (blk rs.length ss).length ≤ n) : Dk n (rs ++ ss) B (P ++ placed (blk 0 rs).length (blk rs.length ss)) := by
  have h4 := h.ok.n1
  have hlen := h.len
  have hp := h.pn
  have hb : (blk 0 (rs ++ ss)) = blk 0 rs ++ blk rs.length ss := by rw [blk_app, Nat.zero_add]
  have hbl : (blk 0 (rs ++ ss)).length = (blk 0 rs).length + (blk rs.length ss).length := by rw [hb, List.length_append]
  refine ⟨DOK.more h.ok (by omega) (fun b hb => isB_len (blk_isB ss _ (by omega) hw b hb)) (by omega), hlen, ?_, by omega, ?_⟩
  · rw [flushed_app, h.fl, flushed_placed, over_log, hb, List.length_append, Nat.sub_sub]
    · omega
    · rw [List.length_append, Z_len]
      omega
  · rw [List.length_append, placed_len, hbl]
    omega
theorem Dk.flush {n : Nat} {rs : List Rec} {B : List (List Int)} {P : List (Nat × List Int)} (h : Dk n rs B P) : Dk n rs (Di.flushed B P) [] :=
  ⟨DOK.flush h.ok, by rw [Di.flushed_len]; exact h.len, h.fl, h.fit, Nat.zero_le _⟩
theorem Dk.again {n : Nat} {rs : List Rec} {B : List (List Int)} {P : List (Nat × List Int)} (h : Dk n rs B P) : Di.flushed B (P ++ placed (blk 0 rs).length (Z (n - (blk 0 rs).length))) = Di.flushed B P := by
  have hf := h.fit
  rw [flushed_app, h.fl, flushed_placed, over_log, Z_len, Nat.sub_self]
  · show blk 0 rs ++ Z _ ++ [] = _
    rw [List.append_nil]
  · rw [Z_len]
    exact Nat.le_refl _
  · rw [List.length_append, Z_len]
    omega
theorem Dk.fresh {n : Nat} {ns : List (List Nat)} (h8 : 8 ≤ n) (h4 : n ≤ 400) (hen : entOK ns = true) : Dk n [.ent ns] (Di.flushed (Di.B0 n) ([] ++ placed 0 (fresh ns n))) [] := by
  obtain ⟨hwr, hm⟩ := ent_wr hen
  have hb : blk 0 [Rec.ent ns] = encB 0 (Rec.ent ns).t := by simp [blk]
  have hbl : (blk 0 [Rec.ent ns]).length = many (Rec.ent ns).t := by rw [hb, encB_len]
  have hB : (Di.B0 n).length = n := by simp [Di.B0]
  have hfl : (K47.fresh ns n).length = n := by
    unfold K47.fresh
    rw [List.length_append, encB_len, Z_len]
    omega
  have e : Di.flushed (Di.B0 n) ([] ++ placed 0 (K47.fresh ns n)) = K47.fresh ns n := by
    rw [List.nil_append, flushed_placed (by omega)]
    unfold over
    rw [hfl, List.drop_eq_nil_of_le (by omega)]
    simp
  have ok : Di.DOK (Di.flushed (Di.B0 n) ([] ++ placed 0 (K47.fresh ns n))) [] [] := by
    refine DOK.flush (DOK.more (Di.DOK.start h8 h4) (by omega) (fun b hb => ?_) (by simp; omega))
    unfold K47.fresh at hb
    rcases List.mem_append.mp hb with hb | hb
    · exact isB_len (encB_isB (by omega) hwr.t1 hwr.sg b hb)
    · exact isB_len (Z_isB b hb)
  refine ⟨ok, by rw [Di.flushed_len]; exact hB, ?_, by omega, Nat.zero_le _⟩
  show Di.flushed (Di.B0 n) ([] ++ placed 0 (K47.fresh ns n)) = _
  rw [e, hbl, hb]
  rfl
abbrev zref : List Nat := [114, 101, 102, 117, 115, 101, 100]
abbrev zfull : List Nat := [102, 117, 108, 108]
abbrev fullD : PyData := .tuple [sD zref, sD zfull]
section
variable {K : PySem.W.Frag}
def spLAppend (K : PySem.W.Frag) : Sp := fun vs H Q _ => ∃ (L : List Ent) (lo lx a dx pb pp pr rq : Addr) (tv : V) (cuts : Int) (e : Nat) (B : List (List Int)) (P : List (Nat × List Int)) (ts : List Nat) (rs ss : List Rec), vs = [.ref lo, .ref rq] ∧
  St K (LL K lo lx a pr (e : Int) cuts rs (Di.DL K a dx pb pp tv cuts none B P ts L)) H ∧ Di.DOK B P ts ∧ LsIn K L rq (ss.map Rec.d) ∧ (∀ r ∈ ss, Wr r) ∧ ss.length ≤ 1000 ∧ rs.length + ss.length ≤ 60000 ∧ P.length + B.length ≤ 1000 ∧
  (B.length < e + (blk rs.length ss).length → ∀ p H', St K (Lg.dat (.ref p) fullD :: LL K lo lx a pr (e : Int) cuts rs (Di.DL K a dx pb pp tv cuts none B P ts L)) H' → Q (.ref p) H') ∧
  (e + (blk rs.length ss).length ≤ B.length → ∀ H', St K (LL K lo lx a pr ((e + (blk rs.length ss).length : Nat) : Int) cuts (rs ++ ss) (Di.DL K a dx pb pp tv cuts none B (P ++ placed e (blk rs.length ss)) ts L)) H' → Q (.int ((rs.length + ss.length : Nat) : Int)) H')
theorem p_lappend (cf : CF K) (vs : List V) (H : Hp) (Q : VK) (E : XK) (h : spLAppend K vs H Q E) : vs.length = 2 ∧ t_l_append K (spAppend K) { nx := fun _ H' => Q .non H', rt := Q } (start N_l_append vs) H := by
  obtain ⟨L, lo, lx, a, dx, pb, pp, pr, rq, tv, cuts, e, B, P, ts, rs, ss, rfl, hS, hok, hl, hw, hn, hn2, hP, hE, hQ⟩ := h
  refine ⟨rfl, ?_⟩
  unfold t_l_append
  walk_at "z"
  show tTry _ _ _ _ _ [some (.ref lo), some (.ref rq)] H
  walk_at "w"
  refine w_meth hS (.head _) (llk_no (by decide)) ?_
  walk_at "w"
  refine ⟨L, lo, lx, a, dx, pb, pp, pr, rq, tv, cuts, cuts, e, none, B, P, ts, rs, ss, rfl, hS, hok, hl, hw, hn, hn2, hP, fun z => absurd rfl z, fun _ hf H' hS' => ?_, fun _ hf hen H' hS' => ?_, fun _ _ j hj => by cases hj⟩
  · refine ⟨true, cf.em_LogFull_LogFull, fun _ a2 ha2 => ?_, fun z => by cases z⟩
    dsimp only [Cl.at_, Cl.ends, Cl.off, List.set]
    walk_at "w"
    rename_i q1 H1 hS1
    exact hE hf q1 H1 hS1
  · walk_at "w"
    exact hQ hf H' hS'
def spOne (K : PySem.W.Frag) : Sp := fun vs H Q _ => ∃ (L : List Ent) (lo lx a dx pb pp pr rr rq : Addr) (tv : V) (n : Nat) (B : List (List Int)) (P : List (Nat × List Int)) (rs ss : List Rec), vs = [.ref lo, .ref rr, .ref rq, .int n] ∧
  St K (LL K lo lx a pr ((blk 0 rs).length : Nat) 0 rs (Di.DL K a dx pb pp tv 0 none B P [] (Lg.ls K rr (rs.map Rec.d) :: Lg.ls K rq (ss.map Rec.d) :: L))) H ∧ Dk n rs B P ∧ LogOK rs ∧ Rows rs ss ∧ rs.length ≤ 500 ∧
  ∀ rs' P' H', LogOK rs' → rs'.length ≤ rs.length + 5 → Dk n rs' B P' → St K (LL K lo lx a pr ((blk 0 rs').length : Nat) 0 rs' (Di.DL K a dx pb pp tv 0 none B P' [] (Lg.ls K rr (rs'.map Rec.d) :: Lg.ls K rq (ss.map Rec.d) :: L))) H' → Q (.bl true) H'
theorem p_one (vs : List V) (H : Hp) (Q : VK) (E : XK) (h : spOne K vs H Q E) : vs.length = 4 ∧ t_l_one K (spLAppend K) (spAlike K) (spRoom K) (spUsed K) { nx := fun _ H' => Q .non H', rt := Q } (start N_l_one vs) H := by
  obtain ⟨L, lo, lx, a, dx, pb, pp, pr, rr, rq, tv, n, B, P, rs, ss, rfl, hS, hd, hlg, hro, hrs, hQ⟩ := h
  have hw1 : ∀ r ∈ rs, Wr r := fun r hr => (hlg.fine r hr).wr
  have hw2 := hro.wr
  have hss := hro.few
  have hBn := hd.len
  have h4 := hd.ok.n1
  have hpn := hd.pn
  have hft := hd.fit
  have hbb := blk_len_n ss 0 rs.length
  refine ⟨rfl, ?_⟩
  unfold t_l_one
  walk_at "z"
  show tSeq _ _ _ [some (.ref lo), some (.ref rr), some (.ref rq), some (.int n), none, none, none] H
  walk_at "w"
  refine ⟨_, rr, rs, rfl, hS, by walk_at "lsin", hw1, by omega, fun H1 hS1 => ?_⟩
  clear hS
  walk_at "w"
  refine ⟨_, rq, ss, rfl, hS1, by walk_at "lsin", hw2, by omega, fun H2 hS2 => ?_⟩
  clear hS1
  walk_at "w"
  have eb : decide (((blk rs.length ss).length : Int) ≤ (B.length : Int) - ((blk 0 rs).length : Nat)) = decide ((((blk 0 rs).length : Nat) : Int) + ((blk 0 ss).length : Nat) ≤ (n : Int)) := decide_eq_decide.mpr (by omega)
  refine w_meth hS2 (.head _) (llk_no (by decide)) ?_
  walk_at "w"
  refine ⟨_, lo, lx, a, dx, pb, pp, pr, rq, tv, 0, 0, _, none, B, P, [], rs, ss, rfl, hS2, by walk_at "lsin", hw2, by omega, fun H3 hS3 => ?_⟩
  clear hS2
  rw [eb]
  walk_at "w"
  refine ⟨_, _, .bool _, 0, 0, rfl, .bl _, .bl _, sh_bool 0 0 _, by decide, by decide, ?_⟩
  walk_at "w"
  by_cases hf : (blk 0 rs).length + (blk 0 ss).length ≤ n
  · have e1 : decide ((((blk 0 rs).length : Nat) : Int) + ((blk 0 ss).length : Nat) ≤ (n : Int)) = true := decide_eq_true (by omega)
    rw [e1]
    refine w_bf rfl ?_
    walk_at "w"
    refine w_bf rfl ?_
    walk_at "w"
    refine ⟨_, lo, lx, a, dx, pb, pp, pr, rq, tv, 0, _, B, P, [], rs, ss, rfl, hS3, hd.ok, by walk_at "lsin", hw2, by omega, by omega, by omega, fun z => absurd z (by omega), fun _ H4 hS4 => ?_⟩
    clear hS3
    walk_at "w"
    refine w_extend hS4 (L' := _) (es := ss.map Rec.d) (by walk_at "put") (by walk_at "lsin") (by rw [List.length_map, List.length_map]; omega) fun H5 hS5 => ?_
    rw [← List.map_append] at hS5
    clear hS4
    walk_at "w"
    rw [List.length_map, List.length_map, decide_eq_true (by omega)]
    have hd' := hd.app hw2 (by omega) (by omega)
    have eL : (blk 0 rs).length + (blk rs.length ss).length = (blk 0 (rs ++ ss)).length := by rw [blk_app, List.length_append, Nat.zero_add]
    rw [eL] at hS5
    exact hQ (rs ++ ss) _ H5 (hlg.app hro) (by rw [List.length_append]; omega) hd' (hS5.to (by walk_at "pick"))
  · have e1 : decide ((((blk 0 rs).length : Nat) : Int) + ((blk 0 ss).length : Nat) ≤ (n : Int)) = false := decide_eq_false (by omega)
    rw [e1]
    refine w_bf rfl ?_
    walk_at "w"
    refine w_bt rfl ?_
    walk_at "w"
    refine ⟨_, lo, lx, a, dx, pb, pp, pr, rq, tv, 0, _, B, P, [], rs, ss, rfl, hS3, hd.ok, by walk_at "lsin", hw2, by omega, by omega, by omega, fun _ p H4 hS4 => ?_, fun z => absurd z (by omega)⟩
    clear hS3
    walk_at "w"
    rename_i q1 H5 hS5
    refine w_eq1 hS5 (d := fullD) (.is (.dat (by walk_at "mem"))) (.is (.dat (by walk_at "mem"))) (by decide +kernel) ?_
    exact hQ rs P H5 hlg (by omega) hd (hS5.to (by walk_at "pick"))
theorem open47 {L : List Ent} {a dx pb pp : Addr} {tv : V} {n : Nat} {B : List (List Int)} {P : List (Nat × List Int)} {rs : List Rec} {H : Hp} {Q : VK} {E : XK} (hS : St K (Di.DL K a dx pb pp tv 0 none B P [] L) H) (hres : Is L (.ref (He.ga K "RESERVED")) (.tuple resD)) (hd : Dk n rs B P) (hl : LogOK rs)
    (hQ : ∀ lo lx pr pp' H', St K (LL K lo lx a pr ((blk 0 rs).length : Nat) 0 rs (Di.DL K a dx pb pp' tv 0 none (Di.flushed B P) [] [] L)) H' → Q (.ref lo) H') : spOpen K [.ref a] H Q E := by
  have hr := hl.read (n := n - (blk 0 rs).length)
  have hft := hd.fit
  have hpn := hd.pn
  have hBn := hd.len
  have h4 := hd.ok.n1
  refine ⟨L, a, dx, pb, pp, tv, 0, none, B, P, [], rs, 0 :: endsOf 0 rs, (blk 0 rs).length, n - (blk 0 rs).length, rfl, hS, hd.ok, hres, by omega, by rw [hd.fl]; exact hr, ?_, by omega, fun z => absurd z hl.ne, fun _ _ lo lx pr pp' H' hS' => ?_, fun _ j hj => by cases hj⟩
  · rw [hl.good, ends_last rs 0 0, Nat.zero_add]
  · rw [hl.good, List.take_length, hd.again] at hS'
    exact hQ lo lx pr pp' H' hS'
abbrev RL (K : PySem.W.Frag) (b : Addr) : List Ent := [Lg.dat (.ref (He.ga K "RESERVED")) (.tuple resD), bx K b]
/-- where the law stands -/
abbrev LW (K : PySem.W.Frag) (b a dx pb pp lo lx pr rr : Addr) (tv : V) (B : List (List Int)) (P : List (Nat × List Int)) (rs : List Rec) : List Ent :=
  LL K lo lx a pr ((blk 0 rs).length : Nat) 0 rs (Di.DL K a dx pb pp tv 0 none B P [] (Lg.ls K rr (rs.map Rec.d) :: RL K b))
def Inv47 (K : PySem.W.Frag) (b a dx rr lo : Addr) (n k : Nat) (H : Hp) : Prop := ∃ (lx pr pb pp : Addr) (tv : V) (B : List (List Int)) (P : List (Nat × List Int)) (rs : List Rec), St K (LW K b a dx pb pp lo lx pr rr tv B P rs) H ∧ Dk n rs B P ∧ LogOK rs ∧ rs.length ≤ k
def spLaw (K : PySem.W.Frag) : Sp := fun vs H Q _ => ∃ (a : Addr) (ns : List Int), vs = [.ref a] ∧ Only H ∧ SqL K H a (ns.map V.int) ∧ CF K ∧ ∀ H', Q (.bl true) H'
theorem p_law (vs : List V) (H : Hp) (Q : VK) (E : XK) (h : spLaw K vs H Q E) : vs.length = 1 ∧ t_law K (spAlike K) (spRecords K) (spOpen K) (spFree K) (spUsed K) (spSync K) (Di.spPend K) (spOne K) (spRows K) (spDraw K) (spFormat K) (spEntries K) (Di.spInit K) (spDigits K) { nx := fun _ H' => Q .non H', rt := Q } (start N_law vs) H := by
  obtain ⟨s, ns0, rfl, hO, hs, cf, hQ⟩ := h
  refine ⟨rfl, ?_⟩
  have hS0 := (St.begin hO hs).tupK (ys := resL) (tab_ok cf)
  unfold t_law
  walk_at "z"
  show tSeq _ _ _ [some (.ref s), none, none, none, none, none, none, none, none, none] H
  walk_at "w"
  refine ⟨_, s, ns0, 0, 63, rfl, hS0, by walk_at "mem", by decide, by decide, by decide, by decide, fun p0 ms H1 hS1 => ?_⟩
  walk_at "w"
  refine w_newBox hS1 fun b H2 hS2 => ?_
  walk_at "w"
  rename_i k3 H3 k30 k31 hS3
  obtain ⟨m0, rfl⟩ := Int.eq_ofNat_of_zero_le k30
  have e8 : (8 : Int) + (m0 : Int) = ((8 + m0 : Nat) : Int) := by omega
  rw [e8]
  have hm1 : 8 ≤ 8 + m0 := by omega
  have hm2 : 8 + m0 ≤ 100 := by omega
  generalize 8 + m0 = n at hm1 hm2 ⊢
  have hS4 := hS3.to (L' := RL K b) (by walk_at "pick")
  clear hS0 hS1 hS2 hS3 e8
  walk_at "w"
  refine Di.w_makeSE ?_
  walk_at "w"
  intro a dx hx hdx hne
  refine ⟨_, a, dx, n, rfl, hS4.born hx hdx hne, fun m' hm hm1' hm2' pb pp tv H5 hS5 => ⟨rfl, ?_⟩, fun z => absurd ⟨by omega, by omega⟩ z⟩
  obtain rfl : m' = n := by omega
  clear hS4 hm1' hm2'
  walk_at "w"
  refine ⟨_, b, rfl, hS5, by walk_at "mem", fun ns te H6 hns hS6 => ?_⟩
  clear hS5
  have hen := ent3_ok ns hns
  obtain ⟨hp1, hp2, hp3⟩ := entOK_parts hen
  have hS7 := hS6.to (L' := Di.DL K a dx pb pp tv 0 none (Di.B0 m') [] [] (Lg.dat (.ref te) (.tuple (ns.map sD)) :: RL K b)) (by walk_at "pick")
  clear hS6
  have hB0 : (Di.B0 m').length = m' := by simp [Di.B0]
  walk_at "w"
  refine ⟨_, a, dx, pb, pp, te, tv, 0, none, Di.B0 m', [], [], ns, rfl, hS7, Di.DOK.start hm1 (by omega), .dat (.head _), by omega, fun x hx => by have := isName_some (hp3 x hx); omega, by walk_at "is", by rw [hB0]; simp; omega, fun (z : entOK ns = false) => absurd (hen.symm.trans z) (by decide), fun _ _ pp1 H7 hS8 => ?_, fun _ j hj => by cases hj⟩
  rw [hB0] at hS8
  have hdk := Dk.fresh hm1 (by omega) hen (n := m')
  clear hS7
  walk_at "w"
  refine open47 hS8 (by walk_at "is") hdk (LogOK.start hen) fun lo lx pr pp2 H8 hS9 => ?_
  clear hS8
  walk_at "w"
  rename_i t1 H9 hS10 rr H10 hS11
  have hinv : Inv47 K b a dx rr lo m' 1 H10 := ⟨lx, pr, pb, pp2, tv, _, _, [.ent ns], hS11.to (by walk_at "pick"), hdk.flush, LogOK.start hen, Nat.le_refl _⟩
  clear hS9 hS10 hS11 hdk
  refine w_forR (fun i σ H' => ∃ (lo : Addr) (v7 v8 v9 : Option V), σ = [some (.ref s), some (.ref b), some (.int m'), some (.ref a), some (.ref te), some (.ref lo), some (.ref rr), v7, v8, v9] ∧ Inv47 K b a dx rr lo m' (1 + 5 * i) H') ⟨lo, _, _, _, rfl, hinv⟩ ?_ ?_
  · rintro i σ H11 hi ⟨lo, v7, v8, v9, rfl, hI⟩
    have hi30 : i < 30 := by simpa using hi
    clear hinv
    obtain ⟨lx, pr, pb, pp, tv, B, P, rs, hS12, hd, hl, hlen⟩ := hI
    walk_at "w"
    rename_i kd H12 kd0 kd1 hS13
    clear hS12
    refine w_cut (fun σ' H' => ∃ lo : Addr, σ' = [some (.ref s), some (.ref b), some (.int m'), some (.ref a), some (.ref te), some (.ref lo), some (.ref rr), some (.int (0 + i)), some (.int kd), some (.bl true)] ∧ Inv47 K b a dx rr lo m' (1 + 5 * (i + 1)) H') ?_ ?_
    · walk_at "w"
      refine w_ifd (fun h1 => ?_) (fun h1 => ?_)
      · walk_at "w"
        have hS14 := hS13.to (L' := Di.DL K a dx pb pp tv 0 none B P [] (Lg.ls K rr (rs.map Rec.d) :: RL K b)) (by walk_at "pick")
        refine open47 hS14 (by walk_at "is") hd hl fun lo' lx' pr' pp' H14 hS15 => ?_
        walk_at "w"
        exact ⟨lo', rfl, lx', pr', pb, pp', tv, _, _, rs, hS15, hd.flush, hl, by omega⟩
      walk_at "w"
      refine w_ifd (fun h2 => ?_) (fun h2 => ?_)
      · walk_at "w"
        refine w_andV ?_
        walk_at "w"
        refine w_meth hS13 (.head _) (llk_no (by decide)) ?_
        walk_at "w"
        refine ⟨_, lo, lx, a, dx, pb, pp, pr, tv, 0, 0, _, none, B, P, [], rs, rfl, hS13, hd.ok, fun z => absurd rfl z, fun _ left' pp' H14 hl' hS14 => ?_, fun _ z => by cases z⟩
        obtain rfl : left' = none := by
          rcases hl' with ⟨_, rfl⟩ | ⟨m, z, _⟩
          · rfl
          · cases z
        walk_at "w"
        refine w_meth hS14 (.tail _ (.tail _ (.tail _ (.head _)))) (Di.lk_no (by decide)) ?_
        walk_at "w"
        refine ⟨_, a, dx, pb, pp', tv, 0, none, _, [], [], rfl, hS14.to (by walk_at "pick"), ?_⟩
        walk_at "w"
        exact ⟨lo, rfl, lx, pr, pb, pp', tv, _, _, rs, hS14, hd.flush, hl, by omega⟩
      · walk_at "w"
        refine ⟨_, b, rr, rs, rfl, hS13, by walk_at "mem", by walk_at "lsin", by omega, fun rq ss H14 hro hS14 => ?_⟩
        walk_at "w"
        refine ⟨RL K b, lo, lx, a, dx, pb, pp, pr, rr, rq, tv, m', B, P, rs, ss, rfl, hS14.to (by walk_at "pick"), hd, hl, hro, by omega, fun rs' P' H15 hl' hlen' hd' hS15 => ?_⟩
        walk_at "w"
        exact ⟨lo, rfl, lx, pr, pb, pp, tv, B, P', rs', hS15.to (by walk_at "pick"), hd', hl', by omega⟩
    rintro σ' H14 ⟨lo', rfl, hI⟩
    clear hS13 hd hl hlen
    obtain ⟨lx, pr, pb, pp, tv, B, P, rs, hS15, hd, hl, hlen⟩ := hI
    have hBn := hd.len
    walk_at "w"
    refine w_or ?_
    walk_at "w"
    refine w_bf rfl ?_
    walk_at "w"
    refine w_or ?_
    walk_at "w"
    refine w_meth hS15 (.head _) (llk_no (by decide)) ?_
    walk_at "w"
    refine ⟨_, lo', lx, a, pr, 0, _, rs, rfl, hS15, fun q H15 hS16 => ?_⟩
    walk_at "w"
    refine ⟨_, _, .list (rs.map Rec.d), 4, 500000, rfl, (See.own (.head _)).dp hS16, (See.own (by walk_at "mem")).dp hS16, log_shw hl (by omega), by decide, by decide, ?_⟩
    have hS17 := hS16.tail
    clear hS15 hS16
    walk_at "w"
    refine w_bf rfl ?_
    walk_at "w"
    refine w_meth hS17 (.head _) (llk_no (by decide)) ?_
    walk_at "w"
    refine ⟨_, lo', lx, a, dx, pb, pp, pr, tv, 0, 0, _, none, B, P, [], rs, rfl, hS17, ?_⟩
    walk_at "w"
    refine ⟨_, rr, rs, rfl, hS17, by walk_at "lsin", fun r hr => (hl.fine r hr).wr, by omega, fun H16 hS18 => ?_⟩
    walk_at "w"
    refine w_ifnd (fun z => absurd (by omega) z) (fun _ => ?_)
    walk_at "w"
    exact ⟨lo', _, _, _, rfl, lx, pr, pb, pp, tv, B, P, rs, hS18, hd, hl, hlen⟩
  · rintro σ H11 ⟨lo, v7, v8, v9, rfl, hI⟩
    clear hinv
    obtain ⟨lx, pr, pb, pp, tv, B, P, rs, hS12, hd, hl, hlen⟩ := hI
    have hlen' : rs.length ≤ 151 := by simpa using hlen
    walk_at "w"
    have hS14 := hS12.to (L' := Di.DL K a dx pb pp tv 0 none B P [] (Lg.ls K rr (rs.map Rec.d) :: RL K b)) (by walk_at "pick")
    refine open47 hS14 (by walk_at "is") hd hl fun lo' lx' pr' pp' H14 hS15 => ?_
    refine w_meth hS15 (.head _) (llk_no (by decide)) ?_
    walk_at "w"
    refine ⟨_, lo', lx', a, pr', 0, _, rs, rfl, hS15, fun q H15 hS16 => ?_⟩
    walk_at "w"
    refine ⟨_, _, .list (rs.map Rec.d), 4, 500000, rfl, (See.own (.head _)).dp hS16, (See.own (by walk_at "mem")).dp hS16, log_shw hl (by omega), by decide, by decide, ?_⟩
    exact hQ _
end
end K47

/-! ### the end (printed by tools/fin2.py) -/
namespace K47
open PySem PySem.Spec PyProof.Rows L2 Lg K45
theorem facts {P : Program} {w : World} {K : PySem.W.Frag} {h : Heap} {mg : Str → Option Value} {f : Addr} (X : K.In h) (N : h.Ns mainGlobals mg) (hf : mg ("law" : Str) = some (.ref f)) (c : He.SaysD hfa hfn K) (cx : tabs K = true) :
    ∃ fd : FuncData, (∀ (s : Shared) (v : Value), BindsTo s fd ⟨[v], []⟩ [("_law_script", v)]) ∧ ∀ base : Heap, K.In base → base.Ns mainGlobals mg → FnG P w K mg base CX0 9 f fd ["_law_script"] (spLaw K) := by
  have g := mk_G X N c cx
  have cf := mk_CF c cx
  obtain ⟨fd, F⟩ := fd_law c
  have e := hf.symm.trans (mg_law X N c)
  cases e
  refine ⟨fd, fun s v => (F.bindsA (ps := ["_law_script"]) fun _ _ _ _ _ _ us hl => match us, hl with | [_], _ => rfl) s [v] rfl, fun base _ _ => ?_⟩
  have c_OutOfRange : Oex P w K mg base 1 "OutOfRange" (He.ga K "OutOfRange") "name" := ok_OutOfRange g cf (fd_OutOfRange c)
  have c_piece : C8.Cal P w K mg base 1 "_piece" (spPiece K) [] := ok_piece g (fd_piece c) (mg_piece X N c) (fun vs H Q E h => p_piece vs H Q E h)
  have c_encode_record : C8.Cal P w K mg base 2 "encode_record" (spEnc K) [] := ok_encode_record g c_piece (fd_encode_record c) (mg_encode_record X N c) (fun vs H Q E h => p_encode vs H Q E h)
  have c_are_codes : C8.Cal P w K mg base 1 "_are_codes" (spCodes K) [] := ok_are_codes g (fd_are_codes c) (mg_are_codes X N c) (fun vs H Q E h => p_codes vs H Q E h)
  have c_sign : C8.Cal P w K mg base 1 "_sign" (spSign K) [] := ok_sign g (fd_sign c) (mg_sign X N c) (fun vs H Q E h => p_sign vs H Q E h)
  have c_decode_piece : C8.Cal P w K mg base 2 "decode_piece" (spDec K) [] := ok_decode_piece g c_sign c_are_codes (fd_decode_piece c) (mg_decode_piece X N c) (fun vs H Q E h => p_dec vs H Q E h)
  have c_is_block : C8.Cal P w K mg base 1 "_is_block" (Di.spIsBlock K) [] := ok_is_block g (fd_is_block c) (mg_is_block X N c) (fun vs H Q E h => Di.p_is_block vs H Q E h)
  have c_is_name : C8.Cal P w K mg base 1 "is_name" (spName K) [] := ok_is_name g (fd_is_name c) (mg_is_name X N c) (fun vs H Q E h => p_name vs H Q E h)
  have c_is_value : C8.Cal P w K mg base 1 "is_value" (spValue K) [] := ok_is_value g (fd_is_value c) (mg_is_value X N c) (fun vs H Q E h => p_value vs H Q E h)
  have c_check_entries : CalX P w K mg base 3 "check_entries" (spCheckE K) := ok_check_entries g c_is_name c_OutOfRange (fd_check_entries c) (mg_check_entries X N c) (fun vs H Q E h => p_check_entries cf vs H Q E h)
  have c_value_text : C8.Cal P w K mg base 1 "_value_text" (spVText K) [] := ok_value_text g (fd_value_text c) (mg_value_text X N c) (fun vs H Q E h => p_value_text vs H Q E h)
  have c_write_record : C8.Cal P w K mg base 2 "write_record" (spWriteR K) [] := ok_write_record g c_value_text (fd_write_record c) (mg_write_record X N c) (fun vs H Q E h => p_write_record vs H Q E h)
  have c_read_number : C8.Cal P w K mg base 1 "_read_number" (spReadNum K) [] := ok_read_number g (fd_read_number c) (mg_read_number X N c) (fun vs H Q E h => p_read_number vs H Q E h)
  have c_read_value : C8.Cal P w K mg base 2 "_read_value" (spReadVal K) [] := ok_read_value g c_read_number (fd_read_value c) (mg_read_value X N c) (fun vs H Q E h => p_read_value vs H Q E h)
  have c_read_values : C8.Cal P w K mg base 3 "_read_values" (spReadVals K) [] := ok_read_values g c_read_value (fd_read_values c) (mg_read_values X N c) (fun vs H Q E h => p_read_values vs H Q E h)
  have c_read_call : C8.Cal P w K mg base 4 "_read_call" (spReadCall K) [] := ok_read_call g c_is_value c_is_name c_read_values c_read_number (fd_read_call c) (mg_read_call X N c) (fun vs H Q E h => p_read_call vs H Q E h)
  have c_read_entries : C8.Cal P w K mg base 4 "_read_entries" (spReadEnt K) [] := ok_read_entries g c_check_entries (fd_read_entries c) (mg_read_entries X N c) (fun vs H Q E h => p_read_entries cf vs H Q E h)
  have c_read : C8.Cal P w K mg base 5 "_read" (spRead K) [] := ok_read g c_is_name c_read_number c_read_call c_read_entries (fd_read c) (mg_read X N c) (fun vs H Q E h => p_read vs H Q E h)
  have c_read_record : C8.Cal P w K mg base 6 "read_record" (spReadRec K) [] := ok_read_record g c_write_record c_read (fd_read_record c) (mg_read_record X N c) (fun vs H Q E h => p_read_record vs H Q E h)
  have c_Disk_cut : C8.Met P w K mg base 1 (He.ga K "Disk") "_cut" (Di.spCut K) [] := ok_Disk_cut g (fd_Disk_cut c) (fun vs H Q E h => Di.p_cut cf vs H Q E h)
  have c_Disk_spend : MetX P w K mg base 2 (He.ga K "Disk") "_spend" (Di.spSpend K) := ok_Disk_spend g c_Disk_cut (fd_Disk_spend c) (fun vs H Q E h => Di.p_spend cf vs H Q E h)
  have c_Disk_check_at : MetX P w K mg base 3 (He.ga K "Disk") "_check_at" (Di.spCheckAt K) := ok_Disk_check_at g c_OutOfRange (fd_Disk_check_at c) (fun vs H Q E h => Di.p_check_at cf vs H Q E h)
  have c_Disk_write : MetX P w K mg base 4 (He.ga K "Disk") "write" (Di.spWrite K) := ok_Disk_write g c_Disk_spend c_is_block c_OutOfRange c_Disk_check_at (fd_Disk_write c) (fun vs H Q E h => Di.p_write cf vs H Q E h)
  have c_write_blocks : CalX P w K mg base 5 "_write_blocks" (spWriteB K) := ok_write_blocks g c_Disk_write (fd_write_blocks c) (mg_write_blocks X N c) (fun vs H Q E h => p_write_blocks vs H Q E h)
  have c_Disk_size : C8.Met P w K mg base 1 (He.ga K "Disk") "size" (Di.spSize K) [] := ok_Disk_size g (fd_Disk_size c) (fun vs H Q E h => Di.p_size cf vs H Q E h)
  have c_clear : CalX P w K mg base 5 "_clear" (spClear K) := ok_clear g c_Disk_size c_Disk_write (fd_clear c) (mg_clear X N c) (fun vs H Q E h => p_clear vs H Q E h)
  have c_Disk_flush : MetX P w K mg base 3 (He.ga K "Disk") "flush" (Di.spFlush K) := ok_Disk_flush g c_Disk_spend (fd_Disk_flush c) (fun vs H Q E h => Di.p_flush cf vs H Q E h)
  have c_format_disk : CalX P w K mg base 6 "format_disk" (spFormat K) := ok_format_disk g c_Disk_flush c_clear c_write_blocks c_encode_record c_write_record c_check_entries (fd_format_disk c) (mg_format_disk X N c) (fun vs H Q E h => p_format vs H Q E h)
  have c_Disk_read : MetX P w K mg base 4 (He.ga K "Disk") "read" (Di.spRead K) := ok_Disk_read g c_Disk_check_at (fd_Disk_read c) (fun vs H Q E h => Di.p_read cf vs H Q E h)
  have c_read_text : CalX P w K mg base 5 "_read_text" (spReadText K) := ok_read_text g c_decode_piece c_Disk_read c_Disk_size (fd_read_text c) (mg_read_text X N c) (fun vs H Q E h => p_read_text vs H Q E h)
  have c_read_records : CalX P w K mg base 7 "_read_records" (spReadRecs K) := ok_read_records g c_read_text c_read_record (fd_read_records c) (mg_read_records X N c) (fun vs H Q E h => p_read_records vs H Q E h)
  have c_good_records : C8.Cal P w K mg base 1 "_good_records" (spGood K) [] := ok_good_records g (fd_good_records c) (mg_good_records X N c) (fun vs H Q E h => p_good_records vs H Q E h)
  have c_Disk_cut_count : C8.Met P w K mg base 1 (He.ga K "Disk") "cut_count" (Di.spCuts K) [] := ok_Disk_cut_count g (fd_Disk_cut_count c) (fun vs H Q E h => Di.p_cuts cf vs H Q E h)
  have c_Log_init : C8.Mak P w K mg base 2 "Log" (He.ga K "Log") (spLogInit K) [] := ok_Log_init g c_Disk_cut_count (fd_Log_init c) (fun vs H Q E h => p_log_init cf vs H Q E h)
  have c_open_log : CalX P w K mg base 8 "open_log" (spOpen K) := ok_open_log g c_Log_init c_Disk_flush c_clear c_good_records c_read_records (fd_open_log c) (mg_open_log X N c) (fun vs H Q E h => p_open_log vs H Q E h)
  have c_l_cell : C8.Cal P w K mg base 1 "_law_cell" (spCell K) [] := ok_l_cell g (fd_l_cell c) (mg_l_cell X N c) (fun vs H Q E h => p_cell vs H Q E h)
  have c_l_digits : C8.Cal P w K mg base 2 "_law_digits" (spDigits K) [] := ok_l_digits g c_l_cell (fd_l_digits c) (mg_l_digits X N c) (fun vs H Q E h => p_digits vs H Q E h)
  have c_l_draw : C8.Cal P w K mg base 1 "_law_draw" (spDraw K) [] := ok_l_draw g (fd_l_draw c) (mg_l_draw X N c) (fun vs H Q E h => p_draw vs H Q E h)
  have c_l_alike : CalG P w K mg base 1 "_law_alike" (spAlike K) [] := ok_l_alike g (fd_l_alike c) (mg_l_alike X N c) (fun vs H Q E h => p_alike vs H Q E h)
  have c_l_value_text : C8.Cal P w K mg base 1 "_law_value_text" (spVText K) [] := ok_l_value_text g (fd_l_value_text c) (mg_l_value_text X N c) (fun vs H Q E h => p_lvalue_text vs H Q E h)
  have c_l_record_text : C8.Cal P w K mg base 2 "_law_record_text" (spWriteR K) [] := ok_l_record_text g c_l_value_text (fd_l_record_text c) (mg_l_record_text X N c) (fun vs H Q E h => p_lrecord_text vs H Q E h)
  have c_l_pieces : C8.Cal P w K mg base 1 "_law_pieces" (spPieces K) [] := ok_l_pieces g (fd_l_pieces c) (mg_l_pieces X N c) (fun vs H Q E h => p_pieces vs H Q E h)
  have c_l_used_blocks : C8.Cal P w K mg base 3 "_law_used_blocks" (spUsed K) [] := ok_l_used_blocks g c_l_pieces c_l_record_text (fd_l_used_blocks c) (mg_l_used_blocks X N c) (fun vs H Q E h => p_used vs H Q E h)
  have c_l_some_value : C8.Cal P w K mg base 2 "_law_some_value" (spSome K) [] := ok_l_some_value g c_l_draw (fd_l_some_value c) (mg_l_some_value X N c) (fun vs H Q E h => p_some vs H Q E h)
  have c_l_small_text : C8.Cal P w K mg base 2 "_law_small_text" (spSmall K) [] := ok_l_small_text g c_l_draw (fd_l_small_text c) (mg_l_small_text X N c) (fun vs H Q E h => p_small vs H Q E h)
  have c_l_some_rows : C8.Cal P w K mg base 3 "_law_some_rows" (spRows K) [] := ok_l_some_rows g c_l_small_text c_l_draw c_l_some_value (fd_l_some_rows c) (mg_l_some_rows X N c) (fun vs H Q E h => p_rows vs H Q E h)
  have c_l_entries : C8.Cal P w K mg base 2 "_law_entries" (spEntries K) [] := ok_l_entries g c_l_draw (fd_l_entries c) (mg_l_entries X N c) (fun vs H Q E h => p_entries vs H Q E h)
  have c_Log_free_blocks : C8.Met P w K mg base 2 (He.ga K "Log") "free_blocks" (spFree K) [] := ok_Log_free_blocks g c_Disk_size (fd_Log_free_blocks c) (fun vs H Q E h => p_free cf vs H Q E h)
  have c_Log_blocks_of : C8.Met P w K mg base 3 (He.ga K "Log") "_blocks_of" (spBlocksOf K) [] := ok_Log_blocks_of g c_encode_record c_write_record (fd_Log_blocks_of c) (fun vs H Q E h => p_blocks_of cf vs H Q E h)
  have c_Log_check_open : MetX P w K mg base 2 (He.ga K "Log") "check_open" (spCheckOpen K) := ok_Log_check_open g c_Disk_cut_count (fd_Log_check_open c) (fun vs H Q E h => p_check_open cf vs H Q E h)
  have c_Log_append : MetX P w K mg base 6 (He.ga K "Log") "append" (spAppend K) := ok_Log_append g c_write_blocks c_Log_free_blocks c_Log_blocks_of c_Log_check_open (fd_Log_append c) (fun vs H Q E h => p_append cf vs H Q E h)
  have c_l_append : C8.Cal P w K mg base 7 "_law_append" (spLAppend K) [] := ok_l_append g c_Log_append (fd_l_append c) (mg_l_append X N c) (fun vs H Q E h => p_lappend cf vs H Q E h)
  have c_Log_room : C8.Met P w K mg base 4 (He.ga K "Log") "room" (spRoom K) [] := ok_Log_room g c_Log_blocks_of c_Log_free_blocks (fd_Log_room c) (fun vs H Q E h => p_room cf vs H Q E h)
  have c_l_one : CalG P w K mg base 8 "_law_one" (spOne K) [] := ok_l_one g c_l_append c_l_alike c_Log_room c_l_used_blocks (fd_l_one c) (mg_l_one X N c) (fun vs H Q E h => p_one vs H Q E h)
  have c_Log_records : C8.Met P w K mg base 1 (He.ga K "Log") "records" (spRecords K) [] := ok_Log_records g (fd_Log_records c) (fun vs H Q E h => p_records cf vs H Q E h)
  have c_Log_sync : MetX P w K mg base 4 (He.ga K "Log") "sync" (spSync K) := ok_Log_sync g c_Disk_flush c_Log_check_open (fd_Log_sync c) (fun vs H Q E h => p_sync cf vs H Q E h)
  have c_Disk_pending_count : C8.Met P w K mg base 1 (He.ga K "Disk") "pending_count" (Di.spPend K) [] := ok_Disk_pending_count g (fd_Disk_pending_count c) (fun vs H Q E h => Di.p_pend cf vs H Q E h)
  have c_Disk_init : MakX P w K mg base 3 "Disk" (He.ga K "Disk") (Di.spInit K) := ok_Disk_init g c_OutOfRange (fd_Disk_init c) (fun vs H Q E h => Di.p_init cf vs H Q E h)
  exact okG F sc_law (fun vs H Q E h => (p_law vs H Q E h).1) (fun cdv A outer s H vs Q E hr hgd h => ⟨_, PSs.nox (d_law g c_l_alike c_Log_records c_open_log c_Log_free_blocks c_l_used_blocks c_Log_sync c_Disk_pending_count c_l_one c_l_some_rows c_l_draw c_format_disk c_l_entries c_Disk_init c_l_digits hr hgd), (p_law vs H Q E h).2⟩)
end K47
open PySem PySem.W PySem.Calls PyProof.Rows
set_option maxRecDepth 100000 in
set_option maxHeartbeats 0 in
theorem PySem.Challenge.cw_sameasnew_k47_log_without_cuts_holds : PySem.Challenge.rw_sameasnew_k47_log_without_cuts.Holds := by
  w_on; o_law
  refine HandSHeadRun.head_any (r := OpenLaw.row PySem.Challenge.rw_sameasnew_k47_log_without_cuts) (q := view (OpenLaw.row PySem.Challenge.rw_sameasnew_k47_log_without_cuts).prog [79]) (H := K47.hk) (ob := K47.ob) (M := 6000) (loose := K47.loose) (d := HandSHeadRun.topDef (OpenLaw.row PySem.Challenge.rw_sameasnew_k47_log_without_cuts).prog 79) (kwd := []) K47.ob_eq
    (by kernel_rfl) (fun s => by kernel_rfl) K47.run (by kernel_rfl) (by kernel_rfl) (by kernel_rfl) (by rfl) (by first | assumption | decide +kernel) (by decide +kernel) ⟨rfl, rfl, rfl, rfl, rfl, by decide +kernel⟩ ?hw ?hc
  case hw => w_witness2
  case hc =>
    refine Lg.walk_ofG (l := PySem.Challenge.rw_sameasnew_k47_log_without_cuts) (n := 63) (k := 9) (x := "_law_script") (CX := L2.CX0) rfl (by decide) (by kernel_rfl) ⟨rfl, by decide, by decide⟩ ?F (fun _ _ _ _ z => z)
    intro w mg fa h Y G hmg0
    obtain ⟨K, KX, c, cx⟩ := Y
    have hmg : mg ("law" : PySem.Str) = some (.ref fa) := by
      have e : (HandSHeadRun.topDef (OpenLaw.row PySem.Challenge.rw_sameasnew_k47_log_without_cuts).prog 79).name = ("law" : PySem.Str) := by kernel_rfl
      rw [← e]
      exact hmg0
    obtain ⟨fd, hb, hF⟩ := K47.facts (P := (PySem.Challenge.rw_sameasnew_k47_log_without_cuts).prog) (w := w) KX G hmg c cx
    exact ⟨K, fd, K47.spLaw K, KX, hb, fun H a ns hl hO hS => ⟨a, ns, rfl, hO, hS, K47.mk_CF c cx, fun _ => rfl⟩, hF⟩

