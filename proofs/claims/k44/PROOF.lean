import PyProof.Rows.All
import Wide.All
import OpenK.AllK
import Wide.FinOn
import KE.KStateDown
import Lean
import HandS.ForMost
import HandS.ForExc
import HandS.Defaults
import HandS.Codes
import HandS.IsInst
import HandS.NoneIn
import HandS.TupAny
import HandS.TryOnly
import HandS.Flow
import HandS.Deep
import HandS.Head0
import HandS.Head1
import HandS.Head2
import HandS.HeadEnd
import HandS.HeadHook1
import HandS.HeadHook2
import HandS.Walk
import PySem.Challenge.RW_sameasnew_k44_any_block_is_read_so
set_option Elab.async false
set_option linter.all false
set_option maxRecDepth 100000
set_option maxHeartbeats 4000000
/-! A ledger over the abstract heap: what is owned, what is data. -/
namespace Lg
open PySem PySem.Spec PyProof.Rows L2

abbrev Ex (H H' : Hp) : Prop := ∀ a o, H a = some o → H' a = some o
theorem Ex.rfl {H : Hp} : Ex H H := fun _ _ h => h
theorem Ex.tr {H H1 H2 : Hp} (a : Ex H H1) (b : Ex H1 H2) : Ex H H2 := fun x o h => b x o (a x o h)
theorem Ex.none {H H' : Hp} (e : Ex H H') {a : Addr} (h : H' a = Option.none) : H a = Option.none := by
  cases q : H a with
  | none => rfl
  | some o => rw [e a o q] at h; cases h
theorem Ex.upd {F H : Hp} (e : Ex F H) {p : Addr} {o : HO} (h : F p = Option.none) : Ex F (upd H p o) := fun a u ha => by
  rw [upd_ne (ne_of_none ha h)]; exact e a u ha
theorem Ex.both {F H : Hp} (e : Ex F H) {p : Addr} {o : HO} : Ex (L2.upd F p o) (L2.upd H p o) := fun a u ha => by
  by_cases h : a = p
  · subst h; rw [upd_same] at ha ⊢; exact ha
  · rw [upd_ne h] at ha ⊢; exact e a u ha
theorem Ex.new {H : Hp} {p : Addr} {o : HO} (h : H p = Option.none) : Ex H (L2.upd H p o) := Ex.upd Ex.rfl h
theorem Ex.rd {H H' : Hp} {a : Addr} {u : HO} (e : Ex H H') (h : Rd H a u) : Rd H' a u := by
  rcases h with h | ⟨o, h⟩
  · exact Or.inl (e a _ h)
  · exact Or.inr ⟨o, e a _ h⟩
theorem Ex.sqT {K : PySem.W.Frag} {H H' : Hp} {a : Addr} {xs : List V} (e : Ex H H') (h : SqT K H a xs) : SqT K H' a xs := by
  rcases h with h | h
  · exact Or.inl (e.rd h)
  · exact Or.inr h
theorem Ex.sqL {K : PySem.W.Frag} {H H' : Hp} {a : Addr} {xs : List V} (e : Ex H H') (h : SqL K H a xs) : SqL K H' a xs := by
  rcases h with h | h
  · exact Or.inl (e.rd h)
  · exact Or.inr h

/-! ### data -/
mutual
inductive Dv (K : PySem.W.Frag) (F : Hp) : V → PyData → Prop
  | non : Dv K F .non .none
  | bl (b : Bool) : Dv K F (.bl b) (.bool b)
  | int (i : Int) : Dv K F (.int i) (.int i)
  | str (x : Str) : Dv K F (.str x) (.str x)
  | lst {a : Addr} {xs : List V} {ds : List PyData} : F a = some (.lst xs) → DvAll K F xs ds → Dv K F (.ref a) (.list ds)
  | tup {a : Addr} {xs : List V} {ds : List PyData} : SqT K F a xs → DvAll K F xs ds → Dv K F (.ref a) (.tuple ds)
inductive DvAll (K : PySem.W.Frag) (F : Hp) : List V → List PyData → Prop
  | nil : DvAll K F [] []
  | cons {v : V} {vs : List V} {d : PyData} {ds : List PyData} : Dv K F v d → DvAll K F vs ds → DvAll K F (v :: vs) (d :: ds)
end
section
variable {K : PySem.W.Frag} {F F' : Hp}
mutual
theorem Dv.mono (e : Ex F F') : ∀ (d : PyData) (v : V), Dv K F v d → Dv K F' v d
  | .none, _, h => by cases h; exact .non
  | .bool b, _, h => by cases h; exact .bl b
  | .int i, _, h => by cases h; exact .int i
  | .str x, _, h => by cases h; exact .str x
  | .list ds, _, h => by
    cases h with
    | lst hs ha => exact .lst (e _ _ hs) (DvAll.mono e ds _ ha)
  | .tuple ds, _, h => by
    cases h with
    | tup hs ha => exact .tup (e.sqT hs) (DvAll.mono e ds _ ha)
  | .dict _, _, h => by cases h
theorem DvAll.mono (e : Ex F F') : ∀ (ds : List PyData) (vs : List V), DvAll K F vs ds → DvAll K F' vs ds
  | [], _, h => by cases h; exact .nil
  | d :: ds, _, h => by
    cases h with
    | cons h1 h2 => exact .cons (Dv.mono e d _ h1) (DvAll.mono e ds _ h2)
end
mutual
theorem Dv.dp : ∀ (d : PyData) (v : V), Dv K F v d → Dp K F v d
  | .none, _, h => by cases h; exact .non
  | .bool b, _, h => by cases h; exact .bl b
  | .int i, _, h => by cases h; exact .int i
  | .str x, _, h => by cases h; exact .str x
  | .list ds, _, h => by
    cases h with
    | lst hs ha => exact .lst (SqL.of hs) (DvAll.dp ds _ ha)
  | .tuple ds, _, h => by
    cases h with
    | tup hs ha => exact .tup hs (DvAll.dp ds _ ha)
  | .dict _, _, h => by cases h
theorem DvAll.dp : ∀ (ds : List PyData) (vs : List V), DvAll K F vs ds → DpAll K F vs ds
  | [], _, h => by cases h; exact .nil
  | d :: ds, _, h => by
    cases h with
    | cons h1 h2 => exact .cons (Dv.dp d _ h1) (DvAll.dp ds _ h2)
end
theorem DvAll.len : ∀ {vs : List V} {ds : List PyData}, DvAll K F vs ds → vs.length = ds.length
  | _, [], h => by cases h; rfl
  | _, d :: ds, h => by
    cases h with
    | cons h1 h2 => simp [DvAll.len h2]
theorem DvAll.get : ∀ {vs : List V} {ds : List PyData} {i : Nat} {d : PyData}, DvAll K F vs ds → ds[i]? = some d → ∃ v, vs[i]? = some v ∧ Dv K F v d
  | _, [], i, d, h, e => by simp at e
  | _, d0 :: ds, 0, d, h, e => by
    cases h with
    | cons h1 h2 => simp at e; subst e; exact ⟨_, rfl, h1⟩
  | _, d0 :: ds, i + 1, d, h, e => by
    cases h with
    | cons h1 h2 => simp at e; obtain ⟨v, q, r⟩ := DvAll.get h2 e; exact ⟨v, by simpa using q, r⟩
theorem DvAll.get' : ∀ {vs : List V} {ds : List PyData} {i : Nat} {v : V}, DvAll K F vs ds → vs[i]? = some v → ∃ d, ds[i]? = some d ∧ Dv K F v d
  | _, [], i, d, h, e => by cases h; simp at e
  | _, d0 :: ds, 0, d, h, e => by
    cases h with
    | cons h1 h2 => simp at e; subst e; exact ⟨_, rfl, h1⟩
  | _, d0 :: ds, i + 1, d, h, e => by
    cases h with
    | cons h1 h2 => simp at e; obtain ⟨v, q, r⟩ := DvAll.get' h2 e; exact ⟨v, by simpa using q, r⟩
theorem DvAll.app : ∀ {vs ws : List V} {ds es : List PyData}, DvAll K F vs ds → DvAll K F ws es → DvAll K F (vs ++ ws) (ds ++ es)
  | _, _, [], _, h, h' => by cases h; exact h'
  | _, _, d :: ds, _, h, h' => by
    cases h with
    | cons h1 h2 => exact .cons h1 (DvAll.app h2 h')
theorem DvAll.take : ∀ {vs : List V} {ds : List PyData} (n : Nat), DvAll K F vs ds → DvAll K F (vs.take n) (ds.take n)
  | _, [], n, h => by cases h; simp; exact .nil
  | _, d :: ds, 0, h => by simp; exact .nil
  | _, d :: ds, n + 1, h => by
    cases h with
    | cons h1 h2 => exact .cons h1 (DvAll.take n h2)
theorem DvAll.drop : ∀ {vs : List V} {ds : List PyData} (n : Nat), DvAll K F vs ds → DvAll K F (vs.drop n) (ds.drop n)
  | _, [], n, h => by cases h; simp; exact .nil
  | _, d :: ds, 0, h => h
  | _, d :: ds, n + 1, h => by
    cases h with
    | cons h1 h2 => exact DvAll.drop n h2
theorem DvAll.set : ∀ {vs : List V} {ds : List PyData} {v : V} {d : PyData} (n : Nat), DvAll K F vs ds → Dv K F v d → DvAll K F (vs.set n v) (ds.set n d)
  | _, [], _, _, n, h, _ => by cases h; simp; exact .nil
  | _, d :: ds, _, _, 0, h, q => by
    cases h with
    | cons h1 h2 => exact .cons q h2
  | _, d :: ds, _, _, n + 1, h, q => by
    cases h with
    | cons h1 h2 => exact .cons h1 (DvAll.set n h2 q)
theorem DvAll.ints : ∀ (ns : List Int), DvAll K F (ns.map V.int) (ns.map PyData.int)
  | [] => .nil
  | n :: ns => .cons (.int n) (DvAll.ints ns)
theorem DvAll.ints_inv : ∀ {ns : List Int} {vs : List V}, DvAll K F vs (ns.map PyData.int) → vs = ns.map V.int
  | [], _, h => by cases h; rfl
  | n :: ns, _, h => by
    cases h with
    | cons h1 h2 => cases h1; simp [DvAll.ints_inv h2]
theorem DvAll.strs : ∀ (ns : List Str), DvAll K F (ns.map V.str) (ns.map PyData.str)
  | [] => .nil
  | n :: ns => .cons (.str n) (DvAll.strs ns)
theorem DvAll.strs_inv : ∀ {ns : List Str} {vs : List V}, DvAll K F vs (ns.map PyData.str) → vs = ns.map V.str
  | [], _, h => by cases h; rfl
  | n :: ns, _, h => by
    cases h with
    | cons h1 h2 => cases h1; simp [DvAll.strs_inv h2]
theorem DvAll.bls : ∀ (ns : List Bool), DvAll K F (ns.map V.bl) (ns.map PyData.bool)
  | [] => .nil
  | n :: ns => .cons (.bl n) (DvAll.bls ns)
theorem DvAll.bls_inv : ∀ {ns : List Bool} {vs : List V}, DvAll K F vs (ns.map PyData.bool) → vs = ns.map V.bl
  | [], _, h => by cases h; rfl
  | n :: ns, _, h => by
    cases h with
    | cons h1 h2 => cases h1; simp [DvAll.bls_inv h2]
theorem DvAll.rep {v : V} {d : PyData} (h : Dv K F v d) : ∀ n, DvAll K F (List.replicate n v) (List.replicate n d)
  | 0 => .nil
  | n + 1 => .cons h (DvAll.rep h n)
theorem DvAll.flat {vs : List V} {ds : List PyData} (h : DvAll K F vs ds) : ∀ n, DvAll K F (List.replicate n vs).flatten (List.replicate n ds).flatten
  | 0 => .nil
  | n + 1 => by
    rw [List.replicate_succ, List.replicate_succ, List.flatten_cons, List.flatten_cons]
    exact h.app (DvAll.flat h n)
end

/-! ### the ledger -/
structure Pr where
  p : Hp → HO → Prop
  mono : ∀ F F' o, Ex F F' → p F o → p F' o
def Pr.eq (o : HO) : Pr := ⟨fun _ x => x = o, fun _ _ _ _ h => h⟩
def Pr.ls (K : PySem.W.Frag) (ds : List PyData) : Pr := ⟨fun F x => ∃ xs, x = .lst xs ∧ DvAll K F xs ds, fun _ _ _ e ⟨xs, h, q⟩ => ⟨xs, h, DvAll.mono e _ _ q⟩⟩
def Pr.box (K : PySem.W.Frag) : Pr := ⟨fun F x => ∃ (d : Addr) (at_ : Int) (ns : List Int), x = .lst [.ref d, .int at_] ∧ 0 ≤ at_ ∧ F d = some (.lst (ns.map V.int)), fun _ _ _ e ⟨d, i, ns, h, q, r⟩ => ⟨d, i, ns, h, q, e _ _ r⟩⟩
/-- what stays true -/
structure Fr where
  p : Hp → Prop
  mono : ∀ F F', Ex F F' → p F → p F'
def Fr.seq (K : PySem.W.Frag) (a : Addr) (ns : List Int) : Fr := ⟨fun F => SqL K F a (ns.map V.int), fun _ _ e h => e.sqL h⟩
inductive Ent where
  | cell (a : Addr) (φ : Pr)
  | dat (v : V) (d : PyData)
  | fact (φ : Fr)
/-- owned: what stands there, a list of data, the law's box of draws -/
abbrev own (a : Addr) (o : HO) : Ent := .cell a (.eq o)
abbrev ls (K : PySem.W.Frag) (a : Addr) (ds : List PyData) : Ent := .cell a (.ls K ds)
abbrev bx (K : PySem.W.Frag) (a : Addr) : Ent := .cell a (.box K)
abbrev dat (v : V) (d : PyData) : Ent := .dat v d
def Ent.adr : Ent → Option Addr
  | .cell a _ => some a
  | .dat _ _ => none
  | .fact _ => none
def Ent.ok (K : PySem.W.Frag) (F H : Hp) : Ent → Prop
  | .cell a φ => F a = none ∧ ∃ o, H a = some o ∧ φ.p F o
  | .dat v d => Dv K F v d
  | .fact φ => φ.p F
structure St (K : PySem.W.Frag) (L : List Ent) (H : Hp) : Prop where
  ex : ∃ F, Ex F H ∧ ∀ e ∈ L, e.ok K F H
  nd : (L.filterMap Ent.adr).Nodup

/-- L' is L with e turned to e' -/
inductive Put : List Ent → Ent → Ent → List Ent → Prop
  | here {e e' : Ent} {L : List Ent} : Put (e :: L) e e' (e' :: L)
  | there {x e e' : Ent} {L L' : List Ent} : Put L e e' L' → Put (x :: L) e e' (x :: L')
/-- L is e beside L' -/
inductive Rem : List Ent → Ent → List Ent → Prop
  | here {e : Ent} {L : List Ent} : Rem (e :: L) e L
  | there {x e : Ent} {L L' : List Ent} : Rem L e L' → Rem (x :: L) e (x :: L')
inductive Pick : List Ent → List Ent → Prop
  | nil {L : List Ent} : Pick [] L
  | refl {L : List Ent} : Pick L L
  | drop {x : Ent} {L L' : List Ent} : Pick L' L → Pick L' (x :: L)
  | cons {e : Ent} {L L' L1 : List Ent} : Rem L e L1 → Pick L' L1 → Pick (e :: L') L
theorem Put.mem {L L' : List Ent} {e e' : Ent} (h : Put L e e' L') : e ∈ L := by
  induction h with
  | here => exact .head _
  | there _ ih => exact .tail _ ih
theorem Rem.perm {L L' : List Ent} {e : Ent} (h : Rem L e L') : L.Perm (e :: L') := by
  induction h with
  | here => exact .refl _
  | there _ ih => exact (List.Perm.cons _ ih).trans (List.Perm.swap _ _ _)
theorem Put.perm {L L' : List Ent} {e e' : Ent} (h : Put L e e' L') : ∃ R, L.Perm (e :: R) ∧ L'.Perm (e' :: R) := by
  induction h with
  | here => exact ⟨_, .refl _, .refl _⟩
  | @there x _ _ _ _ _ ih =>
    obtain ⟨R, h1, h2⟩ := ih
    exact ⟨x :: R, (List.Perm.cons _ h1).trans (List.Perm.swap _ _ _), (List.Perm.cons _ h2).trans (List.Perm.swap _ _ _)⟩
section
variable {K : PySem.W.Frag} {L L' : List Ent} {H : Hp} {a p : Addr} {φ ψ : Pr} {o : HO} {v : V} {d : PyData}
theorem St.perm (h : St K L H) (q : L.Perm L') : St K L' H := by
  obtain ⟨F, h1, h2⟩ := h.ex
  exact ⟨⟨F, h1, fun e he => h2 e (q.mem_iff.mpr he)⟩, (q.filterMap _).nodup_iff.mp h.nd⟩
theorem St.tail {e : Ent} (h : St K (e :: L) H) : St K L H := by
  obtain ⟨F, h1, h2⟩ := h.ex
  refine ⟨⟨F, h1, fun e he => h2 e (.tail _ he)⟩, ?_⟩
  have := h.nd
  cases e with
  | cell a φ => exact (List.nodup_cons.mp this).2
  | dat v d => exact this
  | fact φ => exact this
theorem St.pick (q : Pick L' L) : ∀ {A : List Ent}, St K (A ++ L) H → St K (A ++ L') H := by
  induction q with
  | @nil L => 
    intro A h
    rw [List.append_nil]
    obtain ⟨F, h1, h2⟩ := h.ex
    refine ⟨⟨F, h1, fun e he => h2 e (List.mem_append_left _ he)⟩, ?_⟩
    have := h.nd
    rw [List.filterMap_append] at this
    exact (List.nodup_append.mp this).1
  | refl => intro A h; exact h
  | @drop x L L' _ ih =>
    intro A h
    exact ih (h.perm (List.perm_middle)).tail
  | @cons e L L' L1 hr _ ih =>
    intro A h
    have h1 : St K (A ++ (e :: L1)) H := h.perm (List.Perm.append_left A hr.perm)
    have h2 : St K ((A ++ [e]) ++ L1) H := by rw [List.append_assoc]; exact h1
    have h3 := ih h2
    rw [List.append_assoc] at h3
    exact h3
theorem St.to (h : St K L H) (q : Pick L' L) : St K L' H := by
  have := St.pick (A := []) q h
  exact this
theorem St.put_to {e e' : Ent} (h : St K L H) (q : Put L e e' L') : ∃ R, St K (e :: R) H ∧ L'.Perm (e' :: R) := by
  obtain ⟨R, h1, h2⟩ := q.perm
  exact ⟨R, h.perm h1, h2⟩
theorem St.cell (h : St K L H) (m : Ent.cell a φ ∈ L) : ∃ F o, Ex F H ∧ F a = none ∧ H a = some o ∧ φ.p F o := by
  obtain ⟨F, h1, h2⟩ := h.ex
  obtain ⟨h3, o, h4, h5⟩ := h2 _ m
  exact ⟨F, o, h1, h3, h4, h5⟩
theorem St.own (h : St K L H) (m : Lg.own a o ∈ L) : H a = some o := by
  obtain ⟨F, x, _, _, h4, rfl⟩ := h.cell m
  exact h4
theorem St.ls (h : St K L H) {ds : List PyData} (m : Lg.ls K a ds ∈ L) : ∃ F xs, Ex F H ∧ H a = some (.lst xs) ∧ DvAll K F xs ds := by
  obtain ⟨F, x, h1, _, h4, xs, rfl, h5⟩ := h.cell m
  exact ⟨F, xs, h1, h4, h5⟩
/-- a new cell -/
theorem St.alloc (h : St K L H) (hp : H p = none) (q : ∀ F, Ex F H → (∀ e ∈ L, e.ok K F H) → φ.p F o) : St K (.cell p φ :: L) (upd H p o) := by
  obtain ⟨F, h1, h2⟩ := h.ex
  have hF : F p = none := h1.none hp
  refine ⟨⟨F, h1.upd hF, fun e he => ?_⟩, ?_⟩
  · cases he with
    | head => exact ⟨hF, o, upd_same, q F h1 h2⟩
    | tail _ he =>
      have := h2 e he
      cases e with
      | cell a φ =>
        obtain ⟨h3, o', h4, h5⟩ := this
        exact ⟨h3, o', by rw [upd_ne (ne_of_none h4 hp)]; exact h4, h5⟩
      | dat v d => exact this
      | fact φ => exact this
  · show (p :: L.filterMap Ent.adr).Nodup
    refine List.nodup_cons.mpr ⟨fun m => ?_, h.nd⟩
    obtain ⟨e, he, q⟩ := List.mem_filterMap.mp m
    cases e with
    | cell a φ =>
      cases q
      obtain ⟨_, o', h4, _⟩ := h2 _ he
      rw [hp] at h4; cases h4
    | dat v d => cases q
    | fact φ => cases q
/-- a cell is written -/
theorem St.write (h : St K (.cell a φ :: L) H) (q : ∀ F x, Ex F H → (∀ e ∈ Ent.cell a φ :: L, e.ok K F H) → H a = some x → φ.p F x → ψ.p F o) : St K (.cell a ψ :: L) (upd H a o) := by
  obtain ⟨F, h1, h2⟩ := h.ex
  obtain ⟨h3, x, h4, h5⟩ := h2 _ (.head _)
  refine ⟨⟨F, h1.upd h3, fun e he => ?_⟩, h.nd⟩
  cases he with
  | head => exact ⟨h3, o, upd_same, q F x h1 h2 h4 h5⟩
  | tail _ he =>
    have := h2 e (.tail _ he)
    cases e with
    | cell b φ' =>
      obtain ⟨h6, o', h7, h8⟩ := this
      have hne : b ≠ a := fun z => by
        have hn := h.nd
        have hn' : (a :: L.filterMap Ent.adr).Nodup := hn
        exact (List.nodup_cons.mp hn').1 (List.mem_filterMap.mpr ⟨_, he, by rw [z]; rfl⟩)
      exact ⟨h6, o', by rw [upd_ne hne]; exact h7, h8⟩
    | dat v d => exact this
    | fact φ => exact this
theorem St.writeP (h : St K L H) (m : Put L (.cell a φ) (.cell a ψ) L') (q : ∀ F x, Ex F H → (∀ e ∈ L, e.ok K F H) → H a = some x → φ.p F x → ψ.p F o) : St K L' (upd H a o) := by
  obtain ⟨R, h1, h2⟩ := m.perm
  exact ((h.perm h1).write (ψ := ψ) (o := o) fun F x e hd hx hφ => q F x e (fun u m => hd u (h1.mem_iff.mp m)) hx hφ).perm h2.symm
/-- a cell within, its word kept -/
theorem St.turn (h : St K L H) (m : Ent.cell a φ ∈ L) (q : ∀ F x, Ex F H → H a = some x → φ.p F x → φ.p F o) : St K L (upd H a o) := by
  obtain ⟨A, B, rfl⟩ := List.append_of_mem m
  have p1 : (A ++ .cell a φ :: B).Perm (.cell a φ :: (A ++ B)) := List.perm_middle
  exact ((h.perm p1).write fun F x e _ => q F x e).perm p1.symm
/-- a new frozen object -/
theorem St.fresh (h : St K L H) (hp : H p = none) (q : ∀ F, F p = none → Ex F H → (∀ e ∈ L, e.ok K F H) → Dv K (upd F p o) v d) : St K (.dat v d :: L) (upd H p o) := by
  obtain ⟨F, h1, h2⟩ := h.ex
  have hF : F p = none := h1.none hp
  refine ⟨⟨upd F p o, h1.both, fun e he => ?_⟩, h.nd⟩
  cases he with
  | head => exact q F hF h1 h2
  | tail _ he =>
    have := h2 e he
    cases e with
    | cell a φ =>
      obtain ⟨h3, o', h4, h5⟩ := this
      have hne : a ≠ p := ne_of_none h4 hp
      exact ⟨by rw [upd_ne hne]; exact h3, o', by rw [upd_ne hne]; exact h4, φ.mono _ _ _ (Ex.new hF) h5⟩
    | dat v d => exact Dv.mono (Ex.new hF) _ _ this
    | fact φ => exact φ.mono _ _ (Ex.new hF) this
/-- an owned list becomes data -/
theorem St.freeze {ds : List PyData} (h : St K (.cell a (.ls K ds) :: L) H) : St K (.dat (.ref a) (.list ds) :: L) H := by
  obtain ⟨F, h1, h2⟩ := h.ex
  obtain ⟨h3, x, h4, xs, rfl, h5⟩ := h2 _ (.head _)
  refine ⟨⟨upd F a (.lst xs), fun b o hb => ?_, fun e he => ?_⟩, h.tail.nd⟩
  · by_cases z : b = a
    · subst z; rw [upd_same] at hb; rw [h4]; exact hb
    · rw [upd_ne z] at hb; exact h1 _ _ hb
  · cases he with
    | head => exact .lst upd_same (DvAll.mono (Ex.new h3) _ _ h5)
    | tail _ he =>
      have := h2 e (.tail _ he)
      cases e with
      | cell b φ' =>
        obtain ⟨h6, o', h7, h8⟩ := this
        have hne : b ≠ a := fun z => by
          have hn := h.nd
          have hn' : (a :: L.filterMap Ent.adr).Nodup := hn
          exact (List.nodup_cons.mp hn').1 (List.mem_filterMap.mpr ⟨_, he, by rw [z]; rfl⟩)
        exact ⟨by rw [upd_ne hne]; exact h6, o', h7, φ'.mono _ _ _ (Ex.new h3) h8⟩
      | dat v d => exact Dv.mono (Ex.new h3) _ _ this
      | fact φ => exact φ.mono _ _ (Ex.new h3) this
/-- an owned thing told otherwise -/
theorem St.data (h : St K L H) (m : Put L (.cell a φ) (.cell a ψ) L') (q : ∀ F x, Ex F H → (∀ e ∈ L, e.ok K F H) → H a = some x → φ.p F x → ψ.p F x) : St K L' H := by
  obtain ⟨R, h1, h2⟩ := m.perm
  have h' := h.perm h1
  obtain ⟨F, e1, e2⟩ := h'.ex
  obtain ⟨h3, x, h4, h5⟩ := e2 _ (.head _)
  refine St.perm (L := .cell a ψ :: R) ⟨⟨F, e1, fun e he => ?_⟩, h'.nd⟩ h2.symm
  cases he with
  | head => exact ⟨h3, x, h4, q F x e1 (fun u m => e2 _ (h1.mem_iff.mp m)) h4 h5⟩
  | tail _ he => exact e2 e (.tail _ he)
/-- one more thing known as data -/
theorem St.know (h : St K L H) (q : ∀ F, Ex F H → (∀ e ∈ L, e.ok K F H) → Dv K F v d) : St K (.dat v d :: L) H := by
  obtain ⟨F, h1, h2⟩ := h.ex
  refine ⟨⟨F, h1, fun e he => ?_⟩, h.nd⟩
  cases he with
  | head => exact q F h1 h2
  | tail _ he => exact h2 e he
end

/-- v is d, as L says -/
inductive Is (L : List Ent) : V → PyData → Prop
  | non : Is L .non .none
  | bl {b : Bool} : Is L (.bl b) (.bool b)
  | int {i : Int} : Is L (.int i) (.int i)
  | str {x : Str} : Is L (.str x) (.str x)
  | dat {v : V} {d : PyData} : Ent.dat v d ∈ L → Is L v d
inductive IsAll (L : List Ent) : List V → List PyData → Prop
  | nil : IsAll L [] []
  | cons {v : V} {d : PyData} {vs : List V} {ds : List PyData} : Is L v d → IsAll L vs ds → IsAll L (v :: vs) (d :: ds)
section
variable {K : PySem.W.Frag} {L L' : List Ent} {H F : Hp} {v : V} {d : PyData}
theorem Is.dv (h : Is L v d) (q : ∀ e ∈ L, e.ok K F H) : Dv K F v d := by
  cases h with
  | non => exact .non
  | bl => exact .bl _
  | int => exact .int _
  | str => exact .str _
  | dat m => exact q _ m
theorem IsAll.dv (q : ∀ e ∈ L, e.ok K F H) : ∀ {vs : List V} {ds : List PyData}, IsAll L vs ds → DvAll K F vs ds
  | _, _, .nil => .nil
  | _, _, .cons h t => .cons (h.dv q) (IsAll.dv q t)
theorem Is.more (s : ∀ e ∈ L, e ∈ L') (h : Is L v d) : Is L' v d := by
  cases h with
  | non => exact .non
  | bl => exact .bl
  | int => exact .int
  | str => exact .str
  | dat m => exact .dat (s _ m)
theorem Is.cons {e : Ent} (h : Is L v d) : Is (e :: L) v d := h.more fun _ m => .tail _ m
theorem IsAll.more (s : ∀ e ∈ L, e ∈ L') : ∀ {vs : List V} {ds : List PyData}, IsAll L vs ds → IsAll L' vs ds
  | _, _, .nil => .nil
  | _, _, .cons h t => .cons (h.more s) (IsAll.more s t)
theorem St.is_of (h : St K L H) (q : Is L v d) : ∃ F, Ex F H ∧ Dv K F v d := by
  obtain ⟨F, h1, h2⟩ := h.ex
  exact ⟨F, h1, q.dv h2⟩
theorem St.dp (h : St K L H) (q : Is L v d) : Dp K H v d := by
  obtain ⟨F, h1, h2⟩ := h.is_of q
  exact Dv.dp _ _ (Dv.mono h1 _ _ h2)
theorem St.learn (h : St K L H) (q : Is L v d) : St K (.dat v d :: L) H := h.know fun F _ hd => q.dv hd
theorem St.mono_mem (h : St K L H) (s : ∀ e ∈ L', e ∈ L) (n : (L'.filterMap Ent.adr).Nodup) : St K L' H := by
  obtain ⟨F, h1, h2⟩ := h.ex
  exact ⟨⟨F, h1, fun e he => h2 e (s e he)⟩, n⟩
/-- a frozen tuple, a frozen list: its parts -/
theorem St.tup_parts (h : St K L H) {a : Addr} {ds : List PyData} (q : Is L (.ref a) (.tuple ds)) : ∃ xs : List V, SqT K H a xs ∧ xs.length = ds.length ∧ ∀ (i : Nat) (d : PyData), ds[i]? = some d → ∃ v, xs[i]? = some v ∧ St K (.dat v d :: L) H := by
  obtain ⟨F, h1, h2⟩ := h.ex
  have := q.dv h2
  cases this with
  | tup hs ha =>
    refine ⟨_, h1.sqT hs, ha.len, fun i d e => ?_⟩
    obtain ⟨v, h3, h4⟩ := ha.get e
    refine ⟨v, h3, ⟨⟨F, h1, fun e he => ?_⟩, h.nd⟩⟩
    cases he with
    | head => exact h4
    | tail _ he => exact h2 e he
end
end Lg

/-! The operators by one relation each, and how each is answered over the ledger. -/
namespace Lg
open PySem PySem.Spec PyProof.Rows L2

/-! ### relations -/
def rAddI : R2 := rI0 fun i j => .int (i + j)
def rAddS : R2 := fun x y H Q => ∃ i j, x = .str i ∧ y = .str j ∧ i.length + j.length ≤ sizeLine ∧ Q (.str (i ++ j)) H
def rPlus (K : PySem.W.Frag) : R2 := fun x y H Q => rAddI x y H Q ∨ (rAddS x y H Q ∨ (rCat x y H Q ∨ rCatA K x y H Q))
def rMinus : R2 := rI0 fun i j => .int (i - j)
def rMulI : R2 := rI CMul fun i j => .int (i * j)
def repL (l : List Nat) (n : Nat) : List Nat := (List.replicate n l).flatten
def rRepS : R2 := fun x y H Q => ∃ (z : Str) (k : Int), x = .str z ∧ y = .int k ∧ 0 ≤ k ∧ k ≤ 100000 ∧ z.length ≤ 100 ∧ Q (.str ⟨(repL z.cps.toList k.toNat).toArray⟩) H
def rTimes : R2 := fun x y H Q => rMulI x y H Q ∨ (rRep x y H Q ∨ rRepS x y H Q)
def rFdiv : R2 := rI CDiv fun i j => .int (i / j)
def rMod : R2 := rI (fun _ j => 0 < j) fun i j => .int (i % j)
def rAnd : R2 := rI0 fun i j => .int (Builtin.bitAnd i j)
def rLt : R2 := rI0 fun i j => .bl (decide (i < j))
def rLe : R2 := rI0 fun i j => .bl (decide (i ≤ j))
def rGt : R2 := rI0 fun i j => .bl (decide (j < i))
def rGe : R2 := rI0 fun i j => .bl (decide (j ≤ i))
def rEqX (K : PySem.W.Frag) : R2 := fun x y H Q => rEq x y H Q ∨ rEqD K x y H Q
def rNeX (K : PySem.W.Frag) : R2 := fun x y H Q => rNe x y H Q ∨ rNeD K x y H Q
def rInSign (neg : Bool) : R2 := fun x y H Q => ∃ (c : Nat) (z : Str), x = .str ⟨#[c]⟩ ∧ y = .str z ∧ Q (.bl (if neg then !decide (c ∈ z.cps.toList) else decide (c ∈ z.cps.toList))) H
def rInX (K : PySem.W.Frag) (neg : Bool) : R2 := fun x y H Q => rIn K neg x y H Q ∨ rInSign neg x y H Q
def rIsNo : R2 := fun x y H Q => y = .non ∧ Q (.bl (decide (x = .non))) H
def rNotNo : R2 := fun x y H Q => y = .non ∧ Q (.bl (!decide (x = .non))) H
def rLenX (K : PySem.W.Frag) : List V → Hp → VK → Prop := fun xs H Q => ∃ x n, xs = [x] ∧ LenV K x H n ∧ Q (.int n) H
def rIntX : List V → Hp → VK → Prop := fun xs H Q => (∃ i, xs = [.int i] ∧ Q (.int i) H) ∨ ∃ k, xs = [.bl k] ∧ Q (.int (if k then 1 else 0)) H
def rOrd : List V → Hp → VK → Prop := fun xs H Q => ∃ x, xs = [.str x] ∧ x.length = 1 ∧ Q (.int (x.cps.getD 0 0 : Nat)) H
def rListOf (K : PySem.W.Frag) : List V → Hp → VK → Prop := fun xs H Q => ∃ p ys, xs = [.ref p] ∧ (SqL K H p ys ∨ SqT K H p ys) ∧ ∀ l, H l = none → Q (.ref l) (upd H l (.lst ys))
def rTupOf (K : PySem.W.Frag) : List V → Hp → VK → Prop := fun xs H Q => ∃ p ys, xs = [.ref p] ∧ ((SqL K H p ys ∧ ∀ l, H l = none → Q (.ref l) (upd H l (.tup ys))) ∨ (SqT K H p ys ∧ Q (.ref p) H))
def trV : V → Bool
  | .int i => i != 0
  | .bl b => b
  | _ => false
def flatIB : V → Bool
  | .int _ => true
  | .bl _ => true
  | _ => false
def rAnyX (K : PySem.W.Frag) : List V → Hp → VK → Prop := fun vs H Q => ∃ (a : Addr) (xs : List V), vs = [V.ref a] ∧ SqL K H a xs ∧ xs.all flatIB = true ∧ Q (.bl (xs.any trV)) H
def rAllX (K : PySem.W.Frag) : List V → Hp → VK → Prop := fun vs H Q => ∃ (a : Addr) (xs : List V), vs = [V.ref a] ∧ SqL K H a xs ∧ xs.all flatIB = true ∧ Q (.bl (xs.all trV)) H
def rSlX (K : PySem.W.Frag) : V → Option Int → Option Int → Hp → VK → Prop := fun x lo hi H Q => rSlL K x lo hi H Q ∨ (rSlS x lo hi H Q ∨ rSlA K x lo hi H Q)
def rJoin (K : PySem.W.Frag) : V → List V → Hp → VK → Prop := fun x xs H Q => ∃ a p, ∃ ys : List Str, x = .str a ∧ xs = [.ref p] ∧ (SqL K H p (ys.map V.str) ∨ SqT K H p (ys.map V.str)) ∧ (ys.map (·.length)).sum + ys.length * a.length ≤ 16777216 ∧ Q (.str (Txt.join a ys)) H
def tTruX (K : PySem.W.Frag) (ta : TE) : TT := fun σ H Q => ta σ H fun x H' => ∃ k, TruV K x H' k ∧ Q k H'

section
variable {X : Cx}
theorem o_plus : OpR X (binaryOp .Add) (rPlus X.K) := OpR.or op_add (OpR.or op_add_str (OpR.or op_cat op_catA))
theorem o_minus : OpR X (binaryOp .Sub) rMinus := op_sub
theorem mulok_of {z : Str} {k : Int} (h0 : 0 ≤ k) (h1 : k ≤ 100000) (h2 : z.length ≤ 100) : MulOk z k := by
  refine ⟨?_, fun h _ => ?_, fun h _ => ?_⟩
  · rw [Bool.or_eq_false_iff]
    exact ⟨decide_eq_false (by omega), decide_eq_false (by omega)⟩
  · have hk : 0 < k := by omega
    intro q
    have h3 : (9223372036854775807 : Int) / 100000 ≤ (2 ^ 63 - 1) / k := by
      rw [show ((2 : Int) ^ 63 - 1) = 9223372036854775807 by decide]
      refine (Int.le_ediv_iff_mul_le hk).mpr ?_
      have : (9223372036854775807 : Int) / 100000 = 92233720368547 := by decide
      rw [this]
      omega
    have : (9223372036854775807 : Int) / 100000 = 92233720368547 := by decide
    omega
  · unfold Builtin.Str.tooLong
    have h4 : z.length * k.toNat ≤ 100 * 100000 := Nat.mul_le_mul h2 (by omega)
    have := sizeLine_eq
    simp
    omega
theorem rep_fold (a : Array Nat) : ∀ (n : Nat) (b : Array Nat), (List.replicate n a).foldl (· ++ ·) b = (b.toList ++ repL a.toList n).toArray
  | 0, b => by simp [repL]
  | n + 1, b => by
    rw [List.replicate_succ, List.foldl_cons, rep_fold a n]
    simp [repL, List.replicate_succ]
theorem repL_nil (n : Nat) : repL [] n = [] := by simp [repL]
theorem mul_txt {z : Str} {k : Int} (h0 : 0 ≤ k) : Txt.mul z k = ⟨(repL z.cps.toList k.toNat).toArray⟩ := by
  unfold Txt.mul
  by_cases h1 : k < 1
  · rw [if_pos h1]
    have : k = 0 := by omega
    subst this
    rfl
  · rw [if_neg h1]
    by_cases h2 : (k == 1 || z.length == 0) = true
    · rw [if_pos h2]
      rw [Bool.or_eq_true] at h2
      rcases h2 with h2 | h2
      · have e : k = 1 := by simpa using h2
        subst e
        show z = ⟨([z.cps.toList].flatten).toArray⟩
        simp
      · have e : z.cps.size = 0 := by simpa [PySem.Str.length] using h2
        have e2 : z.cps.toList = [] := by
          have : z.cps.toList.length = 0 := by simpa using e
          exact List.length_eq_zero_iff.mp this
        rw [e2, repL_nil]
        have e3 : z.cps = #[] := by
          rw [← Array.toList_inj, e2]
        cases z
        simp at e3
        rw [e3]
    · rw [if_neg h2, rep_fold]
      simp
theorem op_repS : OpR X (binaryOp .Mult) rRepS := by
  intro pins s σ H x y v u Q I rx ry h
  obtain ⟨z, k, rfl, rfl, h0, h1, h2, q⟩ := h
  obtain ⟨t, rfl⟩ := rx
  obtain ⟨t', rfl⟩ := ry
  refine SB.mul (mulok_of h0 h1 h2) fun t2 tk => ?_
  rw [mul_txt h0]
  exact ⟨.str _, H, I.tok _, ⟨_, rfl⟩, q⟩
theorem o_times : OpR X (binaryOp .Mult) rTimes := OpR.or op_mul (OpR.or op_rep op_repS)
theorem o_fdiv : OpR X (binaryOp .FloorDiv) rFdiv := op_fdiv
theorem o_mod : OpR X (binaryOp .Mod) rMod := op_mod
theorem o_and : OpR X (binaryOp .BitAnd) rAnd := op_and
theorem o_lt : OpR X (compareOp .Lt) rLt := op_lt
theorem o_le : OpR X (compareOp .LtE) rLe := op_le
theorem o_gt : OpR X (compareOp .Gt) rGt := op_gt
theorem o_ge : OpR X (compareOp .GtE) rGe := op_ge
theorem o_eq (hu : X.A.units + 64 < cLine) : OpR X (compareOp .Eq) (rEqX X.K) := OpR.or op_eq (op_eqD hu)
theorem o_ne (hu : X.A.units + 64 < cLine) : OpR X (compareOp .NotEq) (rNeX X.K) := OpR.or op_ne (op_neD hu)
theorem o_in : OpR X (compareOp .In) (rInX X.K false) := OpR.or op_in_seq op_in_sign
theorem o_notin : OpR X (compareOp .NotIn) (rInX X.K true) := OpR.or op_notIn_seq op_notIn_sign
theorem o_is : OpR X (compareOp .Is) rIsNo := op_isN
theorem o_isnot : OpR X (compareOp .IsNot) rNotNo := op_notN
theorem c_len : CallR X (.builtin "len") (rLenX X.K) := call_len
theorem c_int : CallR X (.type "int") rIntX := call_int1
theorem c_ord : CallR X (.builtin "ord") rOrd := call_ord
theorem c_list : CallR X (.type "list") (rListOf X.K) := call_list_of
theorem c_tuple : CallR X (.type "tuple") (rTupOf X.K) := call_tuple_of
theorem truth_ib {prog : Program} {w : World} {A : Around} {xs : List V} {its : List Value} (r : Vals xs its) (h : xs.all flatIB = true) :
    TruthOf prog w A (fun i v => its.toArray[i]? = some v) (fun i => (xs.map trV).getD i false) := fun i v s Q E hv hq => by
  have hv' : its[i]? = some v := by simpa using hv
  have hi : i < its.length := (List.getElem?_eq_some_iff.mp hv').1
  have hi' : i < xs.length := by rw [r.length]; exact hi
  obtain ⟨u, hu, ru⟩ := r.get (i := i) (x := xs[i]) (by simp [hi'])
  rw [hv'] at hu
  cases hu
  have hg : (xs.map trV).getD i false = trV xs[i] := by simp [List.getD_eq_getElem?_getD, hi']
  have hq' : Q ((xs.map trV).getD i false) s := hq
  rw [hg] at hq'
  have hf : flatIB xs[i] = true := List.all_eq_true.mp h _ (List.getElem_mem hi')
  revert ru hq' hf
  generalize xs[i] = x
  intro ru hq' hf
  cases x with
  | int j =>
    obtain ⟨t, rfl⟩ := ru
    exact truthy_int hq'
  | bl b =>
    cases (show v = Value.bool b from ru)
    exact wpAny_truthy_bool hq'
  | _ => cases hf
theorem c_any (hc : X.calm = true) : CallR X (.builtin "any") (rAnyX X.K) := by
  intro pins s σ H vs us Q I r h
  obtain ⟨a, xs, rfl, hs, hf, q⟩ := h
  obtain ⟨its, rv, hl, _⟩ := I.list hs
  rw [Vals.ref1 r]
  refine call_any_walk (iter_any hl.isList fun s₂ e2 st hne => ?_)
  subst e2
  refine ⟨_, _, _, _, _, _, _, rfl, Walks.list (A := X.A.in1) (I.ok.hd hc) _ a hne its.toArray, st, truth_ib rv hf, fun h' tk hk => ?_⟩
  refine ⟨.bl _, H, I.kept fun b o eo => hk b o (fun hmem => ?_) (Heap.get?_push_of_some _ eo), ?_, q⟩
  · rcases List.mem_cons.mp hmem with e1 | hmem
    · exact absurd (e1 ▸ Heap.lt_size eo) (Nat.lt_irrefl _)
    · cases hmem
  · show Value.bool _ = Value.bool _
    have := any_range (xs.map trV)
    rw [List.length_map] at this
    rw [List.size_toArray, ← rv.length, this, List.any_map]
    rfl
theorem c_all (hc : X.calm = true) : CallR X (.builtin "all") (rAllX X.K) := by
  intro pins s σ H vs us Q I r h
  obtain ⟨a, xs, rfl, hs, hf, q⟩ := h
  obtain ⟨its, rv, hl, _⟩ := I.list hs
  rw [Vals.ref1 r]
  refine call_all_walk (iter_any hl.isList fun s₂ e2 st hne => ?_)
  subst e2
  refine ⟨_, _, _, _, _, _, _, rfl, Walks.list (A := X.A.in1) (I.ok.hd hc) _ a hne its.toArray, st, truth_ib rv hf, fun h' tk hk => ?_⟩
  refine ⟨.bl _, H, I.kept fun b o eo => hk b o (fun hmem => ?_) (Heap.get?_push_of_some _ eo), ?_, q⟩
  · rcases List.mem_cons.mp hmem with e1 | hmem
    · exact absurd (e1 ▸ Heap.lt_size eo) (Nat.lt_irrefl _)
    · cases hmem
  · show Value.bool _ = Value.bool _
    have := all_range (xs.map trV)
    rw [List.length_map] at this
    rw [List.size_toArray, ← rv.length, this, List.all_map]
    rfl
theorem c_isi : CallR X (.builtin "isinstance") (rIsi X.K) := call_isi
theorem sl_any : SlR X (rSlX X.K) := SlR.or sl_list (SlR.or sl_str sl_tupA)
theorem m_join : MtR X "str.join" (rJoin X.K) := mt_join
theorem pt_tru {a : Expr} {ta : TE} (ha : PE X a ta) (hs : ∀ whole, isTrue a X.env whole = (do let v ← whole; standAt a.pos; holding [v] (truthy v)) := by intro _; rfl) : PT X a (tTruX X.K ta) := pt_truth ha hs
end
end Lg

/-! The steps. -/
namespace Lg
open PySem PySem.Spec PyProof.Rows L2

inductive SetAt : L2.St → Nat → V → L2.St → Prop
  | here {x : Option V} {r : L2.St} {v : V} : SetAt (x :: r) 0 v (some v :: r)
  | there {x : Option V} {r r' : L2.St} {n : Nat} {v : V} : SetAt r n v r' → SetAt (x :: r) (n + 1) v (x :: r')
theorem SetAt.eq {σ σ' : L2.St} {i : Nat} {v : V} (h : SetAt σ i v σ') : σ.set i (some v) = σ' := by
  induction h with
  | here => rfl
  | there _ ih => show _ :: _ = _; rw [ih]
inductive GetAt : L2.St → Nat → V → Prop
  | here {r : L2.St} {v : V} : GetAt (some v :: r) 0 v
  | there {x : Option V} {r : L2.St} {n : Nat} {v : V} : GetAt r n v → GetAt (x :: r) (n + 1) v
theorem GetAt.eq {σ : L2.St} {i : Nat} {v : V} (h : GetAt σ i v) : σ[i]? = some (some v) := by
  induction h with
  | here => rfl
  | there _ ih => simpa using ih

/-- a list that L tells as data, owned or frozen; a list or a tuple -/
inductive LsIn (K : PySem.W.Frag) (L : List Ent) (a : Addr) (ds : List PyData) : Prop
  | own (h : Lg.ls K a ds ∈ L)
  | dat (h : Lg.dat (.ref a) (.list ds) ∈ L)
inductive See (K : PySem.W.Frag) (L : List Ent) : V → PyData → Prop
  | is {v : V} {d : PyData} (h : Is L v d) : See K L v d
  | own {a : Addr} {ds : List PyData} (h : Lg.ls K a ds ∈ L) : See K L (.ref a) (.list ds)
section
variable {K : PySem.W.Frag} {L L' : List Ent} {H F : Hp} {a p : Addr} {ds es : List PyData} {d e : PyData} {v : V}
theorem LsIn.ok (h : LsIn K L a ds) (e : Ex F H) (q : ∀ e ∈ L, e.ok K F H) : ∃ xs, H a = some (.lst xs) ∧ DvAll K F xs ds := by
  cases h with
  | own m =>
    obtain ⟨_, x, h1, xs, rfl, h2⟩ := q _ m
    exact ⟨xs, h1, h2⟩
  | dat m =>
    have h1 : Dv K F (.ref a) (.list ds) := q _ m
    cases h1 with
    | lst h2 h3 => exact ⟨_, e _ _ h2, h3⟩
theorem LsIn.more (h : LsIn K L a ds) (s : ∀ e ∈ L, e ∈ L') : LsIn K L' a ds := by
  cases h with
  | own m => exact .own (s _ m)
  | dat m => exact .dat (s _ m)
theorem LsIn.cons {e : Ent} (h : LsIn K L a ds) : LsIn K (e :: L) a ds := h.more fun _ m => .tail _ m
theorem St.lsin (hS : St K L H) (h : LsIn K L a ds) : ∃ F xs, Ex F H ∧ (∀ e ∈ L, e.ok K F H) ∧ H a = some (.lst xs) ∧ DvAll K F xs ds := by
  obtain ⟨F, h1, h2⟩ := hS.ex
  obtain ⟨xs, h3, h4⟩ := h.ok h1 h2
  exact ⟨F, xs, h1, h2, h3, h4⟩
theorem See.dp (hS : St K L H) (h : See K L v d) : Dp K H v d := by
  cases h with
  | is h => exact hS.dp h
  | own m =>
    obtain ⟨F, xs, h1, _, h3, h4⟩ := hS.lsin (.own m)
    exact .lst (SqL.of h3) (DpAll.of (DvAll.mono h1 _ _ h4))
where DpAll.of {xs : List V} {ds : List PyData} (h : DvAll K H xs ds) : DpAll K H xs ds := DvAll.dp _ _ h
theorem St.lenl (hS : St K L H) (h : LsIn K L a ds) : ∃ xs, H a = some (.lst xs) ∧ xs.length = ds.length := by
  obtain ⟨F, xs, _, _, h3, h4⟩ := hS.lsin h
  exact ⟨xs, h3, h4.len⟩
/-- the value of a scalar -/
theorem St.int_of {i : Int} (h : St K (.dat v (.int i) :: L) H) : v = .int i := by
  obtain ⟨F, _, h2⟩ := h.ex
  have : Dv K F v (.int i) := h2 _ (.head _)
  cases this; rfl
theorem St.str_of {x : Str} (h : St K (.dat v (.str x) :: L) H) : v = .str x := by
  obtain ⟨F, _, h2⟩ := h.ex
  have : Dv K F v (.str x) := h2 _ (.head _)
  cases this; rfl
theorem St.bl_of {b : Bool} (h : St K (.dat v (.bool b) :: L) H) : v = .bl b := by
  obtain ⟨F, _, h2⟩ := h.ex
  have : Dv K F v (.bool b) := h2 _ (.head _)
  cases this; rfl
theorem St.non_of (h : St K (.dat v .none :: L) H) : v = .non := by
  obtain ⟨F, _, h2⟩ := h.ex
  have : Dv K F v .none := h2 _ (.head _)
  cases this; rfl
theorem St.tup_of (h : St K (.dat v (.tuple ds) :: L) H) : ∃ a, v = .ref a := by
  obtain ⟨F, _, h2⟩ := h.ex
  have : Dv K F v (.tuple ds) := h2 _ (.head _)
  cases this; exact ⟨_, rfl⟩
theorem St.lst_of (h : St K (.dat v (.list ds) :: L) H) : ∃ a, v = .ref a := by
  obtain ⟨F, _, h2⟩ := h.ex
  have : Dv K F v (.list ds) := h2 _ (.head _)
  cases this; exact ⟨_, rfl⟩
end

/-! ### readings -/
def NewL (vs : List V) (H : Hp) (Q : VK) : Prop := vs.length ≤ sizeLine ∧ ∀ p, H p = none → Q (.ref p) (upd H p (.lst vs))
def NewT (vs : List V) (H : Hp) (Q : VK) : Prop := vs.length ≤ sizeLine ∧ ∀ p, H p = none → Q (.ref p) (upd H p (.tup vs))
def TyThen (K : PySem.W.Frag) (T : String) (x : V) (H : Hp) (P : Prop) : Prop := tyV K T x H ∧ P
def ChainK (b : Bool) (tc : TE) (r : R2) (y : V) (σ : L2.St) (H : Hp) (Q : VK) : Prop := if b = true then tc σ H fun w H4 => r y w H4 Q else Q (.bl false) H
section
variable {K : PySem.W.Frag} {L L' : List Ent} {H : Hp} {σ σ' : L2.St} {D : Ends} {Q : VK} {E : XK} {ta tb tc te : TE} {tt tu : TT} {t u : TS} {g : TG} {i j : Int} {x y v : V} {b c : Bool} {a p : Addr} {ds es : List PyData} {d e : PyData} {n : Nat}
theorem w_seq (h : t { D with nx := u D } σ H) : tSeq t u D σ H := h
theorem w_cut0 (h : t { D with nx := u D } σ H) : C8.tCut t u D σ H := ⟨u D, h, fun _ _ q => q⟩
theorem w_cut (Mid : L2.St → Hp → Prop) (h : t { D with nx := Mid } σ H) (k : ∀ σ' H', Mid σ' H' → u D σ' H') : C8.tCut t u D σ H := ⟨Mid, h, k⟩
theorem w_asg (h : te σ H fun x H1 => g x σ H1 D.nx) : tAsg te g D σ H := h
theorem w_name {R : L2.St → Hp → Prop} (q : SetAt σ n v σ') (h : R σ' H) : gName n v σ H R := by
  show R (σ.set n (some v)) H
  rw [q.eq]; exact h
theorem w_var (q : GetAt σ n v) (h : Q v H) : tVar n σ H Q := ⟨v, q.eq, h⟩
theorem w_c (h : Q v H) : tC v σ H Q := h
theorem w_op {r : R2} (h : ta σ H fun x H1 => tb σ H1 fun y H2 => r x y H2 Q) : tOp r ta tb σ H Q := h
theorem w_un {r : V → Hp → VK → Prop} (h : ta σ H fun x H1 => r x H1 Q) : tUn r ta σ H Q := h
theorem w_nil {R : List V → Hp → Prop} (h : R [] H) : tNil σ H R := h
theorem w_cons {tr : TA} {R : List V → Hp → Prop} (h : ta σ H fun x H1 => tr σ H1 fun xs H2 => R (x :: xs) H2) : tCons ta tr σ H R := h
theorem w_call {sp : Sp} {tr : TA} (h : tr σ H fun vs H1 => sp vs H1 Q E) : tCall sp [] E tr σ H Q := by
  show tr σ H fun vs H1 => sp (vs ++ []) H1 Q E
  simpa using h
theorem w_cb {r : List V → Hp → VK → Prop} {tr : TA} (h : tr σ H fun vs H1 => r vs H1 Q) : tCB r tr σ H Q := h
theorem w_tup {tr : TA} (h : tr σ H fun xs H1 => NewT xs H1 Q) : tTup tr σ H Q := h
theorem w_lst {tr : TA} (h : tr σ H fun xs H1 => NewL xs H1 Q) : tLst tr σ H Q := h
theorem w_bm {T : String} {r : V → List V → Hp → VK → Prop} {tr : TA} (h : ta σ H fun x H1 => TyThen K T x H1 (tr σ H1 fun xs H2 => r x xs H2 Q)) : tBM K T r ta tr σ H Q := h
theorem w_bm0 {T : String} {r : V → List V → Hp → VK → Prop} (h : ta σ H fun x H1 => TyThen K T x H1 (r x [] H1 Q)) : tBM0 K T r ta σ H Q := h
theorem w_sl {r : V → Option Int → Option Int → Hp → VK → Prop} {tl th : TO} (h : te σ H fun x H1 => tl σ H1 fun l H2 => th σ H2 fun u H3 => r x l u H3 Q) : tSl r te tl th σ H Q := h
theorem w_nopart {R : Option Int → Hp → Prop} (h : R none H) : tNoPart σ H R := h
theorem w_part {R : Option Int → Hp → Prop} (h : te σ H fun x H1 => ∃ i, x = .int i ∧ R (some i) H1) : tPart te σ H R := h
theorem w_isint {G : Int → Prop} (h : G i) : ∃ k, V.int i = .int k ∧ G k := ⟨i, rfl, h⟩
theorem w_test {R : Bool → Hp → Prop} (h : te σ H fun x H' => ∃ k, x = .bl k ∧ R k H') : tTest te σ H R := h
theorem w_tB {R : Bool → Hp → Prop} (h : te σ H fun x H' => ∃ k, x = .bl k ∧ R k H') : tB te σ H R := h
theorem w_isbl {R : Bool → Hp → Prop} (h : R b H) : ∃ k, V.bl b = .bl k ∧ R k H := ⟨b, rfl, h⟩
theorem w_isbl' {G : Bool → Prop} (h : G b) : ∃ k, V.bl b = .bl k ∧ G k := ⟨b, rfl, h⟩
theorem w_and {R : Bool → Hp → Prop} (h : tt σ H fun c H1 => if c = true then tu σ H1 R else R false H1) : tAnd tt tu σ H R := h
theorem w_or {R : Bool → Hp → Prop} (h : tt σ H fun c H1 => if c = true then R true H1 else tu σ H1 R) : tOr tt tu σ H R := h
theorem w_not {R : Bool → Hp → Prop} (h : tt σ H fun c H1 => R (!c) H1) : tNot tt σ H R := h
/-- both tests leave the heap -/
theorem w_andP {R : Bool → Hp → Prop} (h1 : ∀ R' : Bool → Hp → Prop, R' b H → tt σ H R') (h2 : b = true → ∀ R' : Bool → Hp → Prop, R' c H → tu σ H R') (h : R (b && c) H) : tAnd tt tu σ H R := by
  refine h1 _ ?_
  cases b with
  | true => exact h2 rfl _ h
  | false => exact h
theorem w_orP {R : Bool → Hp → Prop} (h1 : ∀ R' : Bool → Hp → Prop, R' b H → tt σ H R') (h2 : b = false → ∀ R' : Bool → Hp → Prop, R' c H → tu σ H R') (h : R (b || c) H) : tOr tt tu σ H R := by
  refine h1 _ ?_
  cases b with
  | true => exact h
  | false => exact h2 rfl _ h
theorem w_ifexp (h : tt σ H fun c H1 => if c = true then ta σ H1 Q else tb σ H1 Q) : tIf tt ta tb σ H Q := h
theorem w_andV (h : ta σ H fun x H1 => ∃ c, x = .bl c ∧ if c = true then tb σ H1 Q else Q (.bl false) H1) : tAndV ta tb σ H Q := h
theorem w_orV (h : ta σ H fun x H1 => ∃ c, x = .bl c ∧ if c = true then Q (.bl true) H1 else tb σ H1 Q) : tOrV ta tb σ H Q := h
theorem w_andVP (h1 : ∀ R' : VK, R' (.bl b) H → ta σ H R') (h2 : b = true → ∀ R' : VK, R' (.bl c) H → tb σ H R') (h : Q (.bl (b && c)) H) : tAndV ta tb σ H Q := by
  refine h1 _ ⟨b, rfl, ?_⟩
  cases b with
  | true => exact h2 rfl _ h
  | false => exact h
theorem w_orVP (h1 : ∀ R' : VK, R' (.bl b) H → ta σ H R') (h2 : b = false → ∀ R' : VK, R' (.bl c) H → tb σ H R') (h : Q (.bl (b || c)) H) : tOrV ta tb σ H Q := by
  refine h1 _ ⟨b, rfl, ?_⟩
  cases b with
  | true => exact h
  | false => exact h2 rfl _ h
theorem w_notV (h : ta σ H fun x H1 => ∃ c, x = .bl c ∧ Q (.bl (!c)) H1) : tNotV ta σ H Q := h
theorem w_tru {R : Bool → Hp → Prop} (h : ta σ H fun x H' => ∃ k, TruV K x H' k ∧ R k H') : tTruX K ta σ H R := h
theorem w_truI {R : Bool → Hp → Prop} (h : R (i != 0) H) : ∃ k, TruV K (.int i) H k ∧ R k H := ⟨_, rfl, h⟩
theorem w_truB {R : Bool → Hp → Prop} (h : R b H) : ∃ k, TruV K (.bl b) H k ∧ R k H := ⟨_, rfl, h⟩
theorem w_ifs (h : tt σ H fun b H1 => if b = true then t D σ H1 else u D σ H1) : tIfS tt t u D σ H := h
theorem w_next (h : D.nx σ H) : tNext D σ H := h
theorem w_break (h : D.bk σ H) : tBreak D σ H := h
theorem w_cont (h : D.ct σ H) : tCont D σ H := h
theorem w_ret (h : te σ H D.rt) : tRet te D σ H := h
theorem w_retn (h : D.rt .non H) : tRetN D σ H := h
theorem w_drop (h : te σ H fun _ H1 => D.nx σ H1) : tDrop te D σ H := h
theorem w_sub {to ti : TE} {ts : TSet} {R : L2.St → Hp → Prop} (h : to σ H fun o H1 => ti σ H1 fun i H2 => ts o i v H2 fun H3 => R σ H3) : gSub to ti ts v σ H R := h
theorem w_gnil {R : L2.St → Hp → Prop} (h : R σ H) : gNil [] σ H R := ⟨rfl, h⟩
theorem w_gcons {tg : TG} {tu : TGs} {r : List V} {R : L2.St → Hp → Prop} (h : tg v σ H fun σ' H' => tu r σ' H' R) : gCons tg tu (v :: r) σ H R := ⟨v, r, rfl, h⟩
/-! branches -/
theorem w_ite {A B : Prop} (h1 : b = true → A) (h2 : b = false → B) : if b = true then A else B := by
  cases b with
  | true => exact h1 rfl
  | false => exact h2 rfl
theorem w_ifd {P A B : Prop} [Decidable P] (h1 : P → A) (h2 : ¬ P → B) : if decide P = true then A else B := by
  by_cases h : P
  · rw [if_pos (decide_eq_true h)]; exact h1 h
  · rw [if_neg (by simp [h])]; exact h2 h
theorem w_ifnd {P A B : Prop} [Decidable P] (h1 : ¬ P → A) (h2 : P → B) : if (!decide P) = true then A else B := by
  by_cases h : P
  · rw [if_neg (by simp [h])]; exact h2 h
  · rw [if_pos (by simp [h])]; exact h1 h
theorem w_ifT {A B : Prop} (h : A) : if true = true then A else B := by rw [if_pos rfl]; exact h
theorem w_ifF {A B : Prop} (h : B) : if false = true then A else B := by rw [if_neg Bool.false_ne_true]; exact h
theorem w_ifp {P A B : Prop} [Decidable P] (hp : P) (h : A) : if decide P = true then A else B := by rw [if_pos (decide_eq_true hp)]; exact h
theorem w_ifq {P A B : Prop} [Decidable P] (hp : ¬ P) (h : B) : if decide P = true then A else B := by rw [if_neg (by simp [hp])]; exact h
theorem w_bt {A B : Prop} (hb : b = true) (h : A) : if b = true then A else B := by rw [if_pos hb]; exact h
theorem w_bf {A B : Prop} (hb : b = false) (h : B) : if b = true then A else B := by rw [if_neg (by simp [hb])]; exact h
/-! ints -/
theorem w_add (h : Q (.int (i + j)) H) : rPlus K (.int i) (.int j) H Q := .inl ⟨i, j, rfl, rfl, h⟩
theorem w_sub2 (h : Q (.int (i - j)) H) : rMinus (.int i) (.int j) H Q := ⟨i, j, rfl, rfl, h⟩
theorem w_mulL (hi : -(2 ^ 64) < i ∧ i < 2 ^ 64) (h : Q (.int (i * j)) H) : rTimes (.int i) (.int j) H Q := .inl ⟨i, j, rfl, rfl, .inl hi, h⟩
theorem w_mulR (hi : -(2 ^ 64) < j ∧ j < 2 ^ 64) (h : Q (.int (i * j)) H) : rTimes (.int i) (.int j) H Q := .inl ⟨i, j, rfl, rfl, .inr hi, h⟩
theorem w_mod (hj : 0 < j) (h : Q (.int (i % j)) H) : rMod (.int i) (.int j) H Q := ⟨i, j, rfl, rfl, hj, h⟩
theorem w_fdiv (hj : 0 < j ∧ j < 1073741824) (h : Q (.int (i / j)) H) : rFdiv (.int i) (.int j) H Q := ⟨i, j, rfl, rfl, hj, h⟩
theorem w_band (h : Q (.int (Builtin.bitAnd i j)) H) : rAnd (.int i) (.int j) H Q := ⟨i, j, rfl, rfl, h⟩
theorem w_lt (h : Q (.bl (decide (i < j))) H) : rLt (.int i) (.int j) H Q := ⟨i, j, rfl, rfl, h⟩
theorem w_le (h : Q (.bl (decide (i ≤ j))) H) : rLe (.int i) (.int j) H Q := ⟨i, j, rfl, rfl, h⟩
theorem w_gt (h : Q (.bl (decide (j < i))) H) : rGt (.int i) (.int j) H Q := ⟨i, j, rfl, rfl, h⟩
theorem w_ge (h : Q (.bl (decide (j ≤ i))) H) : rGe (.int i) (.int j) H Q := ⟨i, j, rfl, rfl, h⟩
theorem dI (i j : Int) : decide (V.int i = V.int j) = decide (i = j) := by by_cases h : i = j <;> simp [h]
theorem dS (i j : Str) : decide (V.str i = V.str j) = decide (i = j) := by by_cases h : i = j <;> simp [h]
theorem w_eqI (h : Q (.bl (decide (i = j))) H) : rEqX K (.int i) (.int j) H Q := .inl ⟨rfl, by rw [dI]; exact h⟩
theorem w_neI (h : Q (.bl (!decide (i = j))) H) : rNeX K (.int i) (.int j) H Q := .inl ⟨rfl, by rw [dI]; exact h⟩
theorem w_eqS {i j : Str} (h : Q (.bl (decide (i = j))) H) : rEqX K (.str i) (.str j) H Q := .inl ⟨rfl, by rw [dS]; exact h⟩
theorem w_neS {i j : Str} (h : Q (.bl (!decide (i = j))) H) : rNeX K (.str i) (.str j) H Q := .inl ⟨rfl, by rw [dS]; exact h⟩
theorem w_is (h : Q (.bl (decide (x = .non))) H) : rIsNo x .non H Q := ⟨rfl, h⟩
theorem w_isnot (h : Q (.bl (!decide (x = .non))) H) : rNotNo x .non H Q := ⟨rfl, h⟩
theorem w_isN (h : Q (.bl true) H) : rIsNo .non .non H Q := ⟨rfl, h⟩
theorem w_isR (h : Q (.bl false) H) : rIsNo (.ref a) .non H Q := ⟨rfl, h⟩
theorem w_isI (h : Q (.bl false) H) : rIsNo (.int i) .non H Q := ⟨rfl, h⟩
theorem w_isS {z : Str} (h : Q (.bl false) H) : rIsNo (.str z) .non H Q := ⟨rfl, h⟩
theorem w_nsN (h : Q (.bl false) H) : rNotNo .non .non H Q := ⟨rfl, h⟩
theorem w_nsR (h : Q (.bl true) H) : rNotNo (.ref a) .non H Q := ⟨rfl, h⟩
theorem w_nsI (h : Q (.bl true) H) : rNotNo (.int i) .non H Q := ⟨rfl, h⟩
theorem w_nsS {z : Str} (h : Q (.bl true) H) : rNotNo (.str z) .non H Q := ⟨rfl, h⟩
theorem w_int (h : Q (.int i) H) : rIntX [.int i] H Q := .inl ⟨i, rfl, h⟩
theorem w_intb (h : Q (.int (if b then 1 else 0)) H) : rIntX [.bl b] H Q := .inr ⟨b, rfl, h⟩
theorem w_chainLe (hc : ∀ R' : VK, R' (.int j) H → tc σ H R') (h : Q (.bl (b && decide (i ≤ j))) H) : ChainK b tc rLe (.int i) σ H Q := by
  unfold ChainK
  cases b with
  | true => rw [if_pos rfl]; exact hc _ ⟨i, j, rfl, rfl, h⟩
  | false => rw [if_neg Bool.false_ne_true]; exact h
theorem w_chainLt (hc : ∀ R' : VK, R' (.int j) H → tc σ H R') (h : Q (.bl (b && decide (i < j))) H) : ChainK b tc rLt (.int i) σ H Q := by
  unfold ChainK
  cases b with
  | true => rw [if_pos rfl]; exact hc _ ⟨i, j, rfl, rfl, h⟩
  | false => rw [if_neg Bool.false_ne_true]; exact h
theorem w_chain {r r' : R2} (h : ta σ H fun x H1 => tb σ H1 fun y H2 => r x y H2 fun z H3 => ∃ k, z = .bl k ∧ ChainK k tc r' y σ H3 Q) : tChain r r' ta tb tc σ H Q := h
/-! texts -/
theorem w_addS {y z : Str} (hl : y.length + z.length ≤ 100000) (h : Q (.str (y ++ z)) H) : rPlus K (.str y) (.str z) H Q := .inr (.inl ⟨y, z, rfl, rfl, Nat.le_trans hl (by decide), h⟩)
theorem w_repS {z : Str} (h0 : 0 ≤ i) (h1 : i ≤ 100000) (h2 : z.length ≤ 100) (h : Q (.str ⟨(repL z.cps.toList i.toNat).toArray⟩) H) : rTimes (.str z) (.int i) H Q := .inr (.inr ⟨z, i, rfl, rfl, h0, h1, h2, h⟩)
theorem w_lenS {z : Str} (hl : z.length ≤ 100000) (h : Q (.int z.length) H) : rLenX K [.str z] H Q := ⟨.str z, z.length, rfl, ⟨Nat.le_trans hl (by decide), rfl⟩, h⟩
theorem w_ord {z : Str} (hz : z.length = 1) (h : Q (.int (z.cps.getD 0 0 : Nat)) H) : rOrd [.str z] H Q := ⟨z, rfl, hz, h⟩
theorem w_ord1 {k : Nat} (h : Q (.int (k : Int)) H) : rOrd [.str ⟨#[k]⟩] H Q := ⟨_, rfl, rfl, h⟩
theorem w_ixS {z : Str} {k : Nat} (hl : z.length ≤ 100000) (hk : i = (k : Int)) {c : Nat} (hc : z.cps.toList[k]? = some c) (h : Q (.str ⟨#[c]⟩) H) : rIx K (.str z) (.int i) H Q :=
  .inr (.inr ⟨z, i, c, rfl, rfl, Nat.le_trans hl (by decide), by rw [hk]; exact atI_nat hc, h⟩)
theorem w_slS {z : Str} {lo hi : Option Int} (hl : z.length ≤ 100000) (h : Q (.str (cutS z lo hi)) H) : rSlX K (.str z) lo hi H Q := .inr (.inl ⟨z, rfl, Nat.le_trans hl (by decide), h⟩)
theorem w_tyS {z : Str} {P : Prop} (h : P) : TyThen K "str" (.str z) H P := ⟨rfl, h⟩
theorem w_inSg {k : Nat} {z : Str} (h : Q (.bl (decide (k ∈ z.cps.toList))) H) : rInX K false (.str ⟨#[k]⟩) (.str z) H Q := .inr ⟨k, z, rfl, rfl, h⟩
theorem w_ninSg {k : Nat} {z : Str} (h : Q (.bl (!decide (k ∈ z.cps.toList))) H) : rInX K true (.str ⟨#[k]⟩) (.str z) H Q := .inr ⟨k, z, rfl, rfl, h⟩
/-! lists -/
theorem w_newL {vs : List V} (hS : St K L H) (hv : IsAll L vs ds) (hn : vs.length ≤ 1000) (h : ∀ p H', St K (Lg.ls K p ds :: L) H' → Q (.ref p) H') : NewL vs H Q :=
  ⟨Nat.le_trans hn (by decide), fun p hp => h p _ (hS.alloc hp fun F _ q => ⟨vs, rfl, hv.dv q⟩)⟩
theorem w_newLr {vs : List V} (hS : St K L H) (hn : vs.length ≤ 1000) (h : ∀ p H', St K (Lg.own p (.lst vs) :: L) H' → Q (.ref p) H') : NewL vs H Q :=
  ⟨Nat.le_trans hn (by decide), fun p hp => h p _ (hS.alloc hp fun F _ q => rfl)⟩
theorem w_newT {vs : List V} (hS : St K L H) (hv : IsAll L vs ds) (hn : vs.length ≤ 1000) (h : ∀ p H', St K (Lg.dat (.ref p) (.tuple ds) :: L) H' → Q (.ref p) H') : NewT vs H Q :=
  ⟨Nat.le_trans hn (by decide), fun p hp => h p _ (hS.fresh hp fun F hF _ q => .tup (SqT.of upd_same) (DvAll.mono (Ex.new hF) _ _ (hv.dv q)))⟩
theorem w_newTr {vs : List V} (hS : St K L H) (hn : vs.length ≤ 1000) (h : ∀ p H', St K (Lg.own p (.tup vs) :: L) H' → Q (.ref p) H') : NewT vs H Q :=
  ⟨Nat.le_trans hn (by decide), fun p hp => h p _ (hS.alloc hp fun F _ q => rfl)⟩
theorem w_tyL {P : Prop} (hS : St K L H) (hl : LsIn K L a ds) (h : P) : TyThen K "list" (.ref a) H P := by
  obtain ⟨F, xs, _, _, h3, _⟩ := hS.lsin hl
  exact ⟨.inl ⟨rfl, _, SqL.of h3⟩, h⟩
theorem w_app (hS : St K L H) (hp : Put L (Lg.ls K a ds) (Lg.ls K a (ds ++ [d])) L') (hv : Is L v d) (hn : ds.length ≤ 100000) (h : ∀ H', St K L' H' → Q .non H') : rAppend (.ref a) [v] H Q := by
  obtain ⟨F, xs, h1, h2, h3, h4⟩ := hS.lsin (.own hp.mem)
  refine ⟨a, xs, v, rfl, rfl, h3, ?_, h _ (hS.writeP hp fun F' x e q hx hφ => ?_)⟩
  · rw [h4.len]; exact Nat.lt_of_le_of_lt hn (by decide)
  · obtain ⟨ys, rfl, hys⟩ := hφ
    rw [h3] at hx
    cases hx
    exact ⟨_, rfl, hys.app (.cons (hv.dv q) .nil)⟩
theorem w_pop (hS : St K L H) (hp : Put L (Lg.ls K a (ds ++ [d])) (Lg.ls K a ds) L') (h : ∀ v H', St K (.dat v d :: L') H' → Q v H') : rPop (.ref a) [] H Q := by
  obtain ⟨F, xs, h1, h2, h3, h4⟩ := hS.lsin (.own hp.mem)
  have hlen := h4.len
  obtain ⟨v, hv, hd⟩ := h4.get (i := ds.length) (d := d) (by simp)
  have hxs : xs.length - 1 = ds.length := by rw [hlen]; simp
  refine ⟨a, xs, v, rfl, rfl, h3, by rw [hxs]; exact hv, h _ _ ?_⟩
  have hS' := hS.know (v := v) (d := d) fun F' e q => by
    obtain ⟨ys, h5, h6⟩ := LsIn.ok (.own hp.mem) e q
    rw [h3] at h5
    cases h5
    obtain ⟨v', hv', hd'⟩ := h6.get (i := ds.length) (d := d) (by simp)
    rw [hv] at hv'
    cases hv'
    exact hd'
  refine hS'.writeP (.there hp) fun F' x e q hx hφ => ?_
  obtain ⟨ys, rfl, hys⟩ := hφ
  rw [h3] at hx
  cases hx
  refine ⟨_, rfl, ?_⟩
  have := hys.take ds.length
  rw [List.take_left] at this
  rw [List.dropLast_eq_take, hxs]
  exact this
theorem w_setL {k : Nat} (hS : St K L H) (hp : Put L (Lg.ls K a ds) (Lg.ls K a (ds.set k d)) L') (hv : Is L v d) (hk : i = (k : Int)) (hn : k < ds.length) {R : Hp → Prop} (h : ∀ H', St K L' H' → R H') : rSetL (.ref a) (.int i) v H R := by
  obtain ⟨F, xs, h1, h2, h3, h4⟩ := hS.lsin (.own hp.mem)
  refine ⟨a, xs, i, k, rfl, rfl, h3, ?_, h _ (hS.writeP hp fun F' x e q hx hφ => ?_)⟩
  · rw [hk]
    unfold ixN
    rw [if_pos (by omega), if_pos (by rw [h4.len]; omega)]
    simp
  · obtain ⟨ys, rfl, hys⟩ := hφ
    rw [h3] at hx
    cases hx
    exact ⟨_, rfl, hys.set _ (hv.dv q)⟩
theorem w_lenL (hS : St K L H) (hl : LsIn K L a ds) (h : Q (.int ds.length) H) : rLenX K [.ref a] H Q := by
  obtain ⟨F, xs, h1, h2, h3, h4⟩ := hS.lsin hl
  exact ⟨.ref a, ds.length, rfl, .inl ⟨xs, SqL.of h3, h4.len.symm⟩, h⟩
theorem w_lenT (hS : St K L H) (hl : Is L (.ref a) (.tuple ds)) (h : Q (.int ds.length) H) : rLenX K [.ref a] H Q := by
  obtain ⟨xs, h1, h2, _⟩ := hS.tup_parts hl
  exact ⟨.ref a, ds.length, rfl, .inr ⟨xs, h1, h2.symm⟩, h⟩
theorem St.item (hS : St K L H) (hl : LsIn K L a ds) {k : Nat} (hd : ds[k]? = some d) : ∃ xs v, H a = some (.lst xs) ∧ xs[k]? = some v ∧ xs.length = ds.length ∧ St K (.dat v d :: L) H := by
  obtain ⟨F, xs, h1, h2, h3, h4⟩ := hS.lsin hl
  obtain ⟨v, h5, h6⟩ := h4.get hd
  refine ⟨xs, v, h3, h5, h4.len, hS.know fun F' e q => ?_⟩
  obtain ⟨ys, h7, h8⟩ := hl.ok e q
  rw [h3] at h7
  cases h7
  obtain ⟨v', h9, h10⟩ := h8.get hd
  rw [h5] at h9
  cases h9
  exact h10
theorem w_ixL {k : Nat} (hS : St K L H) (hl : LsIn K L a ds) (hk : i = (k : Int)) (hd : ds[k]? = some d) (h : ∀ v, St K (.dat v d :: L) H → Q v H) : rIx K (.ref a) (.int i) H Q := by
  obtain ⟨xs, v, h3, h5, _, h6⟩ := hS.item hl hd
  exact .inl ⟨a, xs, i, v, rfl, rfl, SqL.of h3, by rw [hk]; exact at_of rfl h5, h v h6⟩
theorem w_ixLi {k : Nat} {m : Int} (hS : St K L H) (hl : LsIn K L a ds) (hk : i = (k : Int)) (hd : ds[k]? = some (.int m)) (h : Q (.int m) H) : rIx K (.ref a) (.int i) H Q :=
  w_ixL hS hl hk hd fun v h6 => by rw [h6.int_of]; exact h
theorem w_ixLs {k : Nat} {m : Str} (hS : St K L H) (hl : LsIn K L a ds) (hk : i = (k : Int)) (hd : ds[k]? = some (.str m)) (h : Q (.str m) H) : rIx K (.ref a) (.int i) H Q :=
  w_ixL hS hl hk hd fun v h6 => by rw [h6.str_of]; exact h
theorem w_ixT {k : Nat} (hS : St K L H) (hl : Is L (.ref a) (.tuple ds)) (hk : i = (k : Int)) (hd : ds[k]? = some d) (h : ∀ v, St K (.dat v d :: L) H → Q v H) : rIx K (.ref a) (.int i) H Q := by
  obtain ⟨xs, h1, h2, h3⟩ := hS.tup_parts hl
  obtain ⟨v, h4, h5⟩ := h3 _ _ hd
  exact .inr (.inl ⟨a, xs, i, v, rfl, rfl, h1, by rw [hk]; exact at_of rfl h4, h v h5⟩)
theorem w_ixTi {k : Nat} {m : Int} (hS : St K L H) (hl : Is L (.ref a) (.tuple ds)) (hk : i = (k : Int)) (hd : ds[k]? = some (.int m)) (h : Q (.int m) H) : rIx K (.ref a) (.int i) H Q :=
  w_ixT hS hl hk hd fun v h6 => by rw [h6.int_of]; exact h
theorem w_ixTs {k : Nat} {m : Str} (hS : St K L H) (hl : Is L (.ref a) (.tuple ds)) (hk : i = (k : Int)) (hd : ds[k]? = some (.str m)) (h : Q (.str m) H) : rIx K (.ref a) (.int i) H Q :=
  w_ixT hS hl hk hd fun v h6 => by rw [h6.str_of]; exact h
theorem w_plusL (hS : St K L H) (h1 : LsIn K L a ds) (h2 : LsIn K L p es) (hn : ds.length + es.length ≤ 100000) (h : ∀ q H', St K (Lg.ls K q (ds ++ es) :: L) H' → Q (.ref q) H') : rPlus K (.ref a) (.ref p) H Q := by
  obtain ⟨F, xs, g1, g2, g3, g4⟩ := hS.lsin h1
  obtain ⟨ys, g5, g6⟩ := h2.ok g1 g2
  refine .inr (.inr (.inl ⟨a, p, xs, ys, rfl, rfl, g3, g5, ?_, fun q hq => h q _ (hS.alloc hq fun F' e w => ?_)⟩))
  · rw [g4.len, g6.len]; exact Nat.le_trans hn (by decide)
  · obtain ⟨xs', k1, k2⟩ := h1.ok e w
    obtain ⟨ys', k3, k4⟩ := h2.ok e w
    rw [g3] at k1; cases k1
    rw [g5] at k3; cases k3
    exact ⟨_, rfl, k2.app k4⟩
theorem w_repLs (hS : St K L H) (h1 : LsIn K L a ds) (h0 : i ≤ 100000) (h0' : -100000 ≤ i) (hn : ds.length * i.toNat ≤ 100000) (h : ∀ q H', St K (Lg.ls K q (List.replicate i.toNat ds).flatten :: L) H' → Q (.ref q) H') : rTimes (.ref a) (.int i) H Q := by
  obtain ⟨F, xs, g1, g2, g3, g4⟩ := hS.lsin h1
  refine .inr (.inl ⟨a, i, xs, rfl, rfl, g3, by omega, by omega, ?_, fun q hq => h q _ (hS.alloc hq fun F' e w => ?_)⟩)
  · rw [g4.len]; exact Nat.le_trans hn (by decide)
  · obtain ⟨xs', k1, k2⟩ := h1.ok e w
    rw [g3] at k1; cases k1
    exact ⟨_, rfl, k2.flat _⟩
def cutD (ds : List PyData) (lo hi : Option Int) : List PyData := (ds.drop (HT.sIx ds.length 0 lo)).take (HT.sIx ds.length ds.length hi - HT.sIx ds.length 0 lo)
theorem w_slL {lo hi : Option Int} (hS : St K L H) (h1 : LsIn K L a ds) (h : ∀ q H', St K (Lg.ls K q (cutD ds lo hi) :: L) H' → Q (.ref q) H') : rSlX K (.ref a) lo hi H Q := by
  obtain ⟨F, xs, g1, g2, g3, g4⟩ := hS.lsin h1
  refine .inl ⟨a, xs, rfl, SqL.of g3, fun q hq => h q _ (hS.alloc hq fun F' e w => ?_)⟩
  obtain ⟨xs', k1, k2⟩ := h1.ok e w
  rw [g3] at k1; cases k1
  refine ⟨_, rfl, ?_⟩
  unfold cutV cutD
  rw [g4.len]
  exact (k2.drop _).take _
theorem w_listL (hS : St K L H) (h1 : LsIn K L a ds) (h : ∀ q H', St K (Lg.ls K q ds :: L) H' → Q (.ref q) H') : rListOf K [.ref a] H Q := by
  obtain ⟨F, xs, g1, g2, g3, g4⟩ := hS.lsin h1
  refine ⟨a, xs, rfl, .inl (SqL.of g3), fun q hq => h q _ (hS.alloc hq fun F' e w => ?_)⟩
  obtain ⟨xs', k1, k2⟩ := h1.ok e w
  rw [g3] at k1; cases k1
  exact ⟨_, rfl, k2⟩
theorem w_tupL (hS : St K L H) (h1 : LsIn K L a ds) (h : ∀ q H', St K (Lg.dat (.ref q) (.tuple ds) :: L) H' → Q (.ref q) H') : rTupOf K [.ref a] H Q := by
  obtain ⟨F, xs, g1, g2, g3, g4⟩ := hS.lsin h1
  refine ⟨a, xs, rfl, .inl ⟨SqL.of g3, fun q hq => h q _ (hS.fresh hq fun F' hF' e w => ?_)⟩⟩
  obtain ⟨xs', k1, k2⟩ := h1.ok e w
  rw [g3] at k1; cases k1
  exact .tup (SqT.of upd_same) (DvAll.mono (Ex.new hF') _ _ k2)
theorem w_eqD (hS : St K L H) (h1 : See K L x d) (h2 : See K L y e) (s1 : SeqAt.shaped d = true) (s2 : SeqAt.shaped e = true) (h : Q (.bl (PyData.eqv d e)) H) : rEqX K x y H Q :=
  .inr ⟨d, e, h1.dp hS, h2.dp hS, s1, s2, h⟩
theorem w_neD (hS : St K L H) (h1 : See K L x d) (h2 : See K L y e) (s1 : SeqAt.shaped d = true) (s2 : SeqAt.shaped e = true) (h : Q (.bl (!PyData.eqv d e)) H) : rNeX K x y H Q :=
  .inr ⟨d, e, h1.dp hS, h2.dp hS, s1, s2, h⟩
theorem shaped_self (s1 : SeqAt.shaped d = true) : PyData.eqv d d = true := SeqAt.eqv_refl d (SeqAt.canLay_of_shaped s1)
theorem w_eq1 (hS : St K L H) (h1 : See K L x d) (h2 : See K L y d) (s1 : SeqAt.shaped d = true) (h : Q (.bl true) H) : rEqX K x y H Q :=
  w_eqD hS h1 h2 s1 s1 (by rw [shaped_self s1]; exact h)
theorem w_ne1 (hS : St K L H) (h1 : See K L x d) (h2 : See K L y d) (s1 : SeqAt.shaped d = true) (h : Q (.bl false) H) : rNeX K x y H Q :=
  w_neD hS h1 h2 s1 s1 (by rw [shaped_self s1]; exact h)
theorem ints_ib (ns : List Int) : (ns.map V.int).all flatIB = true := by simp [flatIB]
theorem bls_ib (ns : List Bool) : (ns.map V.bl).all flatIB = true := by simp [flatIB]
theorem w_anyB {bs : List Bool} (hS : St K L H) (h1 : LsIn K L a (bs.map PyData.bool)) (h : Q (.bl (bs.any id)) H) : rAnyX K [.ref a] H Q := by
  obtain ⟨F, xs, g1, g2, g3, g4⟩ := hS.lsin h1
  have e := g4.bls_inv
  subst e
  refine ⟨a, _, rfl, SqL.of g3, bls_ib bs, ?_⟩
  have : (bs.map V.bl).any trV = bs.any id := by rw [List.any_map]; rfl
  rw [this]; exact h
theorem w_allB {bs : List Bool} (hS : St K L H) (h1 : LsIn K L a (bs.map PyData.bool)) (h : Q (.bl (bs.all id)) H) : rAllX K [.ref a] H Q := by
  obtain ⟨F, xs, g1, g2, g3, g4⟩ := hS.lsin h1
  have e := g4.bls_inv
  subst e
  refine ⟨a, _, rfl, SqL.of g3, bls_ib bs, ?_⟩
  have : (bs.map V.bl).all trV = bs.all id := by rw [List.all_map]; rfl
  rw [this]; exact h
theorem w_anyI {ns : List Int} (hS : St K L H) (h1 : LsIn K L a (ns.map PyData.int)) (h : Q (.bl (ns.any (· != 0))) H) : rAnyX K [.ref a] H Q := by
  obtain ⟨F, xs, g1, g2, g3, g4⟩ := hS.lsin h1
  have e := g4.ints_inv
  subst e
  refine ⟨a, _, rfl, SqL.of g3, ints_ib ns, ?_⟩
  have : (ns.map V.int).any trV = ns.any (· != 0) := by rw [List.any_map]; rfl
  rw [this]; exact h
theorem w_join {z : Str} {ys : List Str} (hS : St K L H) (h1 : LsIn K L a (ys.map PyData.str)) (hn : (ys.map (·.length)).sum + ys.length * z.length ≤ 100000) (h : Q (.str (Txt.join z ys)) H) : rJoin K (.str z) [.ref a] H Q := by
  obtain ⟨F, xs, g1, g2, g3, g4⟩ := hS.lsin h1
  exact ⟨z, a, ys, rfl, rfl, .inl (by rw [← g4.strs_inv]; exact SqL.of g3), Nat.le_trans hn (by decide), h⟩
/-! isinstance -/
theorem w_isi {T U : String} (hT : TyX K H x (.type T)) (hk : kitB T U = some b) (h : Q (.bl b) H) : rIsi K [x, .ty U] H Q := ⟨x, .ty U, .type T, .type U, b, rfl, .ty U, hT, kit_ty hk, h⟩
theorem w_isiL {U : String} (hS : St K L H) (hl : LsIn K L a ds) (hk : kitB "list" U = some b) (h : Q (.bl b) H) : rIsi K [.ref a, .ty U] H Q := by
  obtain ⟨F, xs, _, _, h3, _⟩ := hS.lsin hl
  exact w_isi (.base (.lst h3)) hk h
theorem w_isiI {U : String} (hk : kitB "int" U = some b) (h : Q (.bl b) H) : rIsi K [.int i, .ty U] H Q := w_isi (.base (.int i)) hk h
theorem w_isiS {z : Str} {U : String} (hk : kitB "str" U = some b) (h : Q (.bl b) H) : rIsi K [.str z, .ty U] H Q := w_isi (.base (.str z)) hk h
theorem w_isiN {U : String} (hk : kitB "NoneType" U = some b) (h : Q (.bl b) H) : rIsi K [.non, .ty U] H Q := w_isi (.base .non) hk h
theorem w_isiT {U : String} (hS : St K L H) (hl : Is L (.ref a) (.tuple ds)) (hk : kitB "tuple" U = some b) (h : Q (.bl b) H) : rIsi K [.ref a, .ty U] H Q := by
  obtain ⟨xs, h1, h2, _⟩ := hS.tup_parts hl
  rcases h1 with (h1 | ⟨o, h1⟩) | ⟨o, its, n, h1, hc, _⟩
  · exact w_isi (.base (.tup h1)) hk h
  · exact w_isi (.fTuple h1) hk h
  · exact w_isi (.kTuple h1 hc) hk h
end
end Lg

/-! Loops, comprehensions, the draws. -/
namespace Lg
open PySem PySem.Spec PyProof.Rows L2

def iAny (K : PySem.W.Frag) (tl : TE) : TI := fun σ H R => iList K tl σ H R ∨ (iTup K tl σ H R ∨ iStr tl σ H R)
def gUnp (K : PySem.W.Frag) (n : Nat) (t : TGs) : TG := fun v σ H Q => gTup K n t v σ H Q ∨ gUnl K n t v σ H Q
section
variable {X : Cx}
theorem PI.or {tg iter : Expr} {w1 w2 : TI} (h1 : PI X tg iter w1) (h2 : PI X tg iter w2) : PI X tg iter (fun σ H R => w1 σ H R ∨ w2 σ H R) :=
  ⟨fun pins s σ H R I h => h.elim (fun q => h1.run pins s σ H R I q) fun q => h2.run pins s σ H R I q⟩
theorem pi_any {tg l : Expr} {tl : TE} (hl : PE X l tl) : PI X tg l (iAny X.K tl) := PI.or (pi_list hl) (PI.or (pi_tup hl) (pi_str hl))
theorem PG.or {target : Expr} {t u : TG} (h1 : PG X target t) (h2 : PG X target u) : PG X target (fun v σ H Q => t v σ H Q ∨ u v σ H Q) :=
  ⟨fun pins s σ H v w Q I r h => h.elim (fun q => h1.run pins s σ H v w Q I r q) fun q => h2.run pins s σ H v w Q I r q⟩
theorem pg_unp {es : List Expr} {k : Nat} {t : TGs} {n : Nat} {pos : Pos} (hc : X.calm = true) (h : PGs X es t)
    (hn : (assignEach es X.env).length = n := by rfl) (hst : (assignEach es X.env).findIdx? (·.1) = none := by rfl) : PG X (.Tuple es k pos) (gUnp X.K n t) := PG.or (pg_tup hc h hn hst) (pg_unl hc h hn hst)
end

def Rng1 (vs : List V) (H1 : Hp) (R : It → Hp → Prop) : Prop := ∃ j : Int, vs = [.int j] ∧ -(2 ^ 62) ≤ j ∧ j < 2 ^ 62 ∧ R (Itr 0 j.toNat) H1
def Rng2 (vs : List V) (H1 : Hp) (R : It → Hp → Prop) : Prop := ∃ i j : Int, vs = [.int i, .int j] ∧ (-(2 ^ 62) ≤ i ∧ i < 2 ^ 62 ∧ -(2 ^ 62) ≤ j ∧ j < 2 ^ 62) ∧ R (Itr i (j - i).toNat) H1
def Rng3 (vs : List V) (H1 : Hp) (R : It → Hp → Prop) : Prop := ∃ (i j c : Int) (n : Nat), vs = [.int i, .int j, .int c] ∧ RgC i j c n ∧ R (Itc i c n) H1
def Enu (K : PySem.W.Frag) (vs : List V) (H1 : Hp) (R : It → Hp → Prop) : Prop := ∃ a xs, vs = [.ref a] ∧ SqL K H1 a xs ∧ R (Ite K a) H1
def AnyL (K : PySem.W.Frag) (x : V) (H1 : Hp) (R : It → Hp → Prop) : Prop := ∃ a, x = .ref a ∧ (∃ xs, SqL K H1 a xs) ∧ R (Itl K a) H1
def AnyT (K : PySem.W.Frag) (x : V) (H1 : Hp) (R : It → Hp → Prop) : Prop := ∃ a, x = .ref a ∧ (∃ xs, SqT K H1 a xs) ∧ R (Itt K a) H1
def AnyS (v : V) (H1 : Hp) (R : It → Hp → Prop) : Prop := ∃ x, v = .str x ∧ R (Its x) H1
def AnyV (K : PySem.W.Frag) (v : V) (H1 : Hp) (R : It → Hp → Prop) : Prop := AnyL K v H1 R ∨ (AnyT K v H1 R ∨ AnyS v H1 R)
def ForW (J : It) (g : TG) (tb : TS) (D : Ends) (σ : L2.St) (H1 : Hp) : Prop := ∃ W : Nat → Nat → L2.St → Hp → Prop, (∃ m, W 0 m σ H1) ∧ ∀ i m σ H, W i m σ H →
  (J.stop i H ∧ D.nx σ H) ∨ (J.go i H ∧ ∃ N : L2.St → Hp → Prop, (∀ σ' H', N σ' H' → ∃ m', m' < m ∧ W (i + 1) m' σ' H') ∧ ∀ x H', J.yld i H x H' → g x σ H' fun σ2 H2 => tb { D with nx := N, ct := N, bk := D.nx } σ2 H2)
def LcW (J : It) (g : TG) (tt : TT) (te : TE) (vs : List Nat) (σ : L2.St) (H1 : Hp) (Q : VK) : Prop := ∀ D, H1 D = none → ∃ W : Nat → Nat → Hp → Prop, (∃ m, W 0 m (upd H1 D (.lst []))) ∧ ∀ i m H, W i m H →
  (J.stop i H ∧ Q (.ref D) H) ∨ (J.go i H ∧ ∃ Nx : Hp → Prop, (∀ H', Nx H' → ∃ m', m' < m ∧ W (i + 1) m' H') ∧ ∀ x H', J.yld i H x H' → g x (wipe σ vs) H' fun σ2 H2 => wipe σ2 vs = wipe σ vs ∧ tt σ2 H2 fun b H3 =>
    if b = true then te σ2 H3 fun y H4 => ∃ acc, H4 D = some (.lst acc) ∧ acc.length < sizeLine ∧ Nx (upd H4 D (.lst (acc ++ [y]))) else Nx H3)
section
variable {K : PySem.W.Frag} {L L' : List Ent} {H : Hp} {σ σ' : L2.St} {D : Ends} {Q : VK} {E : XK} {ta tb tc te tl : TE} {tt tu : TT} {t u tbody : TS} {g : TG} {i j : Int} {x y v : V} {b c : Bool} {a p : Addr} {ds es : List PyData} {d e : PyData} {n : Nat} {vs : List Nat} {wi : TI}
theorem w_for (h : wi σ H fun J H1 => ForW J g tbody D σ H1) : tFor wi g tbody D σ H := h
theorem w_lc (h : wi σ H fun J H1 => LcW J g tt te vs σ H1 Q) : tLc wi g tt te vs σ H Q := h
/-! the walked thing -/
theorem w_anyL1 {R : It → Hp → Prop} (h : tl σ H fun x H1 => AnyL K x H1 R) : iAny K tl σ H R := .inl h
theorem w_anyT1 {R : It → Hp → Prop} (h : tl σ H fun x H1 => AnyT K x H1 R) : iAny K tl σ H R := .inr (.inl h)
theorem w_anyS1 {R : It → Hp → Prop} (h : tl σ H fun v H1 => AnyS v H1 R) : iAny K tl σ H R := .inr (.inr h)
theorem w_anyVar {n : Nat} {R : It → Hp → Prop} (q : GetAt σ n v) (h : AnyV K v H R) : iAny K (tVar n) σ H R := by
  rcases h with h | h | h
  · exact .inl ⟨v, q.eq, h⟩
  · exact .inr (.inl ⟨v, q.eq, h⟩)
  · exact .inr (.inr ⟨v, q.eq, h⟩)
theorem w_anyC {R : It → Hp → Prop} (h : AnyV K v H R) : iAny K (tC v) σ H R := h
theorem w_vS {z : Str} {R : It → Hp → Prop} (h : R (Its z) H) : AnyV K (.str z) H R := .inr (.inr ⟨z, rfl, h⟩)
theorem w_vL {R : It → Hp → Prop} (hS : St K L H) (hl : LsIn K L a ds) (h : R (Itl K a) H) : AnyV K (.ref a) H R := by
  obtain ⟨F, xs, _, _, h3, _⟩ := hS.lsin hl
  exact .inl ⟨a, rfl, ⟨xs, SqL.of h3⟩, h⟩
theorem w_vT {R : It → Hp → Prop} (hS : St K L H) (hl : Is L (.ref a) (.tuple ds)) (h : R (Itt K a) H) : AnyV K (.ref a) H R := by
  obtain ⟨xs, h1, _⟩ := hS.tup_parts hl
  exact .inr (.inl ⟨a, rfl, ⟨xs, h1⟩, h⟩)
theorem w_itL {R : It → Hp → Prop} (hS : St K L H) (hl : LsIn K L a ds) (h : R (Itl K a) H) : AnyL K (.ref a) H R := by
  obtain ⟨F, xs, _, _, h3, _⟩ := hS.lsin hl
  exact ⟨a, rfl, ⟨xs, SqL.of h3⟩, h⟩
theorem w_itT {R : It → Hp → Prop} (hS : St K L H) (hl : Is L (.ref a) (.tuple ds)) (h : R (Itt K a) H) : AnyT K (.ref a) H R := by
  obtain ⟨xs, h1, _⟩ := hS.tup_parts hl
  exact ⟨a, rfl, ⟨xs, h1⟩, h⟩
theorem w_itS {R : It → Hp → Prop} {z : Str} (h : R (Its z) H) : AnyS (.str z) H R := ⟨z, rfl, h⟩
theorem w_rng1 {ta : TA} {R : It → Hp → Prop} (h : ta σ H fun vs H1 => Rng1 vs H1 R) : iRng1 ta σ H R := h
theorem w_rng2 {ta : TA} {R : It → Hp → Prop} (h : ta σ H fun vs H1 => Rng2 vs H1 R) : iRng2 ta σ H R := h
theorem w_rng3 {ta : TA} {R : It → Hp → Prop} (h : ta σ H fun vs H1 => Rng3 vs H1 R) : iRng3 ta σ H R := h
theorem w_itR1 {R : It → Hp → Prop} (hj : -100000 ≤ j ∧ j ≤ 100000000) (h : R (Itr 0 j.toNat) H) : Rng1 [.int j] H R := ⟨j, rfl, by omega, by omega, h⟩
theorem w_itR2 {R : It → Hp → Prop} (hi : -100000 ≤ i ∧ i ≤ 100000000) (hj : -100000 ≤ j ∧ j ≤ 100000000) (h : R (Itr i (j - i).toNat) H) : Rng2 [.int i, .int j] H R :=
  ⟨i, j, rfl, by omega, h⟩
theorem w_itR3 {R : It → Hp → Prop} {k : Int} {n : Nat} (hc : RgC i j k n) (h : R (Itc i k n) H) : Rng3 [.int i, .int j, .int k] H R := ⟨i, j, k, n, rfl, hc, h⟩
theorem w_enum {ta : TA} {R : It → Hp → Prop} (h : ta σ H fun vs H1 => Enu K vs H1 R) : iEnum K ta σ H R := h
theorem w_itE {R : It → Hp → Prop} (hS : St K L H) (hl : LsIn K L a ds) (h : R (Ite K a) H) : Enu K [.ref a] H R := by
  obtain ⟨F, xs, _, _, h3, _⟩ := hS.lsin hl
  exact ⟨a, xs, rfl, SqL.of h3, h⟩
/-! for -/
theorem w_forL (I : Nat → L2.St → Hp → Prop) (h0 : I 0 σ H) (hI : ∀ i σ H, i ≤ ds.length → I i σ H → ∃ L, St K L H ∧ LsIn K L a ds)
    (hs : ∀ i d v σ H, ds[i]? = some d → I i σ H → (∀ L, St K L H → LsIn K L a ds → St K (.dat v d :: L) H) → g v σ H fun σ2 H2 => tbody { D with nx := I (i + 1), ct := I (i + 1), bk := D.nx } σ2 H2)
    (hd : ∀ σ H, I ds.length σ H → D.nx σ H) : ForW (Itl K a) g tbody D σ H := by
  refine ⟨fun i m σ H => m = ds.length - i ∧ i ≤ ds.length ∧ I i σ H, ⟨ds.length, by simp, Nat.zero_le _, h0⟩, ?_⟩
  rintro i m σ H ⟨rfl, hi, p⟩
  obtain ⟨L, hS, hl⟩ := hI i σ H hi p
  by_cases hlt : i < ds.length
  · obtain ⟨xs, v, h3, h5, hlen, h6⟩ := hS.item hl (k := i) (d := ds[i]) (by simp [hlt])
    refine .inr ⟨⟨xs, v, SqL.of h3, h5⟩, I (i + 1), fun σ' H' p' => ⟨ds.length - (i + 1), by omega, rfl, hlt, p'⟩, fun x H' y => ?_⟩
    obtain ⟨rfl, y⟩ := y
    have hx : xs[i]? = some x := y xs (SqL.of h3)
    have hxv : v = x := by rw [h5] at hx; exact Option.some.inj hx
    subst hxv
    refine hs i ds[i] v σ H' (by simp [hlt]) p fun L2 hS2 hl2 => ?_
    obtain ⟨xs2, v2, k3, k5, _, k6⟩ := hS2.item hl2 (k := i) (d := ds[i]) (by simp [hlt])
    rw [h3] at k3
    cases k3
    rw [h5] at k5
    cases k5
    exact k6
  · have e : i = ds.length := by omega
    subst e
    obtain ⟨xs, h3, h4⟩ := hS.lenl hl
    exact .inl ⟨⟨xs, SqL.of h3, Nat.le_of_eq h4⟩, hd σ H p⟩
theorem w_forT {xs : List V} (hx : xs.length = ds.length) (I : Nat → L2.St → Hp → Prop) (h0 : I 0 σ H) (hI : ∀ i σ H, i ≤ ds.length → I i σ H → SqT K H a xs)
    (hs : ∀ i d v σ H, ds[i]? = some d → xs[i]? = some v → I i σ H → g v σ H fun σ2 H2 => tbody { D with nx := I (i + 1), ct := I (i + 1), bk := D.nx } σ2 H2)
    (hd : ∀ σ H, I ds.length σ H → D.nx σ H) : ForW (Itt K a) g tbody D σ H := by
  refine for_tup (xs := xs) I h0 (fun i σ H hi p => hI i σ H (by omega) p) (fun i x σ H hv p => ?_) (fun σ H p => hd σ H (by rw [← hx]; exact p))
  have hlt : i < ds.length := by
    rw [← hx]
    exact (List.getElem?_eq_some_iff.mp hv).1
  exact hs i ds[i] x σ H (by simp [hlt]) hv p
theorem w_forR {lo : Int} {n : Nat} (I : Nat → L2.St → Hp → Prop) (h0 : I 0 σ H)
    (hs : ∀ i σ H, i < n → I i σ H → g (.int (lo + i)) σ H fun σ2 H2 => tbody { D with nx := I (i + 1), ct := I (i + 1), bk := D.nx } σ2 H2) (hd : ∀ σ H, I n σ H → D.nx σ H) : ForW (Itr lo n) g tbody D σ H :=
  for_range I h0 hs hd
theorem w_forS {z : Str} (I : Nat → L2.St → Hp → Prop) (h0 : I 0 σ H)
    (hs : ∀ i c σ H, z.cps.toList[i]? = some c → I i σ H → g (.str ⟨#[c]⟩) σ H fun σ2 H2 => tbody { D with nx := I (i + 1), ct := I (i + 1), bk := D.nx } σ2 H2) (hd : ∀ σ H, I z.cps.toList.length σ H → D.nx σ H) : ForW (Its z) g tbody D σ H := by
  refine for_it walk_str I h0 (fun _ _ _ _ _ => trivial) (fun i x σ H H' hi p y => ?_) (fun σ H p => hd σ H (by simpa using p))
  obtain ⟨rfl, c, hc, rfl⟩ := y
  exact hs i c σ H' (by simpa using hc) p
/-! comprehensions without tests -/
theorem lc_mk {J : It} {N : Nat} (R : Nat → PyData → Prop) (hN : N ≤ 100000) (hS : St K L H)
    (hgo : ∀ i H es q, i < N → St K (.cell q (.ls K es) :: L) H → J.go i H) (hst : ∀ H es q, St K (.cell q (.ls K es) :: L) H → J.stop N H)
    (hs : ∀ i q es H x H', i < N → es.length = i → St K (.cell q (.ls K es) :: L) H → J.yld i H x H' → ∀ Z : VK, (∀ y e H3, R i e → St K (.dat y e :: .cell q (.ls K es) :: L) H3 → Z y H3) → g x (wipe σ vs) H' fun σ2 H2 => wipe σ2 vs = wipe σ vs ∧ te σ2 H2 Z)
    (h : ∀ q es H', es.length = N → (∀ i e, es[i]? = some e → R i e) → St K (.cell q (.ls K es) :: L) H' → Q (.ref q) H') : LcW J g tYes te vs σ H Q := by
  intro q hq
  refine ⟨fun i m H => m = N - i ∧ i ≤ N ∧ ∃ es, es.length = i ∧ (∀ j e, es[j]? = some e → R j e) ∧ St K (.cell q (.ls K es) :: L) H, ⟨N, by simp, Nat.zero_le _, [], rfl, fun j e z => by simp at z, hS.alloc hq fun F _ _ => ⟨[], rfl, .nil⟩⟩, ?_⟩
  rintro i m H ⟨rfl, hi, es, hlen, hR, hS1⟩
  by_cases hlt : i < N
  · refine .inr ⟨hgo i H es q hlt hS1, fun H' => i + 1 ≤ N ∧ ∃ es, es.length = i + 1 ∧ (∀ j e, es[j]? = some e → R j e) ∧ St K (.cell q (.ls K es) :: L) H', fun H' w => ⟨N - (i + 1), by omega, rfl, w⟩, fun x H' y => ?_⟩
    refine hs i q es H x H' hlt hlen hS1 y _ fun y e H3 hRe hS3 => ?_
    obtain ⟨F, xs, h1, h2, h3, h4⟩ := hS3.lsin (.own (.tail _ (.head _)))
    refine ⟨xs, h3, ?_, by omega, es ++ [e], by simp [hlen], fun j e' he => ?_, ?_⟩
    · rw [h4.len, hlen]
      exact Nat.lt_of_lt_of_le (Nat.lt_of_lt_of_le hlt hN) (by decide)
    · by_cases hj : j < es.length
      · rw [List.getElem?_append_left hj] at he
        exact hR j e' he
      · rw [List.getElem?_append_right (by omega)] at he
        have hj0 : j - es.length = 0 := by
          cases hz : j - es.length with
          | zero => rfl
          | succ n => rw [hz] at he; simp at he
        rw [hj0] at he
        have : j = i := by omega
        subst this
        simp at he
        subst he
        exact hRe
    · have hS4 := hS3.writeP (o := .lst (xs ++ [y])) (ψ := .ls K (es ++ [e])) (.there .here) fun F' x e' q hx hφ => ?_
      · exact hS4.tail
      · obtain ⟨ys, rfl, hys⟩ := hφ
        rw [h3] at hx
        cases hx
        exact ⟨_, rfl, hys.app (.cons (q _ (.head _)) .nil)⟩
  · have e : i = N := by omega
    subst e
    exact .inl ⟨hst H es q hS1, h q es H hlen hR hS1⟩
theorem w_lcL {R : Nat → PyData → Prop} (hS : St K L H) (hl : LsIn K L a ds) (hn : ds.length ≤ 100000)
    (hs : ∀ i d q es v H, ds[i]? = some d → es.length = i → St K (.dat v d :: .cell q (.ls K es) :: L) H → ∀ Z : VK, (∀ y e H3, R i e → St K (.dat y e :: .cell q (.ls K es) :: L) H3 → Z y H3) → g v (wipe σ vs) H fun σ2 H2 => wipe σ2 vs = wipe σ vs ∧ te σ2 H2 Z)
    (h : ∀ q es H', es.length = ds.length → (∀ i e, es[i]? = some e → R i e) → St K (.cell q (.ls K es) :: L) H' → Q (.ref q) H') : LcW (Itl K a) g tYes te vs σ H Q := by
  refine lc_mk R hn hS (fun i H es q hi h1 => ?_) (fun H es q h1 => ?_) (fun i q es H x H' hi hlen h1 y Z hZ => ?_) h
  · obtain ⟨xs, v, h3, h5, _, _⟩ := h1.item hl.cons (k := i) (d := ds[i]) (by simp [hi])
    exact ⟨xs, v, SqL.of h3, h5⟩
  · obtain ⟨xs, h3, h4⟩ := h1.lenl hl.cons
    exact ⟨xs, SqL.of h3, Nat.le_of_eq h4⟩
  · obtain ⟨rfl, y⟩ := y
    obtain ⟨xs, v, h3, h5, _, h6⟩ := h1.item hl.cons (k := i) (d := ds[i]) (by simp [hi])
    have hx := y xs (SqL.of h3)
    rw [h5] at hx
    have hvx := Option.some.inj hx
    subst hvx
    exact hs i ds[i] q es _ H' (by simp [hi]) hlen h6 Z hZ
theorem w_lcR {lo : Int} {n : Nat} {R : Nat → PyData → Prop} (hS : St K L H) (hn : n ≤ 100000)
    (hs : ∀ i q es H, i < n → es.length = i → St K (.cell q (.ls K es) :: L) H → ∀ Z : VK, (∀ y e H3, R i e → St K (.dat y e :: .cell q (.ls K es) :: L) H3 → Z y H3) → g (.int (lo + i)) (wipe σ vs) H fun σ2 H2 => wipe σ2 vs = wipe σ vs ∧ te σ2 H2 Z)
    (h : ∀ q es H', es.length = n → (∀ i e, es[i]? = some e → R i e) → St K (.cell q (.ls K es) :: L) H' → Q (.ref q) H') : LcW (Itr lo n) g tYes te vs σ H Q := by
  refine lc_mk R hn hS (fun i H es q hi h1 => hi) (fun H es q h1 => Nat.le_refl _) (fun i q es H x H' hi hlen h1 y Z hZ => ?_) h
  obtain ⟨rfl, rfl⟩ := y
  exact hs i q es H' hi hlen h1 Z hZ
theorem w_lcR3 {lo c : Int} {n : Nat} {R : Nat → PyData → Prop} (hS : St K L H) (hn : n ≤ 100000)
    (hs : ∀ i q es H, i < n → es.length = i → St K (.cell q (.ls K es) :: L) H → ∀ Z : VK, (∀ y e H3, R i e → St K (.dat y e :: .cell q (.ls K es) :: L) H3 → Z y H3) → g (.int (lo + (i : Nat) * c)) (wipe σ vs) H fun σ2 H2 => wipe σ2 vs = wipe σ vs ∧ te σ2 H2 Z)
    (h : ∀ q es H', es.length = n → (∀ i e, es[i]? = some e → R i e) → St K (.cell q (.ls K es) :: L) H' → Q (.ref q) H') : LcW (Itc lo c n) g tYes te vs σ H Q := by
  refine lc_mk R hn hS (fun i H es q hi h1 => hi) (fun H es q h1 => Nat.le_refl _) (fun i q es H x H' hi hlen h1 y Z hZ => ?_) h
  obtain ⟨rfl, rfl⟩ := y
  exact hs i q es H' hi hlen h1 Z hZ
theorem w_lcS {z : Str} {R : Nat → PyData → Prop} (hS : St K L H) (hn : z.length ≤ 100000)
    (hs : ∀ i k q es H, z.cps.toList[i]? = some k → es.length = i → St K (.cell q (.ls K es) :: L) H → ∀ Z : VK, (∀ y e H3, R i e → St K (.dat y e :: .cell q (.ls K es) :: L) H3 → Z y H3) → g (.str ⟨#[k]⟩) (wipe σ vs) H fun σ2 H2 => wipe σ2 vs = wipe σ vs ∧ te σ2 H2 Z)
    (h : ∀ q es H', es.length = z.cps.toList.length → (∀ i e, es[i]? = some e → R i e) → St K (.cell q (.ls K es) :: L) H' → Q (.ref q) H') : LcW (Its z) g tYes te vs σ H Q := by
  refine lc_mk (N := z.cps.size) R hn hS (fun i H es q hi h1 => hi) (fun H es q h1 => Nat.le_refl _) (fun i q es H x H' hi hlen h1 y Z hZ => ?_) (fun q es H' h1 => h q es H' (by simpa using h1))
  obtain ⟨rfl, k, hk, rfl⟩ := y
  exact hs i k q es H' (by simpa using hk) hlen h1 Z hZ
/-- enumerate: the pair is a new tuple -/
theorem w_lcE {R : Nat → PyData → Prop} (hS : St K L H) (hl : LsIn K L a ds) (hn : ds.length ≤ 100000)
    (hs : ∀ i d q es T H, ds[i]? = some d → es.length = i → St K (.dat (.ref T) (.tuple [.int (i : Nat), d]) :: .cell q (.ls K es) :: L) H → ∀ Z : VK, (∀ y e H3, R i e → St K (.dat y e :: .cell q (.ls K es) :: L) H3 → Z y H3) → g (.ref T) (wipe σ vs) H fun σ2 H2 => wipe σ2 vs = wipe σ vs ∧ te σ2 H2 Z)
    (h : ∀ q es H', es.length = ds.length → (∀ i e, es[i]? = some e → R i e) → St K (.cell q (.ls K es) :: L) H' → Q (.ref q) H') : LcW (Ite K a) g tYes te vs σ H Q := by
  refine lc_mk R hn hS (fun i H es q hi h1 => ?_) (fun H es q h1 => ?_) (fun i q es H x H' hi hlen h1 y Z hZ => ?_) h
  · obtain ⟨xs, v, h3, h5, _, _⟩ := h1.item hl.cons (k := i) (d := ds[i]) (by simp [hi])
    exact ⟨xs, v, SqL.of h3, h5⟩
  · obtain ⟨xs, h3, h4⟩ := h1.lenl hl.cons
    exact ⟨xs, SqL.of h3, Nat.le_of_eq h4⟩
  · obtain ⟨T, x', rfl, hT, rfl, y⟩ := y
    obtain ⟨xs, v, h3, h5, _, h6⟩ := h1.item hl.cons (k := i) (d := ds[i]) (by simp [hi])
    have hx := y xs (SqL.of h3)
    rw [h5] at hx
    have hvx := Option.some.inj hx
    subst hvx
    have h7 := h6.fresh (o := .tup [.int (i : Nat), v]) (v := .ref T) (d := .tuple [.int (i : Nat), ds[i]]) hT fun F hF e q => .tup (SqT.of upd_same) (.cons (.int _) (.cons (Dv.mono (Ex.new hF) _ _ (q _ (.head _))) .nil))
    exact hs i ds[i] q es T _ (by simp [hi]) hlen (h7.to (.cons .here (.cons (.there .here) (.drop .refl)))) Z hZ
/-- targets that unpack -/
theorem zip_ok {F : Hp} : ∀ {xs : List V} {ds : List PyData}, DvAll K F xs ds → ∀ e ∈ List.zipWith Ent.dat xs ds, e.ok K F H
  | _, [], h, e, he => by cases h; cases he
  | _, d :: ds, h, e, he => by
    cases h with
    | cons h1 h2 =>
      rw [List.zipWith_cons_cons] at he
      cases he with
      | head => exact h1
      | tail _ he => exact zip_ok h2 e he
theorem zip_adr : ∀ {xs : List V} {ds : List PyData}, (List.zipWith Ent.dat xs ds ++ L).filterMap Ent.adr = L.filterMap Ent.adr
  | [], _ => rfl
  | _ :: _, [] => rfl
  | x :: xs, d :: ds => zip_adr (xs := xs) (ds := ds)
theorem St.zip {F : Hp} {xs : List V} (hS : St K L H) (h1 : Ex F H) (h2 : ∀ e ∈ L, e.ok K F H) (h3 : DvAll K F xs ds) : St K (List.zipWith Ent.dat xs ds ++ L) H :=
  ⟨⟨F, h1, fun e he => by
    rcases List.mem_append.mp he with he | he
    · exact zip_ok h3 e he
    · exact h2 e he⟩, by rw [zip_adr]; exact hS.nd⟩
theorem St.tup_all (hS : St K L H) (hl : Is L (.ref a) (.tuple ds)) : ∃ xs, SqT K H a xs ∧ xs.length = ds.length ∧ St K (List.zipWith Ent.dat xs ds ++ L) H := by
  obtain ⟨F, h1, h2⟩ := hS.ex
  have := hl.dv h2
  cases this with
  | tup g1 g2 => exact ⟨_, h1.sqT g1, g2.len, hS.zip h1 h2 g2⟩
theorem St.lst_all (hS : St K L H) (hl : LsIn K L a ds) : ∃ xs, H a = some (.lst xs) ∧ xs.length = ds.length ∧ St K (List.zipWith Ent.dat xs ds ++ L) H := by
  obtain ⟨F, xs, h1, h2, h3, h4⟩ := hS.lsin hl
  exact ⟨xs, h3, h4.len, hS.zip h1 h2 h4⟩
theorem w_unpT {tgs : TGs} {R : L2.St → Hp → Prop} (hS : St K L H) (hl : Is L (.ref a) (.tuple ds)) (hn : ds.length = n) (h : ∀ xs, xs.length = ds.length → St K (List.zipWith Ent.dat xs ds ++ L) H → tgs xs σ H R) : gUnp K n tgs (.ref a) σ H R := by
  obtain ⟨xs, h1, h2, h3⟩ := hS.tup_all hl
  exact .inl ⟨a, xs, rfl, h1, by rw [h2, hn], h xs h2 h3⟩
theorem w_unpL {tgs : TGs} {R : L2.St → Hp → Prop} (hS : St K L H) (hl : LsIn K L a ds) (hn : ds.length = n) (h : ∀ xs, xs.length = ds.length → St K (List.zipWith Ent.dat xs ds ++ L) H → tgs xs σ H R) : gUnp K n tgs (.ref a) σ H R := by
  obtain ⟨xs, h1, h2, h3⟩ := hS.lst_all hl
  exact .inr ⟨a, xs, rfl, SqL.of h1, by rw [h2, hn], h xs h2 h3⟩
theorem w_unpT2 {tgs : TGs} {d1 d2 : PyData} {R : L2.St → Hp → Prop} (hS : St K L H) (hl : Is L (.ref a) (.tuple [d1, d2])) (h : ∀ v1 v2, St K (.dat v1 d1 :: .dat v2 d2 :: L) H → tgs [v1, v2] σ H R) : gUnp K 2 tgs (.ref a) σ H R :=
  w_unpT hS hl rfl fun xs hx h3 => match xs, hx, h3 with
    | [_, _], _, h3 => h _ _ h3
theorem w_unpT3 {tgs : TGs} {d1 d2 d3 : PyData} {R : L2.St → Hp → Prop} (hS : St K L H) (hl : Is L (.ref a) (.tuple [d1, d2, d3])) (h : ∀ v1 v2 v3, St K (.dat v1 d1 :: .dat v2 d2 :: .dat v3 d3 :: L) H → tgs [v1, v2, v3] σ H R) : gUnp K 3 tgs (.ref a) σ H R :=
  w_unpT hS hl rfl fun xs hx h3 => match xs, hx, h3 with
    | [_, _, _], _, h3 => h _ _ _ h3

/-! ### the draws of a law -/
def spDraw (K : PySem.W.Frag) : Sp := fun vs H Q _ => ∃ (L : List Ent) (b : Addr) (m : Int), vs = [.ref b, .int m] ∧ St K L H ∧ bx K b ∈ L ∧ 0 < m ∧ ∀ k H', 0 ≤ k → k < m → St K L H' → Q (.int k) H'
theorem w_draw {m : Int} {E : XK} (hS : St K L H) (hb : bx K a ∈ L) (hm : 0 < m) (h : ∀ k H', 0 ≤ k → k < m → St K L H' → Q (.int k) H') : spDraw K [.ref a, .int m] H Q E := ⟨L, a, m, rfl, hS, hb, hm, h⟩
end
end Lg

/-! A law's own cell, digits, draw. -/
namespace Lg
open PySem PySem.Spec PyProof.Rows L2
local macro_rules | `(tactic| walk_at "ar") => `(tactic| first | omega | (simp; done) | (simp; omega) | (simp only [S_len]; omega))
local macro_rules | `(tactic| walk_at "gt") => `(tactic| repeat (first | exact GetAt.here | apply GetAt.there))
local macro_rules | `(tactic| walk_at "st") => `(tactic| repeat (first | exact SetAt.here | apply SetAt.there))
local macro_rules | `(tactic| walk_at "mem") => `(tactic| first | assumption | exact List.mem_cons_self | (apply List.mem_cons_of_mem; walk_at "mem"))
local macro_rules | `(tactic| walk_at "put") => `(tactic| repeat (first | exact Put.here | apply Put.there))
local macro_rules | `(tactic| walk_at "rem") => `(tactic| repeat (first | exact Rem.here | apply Rem.there))
local macro_rules | `(tactic| walk_at "pick") => `(tactic| first | exact Pick.refl | exact Pick.cons (by walk_at "rem") (by walk_at "pick") | (apply Pick.drop; walk_at "pick") | exact Pick.nil)
local macro_rules | `(tactic| walk_at "is") => `(tactic| first | exact Is.int | exact Is.str | exact Is.bl | exact Is.non | assumption | exact Is.dat (by walk_at "mem") | (apply Is.cons; walk_at "is"))
local macro_rules | `(tactic| walk_at "isall") => `(tactic| first | exact IsAll.nil | exact IsAll.cons (by walk_at "is") (by walk_at "isall"))
local macro_rules | `(tactic| walk_at "lsin") => `(tactic| first | assumption | exact LsIn.own (by walk_at "mem") | exact LsIn.dat (by walk_at "mem") | (apply LsIn.cons; walk_at "lsin"))
local macro_rules | `(tactic| walk_at "see") => `(tactic| first | exact See.own (by walk_at "mem") | exact See.is (by walk_at "is"))
local macro_rules | `(tactic| walk_at "w1") => `(tactic| first
  | (with_reducible apply Lg.w_seq)
  | (with_reducible apply Lg.w_asg)
  | ((with_reducible show gName _ _ _ _ _); (with_reducible refine Lg.w_name (by walk_at "st") ?_))
  | ((with_reducible show tVar _ _ _ _); (with_reducible refine Lg.w_var (by walk_at "gt") ?_))
  | (with_reducible apply Lg.w_c)
  | (with_reducible apply Lg.w_op)
  | (with_reducible apply Lg.w_un)
  | (with_reducible apply Lg.w_nil)
  | (with_reducible apply Lg.w_cons)
  | (with_reducible apply Lg.w_call)
  | (with_reducible apply Lg.w_cb)
  | (with_reducible apply Lg.w_tup)
  | (with_reducible apply Lg.w_lst)
  | (with_reducible apply Lg.w_bm)
  | (with_reducible apply Lg.w_bm0)
  | (with_reducible apply Lg.w_sl)
  | (with_reducible apply Lg.w_nopart)
  | (with_reducible apply Lg.w_part)
  | (with_reducible apply Lg.w_isint)
  | (with_reducible apply Lg.w_test)
  | (with_reducible apply Lg.w_tB)
  | (with_reducible apply Lg.w_isbl')
  | (with_reducible apply Lg.w_not)
  | (with_reducible apply Lg.w_tru)
  | (with_reducible apply Lg.w_truI)
  | (with_reducible apply Lg.w_truB)
  | (with_reducible apply Lg.w_ifs)
  | (with_reducible apply Lg.w_next)
  | (with_reducible apply Lg.w_break)
  | (with_reducible apply Lg.w_cont)
  | (with_reducible apply Lg.w_ret)
  | (with_reducible apply Lg.w_retn)
  | (with_reducible apply Lg.w_drop)
  | (with_reducible apply Lg.w_sub)
  | (with_reducible apply Lg.w_gnil)
  | (with_reducible apply Lg.w_gcons)
  | (with_reducible apply Lg.w_ifT)
  | (with_reducible apply Lg.w_ifF)
  | (with_reducible apply Lg.w_add)
  | (with_reducible apply Lg.w_sub2)
  | ((with_reducible show rTimes (V.int _) (V.int _) _ _); (with_reducible refine Lg.w_mulR (by omega) ?_))
  | ((with_reducible show rTimes (V.int _) (V.int _) _ _); (with_reducible refine Lg.w_mulL (by omega) ?_))
  | ((with_reducible show rMod (V.int _) (V.int _) _ _); (with_reducible refine Lg.w_mod (by first | decide | omega) ?_))
  | ((with_reducible show rFdiv (V.int _) (V.int _) _ _); (with_reducible refine Lg.w_fdiv (by first | decide | omega) ?_))
  | (with_reducible apply Lg.w_band)
  | (with_reducible apply Lg.w_lt)
  | (with_reducible apply Lg.w_le)
  | (with_reducible apply Lg.w_gt)
  | (with_reducible apply Lg.w_ge)
  | (with_reducible apply Lg.w_eqI)
  | (with_reducible apply Lg.w_neI)
  | (with_reducible apply Lg.w_eqS)
  | (with_reducible apply Lg.w_neS)
  | (with_reducible apply Lg.w_isN)
  | (with_reducible apply Lg.w_isR)
  | (with_reducible apply Lg.w_isI)
  | (with_reducible apply Lg.w_isS)
  | (with_reducible apply Lg.w_nsN)
  | (with_reducible apply Lg.w_nsR)
  | (with_reducible apply Lg.w_nsI)
  | (with_reducible apply Lg.w_nsS)
  | (with_reducible apply Lg.w_int)
  | (with_reducible apply Lg.w_intb)
  | (with_reducible apply Lg.w_ord1)
  | (with_reducible apply Lg.w_tyS)
  | (with_reducible apply Lg.w_inSg)
  | (with_reducible apply Lg.w_ninSg)
  | ((with_reducible show NewL _ _ _); (with_reducible refine Lg.w_newL (by assumption) (by walk_at "isall") (by simp) ?_); (intro p' H' hS'))
  | ((with_reducible show NewT _ _ _); (with_reducible refine Lg.w_newT (by assumption) (by walk_at "isall") (by simp) ?_); (intro p' H' hS'))
  | ((with_reducible show TyThen _ _ (V.ref _) _ _); (with_reducible refine Lg.w_tyL (by assumption) (by walk_at "lsin") ?_))
  | ((with_reducible show rLenX _ [V.ref _] _ _); (with_reducible refine Lg.w_lenL (by assumption) (by walk_at "lsin") ?_))
  | ((with_reducible show rLenX _ [V.ref _] _ _); (with_reducible refine Lg.w_lenT (by assumption) (by walk_at "is") ?_))
  | ((with_reducible show spDraw _ _ _ _ _); (with_reducible refine Lg.w_draw (by assumption) (by walk_at "mem") (by first | decide | omega) ?_); (intro k' H' hk0' hk1' hS'))
  | ((with_reducible show rSlX _ (V.ref _) _ _ _ _); (with_reducible refine Lg.w_slL (by assumption) (by walk_at "lsin") ?_); (intro p' H' hS'))
  | ((with_reducible show rListOf _ [V.ref _] _ _); (with_reducible refine Lg.w_listL (by assumption) (by walk_at "lsin") ?_); (intro p' H' hS'))
  | (with_reducible apply Lg.w_for)
  | (with_reducible apply Lg.w_lc)
  | ((with_reducible show iAny _ (tVar _) _ _ _); (with_reducible refine Lg.w_anyVar (by walk_at "gt") ?_))
  | (with_reducible apply Lg.w_anyC)
  | (with_reducible apply Lg.w_vS)
  | (with_reducible apply Lg.w_itS)
  | ((with_reducible show AnyV _ (V.ref _) _ _); (with_reducible refine Lg.w_vL (by assumption) (by walk_at "lsin") ?_))
  | ((with_reducible show AnyL _ (V.ref _) _ _); (with_reducible refine Lg.w_itL (by assumption) (by walk_at "lsin") ?_))
  | ((with_reducible show AnyV _ (V.ref _) _ _); (with_reducible refine Lg.w_vT (by assumption) (by walk_at "is") ?_))
  | ((with_reducible show AnyT _ (V.ref _) _ _); (with_reducible refine Lg.w_itT (by assumption) (by walk_at "is") ?_))
  | ((with_reducible show Enu _ [V.ref _] _ _); (with_reducible refine Lg.w_itE (by assumption) (by walk_at "lsin") ?_))
  | ((with_reducible show rPlus _ (V.ref _) (V.ref _) _ _); (with_reducible refine Lg.w_plusL (by assumption) (by walk_at "lsin") (by walk_at "lsin") (by walk_at "ar") ?_); (intro p' H' hS'))
  | ((with_reducible show rTimes (V.ref _) (V.int _) _ _); (with_reducible refine Lg.w_repLs (by assumption) (by walk_at "lsin") (by walk_at "ar") (by walk_at "ar") (by walk_at "ar") ?_); (intro p' H' hS'))
  | ((with_reducible show rLenX _ [V.str _] _ _); (with_reducible refine Lg.w_lenS (by walk_at "ar") ?_))
  | ((with_reducible show rSlX _ (V.str _) _ _ _ _); (with_reducible refine Lg.w_slS (by walk_at "ar") ?_))
  | (with_reducible apply Lg.w_rng1)
  | (with_reducible apply Lg.w_rng2)
  | (with_reducible apply Lg.w_rng3)
  | (with_reducible apply Lg.w_enum)
  | ((with_reducible show Rng1 _ _ _); (with_reducible refine Lg.w_itR1 (by omega) ?_))
  | ((with_reducible show Rng2 _ _ _); (with_reducible refine Lg.w_itR2 (by omega) (by omega) ?_))
  | (with_reducible apply Lg.w_ifexp)
  | (with_reducible apply Lg.w_chain)
  | ((with_reducible show ChainK _ _ _ _ _ _ _); (with_reducible refine Lg.w_chainLe (by (intro R' hR'; walk_at "w"; exact hR')) ?_))
  | ((with_reducible show ChainK _ _ _ _ _ _ _); (with_reducible refine Lg.w_chainLt (by (intro R' hR'; walk_at "w"; exact hR')) ?_))
  | ((with_reducible show tAnd _ _ _ _ _); (with_reducible refine Lg.w_andP (by (intro R' hR'; walk_at "w"; exact hR')) (by (intro hb' R' hR'; walk_at "w"; exact hR')) ?_))
  | ((with_reducible show tOr _ _ _ _ _); (with_reducible refine Lg.w_orP (by (intro R' hR'; walk_at "w"; exact hR')) (by (intro hb' R' hR'; walk_at "w"; exact hR')) ?_))
  | ((with_reducible show tAndV _ _ _ _ _); (with_reducible refine Lg.w_andVP (by (intro R' hR'; walk_at "w"; exact hR')) (by (intro hb' R' hR'; walk_at "w"; exact hR')) ?_))
  | ((with_reducible show tOrV _ _ _ _ _); (with_reducible refine Lg.w_orVP (by (intro R' hR'; walk_at "w"; exact hR')) (by (intro hb' R' hR'; walk_at "w"; exact hR')) ?_))
  | (with_reducible apply Lg.w_notV))
local macro_rules | `(tactic| walk_at "w") => `(tactic| repeat (walk_at "w1"))
section
variable {K : PySem.W.Frag}
def t_cell (K : PySem.W.Frag) : TS :=
    (tSeq (tIfS (tTest (tOp rLt (tVar 1) (tCB (rLenX K) (tCons (tVar 0) tNil)))) (tRet (tOp (rIx K) (tVar 0) (tVar 1))) tNext)
    (tRet (tC (.int 0))))
def t_digits (K : PySem.W.Frag) (sp_l_cell : Sp) : TS :=
    (tSeq (tAsg (tLst tNil) (gName 3))
    (tSeq (tFor (iRng2 (tCons (tVar 1) (tCons (tVar 2) tNil))) (gName 4) (tSeq (tAsg (tCall sp_l_cell [] C8.E0 (tCons (tVar 0) (tCons (tVar 4) tNil))) (gName 5))
    (C8.tCut (tIfS (tTest (tOp rLt (tVar 5) (tC (.int 0)))) (tAsg (tOp rMinus (tC (.int 1)) (tOp rTimes (tC (.int 2)) (tVar 5))) (gName 5)) tNext)
    (tIfS (tTest (tOp rGe (tVar 5) (tC (.int 1000000000000000000)))) (tFor (iRng1 (tCons (tC (.int 60)) tNil)) (gName 6) (tIfS (tTest (tOp rGt (tVar 5) (tC (.int 0)))) (tSeq (tDrop (tBM K "list" rAppend (tVar 3) (tCons (tOp rMod (tCB (rIntX) (tCons (tVar 5) tNil)) (tC (.int 1000))) tNil)))
    (tAsg (tOp rFdiv (tVar 5) (tC (.int 1000))) (gName 5))) tNext)) (tSeq (tAsg (tOp rMod (tCB (rIntX) (tCons (tOp (rPlus K) (tOp (rPlus K) (tOp rTimes (tVar 5) (tC (.int 40692))) (tOp rTimes (tVar 4) (tC (.int 52774)))) (tC (.int 17))) tNil)) (tC (.int 2147483399))) (gName 7))
    (tFor (iRng1 (tCons (tC (.int 12)) tNil)) (gName 6) (tSeq (tAsg (tOp rMod (tCB (rIntX) (tCons (tOp (rPlus K) (tOp (rPlus K) (tOp rTimes (tVar 7) (tC (.int 40014))) (tOp rTimes (tC (.int 5)) (tVar 6))) (tC (.int 3))) tNil)) (tC (.int 2147483563))) (gName 7))
    (tDrop (tBM K "list" rAppend (tVar 3) (tCons (tOp rMod (tCB (rIntX) (tCons (tOp rFdiv (tVar 7) (tC (.int 1009))) tNil)) (tC (.int 1000))) tNil))))))))))
    (tRet (tVar 3))))
def t_draw (K : PySem.W.Frag) : TS :=
    (tSeq (tAsg (tOp (rIx K) (tVar 0) (tC (.int 1))) (gName 2))
    (tSeq (tAsg (tOp (rPlus K) (tVar 2) (tC (.int 1))) (gSub (tVar 0) (tC (.int 1)) rSetL))
    (tSeq (tIfS (tTest (tOp rLt (tVar 2) (tCB (rLenX K) (tCons (tOp (rIx K) (tVar 0) (tC (.int 0))) tNil)))) (tRet (tOp rMod (tCB (rIntX) (tCons (tOp (rIx K) (tOp (rIx K) (tVar 0) (tC (.int 0))) (tVar 2)) tNil)) (tVar 1))) tNext)
    (tRet (tOp rMod (tCB (rIntX) (tCons (tOp (rPlus K) (tOp rTimes (tVar 2) (tC (.int 7))) (tC (.int 3))) tNil)) (tVar 1))))))
/-- some int -/
def spCell (K : PySem.W.Frag) : Sp := fun vs H Q _ => ∃ (a : Addr) (ns : List Int) (k : Int), vs = [.ref a, .int k] ∧ SqL K H a (ns.map V.int) ∧ 0 ≤ k ∧ ∀ n, Q (.int n) H
theorem p_cell (vs : List V) (H : Hp) (Q : VK) (E : XK) (h : spCell K vs H Q E) : vs.length = 2 ∧ t_cell K { nx := fun _ H' => Q .non H', rt := Q } (start ["_law_script", "_law_k"] vs) H := by
  obtain ⟨a, ns, k, rfl, hS, hk, hQ⟩ := h
  refine ⟨rfl, ?_⟩
  unfold t_cell
  show tSeq _ _ _ [some (.ref a), some (.int k)] H
  walk_at "w"
  refine ⟨.ref a, ns.length, rfl, .inl ⟨_, hS, by simp⟩, ?_⟩
  walk_at "w"
  refine w_ifd (fun h => ?_) (fun h => ?_)
  · walk_at "w"
    obtain ⟨j, rfl⟩ := Int.eq_ofNat_of_zero_le hk
    have hj : j < ns.length := by omega
    exact .inl ⟨a, _, _, .int ns[j], rfl, rfl, hS, atI_nat (by simp [hj]), hQ _⟩
  · walk_at "w"
    exact hQ 0
/-- some list of ints -/
def spDigits (K : PySem.W.Frag) : Sp := fun vs H Q _ => ∃ (L : List Ent) (a : Addr) (ns : List Int) (i j : Int), vs = [.ref a, .int i, .int j] ∧ St K L H ∧ Ent.fact (.seq K a ns) ∈ L ∧ 0 ≤ i ∧ i ≤ 100 ∧ -100 ≤ j ∧ j ≤ 100 ∧
  ∀ (p : Addr) (ms : List Int) (H' : Hp), St K (Lg.ls K p (ms.map PyData.int) :: L) H' → Q (.ref p) H'
theorem St.fact_of {L : List Ent} {H : Hp} {φ : Fr} (h : St K L H) (m : Ent.fact φ ∈ L) : φ.p H := by
  obtain ⟨F, h1, h2⟩ := h.ex
  exact φ.mono _ _ h1 (h2 _ m)
theorem p_digits (vs : List V) (H : Hp) (Q : VK) (E : XK) (h : spDigits K vs H Q E) :
    vs.length = 3 ∧ t_digits K (spCell K) { nx := fun _ H' => Q .non H', rt := Q } (start ["_law_script", "_law_first", "_law_last", "_law_digits_here", "_law_k", "_law_cell_here", "_law_turn", "_law_seed"] vs) H := by
  obtain ⟨L, a, ns, i, j, rfl, hS, hm, hi0, hi1, hj0, hj1, hQ⟩ := h
  refine ⟨rfl, ?_⟩
  unfold t_digits
  show tSeq _ _ _ [some (.ref a), some (.int i), some (.int j), none, none, none, none, none] H
  walk_at "w"
  rename_i p H1 hS1
  refine w_forR (fun n σ H' => ∃ (ms : List Int) (v4 v5 v6 v7 : Option V), σ = [some (.ref a), some (.int i), some (.int j), some (.ref p), v4, v5, v6, v7] ∧ St K (Lg.ls K p (ms.map PyData.int) :: L) H' ∧ ms.length ≤ 60 * n) ?_ ?_ ?_
  · exact ⟨[], _, _, _, _, rfl, hS1, by simp⟩
  · rintro n σ H' hn ⟨ms, v4, v5, v6, v7, rfl, hS1, hl⟩
    walk_at "w"
    refine ⟨a, ns, i + n, rfl, (hS1.tail).fact_of hm, by omega, fun c => ?_⟩
    walk_at "w"
    refine w_cut (fun σ H2 => ∃ (c : Int), σ = [some (.ref a), some (.int i), some (.int j), some (.ref p), some (.int (i + n)), some (.int c), v6, v7] ∧ H2 = H') ?_ ?_
    · walk_at "w"
      refine w_ifd (fun h => ?_) (fun h => ?_)
      · walk_at "w"
        exact ⟨_, rfl, rfl⟩
      · walk_at "w"
        exact ⟨_, rfl, rfl⟩
    · rintro σ H2 ⟨c, rfl, rfl⟩
      walk_at "w"
      refine w_ifd (fun h => ?_) (fun h => ?_)
      · walk_at "w"
        refine w_forR (fun m σ H' => ∃ (ms : List Int) (c : Int) (v6 : Option V), σ = [some (.ref a), some (.int i), some (.int j), some (.ref p), some (.int (i + n)), some (.int c), v6, v7] ∧ St K (Lg.ls K p (ms.map PyData.int) :: L) H' ∧ ms.length ≤ 60 * n + m) ?_ ?_ ?_
        · exact ⟨ms, c, _, rfl, hS1, by omega⟩
        · rintro m σ H' hm' ⟨ms, c, v6, rfl, hS1, hl⟩
          replace hm' : m < 60 := hm'
          walk_at "w"
          refine w_ifd (fun h => ?_) (fun h => ?_)
          · walk_at "w"
            refine w_app hS1 .here (d := .int (c % 1000)) .int (by simp; omega) fun H2 hS2 => ?_
            walk_at "w"
            exact ⟨ms ++ [c % 1000], _, _, rfl, by simpa using hS2, by simp; omega⟩
          · walk_at "w"
            exact ⟨ms, c, _, rfl, hS1, by omega⟩
        · rintro σ H' ⟨ms, c, v6, rfl, hS1, hl⟩
          replace hl : ms.length ≤ 60 * n + 60 := hl
          exact ⟨ms, _, _, _, _, rfl, hS1, by omega⟩
      · walk_at "w"
        refine w_forR (fun m σ H' => ∃ (ms : List Int) (c : Int) (v5 v6 : Option V), σ = [some (.ref a), some (.int i), some (.int j), some (.ref p), some (.int (i + n)), v5, v6, some (.int c)] ∧ St K (Lg.ls K p (ms.map PyData.int) :: L) H' ∧ ms.length ≤ 60 * n + m) ?_ ?_ ?_
        · exact ⟨ms, _, _, _, rfl, hS1, by omega⟩
        · rintro m σ H' hm' ⟨ms, c, v5, v6, rfl, hS1, hl⟩
          replace hm' : m < 12 := hm'
          walk_at "w"
          refine w_app hS1 .here (d := .int _) .int (by simp; omega) fun H2 hS2 => ?_
          walk_at "w"
          exact ⟨ms ++ [_], _, _, _, rfl, by simpa using hS2, by simp; omega⟩
        · rintro σ H' ⟨ms, c, v5, v6, rfl, hS1, hl⟩
          replace hl : ms.length ≤ 60 * n + 12 := hl
          exact ⟨ms, _, _, _, _, rfl, hS1, by omega⟩
  · rintro σ H' ⟨ms, v4, v5, v6, v7, rfl, hS1, hl⟩
    walk_at "w"
    exact hQ p ms H' hS1
theorem p_draw (vs : List V) (H : Hp) (Q : VK) (E : XK) (h : spDraw K vs H Q E) : vs.length = 2 ∧ t_draw K { nx := fun _ H' => Q .non H', rt := Q } (start ["_law_box", "_law_many", "_law_at"] vs) H := by
  obtain ⟨L, b, m, rfl, hS, hb, hm, hQ⟩ := h
  refine ⟨rfl, ?_⟩
  unfold t_draw
  show tSeq _ _ _ [some (.ref b), some (.int m), none] H
  obtain ⟨F, o, h1, h2, h3, d, at_, ns, rfl, h4, h5⟩ := hS.cell hb
  have hd : H d = some (.lst (ns.map V.int)) := h1 _ _ h5
  have hne : d ≠ b := fun z => by rw [z, h2] at h5; cases h5
  walk_at "w"
  refine .inl ⟨b, _, 1, .int at_, rfl, rfl, SqL.of h3, rfl, ?_⟩
  walk_at "w"
  refine ⟨b, _, 1, 1, rfl, rfl, h3, rfl, ?_⟩
  have hS2 : St K L (upd H b (.lst [.ref d, .int (at_ + 1)])) := hS.turn hb fun F' x e hx hφ => by
    obtain ⟨d', at', ns', rfl, q1, q2⟩ := hφ
    rw [h3] at hx
    cases hx
    exact ⟨_, _, _, rfl, by omega, q2⟩
  show tSeq _ _ _ _ (upd H b (.lst [.ref d, .int (at_ + 1)]))
  have hd2 : (upd H b (.lst [.ref d, .int (at_ + 1)])) d = some (.lst (ns.map V.int)) := by rw [upd_ne hne]; exact hd
  have hb2 : (upd H b (.lst [.ref d, .int (at_ + 1)])) b = some (.lst [.ref d, .int (at_ + 1)]) := upd_same
  revert hS2 hd2 hb2
  generalize upd H b (.lst [.ref d, .int (at_ + 1)]) = H2
  intro hS2 hd2 hb2
  walk_at "w"
  refine .inl ⟨b, _, 0, .ref d, rfl, rfl, SqL.of hb2, rfl, ?_⟩
  walk_at "w"
  refine ⟨.ref d, ns.length, rfl, .inl ⟨_, SqL.of hd2, by simp⟩, ?_⟩
  walk_at "w"
  refine w_ifd (fun h => ?_) (fun h => ?_)
  · walk_at "w"
    refine .inl ⟨b, _, 0, .ref d, rfl, rfl, SqL.of hb2, rfl, ?_⟩
    walk_at "w"
    obtain ⟨j, rfl⟩ := Int.eq_ofNat_of_zero_le h4
    have hj : j < ns.length := by omega
    refine .inl ⟨d, _, _, .int ns[j], rfl, rfl, SqL.of hd2, atI_nat (by simp [hj]), ?_⟩
    walk_at "w"
    exact hQ _ _ (Int.emod_nonneg _ (by omega)) (Int.emod_lt_of_pos _ hm) hS2
  · walk_at "w"
    exact hQ _ _ (Int.emod_nonneg _ (by omega)) (Int.emod_lt_of_pos _ hm) hS2
/-- [digits, 0]: the box -/
theorem w_newBox {L : List Ent} {H : Hp} {a : Addr} {ms : List Int} {Q : VK} (hS : St K (Lg.ls K a (ms.map PyData.int) :: L) H) (h : ∀ p H', St K (bx K p :: L) H' → Q (.ref p) H') : NewL [.ref a, .int 0] H Q := by
  refine ⟨by show 2 ≤ sizeLine; decide, fun p hp => h p _ ?_⟩
  have h1 := (hS.freeze).alloc (φ := .box K) (o := .lst [.ref a, .int 0]) hp fun F e q => by
    have h2 : Dv K F (.ref a) (.list (ms.map PyData.int)) := q _ (.head _)
    cases h2 with
    | lst g1 g2 => exact ⟨a, 0, ms, rfl, Int.le_refl _, by rw [← g2.ints_inv]; exact g1⟩
  exact h1.to (.cons .here (.drop .refl))
end
end Lg

/-! Texts as lists of codes; data that fits. -/
namespace Lg
open PySem PySem.Spec PyProof.Rows L2
abbrev S (l : List Nat) : Str := ⟨l.toArray⟩
theorem S_tl (l : List Nat) : (S l).cps.toList = l := rfl
theorem S_len (l : List Nat) : (S l).length = l.length := by simp [S, Str.length]
theorem S_app (a b : List Nat) : S a ++ S b = S (a ++ b) := SX.S_cat a b
theorem S_one (c : Nat) : (⟨#[c]⟩ : Str) = S [c] := rfl
theorem S_nil : ("" : Str) = S [] := by decide +kernel
theorem S_inj {a b : List Nat} (h : S a = S b) : a = b := congrArg (fun x : Str => x.cps.toList) h
theorem S_of (x : Str) : x = S x.cps.toList := by cases x; simp [S]
theorem sIx_nat' (n d k : Nat) (z : Int) (h : z = (k : Int)) : HT.sIx n d (some z) = min k n := by rw [h, HT.sIx_nat]
theorem cut_gen {α : Type} (l : List α) (a b : Nat) : (l.drop (min a l.length)).take (min b l.length - min a l.length) = (l.drop a).take (b - a) := by
  by_cases h : a ≤ l.length
  · rw [Nat.min_eq_left h]
    by_cases h2 : b ≤ l.length
    · rw [Nat.min_eq_left h2]
    · have h3 : l.length ≤ b := by omega
      rw [Nat.min_eq_right h3, List.take_of_length_le (l := l.drop a) (i := b - a) (by rw [List.length_drop]; omega), List.take_of_length_le (by rw [List.length_drop]; omega)]
  · have h3 : l.length ≤ a := by omega
    rw [Nat.min_eq_right h3, List.drop_of_length_le (Nat.le_refl _), List.drop_of_length_le h3]
    simp
theorem cutS_nn {l : List Nat} {i j : Int} {a b : Nat} (hi : i = (a : Int)) (hj : j = (b : Int)) : cutS (S l) (some i) (some j) = S ((l.drop a).take (b - a)) := by
  unfold cutS
  rw [S_len, sIx_nat' _ _ a _ hi, sIx_nat' _ _ b _ hj]
  show S ((l.drop (min a l.length)).take (min b l.length - min a l.length)) = S _
  rw [cut_gen]
theorem cutD_nn {ds : List PyData} {i j : Int} {a b : Nat} (hi : i = (a : Int)) (hj : j = (b : Int)) : cutD ds (some i) (some j) = (ds.drop a).take (b - a) := by
  unfold cutD
  rw [sIx_nat' _ _ a _ hi, sIx_nat' _ _ b _ hj, cut_gen]
theorem cutD_no {ds : List PyData} {j : Int} {b : Nat} (hj : j = (b : Int)) : cutD ds none (some j) = ds.take b := by
  unfold cutD
  rw [sIx_nat' _ _ b _ hj, HT.sIx_none]
  have := cut_gen ds 0 b
  simpa using this
theorem cutD_on {ds : List PyData} {i : Int} {a : Nat} (hi : i = (a : Int)) : cutD ds (some i) none = ds.drop a := by
  unfold cutD
  rw [sIx_nat' _ _ a _ hi, HT.sIx_none]
  by_cases h : a ≤ ds.length
  · rw [Nat.min_eq_left h, List.take_of_length_le (by rw [List.length_drop]; omega)]
  · have h3 : ds.length ≤ a := by omega
    rw [Nat.min_eq_right h3, List.drop_of_length_le (Nat.le_refl _), List.drop_of_length_le h3]
    simp
theorem cutD_all {ds : List PyData} : cutD ds none none = ds := by
  unfold cutD
  simp [HT.sIx_none]
theorem rgc_24 {n : Nat} (hn : n ≤ 100000) : RgC 0 (n : Int) 24 ((n + 23) / 24) := by
  refine ⟨by decide, by decide, ?_, ?_⟩
  · unfold Builtin.Range.small Builtin.Range.rangeSize Builtin.Range.rangeFitsLong
    simp
    omega
  · unfold Builtin.Range.rangeSize
    rw [if_pos (by decide)]
    by_cases h : (0 : Int) < n
    · rw [if_pos h]; omega
    · rw [if_neg h]; omega
/-! data of a depth -/
def Fit (n : Nat) (d : PyData) : Prop := d.canLay0 = true ∧ d.depth ≤ n
theorem Fit.shaped {n : Nat} {d : PyData} (h : Fit n d) (hn : n ≤ 64 := by decide) : SeqAt.shaped d = true := by
  show (d.canLay0 && decide (d.depth ≤ 64)) = true
  rw [h.1, Bool.true_and]
  exact decide_eq_true (Nat.le_trans h.2 hn)
theorem Fit.mono {n m : Nat} {d : PyData} (h : Fit n d) (hm : n ≤ m) : Fit m d := ⟨h.1, Nat.le_trans h.2 hm⟩
theorem fit_int (n : Nat) (i : Int) : Fit n (.int i) := ⟨by simp [PyData.canLay0], by simp [PyData.depth]⟩
theorem fit_bool (n : Nat) (i : Bool) : Fit n (.bool i) := ⟨by simp [PyData.canLay0], by simp [PyData.depth]⟩
theorem fit_none (n : Nat) : Fit n .none := ⟨by simp [PyData.canLay0], by simp [PyData.depth]⟩
/-- all codes below 1114112 -/
def Asc (l : List Nat) : Prop := ∀ c ∈ l, c < 1114112
theorem fit_str (n : Nat) {l : List Nat} (h : Asc l) : Fit n (.str (S l)) := by
  refine ⟨?_, by simp [PyData.depth]⟩
  simp only [PyData.canLay0, PyData.strOk]
  rw [← Array.all_toList, List.all_eq_true]
  intro c hc
  exact decide_eq_true (h c hc)
theorem layAll {ds : List PyData} {n : Nat} (h : ∀ d ∈ ds, Fit n d) : PyData.canLayAll0 ds = true ∧ PyData.depthAll ds ≤ n := by
  induction ds with
  | nil => exact ⟨by simp [PyData.canLayAll0], by simp [PyData.depthAll]⟩
  | cons d ds ih =>
    obtain ⟨h1, h2⟩ := ih fun d hd => h d (.tail _ hd)
    obtain ⟨h3, h4⟩ := h d (.head _)
    exact ⟨by simp [PyData.canLayAll0, h1, h3], by simp [PyData.depthAll]; omega⟩
theorem fit_list {n : Nat} {ds : List PyData} (h : ∀ d ∈ ds, Fit n d) : Fit (n + 1) (.list ds) := by
  obtain ⟨h1, h2⟩ := layAll h
  exact ⟨by simp only [PyData.canLay0]; exact h1, by simp only [PyData.depth]; omega⟩
theorem fit_tuple {n : Nat} {ds : List PyData} (h : ∀ d ∈ ds, Fit n d) : Fit (n + 1) (.tuple ds) := by
  obtain ⟨h1, h2⟩ := layAll h
  exact ⟨by simp only [PyData.canLay0]; exact h1, by simp only [PyData.depth]; omega⟩
theorem fit_ints (n : Nat) (ns : List Int) : Fit (n + 1) (.list (ns.map PyData.int)) := fit_list fun d hd => by
  obtain ⟨i, _, rfl⟩ := List.mem_map.mp hd
  exact fit_int n i
theorem Asc.drop {l : List Nat} (h : Asc l) (n : Nat) : Asc (l.drop n) := fun c hc => h c (List.mem_of_mem_drop hc)
theorem Asc.take {l : List Nat} (h : Asc l) (n : Nat) : Asc (l.take n) := fun c hc => h c (List.mem_of_mem_take hc)
theorem Asc.app {l m : List Nat} (h : Asc l) (h' : Asc m) : Asc (l ++ m) := fun c hc => (List.mem_append.mp hc).elim (h c) (h' c)
theorem Asc.rep {l : List Nat} (h : Asc l) (n : Nat) : Asc (repL l n) := fun c hc => by
  unfold repL at hc
  obtain ⟨a, ha, hc⟩ := List.mem_flatten.mp hc
  rw [List.eq_of_mem_replicate ha] at hc
  exact h c hc
theorem repL_len (l : List Nat) (n : Nat) : (repL l n).length = n * l.length := by simp [repL]
theorem repD_one (d : PyData) : ∀ n, (List.replicate n [d]).flatten = List.replicate n d
  | 0 => rfl
  | n + 1 => by rw [List.replicate_succ, List.flatten_cons, repD_one d n]; rfl
theorem rep_ints (i : Int) (n : Nat) : List.replicate n (PyData.int i) = (List.replicate n i).map PyData.int := by simp
theorem joinL_one : ∀ l : List Nat, TL.joinL [] (l.map fun c => [c]) = l
  | [] => rfl
  | [_] => rfl
  | c :: d :: l => by
    have := joinL_one (d :: l)
    show [c] ++ ([] ++ TL.joinL [] ((d :: l).map fun c => [c])) = _
    rw [this]; rfl
theorem join_one (l : List Nat) : Txt.join (S []) (l.map fun c => S [c]) = S l := by
  have := SX.join_S [] (l.map fun c => [c])
  rw [joinL_one, List.map_map] at this
  exact this
/-- a list is its items by place -/
theorem list_by {ds : List PyData} {n : Nat} {f : Nat → PyData} (hl : ds.length = n) (h : ∀ (i : Nat) (e : PyData), ds[i]? = some e → e = f i) : ds = (List.range n).map f := by
  apply List.ext_getElem?
  intro i
  by_cases hi : i < n
  · have h1 : ds[i]? = some ds[i] := by simp [hl, hi]
    rw [h1, h i _ h1]
    simp [hi]
  · rw [List.getElem?_eq_none (by omega), List.getElem?_eq_none (by simp; omega)]
section
variable {K : PySem.W.Frag} {L : List Ent} {H : Hp} {σ : L2.St} {Q : VK} {a : Addr} {i : Int} {n : Nat}
theorem w_ixN {ns : List Int} (hS : St K L H) (hl : LsIn K L a (ns.map PyData.int)) (h0 : 0 ≤ i) (h1 : i < ns.length) (h : Q (.int (ns.getD i.toNat 0)) H) : rIx K (.ref a) (.int i) H Q := by
  have hk : i.toNat < ns.length := by omega
  exact w_ixLi (k := i.toNat) hS hl (by omega) (by simp [List.getD_eq_getElem?_getD, hk]) h
theorem w_ixSg {l : List Nat} {c : Nat} (hl : l.length ≤ 100000) (h0 : 0 ≤ i) (hc : l[i.toNat]? = some c) (h : Q (.str (S [c])) H) : rIx K (.str (S l)) (.int i) H Q :=
  w_ixS (k := i.toNat) (by rw [S_len]; exact hl) (by omega) (by simpa using hc) h
theorem w_unpLi {ns : List Int} {tgs : TGs} {R : L2.St → Hp → Prop} (hS : St K L H) (hl : LsIn K L a (ns.map PyData.int)) (hn : ns.length = n) (h : tgs (ns.map V.int) σ H R) : gUnp K n tgs (.ref a) σ H R := by
  obtain ⟨F, xs, h1, h2, h3, h4⟩ := hS.lsin hl
  have e := h4.ints_inv
  subst e
  exact .inr ⟨a, _, rfl, SqL.of h3, by simpa using hn, h⟩
theorem w_addSS {y z : List Nat} (hl : y.length + z.length ≤ 100000) (h : Q (.str (S (y ++ z))) H) : rPlus K (.str (S y)) (.str (S z)) H Q :=
  w_addS (by rw [S_len, S_len]; exact hl) (by rw [S_app]; exact h)
theorem w_repSS {z : List Nat} (h0 : 0 ≤ i) (h1 : i ≤ 100000) (h2 : z.length ≤ 100) (h : Q (.str (S (repL z i.toNat))) H) : rTimes (.str (S z)) (.int i) H Q :=
  w_repS h0 h1 (by rw [S_len]; exact h2) h
theorem w_lenSS {l : List Nat} (hl : l.length ≤ 100000) (h : Q (.int l.length) H) : rLenX K [.str (S l)] H Q := w_lenS (by rw [S_len]; exact hl) (by rw [S_len]; exact h)
theorem w_eqSS {x y : List Nat} (h : Q (.bl (decide (x = y))) H) : rEqX K (.str (S x)) (.str (S y)) H Q := w_eqS (by
  have : decide (S x = S y) = decide (x = y) := by
    by_cases e : x = y
    · simp [e]
    · rw [decide_eq_false e, decide_eq_false (fun q => e (S_inj q))]
  rw [this]; exact h)
theorem w_joinSS {z : List Nat} {ys : List (List Nat)} (hS : St K L H) (h1 : LsIn K L a (ys.map fun y => PyData.str (S y))) (hn : (ys.map (·.length)).sum + ys.length * z.length ≤ 100000) (h : Q (.str (S (TL.joinL z ys))) H) : rJoin K (.str (S z)) [.ref a] H Q := by
  refine w_join (ys := ys.map S) hS (by simpa [Function.comp_def] using h1) ?_ ?_
  · rw [S_len]
    simpa [Function.comp_def, S_len] using hn
  · rw [SX.join_S]; exact h
theorem kit_ll : kitB "list" "list" = some true := by decide +kernel
theorem kit_tt : kitB "tuple" "tuple" = some true := by decide +kernel
theorem kit_ii : kitB "int" "int" = some true := by decide +kernel
theorem kit_si : kitB "str" "int" = some false := by decide +kernel
theorem kit_ss : kitB "str" "str" = some true := by decide +kernel
theorem kit_is : kitB "int" "str" = some false := by decide +kernel
theorem w_isLL {ds : List PyData} (hS : St K L H) (hl : LsIn K L a ds) (h : Q (.bl true) H) : rIsi K [.ref a, .ty "list"] H Q := w_isiL hS hl kit_ll h
theorem w_isTT {ds : List PyData} (hS : St K L H) (hl : Is L (.ref a) (.tuple ds)) (h : Q (.bl true) H) : rIsi K [.ref a, .ty "tuple"] H Q := w_isiT hS hl kit_tt h
theorem w_isII (h : Q (.bl true) H) : rIsi K [.int i, .ty "int"] H Q := w_isiI kit_ii h
theorem w_isSI {z : Str} (h : Q (.bl false) H) : rIsi K [.str z, .ty "int"] H Q := w_isiS kit_si h
theorem w_isSS {z : Str} (h : Q (.bl true) H) : rIsi K [.str z, .ty "str"] H Q := w_isiS kit_ss h
theorem w_isIS (h : Q (.bl false) H) : rIsi K [.int i, .ty "str"] H Q := w_isiI kit_is h
/-- some int item, with a property of all -/
theorem w_ixLP {ds : List PyData} {P : Int → Prop} (hS : St K L H) (hl : LsIn K L a ds) (h0 : 0 ≤ i) (h1 : i < ds.length) (hP : ∀ d ∈ ds, ∃ m, d = .int m ∧ P m) (h : ∀ m, P m → Q (.int m) H) : rIx K (.ref a) (.int i) H Q := by
  have hk : i.toNat < ds.length := by omega
  obtain ⟨m, hm, hp⟩ := hP ds[i.toNat] (List.getElem_mem hk)
  exact w_ixLi (k := i.toNat) hS hl (by omega) (by rw [List.getElem?_eq_getElem hk, hm]) (h m hp)
/-- the law begins -/
theorem St.begin {ns : List Int} (hO : Only H) (hs : SqL K H a (ns.map V.int)) : St K [Ent.fact (.seq K a ns)] H := by
  refine ⟨⟨H, Ex.rfl, fun e he => ?_⟩, List.nodup_nil⟩
  cases he with
  | head => exact hs
  | tail _ he => cases he
end
end Lg

/-! Raw lists that are owned, lists of owned lists, comprehensions with a test, truth values compared. -/
namespace Lg
open PySem PySem.Spec PyProof.Rows L2
section
variable {K : PySem.W.Frag} {L L' : List Ent} {H : Hp} {σ : L2.St} {Q : VK} {a b : Addr} {i : Int} {k : Nat} {v : V} {xs : List V} {tt : TT} {te : TE} {g : TG} {vs : List Nat}
theorem w_appR (hS : St K L H) (hp : Put L (Lg.own a (.lst xs)) (Lg.own a (.lst (xs ++ [v]))) L') (hn : xs.length ≤ 100000) (h : ∀ H', St K L' H' → Q .non H') : rAppend (.ref a) [v] H Q := by
  have h3 := hS.own hp.mem
  exact ⟨a, xs, v, rfl, rfl, h3, Nat.lt_of_le_of_lt hn (by decide), h _ (hS.writeP hp fun _ _ _ _ _ _ => rfl)⟩
theorem w_tyR {P : Prop} (hS : St K L H) (hm : Lg.own a (.lst xs) ∈ L) (h : P) : TyThen K "list" (.ref a) H P := ⟨.inl ⟨rfl, _, SqL.of (hS.own hm)⟩, h⟩
theorem w_ixR (hS : St K L H) (hm : Lg.own a (.lst xs) ∈ L) (hk : i = (k : Int)) (hx : xs[k]? = some v) (h : Q v H) : rIx K (.ref a) (.int i) H Q :=
  .inl ⟨a, xs, i, v, rfl, rfl, SqL.of (hS.own hm), by rw [hk]; exact at_of rfl hx, h⟩
theorem w_lenR (hS : St K L H) (hm : Lg.own a (.lst xs) ∈ L) (h : Q (.int xs.length) H) : rLenX K [.ref a] H Q :=
  ⟨.ref a, xs.length, rfl, .inl ⟨xs, SqL.of (hS.own hm), rfl⟩, h⟩
theorem w_setLi {ns : List Int} {m : Int} (hS : St K L H) (hp : Put L (Lg.ls K a (ns.map PyData.int)) (Lg.ls K a ((ns.set i.toNat m).map PyData.int)) L') (h0 : 0 ≤ i) (hn : i < ns.length) {R : Hp → Prop} (h : ∀ H', St K L' H' → R H') : rSetL (.ref a) (.int i) (.int m) H R :=
  w_setL (k := i.toNat) (d := .int m) hS (by rw [List.map_set] at hp; exact hp) .int (by omega) (by simp; omega) h
theorem w_setRaw {j : Nat} (hS : St K L H) (hp : Put L (Lg.own a (.lst xs)) (Lg.own a (.lst (xs.set j v))) L') (hj : i = (j : Int)) (hn : j < xs.length) {R : Hp → Prop} (h : ∀ H', St K L' H' → R H') : rSetL (.ref a) (.int i) v H R := by
  refine ⟨a, xs, i, j, rfl, rfl, hS.own hp.mem, ?_, h _ (hS.writeP hp fun _ _ _ _ _ _ => rfl)⟩
  rw [hj]
  unfold ixN
  rw [if_pos (by omega), if_pos (by omega)]
  simp
theorem dB (x y : Bool) : decide (V.bl x = V.bl y) = decide (x = y) := by cases x <;> cases y <;> decide
theorem w_eqB {x y : Bool} (h : Q (.bl (decide (x = y))) H) : rEqX K (.bl x) (.bl y) H Q := .inl ⟨rfl, by rw [dB]; exact h⟩
theorem w_neB {x y : Bool} (h : Q (.bl (!decide (x = y))) H) : rNeX K (.bl x) (.bl y) H Q := .inl ⟨rfl, by rw [dB]; exact h⟩
theorem See.ls {ds : List PyData} (h : LsIn K L a ds) : See K L (.ref a) (.list ds) := by
  cases h with
  | own m => exact .own m
  | dat m => exact .is (.dat m)
theorem St.raw0 (h : St K (Lg.ls K a [] :: L) H) : St K (Lg.own a (.lst []) :: L) H := h.data .here fun F x _ _ _ hφ => by
  obtain ⟨xs, rfl, hx⟩ := hφ
  have := hx.len
  cases xs with
  | nil => rfl
  | cons x xs => simp at this
/-- owned lists of ints, side by side -/
def lsL (K : PySem.W.Frag) (bs : List Addr) (ds : List (List Int)) : List Ent := List.zipWith (fun b (d : List Int) => Lg.ls K b (d.map PyData.int)) bs ds
theorem St.dropA : ∀ {A : List Ent}, St K (A ++ L) H → St K L H
  | [], h => h
  | _ :: _, h => St.dropA (St.tail h)
theorem St.pickL {bs : List Addr} {ds : List (List Int)} {d : List Int} (h : St K (lsL K bs ds ++ L) H) (hb : bs[k]? = some b) (hd : ds[k]? = some d) : St K (Lg.ls K b (d.map PyData.int) :: L) H := by
  have he : (lsL K bs ds)[k]? = some (Lg.ls K b (d.map PyData.int)) := by
    unfold lsL
    rw [List.getElem?_zipWith, hb, hd]
  obtain ⟨hk, e⟩ := List.getElem?_eq_some_iff.mp he
  have h1 : lsL K bs ds = (lsL K bs ds).take k ++ Lg.ls K b (d.map PyData.int) :: (lsL K bs ds).drop (k + 1) := by
    rw [← e, List.getElem_cons_drop, List.take_append_drop]
  rw [h1, List.append_assoc] at h
  have h2 := h.dropA
  have h3 : St K ((lsL K bs ds).drop (k + 1) ++ (Lg.ls K b (d.map PyData.int) :: L)) H := h2.perm (by
    rw [List.cons_append]
    exact List.perm_middle.symm)
  exact h3.dropA
theorem lsL_snoc {bs : List Addr} {ds : List (List Int)} {d : List Int} (h : bs.length = ds.length) : lsL K (bs ++ [b]) (ds ++ [d]) = lsL K bs ds ++ [Lg.ls K b (d.map PyData.int)] := by
  unfold lsL
  rw [List.zipWith_append h]
  rfl
/-- [x for x in ints if test] -/
theorem w_lcFI {ns : List Int} (p : Int → Bool) (hS : St K L H) (hl : LsIn K L a (ns.map PyData.int)) (hn : ns.length ≤ 100000)
    (hs : ∀ (n : Int) (H : Hp) (Z1 : VK) (Z2 : Hp → Prop), (p n = true → Z1 (.int n) H) → (p n = false → Z2 H) → g (.int n) (wipe σ vs) H fun σ2 H2 => wipe σ2 vs = wipe σ vs ∧ tt σ2 H2 fun b H3 => if b = true then te σ2 H3 Z1 else Z2 H3)
    (h : ∀ q H', St K (.cell q (.ls K ((ns.filter p).map PyData.int)) :: L) H' → Q (.ref q) H') : LcW (Itl K a) g tt te vs σ H Q := by
  intro q hq
  refine ⟨fun i m H => m = ns.length - i ∧ i ≤ ns.length ∧ St K (.cell q (.ls K (((ns.take i).filter p).map PyData.int)) :: L) H, ⟨ns.length, by simp, Nat.zero_le _, hS.alloc hq fun F _ _ => ⟨[], rfl, .nil⟩⟩, ?_⟩
  rintro i m H ⟨rfl, hi, hS1⟩
  by_cases hlt : i < ns.length
  · obtain ⟨xs, v, h3, h5, _, h6⟩ := hS1.item hl.cons (k := i) (d := .int ns[i]) (by simp [hlt])
    obtain rfl := h6.int_of
    refine .inr ⟨⟨xs, .int ns[i], SqL.of h3, h5⟩, fun H' => i + 1 ≤ ns.length ∧ St K (.cell q (.ls K (((ns.take (i + 1)).filter p).map PyData.int)) :: L) H', fun H' w => ⟨ns.length - (i + 1), by omega, rfl, w⟩, fun x H' y => ?_⟩
    obtain ⟨rfl, y⟩ := y
    have hx := y xs (SqL.of h3)
    rw [h5] at hx
    have hvx := Option.some.inj hx
    subst hvx
    have e : ns.take (i + 1) = ns.take i ++ [ns[i]] := by rw [List.take_add_one]; simp [hlt]
    refine hs ns[i] H' _ _ (fun hp => ?_) fun hp => ?_
    · obtain ⟨F, ys, h1, h2, h7, h8⟩ := hS1.lsin (.own (.head _))
      refine ⟨ys, h7, ?_, by omega, ?_⟩
      · rw [h8.len]
        refine Nat.lt_of_le_of_lt ?_ (show 100000 < sizeLine by decide)
        rw [List.length_map]
        exact Nat.le_trans (List.length_filter_le _ _) (by simp; omega)
      · refine hS1.writeP (.here) fun F' x e2 q2 hx hφ => ?_
        obtain ⟨zs, rfl, hzs⟩ := hφ
        rw [h7] at hx
        cases hx
        refine ⟨_, rfl, ?_⟩
        rw [e, List.filter_append, List.map_append]
        have : [ns[i]].filter p = [ns[i]] := by simp [hp]
        rw [this]
        exact hzs.app (.cons (.int _) .nil)
    · refine ⟨by omega, ?_⟩
      rw [e, List.filter_append]
      have : [ns[i]].filter p = [] := by simp [hp]
      rw [this, List.append_nil]
      exact hS1
  · have e : i = ns.length := by omega
    subst e
    rw [List.take_length] at hS1
    obtain ⟨xs, h3, h4⟩ := hS1.lenl hl.cons
    exact .inl ⟨⟨xs, SqL.of h3, by rw [h4]; simp⟩, h q H hS1⟩
end
end Lg

/-! ### the text by places, names by slots, readings, derivations (printed by tools/gen.py) -/
namespace K44
open PySem PySem.Spec PyProof.Rows L2 Lg
def top (i : Nat) : Stmt := PySem.Challenge.pw_sameasnew_k44_any_block_is_read_so.main.body.getD i (.Pass ⟨0, 0, 0, 0⟩)
structure G (K : PySem.W.Frag) (mg : Str → Option Value) : Prop where
  c_PERCENT : ∃ u, mg "PERCENT" = some u ∧ RelV (.int 37) u
  c_SIGNS : ∃ u, mg "SIGNS" = some u ∧ RelV (.str " !\"#$&'()*+,-./0123456789:;<=>?@ABCDEFGHIJKLMNOPQRSTUVWXYZ[\\]^_`abcdefghijklmnopqrstuvwxyz{|}~") u
  c_PIECE : ∃ u, mg "PIECE" = some u ∧ RelV (.int 24) u
  b_any : mg "any" = none
  c_RECORD : ∃ u, mg "RECORD" = some u ∧ RelV (.int 83) u
  b_len : mg "len" = none
  b_range : mg "range" = none
  b_int : mg "int" = none
  b_ord : mg "ord" = none
  b_list : mg "list" = none
section
variable {P : Program} {w : World} {K : PySem.W.Frag} {mg : Str → Option Value} {base : Heap}
abbrev s_are_codes : Stmt := top 5
abbrev N_are_codes : List Str := ["codes", "code"]
theorem sc_are_codes : FnScope N_are_codes ["codes"] (defScope s_are_codes) := ⟨rfl, rfl, rfl, by decide +kernel, rfl, by decide +kernel, by decide +kernel⟩
def t_are_codes (K : PySem.W.Frag) : TS :=
    (tSeq (tFor (iAny K (tVar 0)) (gName 1) (tIfS (tOr (tNot (tTest (tChain rLe rLe (tC (.int 32)) (tVar 1) (tC (.int 126))))) (tTest (tOp (rEqX K) (tVar 1) (tC (.int 37))))) (tRet (tC (.bl false))) tNext))
    (tRet (tC (.bl true))))
theorem d_are_codes (g : G K mg) {f : Addr} {cdv : Value} {A : Around} {outer : List Env} {s : Shared} {H : Hp} {E : XK} (hr : Room 0 (A.deeper (envOfC "_are_codes" (defScope s_are_codes) s.heap.objs.size f cdv))) :
    PSs (cxOf CX0 P w K mg base N_are_codes "_are_codes" (defScope s_are_codes) f cdv A outer s H E).nox (defBody s_are_codes) (t_are_codes K) := by
  unfold t_are_codes
  exact
    (pss_cons (ps_for PassesOwn.never rfl (pi_any (pv 0)) (pg_name (i := 1) sc_are_codes.nd rfl (by first | exact Or.inl rfl | exact Or.inr rfl)) (pss_one (ps_if (PW.pt (pw_or (pt_not (pt_chain o_le o_le pe_int (pv 1) pe_int)) (pw_or1 (pt_cmpR (o_eq hr.units) (pv 1) (C8.pe_gc rfl g.c_PERCENT) (nomark _))))) (pss_one (ps_ret pe_bl)) pss_nil)))
    (pss_one (ps_ret pe_bl)))
theorem ok_are_codes (g : G K mg) {sp : Sp} (F : ∃ fd, FunD K "_are_codes" "_are_codes" (defArgs s_are_codes) (defBody s_are_codes) (defScope s_are_codes) [] [] (He.ga K "_are_codes") fd) (m : mg "_are_codes" = some (.ref (He.ga K "_are_codes")))
    (hsp : ∀ vs H Q E, sp vs H Q E → vs.length = 1 ∧ t_are_codes K { nx := fun _ H' => Q .non H', rt := Q } (start N_are_codes vs) H) : C8.Cal P w K mg base 1 "_are_codes" sp [] := by
  obtain ⟨fd, F⟩ := F
  refine ⟨_, fd, ["codes"], [], FunD.ok F sc_are_codes (fun vs H Q E h => (hsp vs H Q E h).1) (fun cdv A outer s H vs Q E hr h => ⟨_, PSs.nox (d_are_codes g hr), (hsp vs H Q E h).2⟩), m, F.kp, ?_, .nil⟩
  exact F.bindsN fun _ _ _ _ _ _ us hl => match us, hl with | [_], _ => rfl
abbrev s_sign : Stmt := top 6
abbrev N_sign : List Str := ["code"]
theorem sc_sign : FnScope N_sign ["code"] (defScope s_sign) := ⟨rfl, rfl, rfl, by decide +kernel, rfl, by decide +kernel, by decide +kernel⟩
def t_sign (K : PySem.W.Frag) : TS :=
    (tRet (tIf (tTest (tOp rLt (tVar 0) (tC (.int 37)))) (tOp (rIx K) (tC (.str " !\"#$&'()*+,-./0123456789:;<=>?@ABCDEFGHIJKLMNOPQRSTUVWXYZ[\\]^_`abcdefghijklmnopqrstuvwxyz{|}~")) (tOp rMinus (tVar 0) (tC (.int 32)))) (tOp (rIx K) (tC (.str " !\"#$&'()*+,-./0123456789:;<=>?@ABCDEFGHIJKLMNOPQRSTUVWXYZ[\\]^_`abcdefghijklmnopqrstuvwxyz{|}~")) (tOp rMinus (tVar 0) (tC (.int 33))))))
theorem d_sign (g : G K mg) {f : Addr} {cdv : Value} {A : Around} {outer : List Env} {s : Shared} {H : Hp} {E : XK} (hr : Room 0 (A.deeper (envOfC "_sign" (defScope s_sign) s.heap.objs.size f cdv))) :
    PSs (cxOf CX0 P w K mg base N_sign "_sign" (defScope s_sign) f cdv A outer s H E).nox (defBody s_sign) (t_sign K) := by
  unfold t_sign
  exact
    (pss_one (ps_ret (pe_ifExp (pt_cmpR o_lt (pv 0) (C8.pe_gc rfl g.c_PERCENT) (nomark _)) (pe_ix ix_seq (C8.pe_gc rfl g.c_SIGNS) (pe_op o_minus (pv 0) pe_int) (fun _ _ => rfl)) (pe_ix ix_seq (C8.pe_gc rfl g.c_SIGNS) (pe_op o_minus (pv 0) pe_int) (fun _ _ => rfl)))))
theorem ok_sign (g : G K mg) {sp : Sp} (F : ∃ fd, FunD K "_sign" "_sign" (defArgs s_sign) (defBody s_sign) (defScope s_sign) [] [] (He.ga K "_sign") fd) (m : mg "_sign" = some (.ref (He.ga K "_sign")))
    (hsp : ∀ vs H Q E, sp vs H Q E → vs.length = 1 ∧ t_sign K { nx := fun _ H' => Q .non H', rt := Q } (start N_sign vs) H) : C8.Cal P w K mg base 1 "_sign" sp [] := by
  obtain ⟨fd, F⟩ := F
  refine ⟨_, fd, ["code"], [], FunD.ok F sc_sign (fun vs H Q E h => (hsp vs H Q E h).1) (fun cdv A outer s H vs Q E hr h => ⟨_, PSs.nox (d_sign g hr), (hsp vs H Q E h).2⟩), m, F.kp, ?_, .nil⟩
  exact F.bindsN fun _ _ _ _ _ _ us hl => match us, hl with | [_], _ => rfl
abbrev s_decode_piece : Stmt := top 7
abbrev N_decode_piece : List Str := ["block", "place", "many", "high", "low", "count", "codes", "code"]
theorem sc_decode_piece : FnScope N_decode_piece ["block"] (defScope s_decode_piece) := ⟨rfl, rfl, rfl, by decide +kernel, rfl, by decide +kernel, by decide +kernel⟩
def t_decode_piece (K : PySem.W.Frag) (sp_sign : Sp) (sp_are_codes : Sp) : TS :=
    (tSeq (tIfS (tOr (tTest (tOp (rNeX K) (tOp (rIx K) (tVar 0) (tC (.int 0))) (tC (.int 83)))) (tTest (tOp (rNeX K) (tOp (rIx K) (tVar 0) (tC (.int 31))) (tC (.int 83))))) (tRet (tC .non)) tNext)
    (tSeq (tAsg (tSl (rSlX K) (tVar 0) (tPart (tC (.int 1))) (tPart (tC (.int 6)))) (gUnp K 5 (gCons (gName 1) (gCons (gName 2) (gCons (gName 3) (gCons (gName 4) (gCons (gName 5) gNil)))))))
    (tSeq (tIfS (tOr (tTest (tOp rGe (tVar 1) (tVar 2))) (tOr (tNot (tTest (tChain rLe rLe (tC (.int 1)) (tVar 5) (tC (.int 24))))) (tTruX K (tCB (rAnyX K) (tCons (tSl (rSlX K) (tVar 0) (tPart (tOp (rPlus K) (tC (.int 6)) (tVar 5))) (tPart (tC (.int 31)))) tNil))))) (tRet (tC .non)) tNext)
    (tSeq (tAsg (tSl (rSlX K) (tVar 0) (tPart (tC (.int 6))) (tPart (tOp (rPlus K) (tC (.int 6)) (tVar 5)))) (gName 6))
    (tSeq (tIfS (tNot (tTruX K (tCall sp_are_codes [] C8.E0 (tCons (tVar 6) tNil)))) (tRet (tC .non)) tNext)
    (tRet (tTup (tCons (tVar 1) (tCons (tVar 2) (tCons (tOp (rPlus K) (tOp rTimes (tVar 3) (tC (.int 256))) (tVar 4)) (tCons (tBM K "str" (rJoin K) (tC (.str "")) (tCons (tLc (iAny K (tVar 6)) (gName 7) tYes (tCall sp_sign [] C8.E0 (tCons (tVar 7) tNil)) [7]) tNil)) tNil)))))))))))
theorem d_decode_piece (g : G K mg) {sp_sign : Sp} (c_sign : C8.Cal P w K mg base 1 "_sign" sp_sign []) {sp_are_codes : Sp} (c_are_codes : C8.Cal P w K mg base 1 "_are_codes" sp_are_codes []) {f : Addr} {cdv : Value} {A : Around} {outer : List Env} {s : Shared} {H : Hp} {E : XK} (hr : Room 1 (A.deeper (envOfC "decode_piece" (defScope s_decode_piece) s.heap.objs.size f cdv))) :
    PSs (cxOf CX0 P w K mg base N_decode_piece "decode_piece" (defScope s_decode_piece) f cdv A outer s H E).nox (defBody s_decode_piece) (t_decode_piece K sp_sign sp_are_codes) := by
  unfold t_decode_piece
  exact
    (pss_cons (ps_if (PW.pt (pw_or (pt_cmpR (o_ne hr.units) (pe_ix ix_seq (pv 0) pe_int (fun _ _ => rfl)) (C8.pe_gc rfl g.c_RECORD) (nomark _)) (pw_or1 (pt_cmpR (o_ne hr.units) (pe_ix ix_seq (pv 0) pe_int (fun _ _ => rfl)) (C8.pe_gc rfl g.c_RECORD) (nomark _))))) (pss_one (ps_ret pe_non)) pss_nil)
    (pss_cons (ps_asg (pe_slice sl_any (pv 0) (po_some pe_int) (po_some pe_int)) (pg_unp rfl (pgs_cons (pg_name (i := 1) sc_decode_piece.nd rfl (by first | exact Or.inl rfl | exact Or.inr rfl)) (pgs_cons (pg_name (i := 2) sc_decode_piece.nd rfl (by first | exact Or.inl rfl | exact Or.inr rfl)) (pgs_cons (pg_name (i := 3) sc_decode_piece.nd rfl (by first | exact Or.inl rfl | exact Or.inr rfl)) (pgs_cons (pg_name (i := 4) sc_decode_piece.nd rfl (by first | exact Or.inl rfl | exact Or.inr rfl)) (pgs_cons (pg_name (i := 5) sc_decode_piece.nd rfl (by first | exact Or.inl rfl | exact Or.inr rfl)) pgs_nil)))))))
    (pss_cons (ps_if (PW.pt (pw_or (pt_cmpR o_ge (pv 1) (pv 2) (nomark _)) (pw_or (pt_not (pt_chain o_le o_le pe_int (pv 5) (C8.pe_gc rfl g.c_PIECE))) (pw_or1 (pt_tru (pe_callB (c_any rfl) (by rfl) g.b_any (by decide +kernel) (pa_cons (pe_slice sl_any (pv 0) (po_some (pe_op o_plus pe_int (pv 5))) (po_some pe_int)) pa_nil))))))) (pss_one (ps_ret pe_non)) pss_nil)
    (pss_cons (ps_set (i := 6) sc_decode_piece.nd rfl (by first | exact Or.inl rfl | exact Or.inr rfl) (pe_slice sl_any (pv 0) (po_some pe_int) (po_some (pe_op o_plus pe_int (pv 5)))))
    (pss_cons (ps_if (pt_not (pt_tru (C8.pe_c c_are_codes hr (by decide) rfl (pa_cons (pv 6) pa_nil)))) (pss_one (ps_ret pe_non)) pss_nil)
    (pss_one (ps_ret (pe_tup (pa_cons (pv 1) (pa_cons (pv 2) (pa_cons (pe_op o_plus (pe_op o_times (pv 3) pe_int) (pv 4)) (pa_cons (pe_bm PySem.F.plainAttrs_str PySem.F.slot_str_join PySem.F.type_str_join m_join pe_str (pa_cons (pe_lc (own := [("code", 7)]) (tt := tYes) rfl sc_decode_piece.nd (pi_any (pv 6)) (blkOk_by (N := N_decode_piece) (sc := defScope s_decode_piece) (by decide +kernel)) (fun _ _ _ _ _ => (pg_name (i := 7) sc_decode_piece.nd rfl (by first | exact Or.inl rfl | exact Or.inr rfl))) (fun _ _ _ _ _ => pts_nil) (fun _ _ _ _ _ => (C8.pe_c c_sign hr (by decide) rfl (pa_cons (pv 7) pa_nil)))) pa_nil)) pa_nil))))))))))))
theorem ok_decode_piece (g : G K mg) {sp_sign : Sp} (c_sign : C8.Cal P w K mg base 1 "_sign" sp_sign []) {sp_are_codes : Sp} (c_are_codes : C8.Cal P w K mg base 1 "_are_codes" sp_are_codes []) {sp : Sp} (F : ∃ fd, FunD K "decode_piece" "decode_piece" (defArgs s_decode_piece) (defBody s_decode_piece) (defScope s_decode_piece) [] [] (He.ga K "decode_piece") fd) (m : mg "decode_piece" = some (.ref (He.ga K "decode_piece")))
    (hsp : ∀ vs H Q E, sp vs H Q E → vs.length = 1 ∧ t_decode_piece K sp_sign sp_are_codes { nx := fun _ H' => Q .non H', rt := Q } (start N_decode_piece vs) H) : C8.Cal P w K mg base 2 "decode_piece" sp [] := by
  obtain ⟨fd, F⟩ := F
  refine ⟨_, fd, ["block"], [], FunD.ok F sc_decode_piece (fun vs H Q E h => (hsp vs H Q E h).1) (fun cdv A outer s H vs Q E hr h => ⟨_, PSs.nox (d_decode_piece g c_sign c_are_codes hr), (hsp vs H Q E h).2⟩), m, F.kp, ?_, .nil⟩
  exact F.bindsN fun _ _ _ _ _ _ us hl => match us, hl with | [_], _ => rfl
abbrev s_l_cell : Stmt := top 9
abbrev N_l_cell : List Str := ["_law_script", "_law_k"]
theorem sc_l_cell : FnScope N_l_cell ["_law_script", "_law_k"] (defScope s_l_cell) := ⟨rfl, rfl, rfl, by decide +kernel, rfl, by decide +kernel, by decide +kernel⟩
def t_l_cell (K : PySem.W.Frag) : TS :=
    (tSeq (tIfS (tTest (tOp rLt (tVar 1) (tCB (rLenX K) (tCons (tVar 0) tNil)))) (tRet (tOp (rIx K) (tVar 0) (tVar 1))) tNext)
    (tRet (tC (.int 0))))
theorem d_l_cell (g : G K mg) {f : Addr} {cdv : Value} {A : Around} {outer : List Env} {s : Shared} {H : Hp} {E : XK} (hr : Room 0 (A.deeper (envOfC "_law_cell" (defScope s_l_cell) s.heap.objs.size f cdv))) :
    PSs (cxOf CX0 P w K mg base N_l_cell "_law_cell" (defScope s_l_cell) f cdv A outer s H E).nox (defBody s_l_cell) (t_l_cell K) := by
  unfold t_l_cell
  exact
    (pss_cons (ps_if (pt_cmpR o_lt (pv 1) (pe_callB c_len (by rfl) g.b_len (by decide +kernel) (pa_cons (pv 0) pa_nil)) (nomark _)) (pss_one (ps_ret (pe_ix ix_seq (pv 0) (pv 1) (fun _ _ => rfl)))) pss_nil)
    (pss_one (ps_ret pe_int)))
theorem ok_l_cell (g : G K mg) {sp : Sp} (F : ∃ fd, FunD K "_law_cell" "_law_cell" (defArgs s_l_cell) (defBody s_l_cell) (defScope s_l_cell) [] [] (He.ga K "_law_cell") fd) (m : mg "_law_cell" = some (.ref (He.ga K "_law_cell")))
    (hsp : ∀ vs H Q E, sp vs H Q E → vs.length = 2 ∧ t_l_cell K { nx := fun _ H' => Q .non H', rt := Q } (start N_l_cell vs) H) : C8.Cal P w K mg base 1 "_law_cell" sp [] := by
  obtain ⟨fd, F⟩ := F
  refine ⟨_, fd, ["_law_script", "_law_k"], [], FunD.ok F sc_l_cell (fun vs H Q E h => (hsp vs H Q E h).1) (fun cdv A outer s H vs Q E hr h => ⟨_, PSs.nox (d_l_cell g hr), (hsp vs H Q E h).2⟩), m, F.kp, ?_, .nil⟩
  exact F.bindsN fun _ _ _ _ _ _ us hl => match us, hl with | [_, _], _ => rfl
abbrev s_l_digits : Stmt := top 10
abbrev N_l_digits : List Str := ["_law_script", "_law_first", "_law_last", "_law_digits_here", "_law_k", "_law_cell_here", "_law_turn", "_law_seed"]
theorem sc_l_digits : FnScope N_l_digits ["_law_script", "_law_first", "_law_last"] (defScope s_l_digits) := ⟨rfl, rfl, rfl, by decide +kernel, rfl, by decide +kernel, by decide +kernel⟩
def t_l_digits (K : PySem.W.Frag) (sp_l_cell : Sp) : TS :=
    (tSeq (tAsg (tLst tNil) (gName 3))
    (tSeq (tFor (iRng2 (tCons (tVar 1) (tCons (tVar 2) tNil))) (gName 4) (tSeq (tAsg (tCall sp_l_cell [] C8.E0 (tCons (tVar 0) (tCons (tVar 4) tNil))) (gName 5))
    (C8.tCut (tIfS (tTest (tOp rLt (tVar 5) (tC (.int 0)))) (tAsg (tOp rMinus (tC (.int 1)) (tOp rTimes (tC (.int 2)) (tVar 5))) (gName 5)) tNext)
    (tIfS (tTest (tOp rGe (tVar 5) (tC (.int 1000000000000000000)))) (tFor (iRng1 (tCons (tC (.int 60)) tNil)) (gName 6) (tIfS (tTest (tOp rGt (tVar 5) (tC (.int 0)))) (tSeq (tDrop (tBM K "list" rAppend (tVar 3) (tCons (tOp rMod (tCB (rIntX) (tCons (tVar 5) tNil)) (tC (.int 1000))) tNil)))
    (tAsg (tOp rFdiv (tVar 5) (tC (.int 1000))) (gName 5))) tNext)) (tSeq (tAsg (tOp rMod (tCB (rIntX) (tCons (tOp (rPlus K) (tOp (rPlus K) (tOp rTimes (tVar 5) (tC (.int 40692))) (tOp rTimes (tVar 4) (tC (.int 52774)))) (tC (.int 17))) tNil)) (tC (.int 2147483399))) (gName 7))
    (tFor (iRng1 (tCons (tC (.int 12)) tNil)) (gName 6) (tSeq (tAsg (tOp rMod (tCB (rIntX) (tCons (tOp (rPlus K) (tOp (rPlus K) (tOp rTimes (tVar 7) (tC (.int 40014))) (tOp rTimes (tC (.int 5)) (tVar 6))) (tC (.int 3))) tNil)) (tC (.int 2147483563))) (gName 7))
    (tDrop (tBM K "list" rAppend (tVar 3) (tCons (tOp rMod (tCB (rIntX) (tCons (tOp rFdiv (tVar 7) (tC (.int 1009))) tNil)) (tC (.int 1000))) tNil))))))))))
    (tRet (tVar 3))))
theorem d_l_digits (g : G K mg) {sp_l_cell : Sp} (c_l_cell : C8.Cal P w K mg base 1 "_law_cell" sp_l_cell []) {f : Addr} {cdv : Value} {A : Around} {outer : List Env} {s : Shared} {H : Hp} {E : XK} (hr : Room 1 (A.deeper (envOfC "_law_digits" (defScope s_l_digits) s.heap.objs.size f cdv))) :
    PSs (cxOf CX0 P w K mg base N_l_digits "_law_digits" (defScope s_l_digits) f cdv A outer s H E).nox (defBody s_l_digits) (t_l_digits K sp_l_cell) := by
  unfold t_l_digits
  exact
    (pss_cons (ps_set (i := 3) sc_l_digits.nd rfl (by first | exact Or.inl rfl | exact Or.inr rfl) (pe_lst pa_nil))
    (pss_cons (ps_for PassesOwn.never rfl (pi_range2 rfl g.b_range (pa_cons (pv 1) (pa_cons (pv 2) pa_nil))) (pg_name (i := 4) sc_l_digits.nd rfl (by first | exact Or.inl rfl | exact Or.inr rfl)) (pss_cons (ps_set (i := 5) sc_l_digits.nd rfl (by first | exact Or.inl rfl | exact Or.inr rfl) (C8.pe_c c_l_cell hr (by decide) rfl (pa_cons (pv 0) (pa_cons (pv 4) pa_nil))))
    (C8.pss_cut (ps_if (pt_cmpR o_lt (pv 5) pe_int (nomark _)) (pss_one (ps_set (i := 5) sc_l_digits.nd rfl (by first | exact Or.inl rfl | exact Or.inr rfl) (pe_op o_minus pe_int (pe_op o_times pe_int (pv 5))))) pss_nil)
    (pss_one (ps_if (pt_cmpR o_ge (pv 5) pe_int (nomark _)) (pss_one (ps_for PassesOwn.never rfl (pi_range1 rfl g.b_range (pa_cons pe_int pa_nil)) (pg_name (i := 6) sc_l_digits.nd rfl (by first | exact Or.inl rfl | exact Or.inr rfl)) (pss_one (ps_if (pt_cmpR o_gt (pv 5) pe_int (nomark _)) (pss_cons (ps_expr (pe_bm PySem.F.plainAttrs_list PySem.F.slot_list_append PySem.F.type_list_append mt_append (pv 3) (pa_cons (pe_op o_mod (pe_callTy c_int (by rfl) g.b_int (by decide +kernel) (pa_cons (pv 5) pa_nil)) pe_int) pa_nil)))
    (pss_one (ps_set (i := 5) sc_l_digits.nd rfl (by first | exact Or.inl rfl | exact Or.inr rfl) (pe_op o_fdiv (pv 5) pe_int)))) pss_nil)))) (pss_cons (ps_set (i := 7) sc_l_digits.nd rfl (by first | exact Or.inl rfl | exact Or.inr rfl) (pe_op o_mod (pe_callTy c_int (by rfl) g.b_int (by decide +kernel) (pa_cons (pe_op o_plus (pe_op o_plus (pe_op o_times (pv 5) pe_int) (pe_op o_times (pv 4) pe_int)) pe_int) pa_nil)) pe_int))
    (pss_one (ps_for PassesOwn.never rfl (pi_range1 rfl g.b_range (pa_cons pe_int pa_nil)) (pg_name (i := 6) sc_l_digits.nd rfl (by first | exact Or.inl rfl | exact Or.inr rfl)) (pss_cons (ps_set (i := 7) sc_l_digits.nd rfl (by first | exact Or.inl rfl | exact Or.inr rfl) (pe_op o_mod (pe_callTy c_int (by rfl) g.b_int (by decide +kernel) (pa_cons (pe_op o_plus (pe_op o_plus (pe_op o_times (pv 7) pe_int) (pe_op o_times pe_int (pv 6))) pe_int) pa_nil)) pe_int))
    (pss_one (ps_expr (pe_bm PySem.F.plainAttrs_list PySem.F.slot_list_append PySem.F.type_list_append mt_append (pv 3) (pa_cons (pe_op o_mod (pe_callTy c_int (by rfl) g.b_int (by decide +kernel) (pa_cons (pe_op o_fdiv (pv 7) pe_int) pa_nil)) pe_int) pa_nil)))))))))))))
    (pss_one (ps_ret (pv 3)))))
theorem ok_l_digits (g : G K mg) {sp_l_cell : Sp} (c_l_cell : C8.Cal P w K mg base 1 "_law_cell" sp_l_cell []) {sp : Sp} (F : ∃ fd, FunD K "_law_digits" "_law_digits" (defArgs s_l_digits) (defBody s_l_digits) (defScope s_l_digits) [] [] (He.ga K "_law_digits") fd) (m : mg "_law_digits" = some (.ref (He.ga K "_law_digits")))
    (hsp : ∀ vs H Q E, sp vs H Q E → vs.length = 3 ∧ t_l_digits K sp_l_cell { nx := fun _ H' => Q .non H', rt := Q } (start N_l_digits vs) H) : C8.Cal P w K mg base 2 "_law_digits" sp [] := by
  obtain ⟨fd, F⟩ := F
  refine ⟨_, fd, ["_law_script", "_law_first", "_law_last"], [], FunD.ok F sc_l_digits (fun vs H Q E h => (hsp vs H Q E h).1) (fun cdv A outer s H vs Q E hr h => ⟨_, PSs.nox (d_l_digits g c_l_cell hr), (hsp vs H Q E h).2⟩), m, F.kp, ?_, .nil⟩
  exact F.bindsN fun _ _ _ _ _ _ us hl => match us, hl with | [_, _, _], _ => rfl
abbrev s_l_draw : Stmt := top 11
abbrev N_l_draw : List Str := ["_law_box", "_law_many", "_law_at"]
theorem sc_l_draw : FnScope N_l_draw ["_law_box", "_law_many"] (defScope s_l_draw) := ⟨rfl, rfl, rfl, by decide +kernel, rfl, by decide +kernel, by decide +kernel⟩
def t_l_draw (K : PySem.W.Frag) : TS :=
    (tSeq (tAsg (tOp (rIx K) (tVar 0) (tC (.int 1))) (gName 2))
    (tSeq (tAsg (tOp (rPlus K) (tVar 2) (tC (.int 1))) (gSub (tVar 0) (tC (.int 1)) rSetL))
    (tSeq (tIfS (tTest (tOp rLt (tVar 2) (tCB (rLenX K) (tCons (tOp (rIx K) (tVar 0) (tC (.int 0))) tNil)))) (tRet (tOp rMod (tCB (rIntX) (tCons (tOp (rIx K) (tOp (rIx K) (tVar 0) (tC (.int 0))) (tVar 2)) tNil)) (tVar 1))) tNext)
    (tRet (tOp rMod (tCB (rIntX) (tCons (tOp (rPlus K) (tOp rTimes (tVar 2) (tC (.int 7))) (tC (.int 3))) tNil)) (tVar 1))))))
theorem d_l_draw (g : G K mg) {f : Addr} {cdv : Value} {A : Around} {outer : List Env} {s : Shared} {H : Hp} {E : XK} (hr : Room 0 (A.deeper (envOfC "_law_draw" (defScope s_l_draw) s.heap.objs.size f cdv))) :
    PSs (cxOf CX0 P w K mg base N_l_draw "_law_draw" (defScope s_l_draw) f cdv A outer s H E).nox (defBody s_l_draw) (t_l_draw K) := by
  unfold t_l_draw
  exact
    (pss_cons (ps_set (i := 2) sc_l_draw.nd rfl (by first | exact Or.inl rfl | exact Or.inr rfl) (pe_ix ix_seq (pv 0) pe_int (fun _ _ => rfl)))
    (pss_cons (ps_asg (pe_op o_plus (pv 2) pe_int) (pg_sub (pv 0) pe_int set_list))
    (pss_cons (ps_if (pt_cmpR o_lt (pv 2) (pe_callB c_len (by rfl) g.b_len (by decide +kernel) (pa_cons (pe_ix ix_seq (pv 0) pe_int (fun _ _ => rfl)) pa_nil)) (nomark _)) (pss_one (ps_ret (pe_op o_mod (pe_callTy c_int (by rfl) g.b_int (by decide +kernel) (pa_cons (pe_ix ix_seq (pe_ix ix_seq (pv 0) pe_int (fun _ _ => rfl)) (pv 2) (fun _ _ => rfl)) pa_nil)) (pv 1)))) pss_nil)
    (pss_one (ps_ret (pe_op o_mod (pe_callTy c_int (by rfl) g.b_int (by decide +kernel) (pa_cons (pe_op o_plus (pe_op o_times (pv 2) pe_int) pe_int) pa_nil)) (pv 1)))))))
theorem ok_l_draw (g : G K mg) {sp : Sp} (F : ∃ fd, FunD K "_law_draw" "_law_draw" (defArgs s_l_draw) (defBody s_l_draw) (defScope s_l_draw) [] [] (He.ga K "_law_draw") fd) (m : mg "_law_draw" = some (.ref (He.ga K "_law_draw")))
    (hsp : ∀ vs H Q E, sp vs H Q E → vs.length = 2 ∧ t_l_draw K { nx := fun _ H' => Q .non H', rt := Q } (start N_l_draw vs) H) : C8.Cal P w K mg base 1 "_law_draw" sp [] := by
  obtain ⟨fd, F⟩ := F
  refine ⟨_, fd, ["_law_box", "_law_many"], [], FunD.ok F sc_l_draw (fun vs H Q E h => (hsp vs H Q E h).1) (fun cdv A outer s H vs Q E hr h => ⟨_, PSs.nox (d_l_draw g hr), (hsp vs H Q E h).2⟩), m, F.kp, ?_, .nil⟩
  exact F.bindsN fun _ _ _ _ _ _ us hl => match us, hl with | [_, _], _ => rfl
abbrev s_l_pieces : Stmt := top 12
abbrev N_l_pieces : List Str := ["_law_number", "_law_text", "_law_blocks", "_law_many", "_law_k", "_law_part", "_law_block", "_law_sign"]
theorem sc_l_pieces : FnScope N_l_pieces ["_law_number", "_law_text"] (defScope s_l_pieces) := ⟨rfl, rfl, rfl, by decide +kernel, rfl, by decide +kernel, by decide +kernel⟩
def t_l_pieces (K : PySem.W.Frag) : TS :=
    (tSeq (tAsg (tLst tNil) (gName 2))
    (tSeq (tAsg (tOp rFdiv (tOp (rPlus K) (tCB (rLenX K) (tCons (tVar 1) tNil)) (tC (.int 23))) (tC (.int 24))) (gName 3))
    (tSeq (tFor (iRng1 (tCons (tVar 3) tNil)) (gName 4) (tSeq (tAsg (tSl (rSlX K) (tVar 1) (tPart (tOp rTimes (tC (.int 24)) (tVar 4))) (tPart (tOp (rPlus K) (tOp rTimes (tC (.int 24)) (tVar 4)) (tC (.int 24))))) (gName 5))
    (tSeq (tAsg (tLst (tCons (tC (.int 83)) (tCons (tVar 4) (tCons (tVar 3) (tCons (tOp rFdiv (tVar 0) (tC (.int 256))) (tCons (tOp rMod (tCB (rIntX) (tCons (tVar 0) tNil)) (tC (.int 256))) (tCons (tCB (rLenX K) (tCons (tVar 5) tNil)) tNil))))))) (gName 6))
    (tSeq (tFor (iAny K (tVar 5)) (gName 7) (tDrop (tBM K "list" rAppend (tVar 6) (tCons (tCB (rOrd) (tCons (tVar 7) tNil)) tNil))))
    (tDrop (tBM K "list" rAppend (tVar 2) (tCons (tOp (rPlus K) (tOp (rPlus K) (tVar 6) (tOp rTimes (tLst (tCons (tC (.int 0)) tNil)) (tOp rMinus (tC (.int 31)) (tCB (rLenX K) (tCons (tVar 6) tNil))))) (tLst (tCons (tC (.int 83)) tNil))) tNil)))))))
    (tRet (tVar 2)))))
theorem d_l_pieces (g : G K mg) {f : Addr} {cdv : Value} {A : Around} {outer : List Env} {s : Shared} {H : Hp} {E : XK} (hr : Room 0 (A.deeper (envOfC "_law_pieces" (defScope s_l_pieces) s.heap.objs.size f cdv))) :
    PSs (cxOf CX0 P w K mg base N_l_pieces "_law_pieces" (defScope s_l_pieces) f cdv A outer s H E).nox (defBody s_l_pieces) (t_l_pieces K) := by
  unfold t_l_pieces
  exact
    (pss_cons (ps_set (i := 2) sc_l_pieces.nd rfl (by first | exact Or.inl rfl | exact Or.inr rfl) (pe_lst pa_nil))
    (pss_cons (ps_set (i := 3) sc_l_pieces.nd rfl (by first | exact Or.inl rfl | exact Or.inr rfl) (pe_op o_fdiv (pe_op o_plus (pe_callB c_len (by rfl) g.b_len (by decide +kernel) (pa_cons (pv 1) pa_nil)) pe_int) pe_int))
    (pss_cons (ps_for PassesOwn.never rfl (pi_range1 rfl g.b_range (pa_cons (pv 3) pa_nil)) (pg_name (i := 4) sc_l_pieces.nd rfl (by first | exact Or.inl rfl | exact Or.inr rfl)) (pss_cons (ps_set (i := 5) sc_l_pieces.nd rfl (by first | exact Or.inl rfl | exact Or.inr rfl) (pe_slice sl_any (pv 1) (po_some (pe_op o_times pe_int (pv 4))) (po_some (pe_op o_plus (pe_op o_times pe_int (pv 4)) pe_int))))
    (pss_cons (ps_set (i := 6) sc_l_pieces.nd rfl (by first | exact Or.inl rfl | exact Or.inr rfl) (pe_lst (pa_cons pe_int (pa_cons (pv 4) (pa_cons (pv 3) (pa_cons (pe_op o_fdiv (pv 0) pe_int) (pa_cons (pe_op o_mod (pe_callTy c_int (by rfl) g.b_int (by decide +kernel) (pa_cons (pv 0) pa_nil)) pe_int) (pa_cons (pe_callB c_len (by rfl) g.b_len (by decide +kernel) (pa_cons (pv 5) pa_nil)) pa_nil))))))))
    (pss_cons (ps_for PassesOwn.never rfl (pi_any (pv 5)) (pg_name (i := 7) sc_l_pieces.nd rfl (by first | exact Or.inl rfl | exact Or.inr rfl)) (pss_one (ps_expr (pe_bm PySem.F.plainAttrs_list PySem.F.slot_list_append PySem.F.type_list_append mt_append (pv 6) (pa_cons (pe_callB c_ord (by rfl) g.b_ord (by decide +kernel) (pa_cons (pv 7) pa_nil)) pa_nil)))))
    (pss_one (ps_expr (pe_bm PySem.F.plainAttrs_list PySem.F.slot_list_append PySem.F.type_list_append mt_append (pv 2) (pa_cons (pe_op o_plus (pe_op o_plus (pv 6) (pe_op o_times (pe_lst (pa_cons pe_int pa_nil)) (pe_op o_minus pe_int (pe_callB c_len (by rfl) g.b_len (by decide +kernel) (pa_cons (pv 6) pa_nil))))) (pe_lst (pa_cons pe_int pa_nil))) pa_nil))))))))
    (pss_one (ps_ret (pv 2))))))
theorem ok_l_pieces (g : G K mg) {sp : Sp} (F : ∃ fd, FunD K "_law_pieces" "_law_pieces" (defArgs s_l_pieces) (defBody s_l_pieces) (defScope s_l_pieces) [] [] (He.ga K "_law_pieces") fd) (m : mg "_law_pieces" = some (.ref (He.ga K "_law_pieces")))
    (hsp : ∀ vs H Q E, sp vs H Q E → vs.length = 2 ∧ t_l_pieces K { nx := fun _ H' => Q .non H', rt := Q } (start N_l_pieces vs) H) : C8.Cal P w K mg base 1 "_law_pieces" sp [] := by
  obtain ⟨fd, F⟩ := F
  refine ⟨_, fd, ["_law_number", "_law_text"], [], FunD.ok F sc_l_pieces (fun vs H Q E h => (hsp vs H Q E h).1) (fun cdv A outer s H vs Q E hr h => ⟨_, PSs.nox (d_l_pieces g hr), (hsp vs H Q E h).2⟩), m, F.kp, ?_, .nil⟩
  exact F.bindsN fun _ _ _ _ _ _ us hl => match us, hl with | [_, _], _ => rfl
abbrev s_l_signs : Stmt := top 13
abbrev N_l_signs : List Str := ["_law_box", "_law_many", "_law_signs_here", "_law_text", "_law_turn"]
theorem sc_l_signs : FnScope N_l_signs ["_law_box", "_law_many"] (defScope s_l_signs) := ⟨rfl, rfl, rfl, by decide +kernel, rfl, by decide +kernel, by decide +kernel⟩
def t_l_signs (K : PySem.W.Frag) (sp_l_draw : Sp) : TS :=
    (tSeq (tAsg (tC (.str " !\"#$&'()*+,-./0123456789:;<=>?@ABCDEFGHIJKLMNOPQRSTUVWXYZ[\\]^_`abcdefghijklmnopqrstuvwxyz{|}~")) (gName 2))
    (tSeq (tIfS (tTest (tOp (rEqX K) (tCall sp_l_draw [] C8.E0 (tCons (tVar 0) (tCons (tC (.int 4)) tNil))) (tC (.int 0)))) (tRet (tOp rTimes (tOp (rIx K) (tVar 2) (tCall sp_l_draw [] C8.E0 (tCons (tVar 0) (tCons (tCB (rLenX K) (tCons (tVar 2) tNil)) tNil)))) (tVar 1))) tNext)
    (tSeq (tAsg (tC (.str "")) (gName 3))
    (tSeq (tFor (iRng1 (tCons (tVar 1) tNil)) (gName 4) (tAsg (tOp (rPlus K) (tVar 3) (tOp (rIx K) (tVar 2) (tCall sp_l_draw [] C8.E0 (tCons (tVar 0) (tCons (tCB (rLenX K) (tCons (tVar 2) tNil)) tNil))))) (gName 3)))
    (tRet (tVar 3))))))
theorem d_l_signs (g : G K mg) {sp_l_draw : Sp} (c_l_draw : C8.Cal P w K mg base 1 "_law_draw" sp_l_draw []) {f : Addr} {cdv : Value} {A : Around} {outer : List Env} {s : Shared} {H : Hp} {E : XK} (hr : Room 1 (A.deeper (envOfC "_law_signs" (defScope s_l_signs) s.heap.objs.size f cdv))) :
    PSs (cxOf CX0 P w K mg base N_l_signs "_law_signs" (defScope s_l_signs) f cdv A outer s H E).nox (defBody s_l_signs) (t_l_signs K sp_l_draw) := by
  unfold t_l_signs
  exact
    (pss_cons (ps_set (i := 2) sc_l_signs.nd rfl (by first | exact Or.inl rfl | exact Or.inr rfl) pe_str)
    (pss_cons (ps_if (pt_cmpR (o_eq hr.units) (C8.pe_c c_l_draw hr (by decide) rfl (pa_cons (pv 0) (pa_cons pe_int pa_nil))) pe_int (nomark _)) (pss_one (ps_ret (pe_op o_times (pe_ix ix_seq (pv 2) (C8.pe_c c_l_draw hr (by decide) rfl (pa_cons (pv 0) (pa_cons (pe_callB c_len (by rfl) g.b_len (by decide +kernel) (pa_cons (pv 2) pa_nil)) pa_nil))) (fun _ _ => rfl)) (pv 1)))) pss_nil)
    (pss_cons (ps_set (i := 3) sc_l_signs.nd rfl (by first | exact Or.inl rfl | exact Or.inr rfl) pe_str)
    (pss_cons (ps_for PassesOwn.never rfl (pi_range1 rfl g.b_range (pa_cons (pv 1) pa_nil)) (pg_name (i := 4) sc_l_signs.nd rfl (by first | exact Or.inl rfl | exact Or.inr rfl)) (pss_one (ps_set (i := 3) sc_l_signs.nd rfl (by first | exact Or.inl rfl | exact Or.inr rfl) (pe_op o_plus (pv 3) (pe_ix ix_seq (pv 2) (C8.pe_c c_l_draw hr (by decide) rfl (pa_cons (pv 0) (pa_cons (pe_callB c_len (by rfl) g.b_len (by decide +kernel) (pa_cons (pv 2) pa_nil)) pa_nil))) (fun _ _ => rfl))))))
    (pss_one (ps_ret (pv 3)))))))
theorem ok_l_signs (g : G K mg) {sp_l_draw : Sp} (c_l_draw : C8.Cal P w K mg base 1 "_law_draw" sp_l_draw []) {sp : Sp} (F : ∃ fd, FunD K "_law_signs" "_law_signs" (defArgs s_l_signs) (defBody s_l_signs) (defScope s_l_signs) [] [] (He.ga K "_law_signs") fd) (m : mg "_law_signs" = some (.ref (He.ga K "_law_signs")))
    (hsp : ∀ vs H Q E, sp vs H Q E → vs.length = 2 ∧ t_l_signs K sp_l_draw { nx := fun _ H' => Q .non H', rt := Q } (start N_l_signs vs) H) : C8.Cal P w K mg base 2 "_law_signs" sp [] := by
  obtain ⟨fd, F⟩ := F
  refine ⟨_, fd, ["_law_box", "_law_many"], [], FunD.ok F sc_l_signs (fun vs H Q E h => (hsp vs H Q E h).1) (fun cdv A outer s H vs Q E hr h => ⟨_, PSs.nox (d_l_signs g c_l_draw hr), (hsp vs H Q E h).2⟩), m, F.kp, ?_, .nil⟩
  exact F.bindsN fun _ _ _ _ _ _ us hl => match us, hl with | [_, _], _ => rfl
abbrev s_l_due_piece : Stmt := top 14
abbrev N_l_due_piece : List Str := ["_law_block", "_law_signs_here", "_law_text", "_law_code", "_law_byte"]
theorem sc_l_due_piece : FnScope N_l_due_piece ["_law_block"] (defScope s_l_due_piece) := ⟨rfl, rfl, rfl, by decide +kernel, rfl, by decide +kernel, by decide +kernel⟩
def t_l_due_piece (K : PySem.W.Frag) : TS :=
    (tSeq (tIfS (tOr (tTest (tOp (rNeX K) (tOp (rIx K) (tVar 0) (tC (.int 0))) (tC (.int 83)))) (tOr (tTest (tOp (rNeX K) (tOp (rIx K) (tVar 0) (tC (.int 31))) (tC (.int 83)))) (tOr (tTest (tOp rGe (tOp (rIx K) (tVar 0) (tC (.int 1))) (tOp (rIx K) (tVar 0) (tC (.int 2))))) (tOr (tTest (tOp rGt (tOp (rIx K) (tVar 0) (tC (.int 5))) (tC (.int 24)))) (tTest (tOp (rEqX K) (tOp (rIx K) (tVar 0) (tC (.int 5))) (tC (.int 0)))))))) (tRet (tC .non)) tNext)
    (tSeq (tAsg (tC (.str " !\"#$?&'()*+,-./0123456789:;<=>?@ABCDEFGHIJKLMNOPQRSTUVWXYZ[\\]^_`abcdefghijklmnopqrstuvwxyz{|}~")) (gName 1))
    (tSeq (tAsg (tC (.str "")) (gName 2))
    (tSeq (tFor (iAny K (tSl (rSlX K) (tVar 0) (tPart (tC (.int 6))) (tPart (tOp (rPlus K) (tC (.int 6)) (tOp (rIx K) (tVar 0) (tC (.int 5))))))) (gName 3) (tSeq (tIfS (tOr (tTest (tOp (rEqX K) (tVar 3) (tC (.int 37)))) (tOr (tTest (tOp rLt (tVar 3) (tC (.int 32)))) (tTest (tOp rGt (tVar 3) (tC (.int 126)))))) (tRet (tC .non)) tNext)
    (tAsg (tOp (rPlus K) (tVar 2) (tOp (rIx K) (tVar 1) (tOp rMinus (tVar 3) (tC (.int 32))))) (gName 2))))
    (tSeq (tIfS (tTest (tOp (rNeX K) (tLc (iAny K (tSl (rSlX K) (tVar 0) (tPart (tOp (rPlus K) (tC (.int 6)) (tOp (rIx K) (tVar 0) (tC (.int 5))))) (tPart (tC (.int 31))))) (gName 4) (tTest (tOp (rNeX K) (tVar 4) (tC (.int 0)))) (tVar 4) [4]) (tLst tNil))) (tRet (tC .non)) tNext)
    (tRet (tTup (tCons (tOp (rIx K) (tVar 0) (tC (.int 1))) (tCons (tOp (rIx K) (tVar 0) (tC (.int 2))) (tCons (tOp (rPlus K) (tOp rTimes (tC (.int 256)) (tOp (rIx K) (tVar 0) (tC (.int 3)))) (tOp (rIx K) (tVar 0) (tC (.int 4)))) (tCons (tVar 2) tNil)))))))))))
theorem d_l_due_piece (g : G K mg) {f : Addr} {cdv : Value} {A : Around} {outer : List Env} {s : Shared} {H : Hp} {E : XK} (hr : Room 0 (A.deeper (envOfC "_law_due_piece" (defScope s_l_due_piece) s.heap.objs.size f cdv))) :
    PSs (cxOf CX0 P w K mg base N_l_due_piece "_law_due_piece" (defScope s_l_due_piece) f cdv A outer s H E).nox (defBody s_l_due_piece) (t_l_due_piece K) := by
  unfold t_l_due_piece
  exact
    (pss_cons (ps_if (PW.pt (pw_or (pt_cmpR (o_ne hr.units) (pe_ix ix_seq (pv 0) pe_int (fun _ _ => rfl)) pe_int (nomark _)) (pw_or (pt_cmpR (o_ne hr.units) (pe_ix ix_seq (pv 0) pe_int (fun _ _ => rfl)) pe_int (nomark _)) (pw_or (pt_cmpR o_ge (pe_ix ix_seq (pv 0) pe_int (fun _ _ => rfl)) (pe_ix ix_seq (pv 0) pe_int (fun _ _ => rfl)) (nomark _)) (pw_or (pt_cmpR o_gt (pe_ix ix_seq (pv 0) pe_int (fun _ _ => rfl)) pe_int (nomark _)) (pw_or1 (pt_cmpR (o_eq hr.units) (pe_ix ix_seq (pv 0) pe_int (fun _ _ => rfl)) pe_int (nomark _)))))))) (pss_one (ps_ret pe_non)) pss_nil)
    (pss_cons (ps_set (i := 1) sc_l_due_piece.nd rfl (by first | exact Or.inl rfl | exact Or.inr rfl) pe_str)
    (pss_cons (ps_set (i := 2) sc_l_due_piece.nd rfl (by first | exact Or.inl rfl | exact Or.inr rfl) pe_str)
    (pss_cons (ps_for PassesOwn.never rfl (pi_any (pe_slice sl_any (pv 0) (po_some pe_int) (po_some (pe_op o_plus pe_int (pe_ix ix_seq (pv 0) pe_int (fun _ _ => rfl)))))) (pg_name (i := 3) sc_l_due_piece.nd rfl (by first | exact Or.inl rfl | exact Or.inr rfl)) (pss_cons (ps_if (PW.pt (pw_or (pt_cmpR (o_eq hr.units) (pv 3) pe_int (nomark _)) (pw_or (pt_cmpR o_lt (pv 3) pe_int (nomark _)) (pw_or1 (pt_cmpR o_gt (pv 3) pe_int (nomark _)))))) (pss_one (ps_ret pe_non)) pss_nil)
    (pss_one (ps_set (i := 2) sc_l_due_piece.nd rfl (by first | exact Or.inl rfl | exact Or.inr rfl) (pe_op o_plus (pv 2) (pe_ix ix_seq (pv 1) (pe_op o_minus (pv 3) pe_int) (fun _ _ => rfl)))))))
    (pss_cons (ps_if (pt_cmpR (o_ne hr.units) (pe_lc (own := [("_law_byte", 4)]) (tt := (tTest (tOp (rNeX K) (tVar 4) (tC (.int 0))))) rfl sc_l_due_piece.nd (pi_any (pe_slice sl_any (pv 0) (po_some (pe_op o_plus pe_int (pe_ix ix_seq (pv 0) pe_int (fun _ _ => rfl)))) (po_some pe_int))) (blkOk_by (N := N_l_due_piece) (sc := defScope s_l_due_piece) (by decide +kernel)) (fun _ _ _ _ _ => (pg_name (i := 4) sc_l_due_piece.nd rfl (by first | exact Or.inl rfl | exact Or.inr rfl))) (fun _ _ _ _ _ => (pts_one (pt_cmpR (o_ne hr.units) (pv 4) pe_int (nomark _)))) (fun _ _ _ _ _ => (pv 4))) (pe_lst pa_nil) (nomark _)) (pss_one (ps_ret pe_non)) pss_nil)
    (pss_one (ps_ret (pe_tup (pa_cons (pe_ix ix_seq (pv 0) pe_int (fun _ _ => rfl)) (pa_cons (pe_ix ix_seq (pv 0) pe_int (fun _ _ => rfl)) (pa_cons (pe_op o_plus (pe_op o_times pe_int (pe_ix ix_seq (pv 0) pe_int (fun _ _ => rfl))) (pe_ix ix_seq (pv 0) pe_int (fun _ _ => rfl))) (pa_cons (pv 2) pa_nil))))))))))))
theorem ok_l_due_piece (g : G K mg) {sp : Sp} (F : ∃ fd, FunD K "_law_due_piece" "_law_due_piece" (defArgs s_l_due_piece) (defBody s_l_due_piece) (defScope s_l_due_piece) [] [] (He.ga K "_law_due_piece") fd) (m : mg "_law_due_piece" = some (.ref (He.ga K "_law_due_piece")))
    (hsp : ∀ vs H Q E, sp vs H Q E → vs.length = 1 ∧ t_l_due_piece K { nx := fun _ H' => Q .non H', rt := Q } (start N_l_due_piece vs) H) : C8.Cal P w K mg base 1 "_law_due_piece" sp [] := by
  obtain ⟨fd, F⟩ := F
  refine ⟨_, fd, ["_law_block"], [], FunD.ok F sc_l_due_piece (fun vs H Q E h => (hsp vs H Q E h).1) (fun cdv A outer s H vs Q E hr h => ⟨_, PSs.nox (d_l_due_piece g hr), (hsp vs H Q E h).2⟩), m, F.kp, ?_, .nil⟩
  exact F.bindsN fun _ _ _ _ _ _ us hl => match us, hl with | [_], _ => rfl
abbrev s_l_reads_so : Stmt := top 15
abbrev N_l_reads_so : List Str := ["_law_block", "_law_handed"]
theorem sc_l_reads_so : FnScope N_l_reads_so ["_law_block"] (defScope s_l_reads_so) := ⟨rfl, rfl, rfl, by decide +kernel, rfl, by decide +kernel, by decide +kernel⟩
def t_l_reads_so (K : PySem.W.Frag) (sp_decode_piece : Sp) (sp_l_due_piece : Sp) : TS :=
    (tSeq (tAsg (tCB (rListOf K) (tCons (tVar 0) tNil)) (gName 1))
    (tRet (tAndV (tOp (rEqX K) (tCall sp_decode_piece [] C8.E0 (tCons (tVar 1) tNil)) (tCall sp_l_due_piece [] C8.E0 (tCons (tVar 0) tNil))) (tOp (rEqX K) (tVar 1) (tVar 0)))))
theorem d_l_reads_so (g : G K mg) {sp_decode_piece : Sp} (c_decode_piece : C8.Cal P w K mg base 2 "decode_piece" sp_decode_piece []) {sp_l_due_piece : Sp} (c_l_due_piece : C8.Cal P w K mg base 1 "_law_due_piece" sp_l_due_piece []) {f : Addr} {cdv : Value} {A : Around} {outer : List Env} {s : Shared} {H : Hp} {E : XK} (hr : Room 2 (A.deeper (envOfC "_law_reads_so" (defScope s_l_reads_so) s.heap.objs.size f cdv))) :
    PSs (cxOf CX0 P w K mg base N_l_reads_so "_law_reads_so" (defScope s_l_reads_so) f cdv A outer s H E).nox (defBody s_l_reads_so) (t_l_reads_so K sp_decode_piece sp_l_due_piece) := by
  unfold t_l_reads_so
  exact
    (pss_cons (ps_set (i := 1) sc_l_reads_so.nd rfl (by first | exact Or.inl rfl | exact Or.inr rfl) (pe_callTy c_list (by rfl) g.b_list (by decide +kernel) (pa_cons (pv 0) pa_nil)))
    (pss_one (ps_ret (pe_and (pe_cmpR (o_eq hr.units) (C8.pe_c c_decode_piece hr (by decide) rfl (pa_cons (pv 1) pa_nil)) (C8.pe_c c_l_due_piece hr (by decide) rfl (pa_cons (pv 0) pa_nil)) (nomark _)) (pe_one (pe_cmpR (o_eq hr.units) (pv 1) (pv 0) (nomark _)))))))
theorem ok_l_reads_so (g : G K mg) {sp_decode_piece : Sp} (c_decode_piece : C8.Cal P w K mg base 2 "decode_piece" sp_decode_piece []) {sp_l_due_piece : Sp} (c_l_due_piece : C8.Cal P w K mg base 1 "_law_due_piece" sp_l_due_piece []) {sp : Sp} (F : ∃ fd, FunD K "_law_reads_so" "_law_reads_so" (defArgs s_l_reads_so) (defBody s_l_reads_so) (defScope s_l_reads_so) [] [] (He.ga K "_law_reads_so") fd) (m : mg "_law_reads_so" = some (.ref (He.ga K "_law_reads_so")))
    (hsp : ∀ vs H Q E, sp vs H Q E → vs.length = 1 ∧ t_l_reads_so K sp_decode_piece sp_l_due_piece { nx := fun _ H' => Q .non H', rt := Q } (start N_l_reads_so vs) H) : C8.Cal P w K mg base 3 "_law_reads_so" sp [] := by
  obtain ⟨fd, F⟩ := F
  refine ⟨_, fd, ["_law_block"], [], FunD.ok F sc_l_reads_so (fun vs H Q E h => (hsp vs H Q E h).1) (fun cdv A outer s H vs Q E hr h => ⟨_, PSs.nox (d_l_reads_so g c_decode_piece c_l_due_piece hr), (hsp vs H Q E h).2⟩), m, F.kp, ?_, .nil⟩
  exact F.bindsN fun _ _ _ _ _ _ us hl => match us, hl with | [_], _ => rfl
abbrev s_l_torn_piece : Stmt := top 16
abbrev N_l_torn_piece : List Str := ["_law_block", "_law_zeros", "_law_many"]
theorem sc_l_torn_piece : FnScope N_l_torn_piece ["_law_block"] (defScope s_l_torn_piece) := ⟨rfl, rfl, rfl, by decide +kernel, rfl, by decide +kernel, by decide +kernel⟩
def t_l_torn_piece (K : PySem.W.Frag) (sp_decode_piece : Sp) : TS :=
    (tSeq (tAsg (tOp rTimes (tLst (tCons (tC (.int 0)) tNil)) (tC (.int 32))) (gName 1))
    (tSeq (tFor (iRng1 (tCons (tC (.int 33)) tNil)) (gName 2) (tSeq (tIfS (tTest (tOp (rNeX K) (tOp rIsNo (tCall sp_decode_piece [] C8.E0 (tCons (tOp (rPlus K) (tSl (rSlX K) (tVar 0) tNoPart (tPart (tVar 2))) (tSl (rSlX K) (tVar 1) (tPart (tVar 2)) tNoPart)) tNil)) (tC .non)) (tOp rLt (tVar 2) (tC (.int 32))))) (tRet (tC (.bl false))) tNext)
    (tIfS (tTest (tOp (rNeX K) (tOp rIsNo (tCall sp_decode_piece [] C8.E0 (tCons (tOp (rPlus K) (tSl (rSlX K) (tVar 1) tNoPart (tPart (tVar 2))) (tSl (rSlX K) (tVar 0) (tPart (tVar 2)) tNoPart)) tNil)) (tC .non)) (tOp rGt (tVar 2) (tC (.int 0))))) (tRet (tC (.bl false))) tNext)))
    (tRet (tC (.bl true)))))
theorem d_l_torn_piece (g : G K mg) {sp_decode_piece : Sp} (c_decode_piece : C8.Cal P w K mg base 2 "decode_piece" sp_decode_piece []) {f : Addr} {cdv : Value} {A : Around} {outer : List Env} {s : Shared} {H : Hp} {E : XK} (hr : Room 2 (A.deeper (envOfC "_law_torn_piece" (defScope s_l_torn_piece) s.heap.objs.size f cdv))) :
    PSs (cxOf CX0 P w K mg base N_l_torn_piece "_law_torn_piece" (defScope s_l_torn_piece) f cdv A outer s H E).nox (defBody s_l_torn_piece) (t_l_torn_piece K sp_decode_piece) := by
  unfold t_l_torn_piece
  exact
    (pss_cons (ps_set (i := 1) sc_l_torn_piece.nd rfl (by first | exact Or.inl rfl | exact Or.inr rfl) (pe_op o_times (pe_lst (pa_cons pe_int pa_nil)) pe_int))
    (pss_cons (ps_for PassesOwn.never rfl (pi_range1 rfl g.b_range (pa_cons pe_int pa_nil)) (pg_name (i := 2) sc_l_torn_piece.nd rfl (by first | exact Or.inl rfl | exact Or.inr rfl)) (pss_cons (ps_if (pt_cmpR (o_ne hr.units) (pe_cmpR o_is (C8.pe_c c_decode_piece hr (by decide) rfl (pa_cons (pe_op o_plus (pe_slice sl_any (pv 0) po_none (po_some (pv 2))) (pe_slice sl_any (pv 1) (po_some (pv 2)) po_none)) pa_nil)) pe_non (nomark _)) (pe_cmpR o_lt (pv 2) pe_int (nomark _)) (nomark _)) (pss_one (ps_ret pe_bl)) pss_nil)
    (pss_one (ps_if (pt_cmpR (o_ne hr.units) (pe_cmpR o_is (C8.pe_c c_decode_piece hr (by decide) rfl (pa_cons (pe_op o_plus (pe_slice sl_any (pv 1) po_none (po_some (pv 2))) (pe_slice sl_any (pv 0) (po_some (pv 2)) po_none)) pa_nil)) pe_non (nomark _)) (pe_cmpR o_gt (pv 2) pe_int (nomark _)) (nomark _)) (pss_one (ps_ret pe_bl)) pss_nil))))
    (pss_one (ps_ret pe_bl))))
theorem ok_l_torn_piece (g : G K mg) {sp_decode_piece : Sp} (c_decode_piece : C8.Cal P w K mg base 2 "decode_piece" sp_decode_piece []) {sp : Sp} (F : ∃ fd, FunD K "_law_torn_piece" "_law_torn_piece" (defArgs s_l_torn_piece) (defBody s_l_torn_piece) (defScope s_l_torn_piece) [] [] (He.ga K "_law_torn_piece") fd) (m : mg "_law_torn_piece" = some (.ref (He.ga K "_law_torn_piece")))
    (hsp : ∀ vs H Q E, sp vs H Q E → vs.length = 1 ∧ t_l_torn_piece K sp_decode_piece { nx := fun _ H' => Q .non H', rt := Q } (start N_l_torn_piece vs) H) : C8.Cal P w K mg base 3 "_law_torn_piece" sp [] := by
  obtain ⟨fd, F⟩ := F
  refine ⟨_, fd, ["_law_block"], [], FunD.ok F sc_l_torn_piece (fun vs H Q E h => (hsp vs H Q E h).1) (fun cdv A outer s H vs Q E hr h => ⟨_, PSs.nox (d_l_torn_piece g c_decode_piece hr), (hsp vs H Q E h).2⟩), m, F.kp, ?_, .nil⟩
  exact F.bindsN fun _ _ _ _ _ _ us hl => match us, hl with | [_], _ => rfl
abbrev s_law : Stmt := top 17
abbrev N_law : List Str := ["_law_script", "_law_box", "_law_turn", "_law_number", "_law_rows", "_law_block", "_law_step", "_law_other", "_law_k"]
theorem sc_law : FnScope N_law ["_law_script"] (defScope s_law) := ⟨rfl, rfl, rfl, by decide +kernel, rfl, by decide +kernel, by decide +kernel⟩
def t_law (K : PySem.W.Frag) (sp_l_reads_so : Sp) (sp_l_draw : Sp) (sp_l_torn_piece : Sp) (sp_l_pieces : Sp) (sp_l_signs : Sp) (sp_l_digits : Sp) : TS :=
    (tSeq (tAsg (tLst (tCons (tCall sp_l_digits [] C8.E0 (tCons (tVar 0) (tCons (tC (.int 0)) (tCons (tC (.int 63)) tNil)))) (tCons (tC (.int 0)) tNil))) (gName 1))
    (tSeq (tFor (iRng1 (tCons (tC (.int 10)) tNil)) (gName 2) (tSeq (tAsg (tOp rMod (tCB (rIntX) (tCons (tOp (rPlus K) (tOp rTimes (tCall sp_l_draw [] C8.E0 (tCons (tVar 1) (tCons (tC (.int 66)) tNil))) (tC (.int 1000))) (tCall sp_l_draw [] C8.E0 (tCons (tVar 1) (tCons (tC (.int 1000)) tNil)))) tNil)) (tC (.int 65536))) (gName 3))
    (tSeq (tAsg (tCall sp_l_pieces [] C8.E0 (tCons (tVar 3) (tCons (tCall sp_l_signs [] C8.E0 (tCons (tVar 1) (tCons (tOp (rPlus K) (tC (.int 1)) (tCall sp_l_draw [] C8.E0 (tCons (tVar 1) (tCons (tC (.int 60)) tNil)))) tNil))) tNil))) (gName 4))
    (tSeq (tAsg (tOp (rIx K) (tVar 4) (tCall sp_l_draw [] C8.E0 (tCons (tVar 1) (tCons (tCB (rLenX K) (tCons (tVar 4) tNil)) tNil)))) (gName 5))
    (tSeq (tIfS (tNot (tTruX K (tCall sp_l_torn_piece [] C8.E0 (tCons (tVar 5) tNil)))) (tRet (tC (.bl false))) tNext)
    (tSeq (tFor (iRng1 (tCons (tCall sp_l_draw [] C8.E0 (tCons (tVar 1) (tCons (tC (.int 3)) tNil))) tNil)) (gName 6) (tAsg (tOp (rIx K) (tLst (tCons (tC (.int 0)) (tCons (tC (.int 10)) (tCons (tC (.int 11)) (tCons (tC (.int 24)) (tCons (tC (.int 31)) (tCons (tC (.int 32)) (tCons (tC (.int 37)) (tCons (tC (.int 72)) (tCons (tC (.int 80)) (tCons (tC (.int 83)) (tCons (tC (.int 126)) (tCons (tC (.int 127)) (tCons (tC (.int 255)) (tCons (tCall sp_l_draw [] C8.E0 (tCons (tVar 1) (tCons (tC (.int 256)) tNil))) tNil))))))))))))))) (tCall sp_l_draw [] C8.E0 (tCons (tVar 1) (tCons (tC (.int 14)) tNil)))) (gSub (tVar 5) (tCall sp_l_draw [] C8.E0 (tCons (tVar 1) (tCons (tC (.int 32)) tNil))) rSetL)))
    (tSeq (tAsg (tLc (iRng1 (tCons (tC (.int 32)) tNil)) (gName 8) tYes (tCall sp_l_draw [] C8.E0 (tCons (tVar 1) (tCons (tC (.int 256)) tNil))) [8]) (gName 7))
    (tSeq (tAsg (tC (.int 83)) (gSub (tVar 7) (tC (.int 0)) rSetL))
    (tSeq (tAsg (tC (.int 83)) (gSub (tVar 7) (tC (.int 31)) rSetL))
    (tIfS (tOr (tNot (tTruX K (tCall sp_l_reads_so [] C8.E0 (tCons (tVar 5) tNil)))) (tNot (tTruX K (tCall sp_l_reads_so [] C8.E0 (tCons (tVar 7) tNil))))) (tRet (tC (.bl false))) tNext))))))))))
    (tRet (tCall sp_l_reads_so [] C8.E0 (tCons (tOp rTimes (tLst (tCons (tC (.int 0)) tNil)) (tC (.int 32))) tNil)))))
theorem d_law (g : G K mg) {sp_l_reads_so : Sp} (c_l_reads_so : C8.Cal P w K mg base 3 "_law_reads_so" sp_l_reads_so []) {sp_l_draw : Sp} (c_l_draw : C8.Cal P w K mg base 1 "_law_draw" sp_l_draw []) {sp_l_torn_piece : Sp} (c_l_torn_piece : C8.Cal P w K mg base 3 "_law_torn_piece" sp_l_torn_piece []) {sp_l_pieces : Sp} (c_l_pieces : C8.Cal P w K mg base 1 "_law_pieces" sp_l_pieces []) {sp_l_signs : Sp} (c_l_signs : C8.Cal P w K mg base 2 "_law_signs" sp_l_signs []) {sp_l_digits : Sp} (c_l_digits : C8.Cal P w K mg base 2 "_law_digits" sp_l_digits []) {f : Addr} {cdv : Value} {A : Around} {outer : List Env} {s : Shared} {H : Hp} {E : XK} (hr : Room 3 (A.deeper (envOfC "law" (defScope s_law) s.heap.objs.size f cdv))) :
    PSs (cxOf CX0 P w K mg base N_law "law" (defScope s_law) f cdv A outer s H E).nox (defBody s_law) (t_law K sp_l_reads_so sp_l_draw sp_l_torn_piece sp_l_pieces sp_l_signs sp_l_digits) := by
  unfold t_law
  exact
    (pss_cons (ps_set (i := 1) sc_law.nd rfl (by first | exact Or.inl rfl | exact Or.inr rfl) (pe_lst (pa_cons (C8.pe_c c_l_digits hr (by decide) rfl (pa_cons (pv 0) (pa_cons pe_int (pa_cons pe_int pa_nil)))) (pa_cons pe_int pa_nil))))
    (pss_cons (ps_for PassesOwn.never rfl (pi_range1 rfl g.b_range (pa_cons pe_int pa_nil)) (pg_name (i := 2) sc_law.nd rfl (by first | exact Or.inl rfl | exact Or.inr rfl)) (pss_cons (ps_set (i := 3) sc_law.nd rfl (by first | exact Or.inl rfl | exact Or.inr rfl) (pe_op o_mod (pe_callTy c_int (by rfl) g.b_int (by decide +kernel) (pa_cons (pe_op o_plus (pe_op o_times (C8.pe_c c_l_draw hr (by decide) rfl (pa_cons (pv 1) (pa_cons pe_int pa_nil))) pe_int) (C8.pe_c c_l_draw hr (by decide) rfl (pa_cons (pv 1) (pa_cons pe_int pa_nil)))) pa_nil)) pe_int))
    (pss_cons (ps_set (i := 4) sc_law.nd rfl (by first | exact Or.inl rfl | exact Or.inr rfl) (C8.pe_c c_l_pieces hr (by decide) rfl (pa_cons (pv 3) (pa_cons (C8.pe_c c_l_signs hr (by decide) rfl (pa_cons (pv 1) (pa_cons (pe_op o_plus pe_int (C8.pe_c c_l_draw hr (by decide) rfl (pa_cons (pv 1) (pa_cons pe_int pa_nil)))) pa_nil))) pa_nil))))
    (pss_cons (ps_set (i := 5) sc_law.nd rfl (by first | exact Or.inl rfl | exact Or.inr rfl) (pe_ix ix_seq (pv 4) (C8.pe_c c_l_draw hr (by decide) rfl (pa_cons (pv 1) (pa_cons (pe_callB c_len (by rfl) g.b_len (by decide +kernel) (pa_cons (pv 4) pa_nil)) pa_nil))) (fun _ _ => rfl)))
    (pss_cons (ps_if (pt_not (pt_tru (C8.pe_c c_l_torn_piece hr (by decide) rfl (pa_cons (pv 5) pa_nil)))) (pss_one (ps_ret pe_bl)) pss_nil)
    (pss_cons (ps_for PassesOwn.never rfl (pi_range1 rfl g.b_range (pa_cons (C8.pe_c c_l_draw hr (by decide) rfl (pa_cons (pv 1) (pa_cons pe_int pa_nil))) pa_nil)) (pg_name (i := 6) sc_law.nd rfl (by first | exact Or.inl rfl | exact Or.inr rfl)) (pss_one (ps_asg (pe_ix ix_seq (pe_lst (pa_cons pe_int (pa_cons pe_int (pa_cons pe_int (pa_cons pe_int (pa_cons pe_int (pa_cons pe_int (pa_cons pe_int (pa_cons pe_int (pa_cons pe_int (pa_cons pe_int (pa_cons pe_int (pa_cons pe_int (pa_cons pe_int (pa_cons (C8.pe_c c_l_draw hr (by decide) rfl (pa_cons (pv 1) (pa_cons pe_int pa_nil))) pa_nil))))))))))))))) (C8.pe_c c_l_draw hr (by decide) rfl (pa_cons (pv 1) (pa_cons pe_int pa_nil))) (fun _ _ => rfl)) (pg_sub (pv 5) (C8.pe_c c_l_draw hr (by decide) rfl (pa_cons (pv 1) (pa_cons pe_int pa_nil))) set_list))))
    (pss_cons (ps_setLc (own := [("_law_k", 8)]) (tt := tYes) (i := 7) rfl sc_law.nd rfl rfl (sw_true rfl rfl rfl (by decide +kernel)) (pi_range1 rfl g.b_range (pa_cons pe_int pa_nil)) (blkOk_by (N := N_law) (sc := defScope s_law) (by decide +kernel)) (fun _ _ _ _ _ => (pg_name (i := 8) sc_law.nd rfl (by first | exact Or.inl rfl | exact Or.inr rfl))) (fun _ _ _ _ _ => pts_nil) (fun _ _ _ _ _ => (C8.pe_c c_l_draw hr (by decide) rfl (pa_cons (pv 1) (pa_cons pe_int pa_nil)))))
    (pss_cons (ps_asg pe_int (pg_sub (pv 7) pe_int set_list))
    (pss_cons (ps_asg pe_int (pg_sub (pv 7) pe_int set_list))
    (pss_one (ps_if (PW.pt (pw_or (pt_not (pt_tru (C8.pe_c c_l_reads_so hr (by decide) rfl (pa_cons (pv 5) pa_nil)))) (pw_or1 (pt_not (pt_tru (C8.pe_c c_l_reads_so hr (by decide) rfl (pa_cons (pv 7) pa_nil))))))) (pss_one (ps_ret pe_bl)) pss_nil)))))))))))
    (pss_one (ps_ret (C8.pe_c c_l_reads_so hr (by decide) rfl (pa_cons (pe_op o_times (pe_lst (pa_cons pe_int pa_nil)) pe_int) pa_nil))))))
theorem ok_law (g : G K mg) {sp_l_reads_so : Sp} (c_l_reads_so : C8.Cal P w K mg base 3 "_law_reads_so" sp_l_reads_so []) {sp_l_draw : Sp} (c_l_draw : C8.Cal P w K mg base 1 "_law_draw" sp_l_draw []) {sp_l_torn_piece : Sp} (c_l_torn_piece : C8.Cal P w K mg base 3 "_law_torn_piece" sp_l_torn_piece []) {sp_l_pieces : Sp} (c_l_pieces : C8.Cal P w K mg base 1 "_law_pieces" sp_l_pieces []) {sp_l_signs : Sp} (c_l_signs : C8.Cal P w K mg base 2 "_law_signs" sp_l_signs []) {sp_l_digits : Sp} (c_l_digits : C8.Cal P w K mg base 2 "_law_digits" sp_l_digits []) {sp : Sp} (F : ∃ fd, FunD K "law" "law" (defArgs s_law) (defBody s_law) (defScope s_law) [] [] (He.ga K "law") fd) (m : mg "law" = some (.ref (He.ga K "law")))
    (hsp : ∀ vs H Q E, sp vs H Q E → vs.length = 1 ∧ t_law K sp_l_reads_so sp_l_draw sp_l_torn_piece sp_l_pieces sp_l_signs sp_l_digits { nx := fun _ H' => Q .non H', rt := Q } (start N_law vs) H) : C8.Cal P w K mg base 4 "law" sp [] := by
  obtain ⟨fd, F⟩ := F
  refine ⟨_, fd, ["_law_script"], [], FunD.ok F sc_law (fun vs H Q E h => (hsp vs H Q E h).1) (fun cdv A outer s H vs Q E hr h => ⟨_, PSs.nox (d_law g c_l_reads_so c_l_draw c_l_torn_piece c_l_pieces c_l_signs c_l_digits hr), (hsp vs H Q E h).2⟩), m, F.kp, ?_, .nil⟩
  exact F.bindsN fun _ _ _ _ _ _ us hl => match us, hl with | [_], _ => rfl
end
def hd_are_codes : He.DefD := ⟨("_are_codes", none), "_are_codes", "_are_codes", defArgs s_are_codes, defBody s_are_codes, defScope s_are_codes, [], []⟩
def hd_sign : He.DefD := ⟨("_sign", none), "_sign", "_sign", defArgs s_sign, defBody s_sign, defScope s_sign, [], []⟩
def hd_decode_piece : He.DefD := ⟨("decode_piece", none), "decode_piece", "decode_piece", defArgs s_decode_piece, defBody s_decode_piece, defScope s_decode_piece, [], []⟩
def hd_l_cell : He.DefD := ⟨("_law_cell", none), "_law_cell", "_law_cell", defArgs s_l_cell, defBody s_l_cell, defScope s_l_cell, [], []⟩
def hd_l_digits : He.DefD := ⟨("_law_digits", none), "_law_digits", "_law_digits", defArgs s_l_digits, defBody s_l_digits, defScope s_l_digits, [], []⟩
def hd_l_draw : He.DefD := ⟨("_law_draw", none), "_law_draw", "_law_draw", defArgs s_l_draw, defBody s_l_draw, defScope s_l_draw, [], []⟩
def hd_l_pieces : He.DefD := ⟨("_law_pieces", none), "_law_pieces", "_law_pieces", defArgs s_l_pieces, defBody s_l_pieces, defScope s_l_pieces, [], []⟩
def hd_l_signs : He.DefD := ⟨("_law_signs", none), "_law_signs", "_law_signs", defArgs s_l_signs, defBody s_l_signs, defScope s_l_signs, [], []⟩
def hd_l_due_piece : He.DefD := ⟨("_law_due_piece", none), "_law_due_piece", "_law_due_piece", defArgs s_l_due_piece, defBody s_l_due_piece, defScope s_l_due_piece, [], []⟩
def hd_l_reads_so : He.DefD := ⟨("_law_reads_so", none), "_law_reads_so", "_law_reads_so", defArgs s_l_reads_so, defBody s_l_reads_so, defScope s_l_reads_so, [], []⟩
def hd_l_torn_piece : He.DefD := ⟨("_law_torn_piece", none), "_law_torn_piece", "_law_torn_piece", defArgs s_l_torn_piece, defBody s_l_torn_piece, defScope s_l_torn_piece, [], []⟩
def hd_law : He.DefD := ⟨("law", none), "law", "law", defArgs s_law, defBody s_law, defScope s_law, [], []⟩
def hfn : List He.DefD := [hd_are_codes, hd_sign, hd_decode_piece, hd_l_cell, hd_l_digits, hd_l_draw, hd_l_pieces, hd_l_signs, hd_l_due_piece, hd_l_reads_so, hd_l_torn_piece, hd_law]
def hfa : List He.Fa := [.int "PERCENT" 37, .str "SIGNS" " !\"#$&'()*+,-./0123456789:;<=>?@ABCDEFGHIJKLMNOPQRSTUVWXYZ[\\]^_`abcdefghijklmnopqrstuvwxyz{|}~", .int "PIECE" 24, .free "any", .int "RECORD" 83, .free "len", .free "range", .free "int", .free "ord", .free "list", .glo "_are_codes", .glo "_sign", .glo "decode_piece", .glo "_law_cell", .glo "_law_digits", .glo "_law_draw", .glo "_law_pieces", .glo "_law_signs", .glo "_law_due_piece", .glo "_law_reads_so", .glo "_law_torn_piece", .glo "law"]
abbrev R : PySem.W.OpenRow := PySem.W.OpenLaw.row PySem.Challenge.rw_sameasnew_k44_any_block_is_read_so
theorem mk_G {K : PySem.W.Frag} {h : Heap} {mg : Str → Option Value} (X : K.In h) (N : h.Ns mainGlobals mg) (c : He.SaysD hfa hfn K) : G K mg where
  c_PERCENT := (let ⟨t, h⟩ := He.int_ok X N (c.fact 0 (f := .int "PERCENT" 37) rfl); ⟨_, h, t, rfl⟩)
  c_SIGNS := (let ⟨t, h⟩ := He.str_ok X N (c.fact 1 (f := .str "SIGNS" " !\"#$&'()*+,-./0123456789:;<=>?@ABCDEFGHIJKLMNOPQRSTUVWXYZ[\\]^_`abcdefghijklmnopqrstuvwxyz{|}~") rfl); ⟨_, h, t, rfl⟩)
  c_PIECE := (let ⟨t, h⟩ := He.int_ok X N (c.fact 2 (f := .int "PIECE" 24) rfl); ⟨_, h, t, rfl⟩)
  b_any := He.free_ok X N (c.fact 3 (f := .free "any") rfl)
  c_RECORD := (let ⟨t, h⟩ := He.int_ok X N (c.fact 4 (f := .int "RECORD" 83) rfl); ⟨_, h, t, rfl⟩)
  b_len := He.free_ok X N (c.fact 5 (f := .free "len") rfl)
  b_range := He.free_ok X N (c.fact 6 (f := .free "range") rfl)
  b_int := He.free_ok X N (c.fact 7 (f := .free "int") rfl)
  b_ord := He.free_ok X N (c.fact 8 (f := .free "ord") rfl)
  b_list := He.free_ok X N (c.fact 9 (f := .free "list") rfl)
theorem fd_are_codes {K : PySem.W.Frag} (c : He.SaysD hfa hfn K) : ∃ fd, FunD K "_are_codes" "_are_codes" (defArgs s_are_codes) (defBody s_are_codes) (defScope s_are_codes) [] [] (He.ga K "_are_codes") fd := c.def_ 0 (d := hd_are_codes) rfl
theorem mg_are_codes {K : PySem.W.Frag} {h : Heap} {mg : Str → Option Value} (X : K.In h) (N : h.Ns mainGlobals mg) (c : He.SaysD hfa hfn K) : mg "_are_codes" = some (.ref (He.ga K "_are_codes")) := He.glo_ok X N (c.fact 10 (f := .glo "_are_codes") rfl)
theorem fd_sign {K : PySem.W.Frag} (c : He.SaysD hfa hfn K) : ∃ fd, FunD K "_sign" "_sign" (defArgs s_sign) (defBody s_sign) (defScope s_sign) [] [] (He.ga K "_sign") fd := c.def_ 1 (d := hd_sign) rfl
theorem mg_sign {K : PySem.W.Frag} {h : Heap} {mg : Str → Option Value} (X : K.In h) (N : h.Ns mainGlobals mg) (c : He.SaysD hfa hfn K) : mg "_sign" = some (.ref (He.ga K "_sign")) := He.glo_ok X N (c.fact 11 (f := .glo "_sign") rfl)
theorem fd_decode_piece {K : PySem.W.Frag} (c : He.SaysD hfa hfn K) : ∃ fd, FunD K "decode_piece" "decode_piece" (defArgs s_decode_piece) (defBody s_decode_piece) (defScope s_decode_piece) [] [] (He.ga K "decode_piece") fd := c.def_ 2 (d := hd_decode_piece) rfl
theorem mg_decode_piece {K : PySem.W.Frag} {h : Heap} {mg : Str → Option Value} (X : K.In h) (N : h.Ns mainGlobals mg) (c : He.SaysD hfa hfn K) : mg "decode_piece" = some (.ref (He.ga K "decode_piece")) := He.glo_ok X N (c.fact 12 (f := .glo "decode_piece") rfl)
theorem fd_l_cell {K : PySem.W.Frag} (c : He.SaysD hfa hfn K) : ∃ fd, FunD K "_law_cell" "_law_cell" (defArgs s_l_cell) (defBody s_l_cell) (defScope s_l_cell) [] [] (He.ga K "_law_cell") fd := c.def_ 3 (d := hd_l_cell) rfl
theorem mg_l_cell {K : PySem.W.Frag} {h : Heap} {mg : Str → Option Value} (X : K.In h) (N : h.Ns mainGlobals mg) (c : He.SaysD hfa hfn K) : mg "_law_cell" = some (.ref (He.ga K "_law_cell")) := He.glo_ok X N (c.fact 13 (f := .glo "_law_cell") rfl)
theorem fd_l_digits {K : PySem.W.Frag} (c : He.SaysD hfa hfn K) : ∃ fd, FunD K "_law_digits" "_law_digits" (defArgs s_l_digits) (defBody s_l_digits) (defScope s_l_digits) [] [] (He.ga K "_law_digits") fd := c.def_ 4 (d := hd_l_digits) rfl
theorem mg_l_digits {K : PySem.W.Frag} {h : Heap} {mg : Str → Option Value} (X : K.In h) (N : h.Ns mainGlobals mg) (c : He.SaysD hfa hfn K) : mg "_law_digits" = some (.ref (He.ga K "_law_digits")) := He.glo_ok X N (c.fact 14 (f := .glo "_law_digits") rfl)
theorem fd_l_draw {K : PySem.W.Frag} (c : He.SaysD hfa hfn K) : ∃ fd, FunD K "_law_draw" "_law_draw" (defArgs s_l_draw) (defBody s_l_draw) (defScope s_l_draw) [] [] (He.ga K "_law_draw") fd := c.def_ 5 (d := hd_l_draw) rfl
theorem mg_l_draw {K : PySem.W.Frag} {h : Heap} {mg : Str → Option Value} (X : K.In h) (N : h.Ns mainGlobals mg) (c : He.SaysD hfa hfn K) : mg "_law_draw" = some (.ref (He.ga K "_law_draw")) := He.glo_ok X N (c.fact 15 (f := .glo "_law_draw") rfl)
theorem fd_l_pieces {K : PySem.W.Frag} (c : He.SaysD hfa hfn K) : ∃ fd, FunD K "_law_pieces" "_law_pieces" (defArgs s_l_pieces) (defBody s_l_pieces) (defScope s_l_pieces) [] [] (He.ga K "_law_pieces") fd := c.def_ 6 (d := hd_l_pieces) rfl
theorem mg_l_pieces {K : PySem.W.Frag} {h : Heap} {mg : Str → Option Value} (X : K.In h) (N : h.Ns mainGlobals mg) (c : He.SaysD hfa hfn K) : mg "_law_pieces" = some (.ref (He.ga K "_law_pieces")) := He.glo_ok X N (c.fact 16 (f := .glo "_law_pieces") rfl)
theorem fd_l_signs {K : PySem.W.Frag} (c : He.SaysD hfa hfn K) : ∃ fd, FunD K "_law_signs" "_law_signs" (defArgs s_l_signs) (defBody s_l_signs) (defScope s_l_signs) [] [] (He.ga K "_law_signs") fd := c.def_ 7 (d := hd_l_signs) rfl
theorem mg_l_signs {K : PySem.W.Frag} {h : Heap} {mg : Str → Option Value} (X : K.In h) (N : h.Ns mainGlobals mg) (c : He.SaysD hfa hfn K) : mg "_law_signs" = some (.ref (He.ga K "_law_signs")) := He.glo_ok X N (c.fact 17 (f := .glo "_law_signs") rfl)
theorem fd_l_due_piece {K : PySem.W.Frag} (c : He.SaysD hfa hfn K) : ∃ fd, FunD K "_law_due_piece" "_law_due_piece" (defArgs s_l_due_piece) (defBody s_l_due_piece) (defScope s_l_due_piece) [] [] (He.ga K "_law_due_piece") fd := c.def_ 8 (d := hd_l_due_piece) rfl
theorem mg_l_due_piece {K : PySem.W.Frag} {h : Heap} {mg : Str → Option Value} (X : K.In h) (N : h.Ns mainGlobals mg) (c : He.SaysD hfa hfn K) : mg "_law_due_piece" = some (.ref (He.ga K "_law_due_piece")) := He.glo_ok X N (c.fact 18 (f := .glo "_law_due_piece") rfl)
theorem fd_l_reads_so {K : PySem.W.Frag} (c : He.SaysD hfa hfn K) : ∃ fd, FunD K "_law_reads_so" "_law_reads_so" (defArgs s_l_reads_so) (defBody s_l_reads_so) (defScope s_l_reads_so) [] [] (He.ga K "_law_reads_so") fd := c.def_ 9 (d := hd_l_reads_so) rfl
theorem mg_l_reads_so {K : PySem.W.Frag} {h : Heap} {mg : Str → Option Value} (X : K.In h) (N : h.Ns mainGlobals mg) (c : He.SaysD hfa hfn K) : mg "_law_reads_so" = some (.ref (He.ga K "_law_reads_so")) := He.glo_ok X N (c.fact 19 (f := .glo "_law_reads_so") rfl)
theorem fd_l_torn_piece {K : PySem.W.Frag} (c : He.SaysD hfa hfn K) : ∃ fd, FunD K "_law_torn_piece" "_law_torn_piece" (defArgs s_l_torn_piece) (defBody s_l_torn_piece) (defScope s_l_torn_piece) [] [] (He.ga K "_law_torn_piece") fd := c.def_ 10 (d := hd_l_torn_piece) rfl
theorem mg_l_torn_piece {K : PySem.W.Frag} {h : Heap} {mg : Str → Option Value} (X : K.In h) (N : h.Ns mainGlobals mg) (c : He.SaysD hfa hfn K) : mg "_law_torn_piece" = some (.ref (He.ga K "_law_torn_piece")) := He.glo_ok X N (c.fact 20 (f := .glo "_law_torn_piece") rfl)
theorem fd_law {K : PySem.W.Frag} (c : He.SaysD hfa hfn K) : ∃ fd, FunD K "law" "law" (defArgs s_law) (defBody s_law) (defScope s_law) [] [] (He.ga K "law") fd := c.def_ 11 (d := hd_law) rfl
theorem mg_law {K : PySem.W.Frag} {h : Heap} {mg : Str → Option Value} (X : K.In h) (N : h.Ns mainGlobals mg) (c : He.SaysD hfa hfn K) : mg "law" = some (.ref (He.ga K "law")) := He.glo_ok X N (c.fact 21 (f := .glo "law") rfl)
end K44

/-! k44: what the defs compute -/
namespace K44
open PySem PySem.Spec PyProof.Rows L2 Lg
local macro_rules | `(tactic| walk_at "ar") => `(tactic| first | omega | (simp; done) | (simp; omega) | (simp only [S_len]; omega))
local macro_rules | `(tactic| walk_at "gt") => `(tactic| repeat (first | exact GetAt.here | apply GetAt.there))
local macro_rules | `(tactic| walk_at "st") => `(tactic| repeat (first | exact SetAt.here | apply SetAt.there))
local macro_rules | `(tactic| walk_at "mem") => `(tactic| first | assumption | exact List.mem_cons_self | (apply List.mem_cons_of_mem; walk_at "mem"))
local macro_rules | `(tactic| walk_at "put") => `(tactic| repeat (first | exact Put.here | apply Put.there))
local macro_rules | `(tactic| walk_at "rem") => `(tactic| repeat (first | exact Rem.here | apply Rem.there))
local macro_rules | `(tactic| walk_at "pick") => `(tactic| first | exact Pick.refl | exact Pick.cons (by walk_at "rem") (by walk_at "pick") | (apply Pick.drop; walk_at "pick") | exact Pick.nil)
local macro_rules | `(tactic| walk_at "is") => `(tactic| first | exact Is.int | exact Is.str | exact Is.bl | exact Is.non | assumption | exact Is.dat (by walk_at "mem") | (apply Is.cons; walk_at "is"))
local macro_rules | `(tactic| walk_at "isall") => `(tactic| first | exact IsAll.nil | exact IsAll.cons (by walk_at "is") (by walk_at "isall"))
local macro_rules | `(tactic| walk_at "lsin") => `(tactic| first | assumption | exact LsIn.own (by walk_at "mem") | exact LsIn.dat (by walk_at "mem") | (apply LsIn.cons; walk_at "lsin"))
local macro_rules | `(tactic| walk_at "see") => `(tactic| first | exact See.own (by walk_at "mem") | exact See.is (by walk_at "is"))
local macro_rules | `(tactic| walk_at "w1") => `(tactic| first
  | (with_reducible apply Lg.w_seq)
  | (with_reducible apply Lg.w_asg)
  | ((with_reducible show gName _ _ _ _ _); (with_reducible refine Lg.w_name (by walk_at "st") ?_))
  | ((with_reducible show tVar _ _ _ _); (with_reducible refine Lg.w_var (by walk_at "gt") ?_))
  | (with_reducible apply Lg.w_c)
  | (with_reducible apply Lg.w_op)
  | (with_reducible apply Lg.w_un)
  | (with_reducible apply Lg.w_nil)
  | (with_reducible apply Lg.w_cons)
  | (with_reducible apply Lg.w_call)
  | (with_reducible apply Lg.w_cb)
  | (with_reducible apply Lg.w_tup)
  | (with_reducible apply Lg.w_lst)
  | (with_reducible apply Lg.w_bm)
  | (with_reducible apply Lg.w_bm0)
  | (with_reducible apply Lg.w_sl)
  | (with_reducible apply Lg.w_nopart)
  | (with_reducible apply Lg.w_part)
  | (with_reducible apply Lg.w_isint)
  | (with_reducible apply Lg.w_test)
  | (with_reducible apply Lg.w_tB)
  | (with_reducible apply Lg.w_isbl')
  | (with_reducible apply Lg.w_not)
  | (with_reducible apply Lg.w_tru)
  | (with_reducible apply Lg.w_truI)
  | (with_reducible apply Lg.w_truB)
  | (with_reducible apply Lg.w_ifs)
  | (with_reducible apply Lg.w_next)
  | (with_reducible apply Lg.w_break)
  | (with_reducible apply Lg.w_cont)
  | (with_reducible apply Lg.w_ret)
  | (with_reducible apply Lg.w_retn)
  | (with_reducible apply Lg.w_drop)
  | (with_reducible apply Lg.w_sub)
  | (with_reducible apply Lg.w_gnil)
  | (with_reducible apply Lg.w_gcons)
  | (with_reducible apply Lg.w_ifT)
  | (with_reducible apply Lg.w_ifF)
  | (with_reducible apply Lg.w_add)
  | (with_reducible apply Lg.w_sub2)
  | ((with_reducible show rTimes (V.int _) (V.int _) _ _); (with_reducible refine Lg.w_mulR (by omega) ?_))
  | ((with_reducible show rTimes (V.int _) (V.int _) _ _); (with_reducible refine Lg.w_mulL (by omega) ?_))
  | ((with_reducible show rMod (V.int _) (V.int _) _ _); (with_reducible refine Lg.w_mod (by first | decide | omega) ?_))
  | ((with_reducible show rFdiv (V.int _) (V.int _) _ _); (with_reducible refine Lg.w_fdiv (by first | decide | omega) ?_))
  | (with_reducible apply Lg.w_band)
  | (with_reducible apply Lg.w_lt)
  | (with_reducible apply Lg.w_le)
  | (with_reducible apply Lg.w_gt)
  | (with_reducible apply Lg.w_ge)
  | (with_reducible apply Lg.w_eqI)
  | (with_reducible apply Lg.w_neI)
  | (with_reducible apply Lg.w_eqSS)
  | (with_reducible apply Lg.w_eqS)
  | (with_reducible apply Lg.w_neS)
  | (with_reducible apply Lg.w_isN)
  | (with_reducible apply Lg.w_isR)
  | (with_reducible apply Lg.w_isI)
  | (with_reducible apply Lg.w_isS)
  | (with_reducible apply Lg.w_nsN)
  | (with_reducible apply Lg.w_nsR)
  | (with_reducible apply Lg.w_nsI)
  | (with_reducible apply Lg.w_nsS)
  | (with_reducible apply Lg.w_int)
  | (with_reducible apply Lg.w_intb)
  | (with_reducible apply Lg.w_ord1)
  | (with_reducible apply Lg.w_tyS)
  | (with_reducible apply Lg.w_inSg)
  | (with_reducible apply Lg.w_ninSg)
  | ((with_reducible show NewL _ _ _); (with_reducible refine Lg.w_newL (by assumption) (by walk_at "isall") (by simp) ?_); (intro p' H' hS'))
  | ((with_reducible show NewT _ _ _); (with_reducible refine Lg.w_newT (by assumption) (by walk_at "isall") (by simp) ?_); (intro p' H' hS'))
  | ((with_reducible show TyThen _ _ (V.ref _) _ _); (with_reducible refine Lg.w_tyL (by assumption) (by walk_at "lsin") ?_))
  | ((with_reducible show rLenX _ [V.ref _] _ _); (with_reducible refine Lg.w_lenL (by assumption) (by walk_at "lsin") ?_))
  | ((with_reducible show rLenX _ [V.ref _] _ _); (with_reducible refine Lg.w_lenT (by assumption) (by walk_at "is") ?_))
  | ((with_reducible show spDraw _ _ _ _ _); (with_reducible refine Lg.w_draw (by assumption) (by walk_at "mem") (by first | decide | omega) ?_); (intro k' H' hk0' hk1' hS'))
  | ((with_reducible show rSlX _ (V.ref _) _ _ _ _); (with_reducible refine Lg.w_slL (by assumption) (by walk_at "lsin") ?_); (intro p' H' hS'))
  | ((with_reducible show rListOf _ [V.ref _] _ _); (with_reducible refine Lg.w_listL (by assumption) (by walk_at "lsin") ?_); (intro p' H' hS'))
  | (with_reducible apply Lg.w_for)
  | (with_reducible apply Lg.w_lc)
  | ((with_reducible show iAny _ (tVar _) _ _ _); (with_reducible refine Lg.w_anyVar (by walk_at "gt") ?_))
  | (with_reducible apply Lg.w_anyC)
  | (with_reducible apply Lg.w_vS)
  | (with_reducible apply Lg.w_itS)
  | ((with_reducible show AnyV _ (V.ref _) _ _); (with_reducible refine Lg.w_vL (by assumption) (by walk_at "lsin") ?_))
  | ((with_reducible show AnyL _ (V.ref _) _ _); (with_reducible refine Lg.w_itL (by assumption) (by walk_at "lsin") ?_))
  | ((with_reducible show AnyV _ (V.ref _) _ _); (with_reducible refine Lg.w_vT (by assumption) (by walk_at "is") ?_))
  | ((with_reducible show AnyT _ (V.ref _) _ _); (with_reducible refine Lg.w_itT (by assumption) (by walk_at "is") ?_))
  | ((with_reducible show Enu _ [V.ref _] _ _); (with_reducible refine Lg.w_itE (by assumption) (by walk_at "lsin") ?_))
  | ((with_reducible show rPlus _ (V.ref _) (V.ref _) _ _); (with_reducible refine Lg.w_plusL (by assumption) (by walk_at "lsin") (by walk_at "lsin") (by walk_at "ar") ?_); (intro p' H' hS'))
  | ((with_reducible show rTimes (V.ref _) (V.int _) _ _); (with_reducible refine Lg.w_repLs (by assumption) (by walk_at "lsin") (by walk_at "ar") (by walk_at "ar") (by walk_at "ar") ?_); (intro p' H' hS'))
  | ((with_reducible show rLenX _ [V.str (S _)] _ _); (with_reducible refine Lg.w_lenSS (by walk_at "ar") ?_))
  | ((with_reducible show rLenX _ [V.str _] _ _); (with_reducible refine Lg.w_lenS (by walk_at "ar") ?_))
  | ((with_reducible show rSlX _ (V.str _) _ _ _ _); (with_reducible refine Lg.w_slS (by walk_at "ar") ?_))
  | (with_reducible apply Lg.w_rng1)
  | (with_reducible apply Lg.w_rng2)
  | (with_reducible apply Lg.w_rng3)
  | (with_reducible apply Lg.w_enum)
  | ((with_reducible show Rng1 _ _ _); (with_reducible refine Lg.w_itR1 (by omega) ?_))
  | ((with_reducible show Rng2 _ _ _); (with_reducible refine Lg.w_itR2 (by omega) (by omega) ?_))
  | ((with_reducible show rIx _ (V.ref _) (V.int _) _ _); (with_reducible refine Lg.w_ixN (by assumption) (by walk_at "lsin") (by walk_at "ar") (by walk_at "ar") ?_))
  | ((with_reducible show rPlus _ (V.str (S _)) (V.str (S _)) _ _); (with_reducible refine Lg.w_addSS (by walk_at "ar") ?_))
  | ((with_reducible show rTimes (V.str (S _)) (V.int _) _ _); (with_reducible refine Lg.w_repSS (by walk_at "ar") (by walk_at "ar") (by walk_at "ar") ?_))
  | ((with_reducible show rIsi _ [V.ref _, V.ty "list"] _ _); (with_reducible refine Lg.w_isLL (by assumption) (by walk_at "lsin") ?_))
  | ((with_reducible show rIsi _ [V.ref _, V.ty "tuple"] _ _); (with_reducible refine Lg.w_isTT (by assumption) (by walk_at "is") ?_))
  | (with_reducible apply Lg.w_isII)
  | (with_reducible apply Lg.w_isSI)
  | (with_reducible apply Lg.w_isSS)
  | (with_reducible apply Lg.w_isIS)
  | (with_reducible apply Lg.w_ifexp)
  | (with_reducible apply Lg.w_chain)
  | ((with_reducible show ChainK _ _ _ _ _ _ _); (with_reducible refine Lg.w_chainLe (by (intro R' hR'; walk_at "w"; exact hR')) ?_))
  | ((with_reducible show ChainK _ _ _ _ _ _ _); (with_reducible refine Lg.w_chainLt (by (intro R' hR'; walk_at "w"; exact hR')) ?_))
  | ((with_reducible show tAnd _ _ _ _ _); (with_reducible refine Lg.w_andP (by (intro R' hR'; walk_at "w"; exact hR')) (by (intro hb' R' hR'; walk_at "w"; exact hR')) ?_))
  | ((with_reducible show tOr _ _ _ _ _); (with_reducible refine Lg.w_orP (by (intro R' hR'; walk_at "w"; exact hR')) (by (intro hb' R' hR'; walk_at "w"; exact hR')) ?_))
  | ((with_reducible show tAndV _ _ _ _ _); (with_reducible refine Lg.w_andVP (by (intro R' hR'; walk_at "w"; exact hR')) (by (intro hb' R' hR'; walk_at "w"; exact hR')) ?_))
  | ((with_reducible show tOrV _ _ _ _ _); (with_reducible refine Lg.w_orVP (by (intro R' hR'; walk_at "w"; exact hR')) (by (intro hb' R' hR'; walk_at "w"; exact hR')) ?_))
  | (with_reducible apply Lg.w_notV))
local macro_rules | `(tactic| walk_at "w") => `(tactic| repeat (walk_at "w1"))
abbrev intsD (ns : List Int) : List PyData := ns.map PyData.int
def codes (l : List Nat) : List Int := l.map fun (c : Nat) => (c : Int)
@[simp] theorem codes_len (l : List Nat) : (codes l).length = l.length := by simp [codes]
def piece (k m num : Int) (l : List Nat) : List Int := [83, k, m, num / 256, num % 256, (l.length : Int)] ++ codes l ++ List.replicate (25 - l.length) 0 ++ [83]
def chunk (l : List Nat) (k : Nat) : List Nat := (l.drop (24 * k)).take 24
def many (l : List Nat) : Nat := (l.length + 23) / 24
def encL (num : Int) (l : List Nat) : List (List Int) := (List.range (many l)).map fun (k : Nat) => piece (k : Int) (many l) num (chunk l k)
def okB (c : Int) : Bool := decide (32 ≤ c) && decide (c ≤ 126) && !decide (c = 37)
def signs : List Nat := (List.range' 32 95).filter (· ≠ 37)
theorem signs_pre {c : Nat} (h0 : 32 ≤ c) (h1 : c < 37) : signs[c - 32]? = some c := by
  have : c = 32 ∨ c = 33 ∨ c = 34 ∨ c = 35 ∨ c = 36 := by omega
  rcases this with rfl | rfl | rfl | rfl | rfl <;> decide +kernel
theorem signs_post' : ∀ k : Fin 89, signs[k.1 + 5]? = some (k.1 + 38) := by decide +kernel
theorem signs_post {c : Nat} (h0 : 37 < c) (h1 : c ≤ 126) : signs[c - 33]? = some c := by
  have := signs_post' ⟨c - 38, by omega⟩
  simp only at this
  rw [show c - 38 + 5 = c - 33 by omega, show c - 38 + 38 = c by omega] at this
  exact this
theorem signs_asc : Asc signs := by
  have : ∀ c ∈ signs, c < 1114112 := by decide +kernel
  exact this
theorem signs_eq : (" !\"#$&'()*+,-./0123456789:;<=>?@ABCDEFGHIJKLMNOPQRSTUVWXYZ[\\]^_`abcdefghijklmnopqrstuvwxyz{|}~" : Str) = S signs := by decide +kernel
theorem signs_len : signs.length = 94 := by decide +kernel
theorem mask255 {i : Int} (h : 0 ≤ i) : Builtin.bitAnd i 255 = i % 256 := Bits.bitAnd_mask 8 h
def dec (b : List Int) : PyData :=
  if b.getD 0 0 ≠ 83 ∨ b.getD 31 0 ≠ 83 then .none
  else if b.getD 2 0 ≤ b.getD 1 0 ∨ ¬ (1 ≤ b.getD 5 0 ∧ b.getD 5 0 ≤ 24) ∨ ((b.drop (6 + (b.getD 5 0).toNat)).take (31 - (6 + (b.getD 5 0).toNat))).any (· != 0) = true then .none
  else if ((b.drop 6).take (b.getD 5 0).toNat).all okB = false then .none
  else .tuple [.int (b.getD 1 0), .int (b.getD 2 0), .int (b.getD 3 0 * 256 + b.getD 4 0), .str (S (((b.drop 6).take (b.getD 5 0).toNat).map Int.toNat))]
section
variable {K : PySem.W.Frag}
def spCodes (K : PySem.W.Frag) : Sp := fun vs H Q _ => ∃ (L : List Ent) (a : Addr) (ns : List Int), vs = [.ref a] ∧ St K L H ∧ LsIn K L a (intsD ns) ∧ Q (.bl (ns.all okB)) H
theorem p_codes (vs : List V) (H : Hp) (Q : VK) (E : XK) (h : spCodes K vs H Q E) : vs.length = 1 ∧ t_are_codes K { nx := fun _ H' => Q .non H', rt := Q } (start N_are_codes vs) H := by
  obtain ⟨L, a, ns, rfl, hS, hl, hQ⟩ := h
  refine ⟨rfl, ?_⟩
  unfold t_are_codes
  show tSeq _ _ _ [some (.ref a), none] H
  walk_at "w"
  refine w_forL (ds := intsD ns) (fun i σ H' => (∃ v, σ = [some (.ref a), v]) ∧ H' = H ∧ (ns.take i).all okB = true) ⟨⟨_, rfl⟩, rfl, by simp⟩ ?_ ?_ ?_
  · rintro i σ H' hi ⟨_, rfl, _⟩
    exact ⟨L, hS, hl⟩
  · rintro i d v σ H' hd ⟨⟨v0, rfl⟩, rfl, ht⟩ hcb
    rw [List.getElem?_map] at hd
    obtain ⟨n, hn, rfl⟩ := Option.map_eq_some_iff.mp hd
    obtain rfl := (hcb L hS hl).int_of
    have hi : i < ns.length := (List.getElem?_eq_some_iff.mp hn).1
    have e : ns.take (i + 1) = ns.take i ++ [n] := by
      rw [List.take_add_one, hn]; rfl
    walk_at "w"
    refine w_ite (fun h => ?_) (fun h => ?_)
    · walk_at "w"
      have hb : okB n = false := by
        unfold okB
        revert h
        cases decide (32 ≤ n) <;> cases decide (n ≤ 126) <;> cases decide (n = 37) <;> simp
      have : ns.all okB = false := List.all_eq_false.mpr ⟨n, List.mem_of_getElem? hn, by simp [hb]⟩
      rw [this] at hQ
      exact hQ
    · walk_at "w"
      have hb : okB n = true := by
        unfold okB
        revert h
        cases decide (32 ≤ n) <;> cases decide (n ≤ 126) <;> cases decide (n = 37) <;> simp
      exact ⟨⟨_, rfl⟩, rfl, by rw [e, List.all_append, ht]; simp [hb]⟩
  · rintro σ H' ⟨⟨v0, rfl⟩, rfl, ht⟩
    walk_at "w"
    rw [List.length_map, List.take_length] at ht
    rw [ht] at hQ
    exact hQ
def spSign (K : PySem.W.Frag) : Sp := fun vs H Q _ => ∃ c : Int, vs = [.int c] ∧ okB c = true ∧ Q (.str (S [c.toNat])) H
theorem p_sign (vs : List V) (H : Hp) (Q : VK) (E : XK) (h : spSign K vs H Q E) : vs.length = 1 ∧ t_sign K { nx := fun _ H' => Q .non H', rt := Q } (start N_sign vs) H := by
  obtain ⟨c, rfl, hc, hQ⟩ := h
  refine ⟨rfl, ?_⟩
  unfold okB at hc
  simp only [Bool.and_eq_true, decide_eq_true_eq, Bool.not_eq_true', decide_eq_false_iff_not] at hc
  obtain ⟨⟨h1, h2⟩, h3⟩ := hc
  unfold t_sign
  rw [signs_eq]
  show tRet _ _ [some (.int c)] H
  walk_at "w"
  refine w_ifd (fun h => ?_) (fun h => ?_)
  · walk_at "w"
    refine w_ixSg (c := c.toNat) (by rw [signs_len]; decide) (by omega) ?_ hQ
    have := signs_pre (c := c.toNat) (by omega) (by omega)
    rw [show (c - 32).toNat = c.toNat - 32 by omega]
    exact this
  · walk_at "w"
    refine w_ixSg (c := c.toNat) (by rw [signs_len]; decide) (by omega) ?_ hQ
    have := signs_post (c := c.toNat) (by omega) (by omega)
    rw [show (c - 33).toNat = c.toNat - 33 by omega]
    exact this
theorem five {ns : List Int} (h : ns.length = 32) : (ns.drop 1).take 5 = [ns.getD 1 0, ns.getD 2 0, ns.getD 3 0, ns.getD 4 0, ns.getD 5 0] := by
  match ns, h with
  | a :: b :: c :: d :: e :: f :: r, _ => rfl
theorem sum_ones : ∀ ms : List Int, (ms.map fun _ => 1).sum = ms.length
  | [] => rfl
  | m :: ms => by rw [List.map_cons, List.sum_cons, sum_ones ms, List.length_cons]; omega
def spDec (K : PySem.W.Frag) : Sp := fun vs H Q _ => ∃ (L : List Ent) (a : Addr) (ns : List Int), vs = [.ref a] ∧ St K L H ∧ LsIn K L a (intsD ns) ∧ ns.length = 32 ∧
  ∀ v H', St K (.dat v (dec ns) :: L) H' → Q v H'
theorem p_dec (vs : List V) (H : Hp) (Q : VK) (E : XK) (h : spDec K vs H Q E) : vs.length = 1 ∧ t_decode_piece K (spSign K) (spCodes K) { nx := fun _ H' => Q .non H', rt := Q } (start N_decode_piece vs) H := by
  obtain ⟨L, a, ns, rfl, hS, hl, hlen, hQ⟩ := h
  refine ⟨rfl, ?_⟩
  unfold t_decode_piece
  show tSeq _ _ _ [some (.ref a), none, none, none, none, none, none, none] H
  walk_at "w"
  refine w_ite (fun h => ?_) (fun h1 => ?_)
  · walk_at "w"
    refine hQ .non H (hS.learn ?_)
    have e : dec ns = .none := by
      unfold dec
      rw [if_pos]
      simp only [Bool.or_eq_true, Bool.not_eq_true', decide_eq_false_iff_not] at h
      exact h
    rw [e]
    exact .non
  simp only [Bool.or_eq_false_iff, Bool.not_eq_false', decide_eq_true_eq] at h1
  walk_at "w"
  rename_i p1 H1 hS1
  rw [cutD_nn (ds := intsD ns) (i := 1) (j := 6) (a := 1) (b := 6) rfl rfl, ← List.map_drop, ← List.map_take, five hlen] at hS1
  refine w_unpLi hS1 (by walk_at "lsin") rfl ?_
  show gCons _ _ [.int _, .int _, .int _, .int _, .int _] _ _ _
  walk_at "w"
  refine w_or ?_
  walk_at "w"
  have hd : dec ns = if ns.getD 2 0 ≤ ns.getD 1 0 ∨ ¬ (1 ≤ ns.getD 5 0 ∧ ns.getD 5 0 ≤ 24) ∨ ((ns.drop (6 + (ns.getD 5 0).toNat)).take (31 - (6 + (ns.getD 5 0).toNat))).any (· != 0) = true then .none
      else if ((ns.drop 6).take (ns.getD 5 0).toNat).all okB = false then .none
      else .tuple [.int (ns.getD 1 0), .int (ns.getD 2 0), .int (ns.getD 3 0 * 256 + ns.getD 4 0), .str (S (((ns.drop 6).take (ns.getD 5 0).toNat).map Int.toNat))] := by
    unfold dec
    rw [if_neg]
    intro q
    rcases q with q | q
    · exact q h1.1
    · exact q h1.2
  generalize ns.getD 5 0 = cnt at hd hS1 ⊢
  refine w_ifd (fun h2 => ?_) (fun h2 => ?_)
  · walk_at "w"
    refine hQ .non H1 (hS1.tail.learn ?_)
    rw [hd, if_pos (.inl h2)]
    exact .non
  refine w_or ?_
  walk_at "w"
  refine w_ite (fun h3 => ?_) (fun h3 => ?_)
  · walk_at "w"
    refine hQ .non H1 (hS1.tail.learn ?_)
    have hn : ¬ (1 ≤ cnt ∧ cnt ≤ 24) := fun q => by simp [q.1, q.2] at h3
    rw [hd, if_pos (.inr (.inl hn))]
    exact .non
  have hc : 1 ≤ cnt ∧ cnt ≤ 24 := by
    simp at h3
    exact h3
  walk_at "w"
  rename_i p2 H2 hS2
  rw [cutD_nn (ds := intsD ns) (i := 6 + cnt) (j := 31) (a := 6 + cnt.toNat) (b := 31) (by omega) rfl, ← List.map_drop, ← List.map_take] at hS2
  refine w_anyI hS2 (by walk_at "lsin") ?_
  walk_at "w"
  refine w_ite (fun h4 => ?_) (fun h4 => ?_)
  · walk_at "w"
    refine hQ .non H2 (hS2.tail.tail.learn ?_)
    rw [hd, if_pos (.inr (.inr h4))]
    exact .non
  rw [if_neg (by rw [h4]; rintro (q | q | q); exact h2 q; exact q hc; cases q)] at hd
  walk_at "w"
  rename_i p3 H3 hS3
  rw [cutD_nn (ds := intsD ns) (i := 6) (j := 6 + cnt) (a := 6) (b := 6 + cnt.toNat) rfl (by omega), ← List.map_drop, ← List.map_take, show 6 + cnt.toNat - 6 = cnt.toNat by omega] at hS3
  generalize hms : (ns.drop 6).take cnt.toNat = ms at hd hS3
  have hml : ms.length ≤ 24 := by rw [← hms]; simp; omega
  refine ⟨_, _, ms, rfl, hS3, by walk_at "lsin", ?_⟩
  walk_at "w"
  refine w_ite (fun h5 => ?_) (fun h5 => ?_)
  · walk_at "w"
    refine hQ .non H3 (hS3.tail.tail.tail.learn ?_)
    rw [hd, if_pos (by simpa using h5)]
    exact .non
  have h5' : ms.all okB = true := by simpa using h5
  rw [if_neg (by rw [h5']; decide)] at hd
  walk_at "w"
  rw [S_nil]
  walk_at "w"
  refine w_lcL (R := fun i e => ∃ c, ms[i]? = some c ∧ e = .str (S [c.toNat])) hS3 (ds := intsD ms) (by walk_at "lsin") (by simp; omega) ?_ ?_
  · intro i d q es v H4 hd4 hlen4 hS4 Z hZ
    rw [List.getElem?_map] at hd4
    obtain ⟨c, hc4, rfl⟩ := Option.map_eq_some_iff.mp hd4
    obtain rfl := hS4.int_of
    show gName 7 _ [some (.ref a), some (.int _), some (.int _), some (.int _), some (.int _), some (.int _), some (.ref p3), none] _ _
    walk_at "w"
    refine ⟨rfl, ?_⟩
    walk_at "w"
    refine ⟨c, rfl, List.all_eq_true.mp h5' c (List.mem_of_getElem? hc4), ?_⟩
    exact hZ _ _ _ ⟨c, hc4, rfl⟩ (hS4.tail.learn .str)
  intro q es H4 hlen4 hes hS4
  have e : es = (ms.map fun c => [c.toNat]).map fun y => PyData.str (S y) := by
    have h1 := list_by (ds := es) (n := ms.length) (f := fun i => .str (S [(ms.getD i 0).toNat])) (by simpa using hlen4) fun i e he => by
      obtain ⟨c, hc, rfl⟩ := hes i e he
      simp [List.getD_eq_getElem?_getD, hc]
    rw [h1]
    apply List.ext_getElem?
    intro i
    by_cases hi : i < ms.length
    · simp [hi]
    · simp [hi]
  subst e
  walk_at "w"
  refine w_joinSS (z := []) hS4 (by walk_at "lsin") (by have := sum_ones ms; simp [Function.comp_def] at this ⊢; omega) ?_
  walk_at "w"
  rename_i p5 H5 hS5
  refine hQ _ _ ?_
  have e : TL.joinL [] (ms.map fun c => [c.toNat]) = ms.map Int.toNat := by
    have := joinL_one (ms.map Int.toNat)
    rw [List.map_map] at this
    exact this
  rw [hd, ← e]
  exact hS5.to (by walk_at "pick")
def spSigns (K : PySem.W.Frag) : Sp := fun vs H Q _ => ∃ (L : List Ent) (b : Addr) (m : Int), vs = [.ref b, .int m] ∧ St K L H ∧ bx K b ∈ L ∧ 0 ≤ m ∧ m ≤ 10000 ∧
  ∀ l H', l.length = m.toNat → (∀ c ∈ l, c ∈ signs) → St K L H' → Q (.str (S l)) H'
theorem mem_signs {i : Nat} (h : i < 94) : ∃ c, signs[i]? = some c ∧ c ∈ signs := by
  have h2 : i < signs.length := by rw [signs_len]; exact h
  exact ⟨signs[i], by simp [h2], List.getElem_mem h2⟩
theorem p_signs (vs : List V) (H : Hp) (Q : VK) (E : XK) (h : spSigns K vs H Q E) : vs.length = 2 ∧ t_l_signs K (spDraw K) { nx := fun _ H' => Q .non H', rt := Q } (start N_l_signs vs) H := by
  obtain ⟨L, b, m, rfl, hS, hb, hm0, hm1, hQ⟩ := h
  refine ⟨rfl, ?_⟩
  unfold t_l_signs
  rw [signs_eq, S_nil]
  show tSeq _ _ _ [some (.ref b), some (.int m), none, none, none] H
  have hsl := signs_len
  walk_at "w"
  refine w_ifd (fun h => ?_) (fun h => ?_)
  · walk_at "w"
    rename_i k1 H1 hk10 hk11 hS1 k2 H2 hk20 hk21 hS2
    obtain ⟨c, hc, hcm⟩ := mem_signs (i := k2.toNat) (by omega)
    refine w_ixSg (c := c) (by omega) hk20 hc ?_
    walk_at "w"
    refine hQ _ _ (by rw [repL_len]; simp) (fun c' hc' => ?_) hS2
    unfold repL at hc'
    obtain ⟨a, ha, hc'⟩ := List.mem_flatten.mp hc'
    rw [List.eq_of_mem_replicate ha] at hc'
    simp at hc'
    rw [hc']
    exact hcm
  · walk_at "w"
    rename_i k1 H1 hk10 hk11 hS1
    refine w_forR (fun i σ H' => (∃ l v4, σ = [some (.ref b), some (.int m), some (.str (S signs)), some (.str (S l)), v4] ∧ l.length = i ∧ ∀ c ∈ l, c ∈ signs) ∧ St K L H') ⟨⟨[], _, rfl, rfl, fun c hc => by cases hc⟩, hS1⟩ ?_ ?_
    · rintro i σ H2 hi ⟨⟨l, v4, rfl, hl, hcs⟩, hS2⟩
      walk_at "w"
      rename_i k3 H3 hk30 hk31 hS3
      obtain ⟨c, hc, hcm⟩ := mem_signs (i := k3.toNat) (by omega)
      refine w_ixSg (c := c) (by omega) hk30 hc ?_
      walk_at "w"
      refine ⟨⟨l ++ [c], _, rfl, by simp [hl], fun c' hc' => ?_⟩, hS3⟩
      rcases List.mem_append.mp hc' with hc' | hc'
      · exact hcs c' hc'
      · simp at hc'
        rw [hc']
        exact hcm
    · rintro σ H2 ⟨⟨l, v4, rfl, hl, hcs⟩, hS2⟩
      walk_at "w"
      exact hQ l _ hl hcs hS2
theorem piece_cons (k m num : Int) (l : List Nat) : piece k m num l = 83 :: k :: m :: num / 256 :: num % 256 :: (l.length : Int) :: (codes l ++ (List.replicate (25 - l.length) 0 ++ [83])) := by
  simp [piece]
theorem piece_len {k m num : Int} {l : List Nat} (h : l.length ≤ 24) : (piece k m num l).length = 32 := by
  rw [piece_cons]; simp; omega
theorem piece_31 {k m num : Int} {l : List Nat} (h : l.length ≤ 24) : (piece k m num l).getD 31 0 = 83 := by
  have e : piece k m num l = ([83, k, m, num / 256, num % 256, (l.length : Int)] ++ codes l ++ List.replicate (25 - l.length) 0) ++ [83] := rfl
  have hl : ([83, k, m, num / 256, num % 256, (l.length : Int)] ++ codes l ++ List.replicate (25 - l.length) (0 : Int)).length = 31 := by simp; omega
  rw [List.getD_eq_getElem?_getD, e, List.getElem?_append_right (by omega), hl]
  rfl
theorem dec_piece {k m num : Int} {l : List Nat} (h0 : 1 ≤ l.length) (h1 : l.length ≤ 24) (hk : k < m) (hc : ∀ c ∈ l, c ∈ signs) : dec (piece k m num l) = .tuple [.int k, .int m, .int num, .str (S l)] := by
  have e0 : (piece k m num l).getD 0 0 = 83 := by rw [piece_cons]; rfl
  have e1 : (piece k m num l).getD 1 0 = k := by rw [piece_cons]; rfl
  have e2 : (piece k m num l).getD 2 0 = m := by rw [piece_cons]; rfl
  have e3 : (piece k m num l).getD 3 0 = num / 256 := by rw [piece_cons]; rfl
  have e4 : (piece k m num l).getD 4 0 = num % 256 := by rw [piece_cons]; rfl
  have e5 : (piece k m num l).getD 5 0 = (l.length : Int) := by rw [piece_cons]; rfl
  have d6 : (piece k m num l).drop 6 = codes l ++ (List.replicate (25 - l.length) 0 ++ [83]) := by rw [piece_cons]; rfl
  have t6 : ((piece k m num l).drop 6).take l.length = codes l := by
    rw [d6, List.take_append_of_le_length (by simp), List.take_of_length_le (by simp)]
  have d7 : ((piece k m num l).drop (6 + l.length)).take (31 - (6 + l.length)) = List.replicate (25 - l.length) 0 := by
    rw [← List.drop_drop, d6, List.drop_left' (by simp), List.take_append_of_le_length (by simp; omega), List.take_of_length_le (by simp; omega)]
  have ok : (codes l).all okB = true := List.all_eq_true.mpr fun c hc' => by
    obtain ⟨n, hn, rfl⟩ := List.mem_map.mp hc'
    have h2 := hc n hn
    unfold signs at h2
    simp [List.mem_filter] at h2
    unfold okB
    simp
    omega
  unfold dec
  rw [e0, piece_31 h1, e1, e2, e3, e4, e5, Int.toNat_natCast, d7, t6, ok, if_neg (by decide), if_neg, if_neg (by decide)]
  · have e6 : num / 256 * 256 + num % 256 = num := by omega
    have e7 : (codes l).map Int.toNat = l := by simp [codes, Function.comp_def]
    rw [e6, e7]
  · intro q
    rcases q with q | q | q
    · omega
    · exact q ⟨by omega, by omega⟩
    · simp at q
theorem chunk_len {l : List Nat} {i : Nat} (h : i < many l) : 1 ≤ (chunk l i).length ∧ (chunk l i).length ≤ 24 := by
  unfold chunk many at *
  simp
  omega
theorem chunk_mem {l : List Nat} {i c : Nat} (h : c ∈ chunk l i) : c ∈ l := List.mem_of_mem_drop (List.mem_of_mem_take h)

def spPieces (K : PySem.W.Frag) : Sp := fun vs H Q _ => ∃ (L : List Ent) (num : Int) (l : List Nat), vs = [.int num, .str (S l)] ∧ St K L H ∧ l.length ≤ 720 ∧ 0 ≤ num ∧
  ∀ p bs H', bs.length = many l → St K (Lg.own p (.lst (bs.map V.ref)) :: (lsL K bs (encL num l) ++ L)) H' → Q (.ref p) H'
theorem p_pieces (vs : List V) (H : Hp) (Q : VK) (E : XK) (h : spPieces K vs H Q E) : vs.length = 2 ∧ t_l_pieces K { nx := fun _ H' => Q .non H', rt := Q } (start N_l_pieces vs) H := by
  obtain ⟨L, num, l, rfl, hS, hl, hnum, hQ⟩ := h
  refine ⟨rfl, ?_⟩
  unfold t_l_pieces
  show tSeq _ _ _ [some (.int num), some (.str (S l)), none, none, none, none, none, none] H
  walk_at "w"
  rename_i p H1 hS1
  have hm : ((l.length : Int) + 23) / 24 = (many l : Int) := by unfold many; omega
  have hmb : many l ≤ 30 := by unfold many; omega
  rw [hm]
  walk_at "w"
  refine w_forR (fun i σ H' => ∃ (bs : List Addr), bs.length = i ∧ (∃ v4 v5 v6 v7, σ = [some (.int num), some (.str (S l)), some (.ref p), some (.int (many l)), v4, v5, v6, v7]) ∧
    St K (Lg.own p (.lst (bs.map V.ref)) :: (lsL K bs ((List.range i).map fun (k : Nat) => piece (k : Int) (many l) num (chunk l k)) ++ L)) H') ⟨[], rfl, ⟨_, _, _, _, rfl⟩, hS1.raw0⟩ ?_ ?_
  · rintro i σ H2 hi ⟨bs, hbs, ⟨v4, v5, v6, v7, rfl⟩, hS2⟩
    have hi' : i < many l := by simpa using hi
    have hcl : (chunk l i).length ≤ 24 := by unfold chunk; simp; omega
    generalize hM : lsL K bs ((List.range i).map fun (k : Nat) => piece (k : Int) (many l) num (chunk l k)) ++ L = M at hS2
    walk_at "w"
    rw [cutS_nn (a := 24 * i) (b := 24 * i + 24) (by omega) (by omega), show 24 * i + 24 - 24 * i = 24 by omega]
    rw [show List.take 24 (List.drop (24 * i) l) = chunk l i from rfl]
    walk_at "w"
    rename_i p3 H3 hS3
    refine w_forS (fun j σ H' => (∃ v7, σ = [some (.int num), some (.str (S l)), some (.ref p), some (.int (many l)), some (.int (0 + i)), some (.str (S (chunk l i))), some (.ref p3), v7]) ∧
      St K (Lg.ls K p3 (intsD ([83, 0 + (i : Int), (many l : Int), num / 256, num % 256, ((chunk l i).length : Int)] ++ codes ((chunk l i).take j))) :: Lg.own p (.lst (bs.map V.ref)) :: M) H')
      ⟨⟨_, rfl⟩, hS3⟩ ?_ ?_
    · rintro j c σ H4 hc ⟨⟨v7, rfl⟩, hS4⟩
      have hc' : (chunk l i)[j]? = some c := hc
      have hj : j < (chunk l i).length := (List.getElem?_eq_some_iff.mp hc').1
      walk_at "w"
      refine w_app hS4 .here (d := .int c) .int (by simp; omega) fun H5 hS5 => ?_
      walk_at "w"
      refine ⟨⟨_, rfl⟩, ?_⟩
      have e : (chunk l i).take (j + 1) = (chunk l i).take j ++ [c] := by rw [List.take_add_one, hc']; rfl
      rw [e]
      simpa [codes] using hS5
    · rintro σ H4 ⟨⟨v7, rfl⟩, hS4⟩
      rw [S_tl, List.take_length] at hS4
      walk_at "w"
      refine w_tyR hS4 (by walk_at "mem") ?_
      walk_at "w"
      rename_i p5 H5 hS5 p6 H6 hS6 p7 H7 hS7 p8 H8 hS8 p9 H9 hS9
      have hS10 := hS9.to (L' := Lg.ls K p9 _ :: Lg.own p _ :: M) (by walk_at "pick")
      refine w_appR hS10 (.there .here) (by simp; omega) fun H11 hS11 => ?_
      walk_at "w"
      refine ⟨bs ++ [p9], by simp [hbs], ⟨_, _, _, _, rfl⟩, ?_⟩
      have e : (31 - (1 + (1 + (1 + (1 + (1 + (((chunk l i).length : Int) + 1))))))).toNat = 25 - (chunk l i).length := by omega
      rw [List.range_succ, List.map_append]
      simp only [List.map_cons, List.map_nil, List.map_append]
      rw [lsL_snoc (by simp [hbs])]
      have h12 : St K (Lg.ls K p9 ((piece (i : Int) (many l) num (chunk l i)).map PyData.int) :: Lg.own p (.lst (bs.map V.ref ++ [V.ref p9])) :: M) H11 := by
        simpa [piece, e, repD_one, codes, Function.comp_def, Int.add_comm] using hS11
      rw [← hM] at h12
      refine h12.perm ?_
      refine (List.Perm.swap _ _ _).trans (List.Perm.cons _ ?_)
      rw [List.append_assoc]
      exact List.perm_middle.symm
  · rintro σ H2 ⟨bs, hbs, ⟨v4, v5, v6, v7, rfl⟩, hS2⟩
    walk_at "w"
    exact hQ p bs H2 hbs hS2

def signs2 : List Nat := (List.range' 32 5) ++ [63] ++ (List.range' 38 89)
theorem signs2_eq : (" !\"#$?&'()*+,-./0123456789:;<=>?@ABCDEFGHIJKLMNOPQRSTUVWXYZ[\\]^_`abcdefghijklmnopqrstuvwxyz{|}~" : Str) = S signs2 := by decide +kernel
theorem signs2_len : signs2.length = 95 := by decide +kernel
theorem signs2_all : ∀ k : Fin 95, k.1 ≠ 5 → signs2[k.1]? = some (k.1 + 32) := by decide +kernel
theorem signs2_at {n : Int} (h : okB n = true) : signs2[(n - 32).toNat]? = some n.toNat := by
  unfold okB at h
  simp only [Bool.and_eq_true, decide_eq_true_eq, Bool.not_eq_true', decide_eq_false_iff_not] at h
  obtain ⟨⟨h1, h2⟩, h3⟩ := h
  have := signs2_all ⟨(n - 32).toNat, by omega⟩ (by simp only; omega)
  simp only at this
  rw [this]
  congr 1
  omega
theorem dec_fit (ns : List Int) : Fit 1 (dec ns) := by
  unfold dec
  split
  · exact fit_none _
  split
  · exact fit_none _
  split
  · exact fit_none _
  rename_i h
  have h' : (((ns.drop 6).take (ns.getD 5 0).toNat).all okB) = true := by
    revert h
    cases ((ns.drop 6).take (ns.getD 5 0).toNat).all okB <;> simp
  refine fit_tuple fun d hd => ?_
  simp at hd
  rcases hd with rfl | rfl | rfl | rfl
  · exact fit_int _ _
  · exact fit_int _ _
  · exact fit_int _ _
  · refine fit_str _ fun c hc => ?_
    rw [← List.map_drop, ← List.map_take] at hc
    obtain ⟨n, hn, rfl⟩ := List.mem_map.mp hc
    have := List.all_eq_true.mp h' n hn
    unfold okB at this
    simp at this
    omega
def spDue (K : PySem.W.Frag) : Sp := fun vs H Q _ => ∃ (L : List Ent) (a : Addr) (ns : List Int), vs = [.ref a] ∧ St K L H ∧ LsIn K L a (intsD ns) ∧ ns.length = 32 ∧ 0 ≤ ns.getD 5 0 ∧
  ∀ v H', St K (.dat v (dec ns) :: L) H' → Q v H'
theorem p_due (vs : List V) (H : Hp) (Q : VK) (E : XK) (h : spDue K vs H Q E) : vs.length = 1 ∧ t_l_due_piece K { nx := fun _ H' => Q .non H', rt := Q } (start N_l_due_piece vs) H := by
  obtain ⟨L, a, ns, rfl, hS, hl, hlen, h5, hQ⟩ := h
  refine ⟨rfl, ?_⟩
  unfold t_l_due_piece
  rw [signs2_eq, S_nil]
  have hl2 := signs2_len
  show tSeq _ _ _ [some (.ref a), none, none, none, none] H
  walk_at "w"
  refine w_ite (fun h => ?_) (fun h1 => ?_)
  · walk_at "w"
    refine hQ .non H (hS.learn ?_)
    have e : dec ns = .none := by
      simp only [Bool.or_eq_true, Bool.not_eq_true', decide_eq_false_iff_not, decide_eq_true_eq] at h
      unfold dec
      split
      · rfl
      rename_i q
      rw [if_pos]
      rcases h with h | h | h | h | h
      · exact absurd (.inl h) q
      · exact absurd (.inr h) q
      · exact .inl (by simpa using h)
      · exact .inr (.inl (by have h' : (24 : Int) < ns.getD 5 0 := h; omega))
      · exact .inr (.inl (by have h' : ns.getD 5 0 = 0 := h; omega))
    rw [e]
    exact .non
  simp only [Bool.or_eq_false_iff, Bool.not_eq_false', decide_eq_true_eq, decide_eq_false_iff_not] at h1
  have h0 : ns.getD 0 0 = 83 := h1.1
  have h31 : ns.getD 31 0 = 83 := h1.2.1
  have h12 : ¬ ns.getD 2 0 ≤ ns.getD 1 0 := h1.2.2.1
  have h24 : ¬ (24 : Int) < ns.getD 5 0 := h1.2.2.2.1
  have h05 : ¬ ns.getD 5 0 = 0 := h1.2.2.2.2
  clear h1
  have hd : dec ns = if (((ns.drop (6 + (ns.getD 5 0).toNat)).take (31 - (6 + (ns.getD 5 0).toNat))).any (· != 0) = true) then .none
      else if ((ns.drop 6).take (ns.getD 5 0).toNat).all okB = false then .none
      else .tuple [.int (ns.getD 1 0), .int (ns.getD 2 0), .int (ns.getD 3 0 * 256 + ns.getD 4 0), .str (S (((ns.drop 6).take (ns.getD 5 0).toNat).map Int.toNat))] := by
    unfold dec
    rw [if_neg (by rintro (q | q) <;> omega)]
    by_cases hx : ((ns.drop (6 + (ns.getD 5 0).toNat)).take (31 - (6 + (ns.getD 5 0).toNat))).any (· != 0) = true
    · rw [if_pos (.inr (.inr hx)), if_pos hx]
    · rw [if_neg (by rintro (q | q | q); exact h12 q; exact q ⟨by omega, by omega⟩; exact hx q), if_neg hx]
  walk_at "w"
  refine w_anyL1 ?_
  walk_at "w"
  rename_i p1 H1 hS1
  have hc : ((ns.getD 5 0).toNat : Int) = ns.getD 5 0 := by omega
  show ForW _ _ _ _ _ _
  generalize hms : (ns.drop 6).take (ns.getD 5 0).toNat = ms at hd
  have e1 : cutD (intsD ns) (some 6) (some (6 + ns.getD 5 0)) = intsD ms := by
    rw [cutD_nn (ds := intsD ns) (i := 6) (j := 6 + ns.getD 5 0) (a := 6) (b := 6 + (ns.getD 5 0).toNat) rfl (by omega), ← List.map_drop, ← List.map_take, show 6 + (ns.getD 5 0).toNat - 6 = (ns.getD 5 0).toNat by omega, hms]
  have hml : ms.length ≤ 24 := by rw [← hms, List.length_take]; omega
  have hS1' : St K (Lg.ls K p1 (intsD ms) :: L) H1 := by rw [← e1]; exact hS1
  clear hS1
  refine w_forL (ds := intsD ms) (fun i σ H' => (∃ v, σ = [some (.ref a), some (.str (S signs2)), some (.str (S ((ms.take i).map Int.toNat))), v, none]) ∧ H' = H1 ∧ (ms.take i).all okB = true) ⟨⟨_, rfl⟩, rfl, by simp⟩ ?_ ?_ ?_
  · rintro i σ H' hi ⟨⟨_, rfl⟩, rfl, _⟩
    exact ⟨_, hS1', by walk_at "lsin"⟩
  · rintro i d v σ H' hd2 ⟨⟨v0, rfl⟩, rfl, ht⟩ hcb
    rw [List.getElem?_map] at hd2
    obtain ⟨n, hn, rfl⟩ := Option.map_eq_some_iff.mp hd2
    obtain rfl := (hcb _ hS1' (by walk_at "lsin")).int_of
    have hi : i < ms.length := (List.getElem?_eq_some_iff.mp hn).1
    have e : ms.take (i + 1) = ms.take i ++ [n] := by
      rw [List.take_add_one, hn]; rfl
    walk_at "w"
    refine w_ite (fun h => ?_) (fun h => ?_)
    · walk_at "w"
      have hb : okB n = false := by
        unfold okB
        simp only [Bool.or_eq_true, decide_eq_true_eq] at h
        cases h32 : decide (32 ≤ n) <;> cases h126 : decide (n ≤ 126) <;> cases h37 : decide (n = 37) <;> simp
        simp at h32 h126 h37
        rcases h with h | h | h
        · exact h37 h
        · omega
        · omega
      have h6 : ms.all okB = false := List.all_eq_false.mpr ⟨n, List.mem_of_getElem? hn, by simp [hb]⟩
      refine hQ .non _ (hS1'.tail.learn ?_)
      rw [h6] at hd
      rw [hd]
      split
      · exact .non
      · rw [if_pos rfl]; exact .non
    · have hb : okB n = true := by
        unfold okB
        simp only [Bool.or_eq_false_iff, decide_eq_false_iff_not] at h
        simp only [Bool.and_eq_true, decide_eq_true_eq, Bool.not_eq_true', decide_eq_false_iff_not]
        refine ⟨⟨?_, ?_⟩, h.1⟩
        · omega
        · omega
      have hb' := hb
      unfold okB at hb'
      simp only [Bool.and_eq_true, decide_eq_true_eq, Bool.not_eq_true', decide_eq_false_iff_not] at hb'
      walk_at "w"
      refine w_ixSg (c := n.toNat) (by omega) (by omega) (signs2_at hb) ?_
      walk_at "w"
      exact ⟨⟨_, by rw [e, List.map_append]; rfl⟩, rfl, by rw [e, List.all_append, ht]; simp [hb]⟩
  · rintro σ H' ⟨⟨v0, rfl⟩, rfl, ht⟩
    rw [List.length_map, List.take_length] at ht
    simp only [List.length_map, List.take_length]
    rw [ht] at hd
    walk_at "w"
    refine w_anyL1 ?_
    walk_at "w"
    rename_i p2 H2 hS2
    have e2 : cutD (intsD ns) (some (6 + ns.getD 5 0)) (some 31) = intsD ((ns.drop (6 + (ns.getD 5 0).toNat)).take (31 - (6 + (ns.getD 5 0).toNat))) := by
      rw [cutD_nn (ds := intsD ns) (i := 6 + ns.getD 5 0) (j := 31) (a := 6 + (ns.getD 5 0).toNat) (b := 31) (by omega) rfl, ← List.map_drop, ← List.map_take]
    generalize (ns.drop (6 + (ns.getD 5 0).toNat)).take (31 - (6 + (ns.getD 5 0).toNat)) = ts at hd e2
    have hS2' : St K (Lg.ls K p2 (intsD ts) :: Lg.ls K p1 (intsD ms) :: L) H2 := by rw [← e2]; exact hS2
    have htl : ts.length ≤ 100000 := by
      have := congrArg List.length e2
      rw [cutD_nn (ds := intsD ns) (i := 6 + ns.getD 5 0) (j := 31) (a := 6 + (ns.getD 5 0).toNat) (b := 31) (by omega) rfl] at this
      simp at this
      omega
    refine w_lcFI (ns := ts) (p := fun n => n != 0) hS2' (by walk_at "lsin") htl ?_ ?_
    · intro n H3 Z1 Z2 hz1 hz2
      show gName 4 _ [some (.ref a), some (.str _), some (.str _), v0, none] _ _
      walk_at "w"
      refine ⟨rfl, ?_⟩
      walk_at "w"
      refine w_ite (fun h => ?_) (fun h => ?_)
      · walk_at "w"
        exact hz1 (by simpa using h)
      · exact hz2 (by simpa using h)
    · intro q H3 hS3
      walk_at "w"
      rename_i p4 H4 hS4
      by_cases hx : ts.any (· != 0) = true
      · have hne : ts.filter (fun n => n != 0) ≠ [] := by
          obtain ⟨x, hx1, hx2⟩ := List.any_eq_true.mp hx
          intro q
          have : x ∈ ts.filter (fun n => n != 0) := List.mem_filter.mpr ⟨hx1, hx2⟩
          rw [q] at this
          cases this
        refine w_neD hS4 (d := .list (intsD (ts.filter (fun n => n != 0)))) (e := .list []) (by walk_at "see") (by walk_at "see") (fit_ints 0 _).shaped (fit_list (n := 0) (fun d hd => by cases hd)).shaped ?_
        have e5 : PyData.eqv (.list (intsD (ts.filter (fun n => n != 0)))) (.list []) = false := by
          cases hf : ts.filter (fun n => n != 0) with
          | nil => exact absurd hf hne
          | cons x xs => simp [PyData.eqv, PyData.eqvAll]
        rw [e5]
        walk_at "w"
        refine hQ .non _ (hS4.tail.tail.tail.tail.learn ?_)
        rw [hd, if_pos hx]
        exact .non
      · have hne : ts.filter (fun n => n != 0) = [] := by
          rw [List.filter_eq_nil_iff]
          intro x hx1 hx2
          exact hx (by rw [List.any_eq_true]; exact ⟨x, hx1, hx2⟩)
        rw [hne] at hS4
        refine w_ne1 hS4 (d := .list []) (by walk_at "see") (by walk_at "see") (fit_list (n := 0) (fun d hd => by cases hd)).shaped ?_
        rw [if_neg hx, if_neg (by simp)] at hd
        walk_at "w"
        rename_i pt H5 hS5
        refine hQ _ _ ?_
        rw [hd]
        have h6 := hS5.to (L' := .dat (.ref pt) _ :: L) (by walk_at "pick")
        rw [Int.mul_comm] at h6
        exact h6
def spReads (K : PySem.W.Frag) : Sp := fun vs H Q _ => ∃ (L : List Ent) (a : Addr) (ns : List Int), vs = [.ref a] ∧ St K L H ∧ LsIn K L a (intsD ns) ∧ ns.length = 32 ∧ 0 ≤ ns.getD 5 0 ∧
  ∀ H', St K L H' → Q (.bl true) H'
theorem p_reads (vs : List V) (H : Hp) (Q : VK) (E : XK) (h : spReads K vs H Q E) : vs.length = 1 ∧ t_l_reads_so K (spDec K) (spDue K) { nx := fun _ H' => Q .non H', rt := Q } (start N_l_reads_so vs) H := by
  obtain ⟨L, a, ns, rfl, hS, hl, hlen, h5, hQ⟩ := h
  refine ⟨rfl, ?_⟩
  unfold t_l_reads_so
  show tSeq _ _ _ [some (.ref a), none] H
  walk_at "w"
  rename_i p H1 hS1
  refine w_andV ?_
  walk_at "w"
  refine ⟨_, p, ns, rfl, hS1, by walk_at "lsin", hlen, fun v H2 hS2 => ?_⟩
  walk_at "w"
  refine ⟨_, a, ns, rfl, hS2, by walk_at "lsin", hlen, h5, fun u H3 hS3 => ?_⟩
  walk_at "w"
  refine w_eq1 hS3 (d := dec ns) (.is (Is.dat (.tail _ (.head _)))) (.is (Is.dat (.head _))) (dec_fit ns).shaped ?_
  refine ⟨true, rfl, ?_⟩
  walk_at "w"
  have hs : See K (.dat u (dec ns) :: .dat v (dec ns) :: Lg.ls K p (intsD ns) :: L) (.ref a) (.list (intsD ns)) := See.ls (by walk_at "lsin")
  refine w_eq1 hS3 (d := .list (intsD ns)) (by walk_at "see") hs (fit_ints 0 ns).shaped ?_
  exact hQ _ hS3.tail.tail.tail
theorem dec_n0 {ns : List Int} (h : ns.getD 0 0 ≠ 83) : dec ns = .none := by
  unfold dec
  rw [if_pos (.inl h)]
theorem dec_n31 {ns : List Int} (h : ns.getD 31 0 ≠ 83) : dec ns = .none := by
  unfold dec
  rw [if_pos (.inr h)]
theorem torn1 {ns : List Int} {m : Nat} (hlen : ns.length = 32) (h : m < 32) : dec (ns.take m ++ (List.replicate 32 0).drop m) = .none := by
  refine dec_n31 ?_
  rw [List.getD_eq_getElem?_getD, List.getElem?_append_right (by rw [List.length_take]; omega), List.getElem?_drop, List.getElem?_replicate]
  split <;> decide
theorem torn2 {ns : List Int} {m : Nat} (hlen : ns.length = 32) (h : 0 < m) (h2 : m ≤ 32) : dec ((List.replicate 32 0).take m ++ ns.drop m) = .none := by
  refine dec_n0 ?_
  rw [List.getD_eq_getElem?_getD, List.getElem?_append_left (by rw [List.length_take, List.length_replicate]; omega), List.getElem?_take_of_lt h, List.getElem?_replicate]
  split <;> decide
def spTorn (K : PySem.W.Frag) : Sp := fun vs H Q _ => ∃ (L : List Ent) (a : Addr) (ns : List Int) (ds : List PyData), vs = [.ref a] ∧ St K L H ∧ LsIn K L a (intsD ns) ∧ ns.length = 32 ∧ dec ns = .tuple ds ∧
  ∀ H', St K L H' → Q (.bl true) H'
theorem p_torn (vs : List V) (H : Hp) (Q : VK) (E : XK) (h : spTorn K vs H Q E) : vs.length = 1 ∧ t_l_torn_piece K (spDec K) { nx := fun _ H' => Q .non H', rt := Q } (start N_l_torn_piece vs) H := by
  obtain ⟨L, a, ns, ds, rfl, hS, hl, hlen, hd, hQ⟩ := h
  refine ⟨rfl, ?_⟩
  unfold t_l_torn_piece
  show tSeq _ _ _ [some (.ref a), none, none] H
  walk_at "w"
  rename_i p0 H0 hS0 p H1 hS1
  have e0 : (List.replicate (Int.toNat 32) [PyData.int 0]).flatten = intsD (List.replicate 32 0) := by
    rw [repD_one]; simp [intsD]
  have hS1' : St K (Lg.ls K p (intsD (List.replicate 32 0)) :: L) H1 := by
    rw [← e0]
    exact hS1.to (by walk_at "pick")
  clear hS0 hS1
  walk_at "w"
  refine w_forR (fun i σ H' => (∃ v, σ = [some (.ref a), some (.ref p), v]) ∧ St K (Lg.ls K p (intsD (List.replicate 32 0)) :: L) H') ⟨⟨_, rfl⟩, hS1'⟩ ?_ ?_
  · rintro i σ H2 hi ⟨⟨v, rfl⟩, hS2⟩
    have hi' : i ≤ 32 := by
      have : i < 33 := by simpa using hi
      omega
    have ei : (0 : Int) + (i : Int) = (i : Int) := by omega
    rw [ei]
    walk_at "w"
    rename_i p3 H3 hS3 p4 H4 hS4
    rw [cutD_no (b := i) rfl, cutD_on (a := i) rfl, ← List.map_take, ← List.map_drop] at hS4
    refine w_plusL hS4 (by walk_at "lsin") (by walk_at "lsin") (by simp; omega) fun p5 H5 hS5 => ?_
    rw [← List.map_append] at hS5
    refine ⟨_, p5, _, rfl, hS5, by walk_at "lsin", by simp; omega, fun v3 H6 hS6 => ?_⟩
    walk_at "w"
    have hS7 := hS6.to (L' := .dat v3 _ :: Lg.ls K p (intsD (List.replicate 32 0)) :: L) (by walk_at "pick")
    have hb1 : ∀ (Q' : VK), Q' (.bl (decide ((i : Int) < 32))) H6 → rIsNo v3 .non H6 Q' := by
      intro Q' hq
      by_cases h32 : i < 32
      · rw [torn1 hlen h32] at hS7
        obtain rfl := hS7.non_of
        rw [decide_eq_true (by omega)] at hq
        exact w_isN hq
      · have e32 : ns.take i ++ (List.replicate 32 (0 : Int)).drop i = ns := by
          rw [List.take_of_length_le (by omega), List.drop_of_length_le (by simp; omega), List.append_nil]
        rw [e32, hd] at hS7
        obtain ⟨at_, rfl⟩ := hS7.tup_of
        rw [decide_eq_false (by omega)] at hq
        exact w_isR hq
    refine hb1 _ ?_
    walk_at "w"
    refine w_neB ?_
    rw [decide_eq_true rfl]
    have hS8 := hS7.tail
    clear hb1 hS7 hS6 hS5 hS4 hS3 hS2
    walk_at "w"
    refine w_bf rfl ?_
    walk_at "w"
    rename_i p3 H3 hS3 p4 H4 hS4
    rw [cutD_no (b := i) rfl, cutD_on (a := i) rfl, ← List.map_take, ← List.map_drop] at hS4
    refine w_plusL hS4 (by walk_at "lsin") (by walk_at "lsin") (by simp; omega) fun p5 H5 hS5 => ?_
    rw [← List.map_append] at hS5
    refine ⟨_, p5, _, rfl, hS5, by walk_at "lsin", by simp; omega, fun v3 H6 hS6 => ?_⟩
    walk_at "w"
    have hS7 := hS6.to (L' := .dat v3 _ :: Lg.ls K p (intsD (List.replicate 32 0)) :: L) (by walk_at "pick")
    have hb1 : ∀ (Q' : VK), Q' (.bl (decide ((0 : Int) < (i : Int)))) H6 → rIsNo v3 .non H6 Q' := by
      intro Q' hq
      by_cases h32 : 0 < i
      · rw [torn2 hlen h32 hi'] at hS7
        obtain rfl := hS7.non_of
        rw [decide_eq_true (by omega)] at hq
        exact w_isN hq
      · have e32 : (List.replicate 32 (0 : Int)).take i ++ ns.drop i = ns := by
          have : i = 0 := by omega
          subst this
          rfl
        rw [e32, hd] at hS7
        obtain ⟨at_, rfl⟩ := hS7.tup_of
        rw [decide_eq_false (by omega)] at hq
        exact w_isR hq
    refine hb1 _ ?_
    walk_at "w"
    refine w_neB ?_
    rw [decide_eq_true rfl]
    have hS8 := hS7.tail
    walk_at "w"
    refine w_bf rfl ?_
    walk_at "w"
    exact ⟨⟨_, rfl⟩, hS8⟩
  · rintro σ H2 ⟨⟨v, rfl⟩, hS2⟩
    walk_at "w"
    exact hQ _ hS2.tail
theorem piece_bytes {k m num : Int} {l : List Nat} (hk : 0 ≤ k ∧ k ≤ 255) (hm : 0 ≤ m ∧ m ≤ 255) (hn : 0 ≤ num ∧ num < 65536) (h1 : l.length ≤ 24) (hc : ∀ c ∈ l, c ∈ signs) : ∀ n ∈ piece k m num l, 0 ≤ n ∧ n ≤ 255 := by
  intro n h
  rw [piece_cons] at h
  simp only [List.mem_cons, List.mem_append, List.mem_nil_iff, or_false] at h
  rcases h with rfl | rfl | rfl | rfl | rfl | rfl | h | h | rfl
  · omega
  · exact hk
  · exact hm
  · omega
  · omega
  · omega
  · obtain ⟨c, hc', rfl⟩ := List.mem_map.mp h
    have h2 := hc c hc'
    unfold signs at h2
    simp [List.mem_filter] at h2
    omega
  · rw [List.eq_of_mem_replicate h]; omega
  · omega
theorem bytes_set {ns : List Int} {k : Nat} {m : Int} (h : ∀ n ∈ ns, 0 ≤ n ∧ n ≤ 255) (hm : 0 ≤ m ∧ m ≤ 255) : ∀ n ∈ ns.set k m, 0 ≤ n ∧ n ≤ 255 := by
  intro n hn
  rcases List.mem_or_eq_of_mem_set hn with hn | rfl
  · exact h n hn
  · exact hm
theorem bytes_get {ns : List Int} {k : Nat} (h : ∀ n ∈ ns, 0 ≤ n ∧ n ≤ 255) : 0 ≤ ns.getD k 0 := by
  rw [List.getD_eq_getElem?_getD]
  cases hk : ns[k]? with
  | none => simp
  | some n => exact (h n (List.mem_of_getElem? hk)).1
theorem ints_of : ∀ {es : List PyData} {P : Int → Prop}, (∀ e ∈ es, ∃ m, e = .int m ∧ P m) → ∃ ns, es = intsD ns ∧ ns.length = es.length ∧ ∀ n ∈ ns, P n
  | [], P, _ => ⟨[], rfl, rfl, fun n h => by cases h⟩
  | e :: es, P, h => by
    obtain ⟨m, rfl, hm⟩ := h e (.head _)
    obtain ⟨ns, rfl, h2, h3⟩ := ints_of (es := es) fun e he => h e (.tail _ he)
    exact ⟨m :: ns, rfl, by simp, fun n hn => by
      rcases List.mem_cons.mp hn with rfl | hn
      · exact hm
      · exact h3 n hn⟩
def spLaw (K : PySem.W.Frag) : Sp := fun vs H Q _ => ∃ (a : Addr) (ns : List Int), vs = [.ref a] ∧ Only H ∧ SqL K H a (ns.map V.int) ∧ ∀ H', Q (.bl true) H'
theorem p_law (vs : List V) (H : Hp) (Q : VK) (E : XK) (h : spLaw K vs H Q E) : vs.length = 1 ∧ t_law K (spReads K) (spDraw K) (spTorn K) (spPieces K) (spSigns K) (spDigits K) { nx := fun _ H' => Q .non H', rt := Q } (start N_law vs) H := by
  obtain ⟨a, ns, rfl, hO, hs, hQ⟩ := h
  refine ⟨rfl, ?_⟩
  have hS0 := St.begin hO hs
  unfold t_law
  show tSeq _ _ _ [some (.ref a), none, none, none, none, none, none, none, none] H
  walk_at "w"
  refine ⟨_, a, ns, 0, 63, rfl, hS0, by walk_at "mem", by decide, by decide, by decide, by decide, fun p ms H1 hS1 => ?_⟩
  walk_at "w"
  refine w_newBox hS1 fun b H2 hS2 => ?_
  walk_at "w"
  refine w_forR (fun i σ H' => (∃ v2 v3 v4 v5 v6 v7 v8, σ = [some (.ref a), some (.ref b), v2, v3, v4, v5, v6, v7, v8]) ∧ St K [bx K b] H') ⟨⟨_, _, _, _, _, _, _, rfl⟩, hS2.to (by walk_at "pick")⟩ ?_ ?_
  · rintro i σ H3 hi ⟨⟨v2, v3, v4, v5, v6, v7, v8, rfl⟩, hS3⟩
    walk_at "w"
    rename_i k1 H4 k10 k11 hS4 k2 H5 k20 k21 hS5 k3 H6 k30 k31 hS6
    refine ⟨_, b, 1 + k3, rfl, hS6, by walk_at "mem", by omega, by omega, fun l H7 hl hsg hS7 => ?_⟩
    have hnum0 : 0 ≤ (k1 * 1000 + k2) % 65536 := Int.emod_nonneg _ (by decide)
    have hnum1 : (k1 * 1000 + k2) % 65536 < 65536 := Int.emod_lt_of_pos _ (by decide)
    generalize (k1 * 1000 + k2) % 65536 = num at hnum0 hnum1 ⊢
    walk_at "w"
    refine ⟨_, num, l, rfl, hS7, by omega, hnum0, fun p bs H8 hbs hS8 => ?_⟩
    have hm1 : 1 ≤ many l ∧ many l ≤ 3 := by unfold many; omega
    have hS9 : St K (Lg.own p (.lst (bs.map V.ref)) :: bx K b :: lsL K bs (encL num l)) H8 := hS8.perm (.cons _ (List.perm_append_singleton _ _))
    clear hS4 hS5 hS6 hS7 hS8
    walk_at "w"
    refine w_lenR hS9 (by walk_at "mem") ?_
    rw [List.length_map, hbs]
    walk_at "w"
    rename_i k4 H10 k40 k41 hS10
    obtain ⟨br, hbr⟩ : ∃ br, bs[k4.toNat]? = some br := ⟨bs[k4.toNat]'(by omega), by rw [List.getElem?_eq_getElem]⟩
    refine w_ixR (k := k4.toNat) (v := .ref br) hS10 (by walk_at "mem") (by omega) (by rw [List.getElem?_map, hbr]; rfl) ?_
    have hS11 : St K (lsL K bs (encL num l) ++ [bx K b]) H10 := hS10.tail.perm (List.perm_append_singleton _ _).symm
    have hS12 := hS11.pickL (k := k4.toNat) (d := piece (k4.toNat : Int) (many l) num (chunk l k4.toNat)) hbr (by
      unfold encL
      rw [List.getElem?_map, List.getElem?_range (by omega)]
      rfl)
    clear hS9 hS10 hS11
    obtain ⟨hc1, hc2⟩ := chunk_len (l := l) (i := k4.toNat) (by omega)
    have hdp := dec_piece (k := (k4.toNat : Int)) (m := many l) (num := num) hc1 hc2 (by omega) (fun c hc => hsg c (chunk_mem hc))
    have hby := piece_bytes (k := (k4.toNat : Int)) (m := many l) (num := num) (by omega) (by omega) ⟨hnum0, hnum1⟩ hc2 (fun c hc => hsg c (chunk_mem hc))
    have hpl := piece_len (k := (k4.toNat : Int)) (m := many l) (num := num) hc2
    generalize piece (k4.toNat : Int) (many l) num (chunk l k4.toNat) = ns1 at hS12 hdp hby hpl
    walk_at "w"
    refine ⟨_, br, ns1, _, rfl, hS12, by walk_at "lsin", hpl, hdp, fun H13 hS13 => ?_⟩
    walk_at "w"
    refine w_bf rfl ?_
    walk_at "w"
    rename_i k5 H14 k50 k51 hS14
    refine w_forR (fun i' σ H' => (∃ v6 v7 v8, σ = [some (.ref a), some (.ref b), some (.int (0 + i)), some (.int num), some (.ref p), some (.ref br), v6, v7, v8]) ∧ ∃ ns2 : List Int, ns2.length = 32 ∧ (∀ n ∈ ns2, 0 ≤ n ∧ n ≤ 255) ∧ St K [Lg.ls K br (intsD ns2), bx K b] H') ⟨⟨_, _, _, rfl⟩, ns1, hpl, hby, hS14⟩ ?_ ?_
    · rintro i' σ H15 hi' ⟨⟨v6, v7, v8, rfl⟩, ns2, hl2, hb2, hS15⟩
      walk_at "w"
      rename_i k6 H16 k60 k61 hS16 pl H17 hS17 k7 H18 k70 k71 hS18
      refine w_ixLP (P := fun m => 0 ≤ m ∧ m ≤ 255) hS18 (by walk_at "lsin") k70 (by simp; omega) (fun d hd => ?_) fun m hm => ?_
      · simp at hd
        rcases hd with rfl | rfl | rfl | rfl | rfl | rfl | rfl | rfl | rfl | rfl | rfl | rfl | rfl | rfl <;> exact ⟨_, rfl, by omega⟩
      walk_at "w"
      rename_i k8 H19 k80 k81 hS19
      refine w_setLi (ns := ns2) (hS19.to (L' := [Lg.ls K br (intsD ns2), bx K b]) (by walk_at "pick")) .here k80 (by omega) fun H20 hS20 => ?_
      exact ⟨⟨_, _, _, rfl⟩, _, by simp [hl2], bytes_set hb2 hm, hS20⟩
    · rintro σ H15 ⟨⟨v6, v7, v8, rfl⟩, ns2, hl2, hb2, hS15⟩
      walk_at "w"
      refine w_lcR (R := fun _ e => ∃ m, e = .int m ∧ 0 ≤ m ∧ m ≤ 255) hS15 (by decide) ?_ ?_
      · intro j q es H16 hj hlen hS16 Z hZ
        show gName 8 _ [some (.ref a), some (.ref b), some (.int _), some (.int num), some (.ref p), some (.ref br), v6, v7, none] _ _
        walk_at "w"
        refine ⟨rfl, ?_⟩
        walk_at "w"
        rename_i k9 H17 k90 k91 hS17
        exact hZ _ (.int k9) _ ⟨k9, rfl, by omega⟩ (hS17.learn .int)
      intro q es H16 hlen hes hS16
      obtain ⟨ns3, rfl, hl3, hb3⟩ := ints_of (es := es) (P := fun m => 0 ≤ m ∧ m ≤ 255) fun e he => by
        obtain ⟨j, hj⟩ := List.getElem?_of_mem he
        exact hes j e hj
      rw [hlen] at hl3
      replace hl3 : ns3.length = 32 := hl3
      walk_at "w"
      refine w_setLi (ns := ns3) hS16 .here (by decide) (by rw [hl3]; decide) fun H17 hS17 => ?_
      walk_at "w"
      refine w_setLi hS17 .here (by decide) (by rw [List.length_set, hl3]; decide) fun H18 hS18 => ?_
      have hb4 := bytes_set (k := Int.toNat 31) (m := 83) (bytes_set (k := Int.toNat 0) (m := 83) hb3 (by omega)) (by omega)
      have hl4 : ((ns3.set (Int.toNat 0) 83).set (Int.toNat 31) 83).length = 32 := by simp [hl3]
      generalize (ns3.set (Int.toNat 0) 83).set (Int.toNat 31) 83 = ns4 at hS18 hb4 hl4
      walk_at "w"
      refine w_or ?_
      walk_at "w"
      refine ⟨_, br, ns2, rfl, hS18, by walk_at "lsin", hl2, bytes_get hb2, fun H19 hS19 => ?_⟩
      walk_at "w"
      refine w_bf rfl ?_
      walk_at "w"
      refine ⟨_, q, ns4, rfl, hS19, by walk_at "lsin", hl4, bytes_get hb4, fun H20 hS20 => ?_⟩
      walk_at "w"
      exact ⟨⟨_, _, _, _, _, _, _, rfl⟩, hS20.to (by walk_at "pick")⟩
  · rintro σ H3 ⟨⟨v2, v3, v4, v5, v6, v7, v8, rfl⟩, hS3⟩
    walk_at "w"
    rename_i p0 H0 hS0 p1 H1 hS1
    have e0 : (List.replicate (Int.toNat 32) [PyData.int 0]).flatten = intsD (List.replicate 32 0) := by
      rw [repD_one]; simp [intsD]
    have hS1' : St K (Lg.ls K p1 (intsD (List.replicate 32 0)) :: [bx K b]) H1 := by
      rw [← e0]
      exact hS1.to (by walk_at "pick")
    exact ⟨_, p1, _, rfl, hS1', by walk_at "lsin", by simp, by decide, fun H4 hS4 => hQ _⟩
end
end K44

/-! ### the end (printed by tools/fin.py) -/
namespace K44
open PySem PySem.Spec PyProof.Rows L2 Lg
theorem facts {P : Program} {w : World} {K : PySem.W.Frag} {h : Heap} {mg : Str → Option Value} {f : Addr} (X : K.In h) (N : h.Ns mainGlobals mg) (hf : mg ("law" : Str) = some (.ref f)) (c : He.SaysD hfa hfn K) :
    ∃ fd : FuncData, (∀ (s : Shared) (v : Value), BindsTo s fd ⟨[v], []⟩ [("_law_script", v)]) ∧ ∀ base : Heap, K.In base → base.Ns mainGlobals mg → FnOk P w K mg base CX0 4 f fd ["_law_script"] (spLaw K) := by
  have g := mk_G X N c
  obtain ⟨fd, F⟩ := fd_law c
  have e := hf.symm.trans (mg_law X N c)
  cases e
  refine ⟨fd, fun s v => (F.bindsA (ps := ["_law_script"]) fun _ _ _ _ _ _ us hl => match us, hl with | [_], _ => rfl) s [v] rfl, fun base _ _ => ?_⟩
  have c_are_codes : C8.Cal P w K mg base 1 "_are_codes" (spCodes K) [] := ok_are_codes g (fd_are_codes c) (mg_are_codes X N c) (fun vs H Q E h => p_codes vs H Q E h)
  have c_sign : C8.Cal P w K mg base 1 "_sign" (spSign K) [] := ok_sign g (fd_sign c) (mg_sign X N c) (fun vs H Q E h => p_sign vs H Q E h)
  have c_decode_piece : C8.Cal P w K mg base 2 "decode_piece" (spDec K) [] := ok_decode_piece g c_sign c_are_codes (fd_decode_piece c) (mg_decode_piece X N c) (fun vs H Q E h => p_dec vs H Q E h)
  have c_l_cell : C8.Cal P w K mg base 1 "_law_cell" (spCell K) [] := ok_l_cell g (fd_l_cell c) (mg_l_cell X N c) (fun vs H Q E h => p_cell vs H Q E h)
  have c_l_digits : C8.Cal P w K mg base 2 "_law_digits" (spDigits K) [] := ok_l_digits g c_l_cell (fd_l_digits c) (mg_l_digits X N c) (fun vs H Q E h => p_digits vs H Q E h)
  have c_l_draw : C8.Cal P w K mg base 1 "_law_draw" (spDraw K) [] := ok_l_draw g (fd_l_draw c) (mg_l_draw X N c) (fun vs H Q E h => p_draw vs H Q E h)
  have c_l_pieces : C8.Cal P w K mg base 1 "_law_pieces" (spPieces K) [] := ok_l_pieces g (fd_l_pieces c) (mg_l_pieces X N c) (fun vs H Q E h => p_pieces vs H Q E h)
  have c_l_signs : C8.Cal P w K mg base 2 "_law_signs" (spSigns K) [] := ok_l_signs g c_l_draw (fd_l_signs c) (mg_l_signs X N c) (fun vs H Q E h => p_signs vs H Q E h)
  have c_l_due_piece : C8.Cal P w K mg base 1 "_law_due_piece" (spDue K) [] := ok_l_due_piece g (fd_l_due_piece c) (mg_l_due_piece X N c) (fun vs H Q E h => p_due vs H Q E h)
  have c_l_reads_so : C8.Cal P w K mg base 3 "_law_reads_so" (spReads K) [] := ok_l_reads_so g c_decode_piece c_l_due_piece (fd_l_reads_so c) (mg_l_reads_so X N c) (fun vs H Q E h => p_reads vs H Q E h)
  have c_l_torn_piece : C8.Cal P w K mg base 3 "_law_torn_piece" (spTorn K) [] := ok_l_torn_piece g c_decode_piece (fd_l_torn_piece c) (mg_l_torn_piece X N c) (fun vs H Q E h => p_torn vs H Q E h)
  exact FunD.ok F sc_law (fun vs H Q E h => (p_law vs H Q E h).1) (fun cdv A outer s H vs Q E hr h => ⟨_, PSs.nox (d_law g c_l_reads_so c_l_draw c_l_torn_piece c_l_pieces c_l_signs c_l_digits hr), (p_law vs H Q E h).2⟩)
abbrev hk : PySem.W.Hook := He.hookD 4 hfa hfn
def ob (s : PySem.W.SharedT) : He.AlD := He.obsDG 4 hfa hfn (HandSHeadRun.getT s)
theorem ob_eq (s : PySem.W.SharedT) : ob s = hk.obs s.abs := He.obsDG_eq (HandSHeadRun.getT_eq s)
def loose : List Str := (["PIECE", "RECORD", "PERCENT", "SIGNS", "_are_codes", "_sign", "decode_piece", "_law_cell", "_law_digits", "_law_draw", "_law_pieces", "_law_signs", "_law_due_piece", "_law_reads_so", "_law_torn_piece"] : List Str)
theorem run (w : World) : HandSHeadRun.RunEq R (PySem.W.view R.prog [17]) hk ob 6000 loose w := by
  intro os
  kernel_rfl
end K44
open PySem PySem.W PySem.Calls PyProof.Rows
set_option maxRecDepth 100000 in
set_option maxHeartbeats 0 in
theorem PySem.Challenge.cw_sameasnew_k44_any_block_is_read_so_holds : PySem.Challenge.rw_sameasnew_k44_any_block_is_read_so.Holds := by
  w_on; o_law
  refine HandSHeadRun.head_any (r := OpenLaw.row PySem.Challenge.rw_sameasnew_k44_any_block_is_read_so) (q := view (OpenLaw.row PySem.Challenge.rw_sameasnew_k44_any_block_is_read_so).prog [17]) (H := K44.hk) (ob := K44.ob) (M := 6000) (loose := K44.loose) (d := HandSHeadRun.topDef (OpenLaw.row PySem.Challenge.rw_sameasnew_k44_any_block_is_read_so).prog 17) (kwd := []) K44.ob_eq
    (by kernel_rfl) (fun s => by kernel_rfl) K44.run (by kernel_rfl) (by kernel_rfl) (by kernel_rfl) (by rfl) (by first | assumption | decide +kernel) (by decide +kernel) ⟨rfl, rfl, rfl, rfl, rfl, by decide +kernel⟩ ?hw ?hc
  case hw => w_witness2
  case hc =>
    refine L2.walk_ofE (l := PySem.Challenge.rw_sameasnew_k44_any_block_is_read_so) (n := 63) (k := 4) (x := "_law_script") (CX := L2.CX0) rfl (by decide) (by kernel_rfl) ⟨rfl, by decide, by decide⟩ ?F (fun _ _ _ _ z => z)
    intro w mg fa h Y G hmg0
    obtain ⟨K, KX, c⟩ := Y
    have hmg : mg ("law" : PySem.Str) = some (.ref fa) := by
      have e : (HandSHeadRun.topDef (OpenLaw.row PySem.Challenge.rw_sameasnew_k44_any_block_is_read_so).prog 17).name = ("law" : PySem.Str) := by kernel_rfl
      rw [← e]
      exact hmg0
    obtain ⟨fd, hb, hF⟩ := K44.facts (P := (PySem.Challenge.rw_sameasnew_k44_any_block_is_read_so).prog) (w := w) KX G hmg c
    exact ⟨K, fd, K44.spLaw K, KX, hb, fun H a ns hl hO hS => ⟨a, ns, rfl, hO, hS, fun _ => rfl⟩, hF⟩

