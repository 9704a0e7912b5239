import PyProof.Rows.All
import Wide.All
import OpenK.AllK
import Wide.FinOn
import KE.KStateDown
import Lean
import HandS.ForMost
import HandS.ForExc
import HandS.Defaults
import HandS.Codes
import HandS.IsInst
import HandS.NoneIn
import HandS.TupAny
import HandS.TryOnly
import HandS.Flow
import HandS.Deep
import HandS.Head0
import HandS.Head1
import HandS.Head2
import HandS.HeadEnd
import HandS.HeadHook1
import HandS.HeadHook2
import HandS.Walk
import KE.KIntText
import HandS.StrMore
import HandS.RaiseMore
import HandS.TryMany
import HandS.ExcField
import HandS.ExcIs
import HandS.ExcInit
import HandS.ExcOwn
import HandS.Replace
import HandS.ReplaceLit
import HandS.ReplaceList
import HandS.StrSplit
import HandS.FStr
import PyProof.Rows.CountFlat
import HandS.HeadHook3
import HandS.More
import PySem.Challenge.RW_sameasnew_k02_expressions_read_and_writt
set_option Elab.async false
set_option linter.all false
set_option maxRecDepth 100000
set_option maxHeartbeats 4000000
/-! A ledger over the abstract heap: what is owned, what is data. -/
namespace Lg
open PySem PySem.Spec PyProof.Rows L2

abbrev Ex (H H' : Hp) : Prop := ∀ a o, H a = some o → H' a = some o
theorem Ex.rfl {H : Hp} : Ex H H := fun _ _ h => h
theorem Ex.tr {H H1 H2 : Hp} (a : Ex H H1) (b : Ex H1 H2) : Ex H H2 := fun x o h => b x o (a x o h)
theorem Ex.none {H H' : Hp} (e : Ex H H') {a : Addr} (h : H' a = Option.none) : H a = Option.none := by
  cases q : H a with
  | none => rfl
  | some o => rw [e a o q] at h; cases h
theorem Ex.upd {F H : Hp} (e : Ex F H) {p : Addr} {o : HO} (h : F p = Option.none) : Ex F (upd H p o) := fun a u ha => by
  rw [upd_ne (ne_of_none ha h)]; exact e a u ha
theorem Ex.both {F H : Hp} (e : Ex F H) {p : Addr} {o : HO} : Ex (L2.upd F p o) (L2.upd H p o) := fun a u ha => by
  by_cases h : a = p
  · subst h; rw [upd_same] at ha ⊢; exact ha
  · rw [upd_ne h] at ha ⊢; exact e a u ha
theorem Ex.new {H : Hp} {p : Addr} {o : HO} (h : H p = Option.none) : Ex H (L2.upd H p o) := Ex.upd Ex.rfl h
theorem Ex.rd {H H' : Hp} {a : Addr} {u : HO} (e : Ex H H') (h : Rd H a u) : Rd H' a u := by
  rcases h with h | ⟨o, h⟩
  · exact Or.inl (e a _ h)
  · exact Or.inr ⟨o, e a _ h⟩
theorem Ex.sqT {K : PySem.W.Frag} {H H' : Hp} {a : Addr} {xs : List V} (e : Ex H H') (h : SqT K H a xs) : SqT K H' a xs := by
  rcases h with h | h
  · exact Or.inl (e.rd h)
  · exact Or.inr h
theorem Ex.sqL {K : PySem.W.Frag} {H H' : Hp} {a : Addr} {xs : List V} (e : Ex H H') (h : SqL K H a xs) : SqL K H' a xs := by
  rcases h with h | h
  · exact Or.inl (e.rd h)
  · exact Or.inr h

/-! ### data -/
mutual
inductive Dv (K : PySem.W.Frag) (F : Hp) : V → PyData → Prop
  | non : Dv K F .non .none
  | bl (b : Bool) : Dv K F (.bl b) (.bool b)
  | int (i : Int) : Dv K F (.int i) (.int i)
  | str (x : Str) : Dv K F (.str x) (.str x)
  | lst {a : Addr} {xs : List V} {ds : List PyData} : F a = some (.lst xs) → DvAll K F xs ds → Dv K F (.ref a) (.list ds)
  | tup {a : Addr} {xs : List V} {ds : List PyData} : SqT K F a xs → DvAll K F xs ds → Dv K F (.ref a) (.tuple ds)
inductive DvAll (K : PySem.W.Frag) (F : Hp) : List V → List PyData → Prop
  | nil : DvAll K F [] []
  | cons {v : V} {vs : List V} {d : PyData} {ds : List PyData} : Dv K F v d → DvAll K F vs ds → DvAll K F (v :: vs) (d :: ds)
end
section
variable {K : PySem.W.Frag} {F F' : Hp}
mutual
theorem Dv.mono (e : Ex F F') : ∀ (d : PyData) (v : V), Dv K F v d → Dv K F' v d
  | .none, _, h => by cases h; exact .non
  | .bool b, _, h => by cases h; exact .bl b
  | .int i, _, h => by cases h; exact .int i
  | .str x, _, h => by cases h; exact .str x
  | .list ds, _, h => by
    cases h with
    | lst hs ha => exact .lst (e _ _ hs) (DvAll.mono e ds _ ha)
  | .tuple ds, _, h => by
    cases h with
    | tup hs ha => exact .tup (e.sqT hs) (DvAll.mono e ds _ ha)
  | .dict _, _, h => by cases h
theorem DvAll.mono (e : Ex F F') : ∀ (ds : List PyData) (vs : List V), DvAll K F vs ds → DvAll K F' vs ds
  | [], _, h => by cases h; exact .nil
  | d :: ds, _, h => by
    cases h with
    | cons h1 h2 => exact .cons (Dv.mono e d _ h1) (DvAll.mono e ds _ h2)
end
mutual
theorem Dv.dp : ∀ (d : PyData) (v : V), Dv K F v d → Dp K F v d
  | .none, _, h => by cases h; exact .non
  | .bool b, _, h => by cases h; exact .bl b
  | .int i, _, h => by cases h; exact .int i
  | .str x, _, h => by cases h; exact .str x
  | .list ds, _, h => by
    cases h with
    | lst hs ha => exact .lst (SqL.of hs) (DvAll.dp ds _ ha)
  | .tuple ds, _, h => by
    cases h with
    | tup hs ha => exact .tup hs (DvAll.dp ds _ ha)
  | .dict _, _, h => by cases h
theorem DvAll.dp : ∀ (ds : List PyData) (vs : List V), DvAll K F vs ds → DpAll K F vs ds
  | [], _, h => by cases h; exact .nil
  | d :: ds, _, h => by
    cases h with
    | cons h1 h2 => exact .cons (Dv.dp d _ h1) (DvAll.dp ds _ h2)
end
theorem DvAll.len : ∀ {vs : List V} {ds : List PyData}, DvAll K F vs ds → vs.length = ds.length
  | _, [], h => by cases h; rfl
  | _, d :: ds, h => by
    cases h with
    | cons h1 h2 => simp [DvAll.len h2]
theorem DvAll.get : ∀ {vs : List V} {ds : List PyData} {i : Nat} {d : PyData}, DvAll K F vs ds → ds[i]? = some d → ∃ v, vs[i]? = some v ∧ Dv K F v d
  | _, [], i, d, h, e => by simp at e
  | _, d0 :: ds, 0, d, h, e => by
    cases h with
    | cons h1 h2 => simp at e; subst e; exact ⟨_, rfl, h1⟩
  | _, d0 :: ds, i + 1, d, h, e => by
    cases h with
    | cons h1 h2 => simp at e; obtain ⟨v, q, r⟩ := DvAll.get h2 e; exact ⟨v, by simpa using q, r⟩
theorem DvAll.get' : ∀ {vs : List V} {ds : List PyData} {i : Nat} {v : V}, DvAll K F vs ds → vs[i]? = some v → ∃ d, ds[i]? = some d ∧ Dv K F v d
  | _, [], i, d, h, e => by cases h; simp at e
  | _, d0 :: ds, 0, d, h, e => by
    cases h with
    | cons h1 h2 => simp at e; subst e; exact ⟨_, rfl, h1⟩
  | _, d0 :: ds, i + 1, d, h, e => by
    cases h with
    | cons h1 h2 => simp at e; obtain ⟨v, q, r⟩ := DvAll.get' h2 e; exact ⟨v, by simpa using q, r⟩
theorem DvAll.app : ∀ {vs ws : List V} {ds es : List PyData}, DvAll K F vs ds → DvAll K F ws es → DvAll K F (vs ++ ws) (ds ++ es)
  | _, _, [], _, h, h' => by cases h; exact h'
  | _, _, d :: ds, _, h, h' => by
    cases h with
    | cons h1 h2 => exact .cons h1 (DvAll.app h2 h')
theorem DvAll.take : ∀ {vs : List V} {ds : List PyData} (n : Nat), DvAll K F vs ds → DvAll K F (vs.take n) (ds.take n)
  | _, [], n, h => by cases h; simp; exact .nil
  | _, d :: ds, 0, h => by simp; exact .nil
  | _, d :: ds, n + 1, h => by
    cases h with
    | cons h1 h2 => exact .cons h1 (DvAll.take n h2)
theorem DvAll.drop : ∀ {vs : List V} {ds : List PyData} (n : Nat), DvAll K F vs ds → DvAll K F (vs.drop n) (ds.drop n)
  | _, [], n, h => by cases h; simp; exact .nil
  | _, d :: ds, 0, h => h
  | _, d :: ds, n + 1, h => by
    cases h with
    | cons h1 h2 => exact DvAll.drop n h2
theorem DvAll.set : ∀ {vs : List V} {ds : List PyData} {v : V} {d : PyData} (n : Nat), DvAll K F vs ds → Dv K F v d → DvAll K F (vs.set n v) (ds.set n d)
  | _, [], _, _, n, h, _ => by cases h; simp; exact .nil
  | _, d :: ds, _, _, 0, h, q => by
    cases h with
    | cons h1 h2 => exact .cons q h2
  | _, d :: ds, _, _, n + 1, h, q => by
    cases h with
    | cons h1 h2 => exact .cons h1 (DvAll.set n h2 q)
theorem DvAll.ints : ∀ (ns : List Int), DvAll K F (ns.map V.int) (ns.map PyData.int)
  | [] => .nil
  | n :: ns => .cons (.int n) (DvAll.ints ns)
theorem DvAll.ints_inv : ∀ {ns : List Int} {vs : List V}, DvAll K F vs (ns.map PyData.int) → vs = ns.map V.int
  | [], _, h => by cases h; rfl
  | n :: ns, _, h => by
    cases h with
    | cons h1 h2 => cases h1; simp [DvAll.ints_inv h2]
theorem DvAll.strs : ∀ (ns : List Str), DvAll K F (ns.map V.str) (ns.map PyData.str)
  | [] => .nil
  | n :: ns => .cons (.str n) (DvAll.strs ns)
theorem DvAll.strs_inv : ∀ {ns : List Str} {vs : List V}, DvAll K F vs (ns.map PyData.str) → vs = ns.map V.str
  | [], _, h => by cases h; rfl
  | n :: ns, _, h => by
    cases h with
    | cons h1 h2 => cases h1; simp [DvAll.strs_inv h2]
theorem DvAll.bls : ∀ (ns : List Bool), DvAll K F (ns.map V.bl) (ns.map PyData.bool)
  | [] => .nil
  | n :: ns => .cons (.bl n) (DvAll.bls ns)
theorem DvAll.bls_inv : ∀ {ns : List Bool} {vs : List V}, DvAll K F vs (ns.map PyData.bool) → vs = ns.map V.bl
  | [], _, h => by cases h; rfl
  | n :: ns, _, h => by
    cases h with
    | cons h1 h2 => cases h1; simp [DvAll.bls_inv h2]
theorem DvAll.rep {v : V} {d : PyData} (h : Dv K F v d) : ∀ n, DvAll K F (List.replicate n v) (List.replicate n d)
  | 0 => .nil
  | n + 1 => .cons h (DvAll.rep h n)
theorem DvAll.flat {vs : List V} {ds : List PyData} (h : DvAll K F vs ds) : ∀ n, DvAll K F (List.replicate n vs).flatten (List.replicate n ds).flatten
  | 0 => .nil
  | n + 1 => by
    rw [List.replicate_succ, List.replicate_succ, List.flatten_cons, List.flatten_cons]
    exact h.app (DvAll.flat h n)
end

/-! ### the ledger -/
structure Pr where
  p : Hp → HO → Prop
  mono : ∀ F F' o, Ex F F' → p F o → p F' o
def Pr.eq (o : HO) : Pr := ⟨fun _ x => x = o, fun _ _ _ _ h => h⟩
def Pr.ls (K : PySem.W.Frag) (ds : List PyData) : Pr := ⟨fun F x => ∃ xs, x = .lst xs ∧ DvAll K F xs ds, fun _ _ _ e ⟨xs, h, q⟩ => ⟨xs, h, DvAll.mono e _ _ q⟩⟩
def Pr.box (K : PySem.W.Frag) : Pr := ⟨fun F x => ∃ (d : Addr) (at_ : Int) (ns : List Int), x = .lst [.ref d, .int at_] ∧ 0 ≤ at_ ∧ F d = some (.lst (ns.map V.int)), fun _ _ _ e ⟨d, i, ns, h, q, r⟩ => ⟨d, i, ns, h, q, e _ _ r⟩⟩
/-- what stays true -/
structure Fr where
  p : Hp → Prop
  mono : ∀ F F', Ex F F' → p F → p F'
def Fr.seq (K : PySem.W.Frag) (a : Addr) (ns : List Int) : Fr := ⟨fun F => SqL K F a (ns.map V.int), fun _ _ e h => e.sqL h⟩
inductive Ent where
  | cell (a : Addr) (φ : Pr)
  | dat (v : V) (d : PyData)
  | fact (φ : Fr)
/-- owned: what stands there, a list of data, the law's box of draws -/
abbrev own (a : Addr) (o : HO) : Ent := .cell a (.eq o)
abbrev ls (K : PySem.W.Frag) (a : Addr) (ds : List PyData) : Ent := .cell a (.ls K ds)
abbrev bx (K : PySem.W.Frag) (a : Addr) : Ent := .cell a (.box K)
abbrev dat (v : V) (d : PyData) : Ent := .dat v d
def Ent.adr : Ent → Option Addr
  | .cell a _ => some a
  | .dat _ _ => none
  | .fact _ => none
def Ent.ok (K : PySem.W.Frag) (F H : Hp) : Ent → Prop
  | .cell a φ => F a = none ∧ ∃ o, H a = some o ∧ φ.p F o
  | .dat v d => Dv K F v d
  | .fact φ => φ.p F
structure St (K : PySem.W.Frag) (L : List Ent) (H : Hp) : Prop where
  ex : ∃ F, Ex F H ∧ ∀ e ∈ L, e.ok K F H
  nd : (L.filterMap Ent.adr).Nodup

/-- L' is L with e turned to e' -/
inductive Put : List Ent → Ent → Ent → List Ent → Prop
  | here {e e' : Ent} {L : List Ent} : Put (e :: L) e e' (e' :: L)
  | there {x e e' : Ent} {L L' : List Ent} : Put L e e' L' → Put (x :: L) e e' (x :: L')
/-- L is e beside L' -/
inductive Rem : List Ent → Ent → List Ent → Prop
  | here {e : Ent} {L : List Ent} : Rem (e :: L) e L
  | there {x e : Ent} {L L' : List Ent} : Rem L e L' → Rem (x :: L) e (x :: L')
inductive Pick : List Ent → List Ent → Prop
  | nil {L : List Ent} : Pick [] L
  | refl {L : List Ent} : Pick L L
  | drop {x : Ent} {L L' : List Ent} : Pick L' L → Pick L' (x :: L)
  | cons {e : Ent} {L L' L1 : List Ent} : Rem L e L1 → Pick L' L1 → Pick (e :: L') L
theorem Put.mem {L L' : List Ent} {e e' : Ent} (h : Put L e e' L') : e ∈ L := by
  induction h with
  | here => exact .head _
  | there _ ih => exact .tail _ ih
theorem Rem.perm {L L' : List Ent} {e : Ent} (h : Rem L e L') : L.Perm (e :: L') := by
  induction h with
  | here => exact .refl _
  | there _ ih => exact (List.Perm.cons _ ih).trans (List.Perm.swap _ _ _)
theorem Put.perm {L L' : List Ent} {e e' : Ent} (h : Put L e e' L') : ∃ R, L.Perm (e :: R) ∧ L'.Perm (e' :: R) := by
  induction h with
  | here => exact ⟨_, .refl _, .refl _⟩
  | @there x _ _ _ _ _ ih =>
    obtain ⟨R, h1, h2⟩ := ih
    exact ⟨x :: R, (List.Perm.cons _ h1).trans (List.Perm.swap _ _ _), (List.Perm.cons _ h2).trans (List.Perm.swap _ _ _)⟩
section
variable {K : PySem.W.Frag} {L L' : List Ent} {H : Hp} {a p : Addr} {φ ψ : Pr} {o : HO} {v : V} {d : PyData}
theorem St.perm (h : St K L H) (q : L.Perm L') : St K L' H := by
  obtain ⟨F, h1, h2⟩ := h.ex
  exact ⟨⟨F, h1, fun e he => h2 e (q.mem_iff.mpr he)⟩, (q.filterMap _).nodup_iff.mp h.nd⟩
theorem St.tail {e : Ent} (h : St K (e :: L) H) : St K L H := by
  obtain ⟨F, h1, h2⟩ := h.ex
  refine ⟨⟨F, h1, fun e he => h2 e (.tail _ he)⟩, ?_⟩
  have := h.nd
  cases e with
  | cell a φ => exact (List.nodup_cons.mp this).2
  | dat v d => exact this
  | fact φ => exact this
theorem St.pick (q : Pick L' L) : ∀ {A : List Ent}, St K (A ++ L) H → St K (A ++ L') H := by
  induction q with
  | @nil L => 
    intro A h
    rw [List.append_nil]
    obtain ⟨F, h1, h2⟩ := h.ex
    refine ⟨⟨F, h1, fun e he => h2 e (List.mem_append_left _ he)⟩, ?_⟩
    have := h.nd
    rw [List.filterMap_append] at this
    exact (List.nodup_append.mp this).1
  | refl => intro A h; exact h
  | @drop x L L' _ ih =>
    intro A h
    exact ih (h.perm (List.perm_middle)).tail
  | @cons e L L' L1 hr _ ih =>
    intro A h
    have h1 : St K (A ++ (e :: L1)) H := h.perm (List.Perm.append_left A hr.perm)
    have h2 : St K ((A ++ [e]) ++ L1) H := by rw [List.append_assoc]; exact h1
    have h3 := ih h2
    rw [List.append_assoc] at h3
    exact h3
theorem St.to (h : St K L H) (q : Pick L' L) : St K L' H := by
  have := St.pick (A := []) q h
  exact this
theorem St.put_to {e e' : Ent} (h : St K L H) (q : Put L e e' L') : ∃ R, St K (e :: R) H ∧ L'.Perm (e' :: R) := by
  obtain ⟨R, h1, h2⟩ := q.perm
  exact ⟨R, h.perm h1, h2⟩
theorem St.cell (h : St K L H) (m : Ent.cell a φ ∈ L) : ∃ F o, Ex F H ∧ F a = none ∧ H a = some o ∧ φ.p F o := by
  obtain ⟨F, h1, h2⟩ := h.ex
  obtain ⟨h3, o, h4, h5⟩ := h2 _ m
  exact ⟨F, o, h1, h3, h4, h5⟩
theorem St.own (h : St K L H) (m : Lg.own a o ∈ L) : H a = some o := by
  obtain ⟨F, x, _, _, h4, rfl⟩ := h.cell m
  exact h4
theorem St.ls (h : St K L H) {ds : List PyData} (m : Lg.ls K a ds ∈ L) : ∃ F xs, Ex F H ∧ H a = some (.lst xs) ∧ DvAll K F xs ds := by
  obtain ⟨F, x, h1, _, h4, xs, rfl, h5⟩ := h.cell m
  exact ⟨F, xs, h1, h4, h5⟩
/-- a new cell -/
theorem St.alloc (h : St K L H) (hp : H p = none) (q : ∀ F, Ex F H → (∀ e ∈ L, e.ok K F H) → φ.p F o) : St K (.cell p φ :: L) (upd H p o) := by
  obtain ⟨F, h1, h2⟩ := h.ex
  have hF : F p = none := h1.none hp
  refine ⟨⟨F, h1.upd hF, fun e he => ?_⟩, ?_⟩
  · cases he with
    | head => exact ⟨hF, o, upd_same, q F h1 h2⟩
    | tail _ he =>
      have := h2 e he
      cases e with
      | cell a φ =>
        obtain ⟨h3, o', h4, h5⟩ := this
        exact ⟨h3, o', by rw [upd_ne (ne_of_none h4 hp)]; exact h4, h5⟩
      | dat v d => exact this
      | fact φ => exact this
  · show (p :: L.filterMap Ent.adr).Nodup
    refine List.nodup_cons.mpr ⟨fun m => ?_, h.nd⟩
    obtain ⟨e, he, q⟩ := List.mem_filterMap.mp m
    cases e with
    | cell a φ =>
      cases q
      obtain ⟨_, o', h4, _⟩ := h2 _ he
      rw [hp] at h4; cases h4
    | dat v d => cases q
    | fact φ => cases q
/-- a cell is written -/
theorem St.write (h : St K (.cell a φ :: L) H) (q : ∀ F x, Ex F H → (∀ e ∈ Ent.cell a φ :: L, e.ok K F H) → H a = some x → φ.p F x → ψ.p F o) : St K (.cell a ψ :: L) (upd H a o) := by
  obtain ⟨F, h1, h2⟩ := h.ex
  obtain ⟨h3, x, h4, h5⟩ := h2 _ (.head _)
  refine ⟨⟨F, h1.upd h3, fun e he => ?_⟩, h.nd⟩
  cases he with
  | head => exact ⟨h3, o, upd_same, q F x h1 h2 h4 h5⟩
  | tail _ he =>
    have := h2 e (.tail _ he)
    cases e with
    | cell b φ' =>
      obtain ⟨h6, o', h7, h8⟩ := this
      have hne : b ≠ a := fun z => by
        have hn := h.nd
        have hn' : (a :: L.filterMap Ent.adr).Nodup := hn
        exact (List.nodup_cons.mp hn').1 (List.mem_filterMap.mpr ⟨_, he, by rw [z]; rfl⟩)
      exact ⟨h6, o', by rw [upd_ne hne]; exact h7, h8⟩
    | dat v d => exact this
    | fact φ => exact this
theorem St.writeP (h : St K L H) (m : Put L (.cell a φ) (.cell a ψ) L') (q : ∀ F x, Ex F H → (∀ e ∈ L, e.ok K F H) → H a = some x → φ.p F x → ψ.p F o) : St K L' (upd H a o) := by
  obtain ⟨R, h1, h2⟩ := m.perm
  exact ((h.perm h1).write (ψ := ψ) (o := o) fun F x e hd hx hφ => q F x e (fun u m => hd u (h1.mem_iff.mp m)) hx hφ).perm h2.symm
/-- a cell within, its word kept -/
theorem St.turn (h : St K L H) (m : Ent.cell a φ ∈ L) (q : ∀ F x, Ex F H → H a = some x → φ.p F x → φ.p F o) : St K L (upd H a o) := by
  obtain ⟨A, B, rfl⟩ := List.append_of_mem m
  have p1 : (A ++ .cell a φ :: B).Perm (.cell a φ :: (A ++ B)) := List.perm_middle
  exact ((h.perm p1).write fun F x e _ => q F x e).perm p1.symm
/-- a new frozen object -/
theorem St.fresh (h : St K L H) (hp : H p = none) (q : ∀ F, F p = none → Ex F H → (∀ e ∈ L, e.ok K F H) → Dv K (upd F p o) v d) : St K (.dat v d :: L) (upd H p o) := by
  obtain ⟨F, h1, h2⟩ := h.ex
  have hF : F p = none := h1.none hp
  refine ⟨⟨upd F p o, h1.both, fun e he => ?_⟩, h.nd⟩
  cases he with
  | head => exact q F hF h1 h2
  | tail _ he =>
    have := h2 e he
    cases e with
    | cell a φ =>
      obtain ⟨h3, o', h4, h5⟩ := this
      have hne : a ≠ p := ne_of_none h4 hp
      exact ⟨by rw [upd_ne hne]; exact h3, o', by rw [upd_ne hne]; exact h4, φ.mono _ _ _ (Ex.new hF) h5⟩
    | dat v d => exact Dv.mono (Ex.new hF) _ _ this
    | fact φ => exact φ.mono _ _ (Ex.new hF) this
/-- an owned list becomes data -/
theorem St.freeze {ds : List PyData} (h : St K (.cell a (.ls K ds) :: L) H) : St K (.dat (.ref a) (.list ds) :: L) H := by
  obtain ⟨F, h1, h2⟩ := h.ex
  obtain ⟨h3, x, h4, xs, rfl, h5⟩ := h2 _ (.head _)
  refine ⟨⟨upd F a (.lst xs), fun b o hb => ?_, fun e he => ?_⟩, h.tail.nd⟩
  · by_cases z : b = a
    · subst z; rw [upd_same] at hb; rw [h4]; exact hb
    · rw [upd_ne z] at hb; exact h1 _ _ hb
  · cases he with
    | head => exact .lst upd_same (DvAll.mono (Ex.new h3) _ _ h5)
    | tail _ he =>
      have := h2 e (.tail _ he)
      cases e with
      | cell b φ' =>
        obtain ⟨h6, o', h7, h8⟩ := this
        have hne : b ≠ a := fun z => by
          have hn := h.nd
          have hn' : (a :: L.filterMap Ent.adr).Nodup := hn
          exact (List.nodup_cons.mp hn').1 (List.mem_filterMap.mpr ⟨_, he, by rw [z]; rfl⟩)
        exact ⟨by rw [upd_ne hne]; exact h6, o', h7, φ'.mono _ _ _ (Ex.new h3) h8⟩
      | dat v d => exact Dv.mono (Ex.new h3) _ _ this
      | fact φ => exact φ.mono _ _ (Ex.new h3) this
/-- an owned thing told otherwise -/
theorem St.data (h : St K L H) (m : Put L (.cell a φ) (.cell a ψ) L') (q : ∀ F x, Ex F H → (∀ e ∈ L, e.ok K F H) → H a = some x → φ.p F x → ψ.p F x) : St K L' H := by
  obtain ⟨R, h1, h2⟩ := m.perm
  have h' := h.perm h1
  obtain ⟨F, e1, e2⟩ := h'.ex
  obtain ⟨h3, x, h4, h5⟩ := e2 _ (.head _)
  refine St.perm (L := .cell a ψ :: R) ⟨⟨F, e1, fun e he => ?_⟩, h'.nd⟩ h2.symm
  cases he with
  | head => exact ⟨h3, x, h4, q F x e1 (fun u m => e2 _ (h1.mem_iff.mp m)) h4 h5⟩
  | tail _ he => exact e2 e (.tail _ he)
/-- one more thing known as data -/
theorem St.know (h : St K L H) (q : ∀ F, Ex F H → (∀ e ∈ L, e.ok K F H) → Dv K F v d) : St K (.dat v d :: L) H := by
  obtain ⟨F, h1, h2⟩ := h.ex
  refine ⟨⟨F, h1, fun e he => ?_⟩, h.nd⟩
  cases he with
  | head => exact q F h1 h2
  | tail _ he => exact h2 e he
end

/-- v is d, as L says -/
inductive Is (L : List Ent) : V → PyData → Prop
  | non : Is L .non .none
  | bl {b : Bool} : Is L (.bl b) (.bool b)
  | int {i : Int} : Is L (.int i) (.int i)
  | str {x : Str} : Is L (.str x) (.str x)
  | dat {v : V} {d : PyData} : Ent.dat v d ∈ L → Is L v d
inductive IsAll (L : List Ent) : List V → List PyData → Prop
  | nil : IsAll L [] []
  | cons {v : V} {d : PyData} {vs : List V} {ds : List PyData} : Is L v d → IsAll L vs ds → IsAll L (v :: vs) (d :: ds)
section
variable {K : PySem.W.Frag} {L L' : List Ent} {H F : Hp} {v : V} {d : PyData}
theorem Is.dv (h : Is L v d) (q : ∀ e ∈ L, e.ok K F H) : Dv K F v d := by
  cases h with
  | non => exact .non
  | bl => exact .bl _
  | int => exact .int _
  | str => exact .str _
  | dat m => exact q _ m
theorem IsAll.dv (q : ∀ e ∈ L, e.ok K F H) : ∀ {vs : List V} {ds : List PyData}, IsAll L vs ds → DvAll K F vs ds
  | _, _, .nil => .nil
  | _, _, .cons h t => .cons (h.dv q) (IsAll.dv q t)
theorem Is.more (s : ∀ e ∈ L, e ∈ L') (h : Is L v d) : Is L' v d := by
  cases h with
  | non => exact .non
  | bl => exact .bl
  | int => exact .int
  | str => exact .str
  | dat m => exact .dat (s _ m)
theorem Is.cons {e : Ent} (h : Is L v d) : Is (e :: L) v d := h.more fun _ m => .tail _ m
theorem IsAll.more (s : ∀ e ∈ L, e ∈ L') : ∀ {vs : List V} {ds : List PyData}, IsAll L vs ds → IsAll L' vs ds
  | _, _, .nil => .nil
  | _, _, .cons h t => .cons (h.more s) (IsAll.more s t)
theorem St.is_of (h : St K L H) (q : Is L v d) : ∃ F, Ex F H ∧ Dv K F v d := by
  obtain ⟨F, h1, h2⟩ := h.ex
  exact ⟨F, h1, q.dv h2⟩
theorem St.dp (h : St K L H) (q : Is L v d) : Dp K H v d := by
  obtain ⟨F, h1, h2⟩ := h.is_of q
  exact Dv.dp _ _ (Dv.mono h1 _ _ h2)
theorem St.learn (h : St K L H) (q : Is L v d) : St K (.dat v d :: L) H := h.know fun F _ hd => q.dv hd
theorem St.mono_mem (h : St K L H) (s : ∀ e ∈ L', e ∈ L) (n : (L'.filterMap Ent.adr).Nodup) : St K L' H := by
  obtain ⟨F, h1, h2⟩ := h.ex
  exact ⟨⟨F, h1, fun e he => h2 e (s e he)⟩, n⟩
/-- a frozen tuple, a frozen list: its parts -/
theorem St.tup_parts (h : St K L H) {a : Addr} {ds : List PyData} (q : Is L (.ref a) (.tuple ds)) : ∃ xs : List V, SqT K H a xs ∧ xs.length = ds.length ∧ ∀ (i : Nat) (d : PyData), ds[i]? = some d → ∃ v, xs[i]? = some v ∧ St K (.dat v d :: L) H := by
  obtain ⟨F, h1, h2⟩ := h.ex
  have := q.dv h2
  cases this with
  | tup hs ha =>
    refine ⟨_, h1.sqT hs, ha.len, fun i d e => ?_⟩
    obtain ⟨v, h3, h4⟩ := ha.get e
    refine ⟨v, h3, ⟨⟨F, h1, fun e he => ?_⟩, h.nd⟩⟩
    cases he with
    | head => exact h4
    | tail _ he => exact h2 e he
end
end Lg

/-! The operators by one relation each, and how each is answered over the ledger. -/
namespace Lg
open PySem PySem.Spec PyProof.Rows L2

/-! ### relations -/
def rAddI : R2 := rI0 fun i j => .int (i + j)
def rAddS : R2 := fun x y H Q => ∃ i j, x = .str i ∧ y = .str j ∧ i.length + j.length ≤ sizeLine ∧ Q (.str (i ++ j)) H
def rPlus (K : PySem.W.Frag) : R2 := fun x y H Q => rAddI x y H Q ∨ (rAddS x y H Q ∨ (rCat x y H Q ∨ rCatA K x y H Q))
def rMinus : R2 := rI0 fun i j => .int (i - j)
def rMulI : R2 := rI CMul fun i j => .int (i * j)
def repL (l : List Nat) (n : Nat) : List Nat := (List.replicate n l).flatten
def rRepS : R2 := fun x y H Q => ∃ (z : Str) (k : Int), x = .str z ∧ y = .int k ∧ 0 ≤ k ∧ k ≤ 100000 ∧ z.length ≤ 100 ∧ Q (.str ⟨(repL z.cps.toList k.toNat).toArray⟩) H
def rTimes : R2 := fun x y H Q => rMulI x y H Q ∨ (rRep x y H Q ∨ rRepS x y H Q)
def rFdiv : R2 := rI CDiv fun i j => .int (i / j)
def rMod : R2 := rI (fun _ j => 0 < j) fun i j => .int (i % j)
def rAnd : R2 := rI0 fun i j => .int (Builtin.bitAnd i j)
def rLt : R2 := rI0 fun i j => .bl (decide (i < j))
def rLe : R2 := rI0 fun i j => .bl (decide (i ≤ j))
def rGt : R2 := rI0 fun i j => .bl (decide (j < i))
def rGe : R2 := rI0 fun i j => .bl (decide (j ≤ i))
def rEqX (K : PySem.W.Frag) : R2 := fun x y H Q => rEq x y H Q ∨ rEqD K x y H Q
def rNeX (K : PySem.W.Frag) : R2 := fun x y H Q => rNe x y H Q ∨ rNeD K x y H Q
def rInSign (neg : Bool) : R2 := fun x y H Q => ∃ (c : Nat) (z : Str), x = .str ⟨#[c]⟩ ∧ y = .str z ∧ Q (.bl (if neg then !decide (c ∈ z.cps.toList) else decide (c ∈ z.cps.toList))) H
def rInX (K : PySem.W.Frag) (neg : Bool) : R2 := fun x y H Q => rIn K neg x y H Q ∨ rInSign neg x y H Q
def rIsNo : R2 := fun x y H Q => y = .non ∧ Q (.bl (decide (x = .non))) H
def rNotNo : R2 := fun x y H Q => y = .non ∧ Q (.bl (!decide (x = .non))) H
def rLenX (K : PySem.W.Frag) : List V → Hp → VK → Prop := fun xs H Q => ∃ x n, xs = [x] ∧ LenV K x H n ∧ Q (.int n) H
def rIntX : List V → Hp → VK → Prop := fun xs H Q => (∃ i, xs = [.int i] ∧ Q (.int i) H) ∨ ∃ k, xs = [.bl k] ∧ Q (.int (if k then 1 else 0)) H
def rOrd : List V → Hp → VK → Prop := fun xs H Q => ∃ x, xs = [.str x] ∧ x.length = 1 ∧ Q (.int (x.cps.getD 0 0 : Nat)) H
def rListOf (K : PySem.W.Frag) : List V → Hp → VK → Prop := fun xs H Q => ∃ p ys, xs = [.ref p] ∧ (SqL K H p ys ∨ SqT K H p ys) ∧ ∀ l, H l = none → Q (.ref l) (upd H l (.lst ys))
def rTupOf (K : PySem.W.Frag) : List V → Hp → VK → Prop := fun xs H Q => ∃ p ys, xs = [.ref p] ∧ ((SqL K H p ys ∧ ∀ l, H l = none → Q (.ref l) (upd H l (.tup ys))) ∨ (SqT K H p ys ∧ Q (.ref p) H))
def trV : V → Bool
  | .int i => i != 0
  | .bl b => b
  | _ => false
def flatIB : V → Bool
  | .int _ => true
  | .bl _ => true
  | _ => false
def rAnyX (K : PySem.W.Frag) : List V → Hp → VK → Prop := fun vs H Q => ∃ (a : Addr) (xs : List V), vs = [V.ref a] ∧ SqL K H a xs ∧ xs.all flatIB = true ∧ Q (.bl (xs.any trV)) H
def rAllX (K : PySem.W.Frag) : List V → Hp → VK → Prop := fun vs H Q => ∃ (a : Addr) (xs : List V), vs = [V.ref a] ∧ SqL K H a xs ∧ xs.all flatIB = true ∧ Q (.bl (xs.all trV)) H
def rSlX (K : PySem.W.Frag) : V → Option Int → Option Int → Hp → VK → Prop := fun x lo hi H Q => rSlL K x lo hi H Q ∨ (rSlS x lo hi H Q ∨ rSlA K x lo hi H Q)
def rJoin (K : PySem.W.Frag) : V → List V → Hp → VK → Prop := fun x xs H Q => ∃ a p, ∃ ys : List Str, x = .str a ∧ xs = [.ref p] ∧ (SqL K H p (ys.map V.str) ∨ SqT K H p (ys.map V.str)) ∧ (ys.map (·.length)).sum + ys.length * a.length ≤ 16777216 ∧ Q (.str (Txt.join a ys)) H
def tTruX (K : PySem.W.Frag) (ta : TE) : TT := fun σ H Q => ta σ H fun x H' => ∃ k, TruV K x H' k ∧ Q k H'

section
variable {X : Cx}
theorem o_plus : OpR X (binaryOp .Add) (rPlus X.K) := OpR.or op_add (OpR.or op_add_str (OpR.or op_cat op_catA))
theorem o_minus : OpR X (binaryOp .Sub) rMinus := op_sub
theorem mulok_of {z : Str} {k : Int} (h0 : 0 ≤ k) (h1 : k ≤ 100000) (h2 : z.length ≤ 100) : MulOk z k := by
  refine ⟨?_, fun h _ => ?_, fun h _ => ?_⟩
  · rw [Bool.or_eq_false_iff]
    exact ⟨decide_eq_false (by omega), decide_eq_false (by omega)⟩
  · have hk : 0 < k := by omega
    intro q
    have h3 : (9223372036854775807 : Int) / 100000 ≤ (2 ^ 63 - 1) / k := by
      rw [show ((2 : Int) ^ 63 - 1) = 9223372036854775807 by decide]
      refine (Int.le_ediv_iff_mul_le hk).mpr ?_
      have : (9223372036854775807 : Int) / 100000 = 92233720368547 := by decide
      rw [this]
      omega
    have : (9223372036854775807 : Int) / 100000 = 92233720368547 := by decide
    omega
  · unfold Builtin.Str.tooLong
    have h4 : z.length * k.toNat ≤ 100 * 100000 := Nat.mul_le_mul h2 (by omega)
    have := sizeLine_eq
    simp
    omega
theorem rep_fold (a : Array Nat) : ∀ (n : Nat) (b : Array Nat), (List.replicate n a).foldl (· ++ ·) b = (b.toList ++ repL a.toList n).toArray
  | 0, b => by simp [repL]
  | n + 1, b => by
    rw [List.replicate_succ, List.foldl_cons, rep_fold a n]
    simp [repL, List.replicate_succ]
theorem repL_nil (n : Nat) : repL [] n = [] := by simp [repL]
theorem mul_txt {z : Str} {k : Int} (h0 : 0 ≤ k) : Txt.mul z k = ⟨(repL z.cps.toList k.toNat).toArray⟩ := by
  unfold Txt.mul
  by_cases h1 : k < 1
  · rw [if_pos h1]
    have : k = 0 := by omega
    subst this
    rfl
  · rw [if_neg h1]
    by_cases h2 : (k == 1 || z.length == 0) = true
    · rw [if_pos h2]
      rw [Bool.or_eq_true] at h2
      rcases h2 with h2 | h2
      · have e : k = 1 := by simpa using h2
        subst e
        show z = ⟨([z.cps.toList].flatten).toArray⟩
        simp
      · have e : z.cps.size = 0 := by simpa [PySem.Str.length] using h2
        have e2 : z.cps.toList = [] := by
          have : z.cps.toList.length = 0 := by simpa using e
          exact List.length_eq_zero_iff.mp this
        rw [e2, repL_nil]
        have e3 : z.cps = #[] := by
          rw [← Array.toList_inj, e2]
        cases z
        simp at e3
        rw [e3]
    · rw [if_neg h2, rep_fold]
      simp
theorem op_repS : OpR X (binaryOp .Mult) rRepS := by
  intro pins s σ H x y v u Q I rx ry h
  obtain ⟨z, k, rfl, rfl, h0, h1, h2, q⟩ := h
  obtain ⟨t, rfl⟩ := rx
  obtain ⟨t', rfl⟩ := ry
  refine SB.mul (mulok_of h0 h1 h2) fun t2 tk => ?_
  rw [mul_txt h0]
  exact ⟨.str _, H, I.tok _, ⟨_, rfl⟩, q⟩
theorem o_times : OpR X (binaryOp .Mult) rTimes := OpR.or op_mul (OpR.or op_rep op_repS)
theorem o_fdiv : OpR X (binaryOp .FloorDiv) rFdiv := op_fdiv
theorem o_mod : OpR X (binaryOp .Mod) rMod := op_mod
theorem o_and : OpR X (binaryOp .BitAnd) rAnd := op_and
theorem o_lt : OpR X (compareOp .Lt) rLt := op_lt
theorem o_le : OpR X (compareOp .LtE) rLe := op_le
theorem o_gt : OpR X (compareOp .Gt) rGt := op_gt
theorem o_ge : OpR X (compareOp .GtE) rGe := op_ge
theorem o_eq (hu : X.A.units + 64 < cLine) : OpR X (compareOp .Eq) (rEqX X.K) := OpR.or op_eq (op_eqD hu)
theorem o_ne (hu : X.A.units + 64 < cLine) : OpR X (compareOp .NotEq) (rNeX X.K) := OpR.or op_ne (op_neD hu)
theorem o_in : OpR X (compareOp .In) (rInX X.K false) := OpR.or op_in_seq op_in_sign
theorem o_notin : OpR X (compareOp .NotIn) (rInX X.K true) := OpR.or op_notIn_seq op_notIn_sign
theorem o_is : OpR X (compareOp .Is) rIsNo := op_isN
theorem o_isnot : OpR X (compareOp .IsNot) rNotNo := op_notN
theorem c_len : CallR X (.builtin "len") (rLenX X.K) := call_len
theorem c_int : CallR X (.type "int") rIntX := call_int1
theorem c_ord : CallR X (.builtin "ord") rOrd := call_ord
theorem c_list : CallR X (.type "list") (rListOf X.K) := call_list_of
theorem c_tuple : CallR X (.type "tuple") (rTupOf X.K) := call_tuple_of
theorem truth_ib {prog : Program} {w : World} {A : Around} {xs : List V} {its : List Value} (r : Vals xs its) (h : xs.all flatIB = true) :
    TruthOf prog w A (fun i v => its.toArray[i]? = some v) (fun i => (xs.map trV).getD i false) := fun i v s Q E hv hq => by
  have hv' : its[i]? = some v := by simpa using hv
  have hi : i < its.length := (List.getElem?_eq_some_iff.mp hv').1
  have hi' : i < xs.length := by rw [r.length]; exact hi
  obtain ⟨u, hu, ru⟩ := r.get (i := i) (x := xs[i]) (by simp [hi'])
  rw [hv'] at hu
  cases hu
  have hg : (xs.map trV).getD i false = trV xs[i] := by simp [List.getD_eq_getElem?_getD, hi']
  have hq' : Q ((xs.map trV).getD i false) s := hq
  rw [hg] at hq'
  have hf : flatIB xs[i] = true := List.all_eq_true.mp h _ (List.getElem_mem hi')
  revert ru hq' hf
  generalize xs[i] = x
  intro ru hq' hf
  cases x with
  | int j =>
    obtain ⟨t, rfl⟩ := ru
    exact truthy_int hq'
  | bl b =>
    cases (show v = Value.bool b from ru)
    exact wpAny_truthy_bool hq'
  | _ => cases hf
theorem c_any (hc : X.calm = true) : CallR X (.builtin "any") (rAnyX X.K) := by
  intro pins s σ H vs us Q I r h
  obtain ⟨a, xs, rfl, hs, hf, q⟩ := h
  obtain ⟨its, rv, hl, _⟩ := I.list hs
  rw [Vals.ref1 r]
  refine call_any_walk (iter_any hl.isList fun s₂ e2 st hne => ?_)
  subst e2
  refine ⟨_, _, _, _, _, _, _, rfl, Walks.list (A := X.A.in1) (I.ok.hd hc) _ a hne its.toArray, st, truth_ib rv hf, fun h' tk hk => ?_⟩
  refine ⟨.bl _, H, I.kept fun b o eo => hk b o (fun hmem => ?_) (Heap.get?_push_of_some _ eo), ?_, q⟩
  · rcases List.mem_cons.mp hmem with e1 | hmem
    · exact absurd (e1 ▸ Heap.lt_size eo) (Nat.lt_irrefl _)
    · cases hmem
  · show Value.bool _ = Value.bool _
    have := any_range (xs.map trV)
    rw [List.length_map] at this
    rw [List.size_toArray, ← rv.length, this, List.any_map]
    rfl
theorem c_all (hc : X.calm = true) : CallR X (.builtin "all") (rAllX X.K) := by
  intro pins s σ H vs us Q I r h
  obtain ⟨a, xs, rfl, hs, hf, q⟩ := h
  obtain ⟨its, rv, hl, _⟩ := I.list hs
  rw [Vals.ref1 r]
  refine call_all_walk (iter_any hl.isList fun s₂ e2 st hne => ?_)
  subst e2
  refine ⟨_, _, _, _, _, _, _, rfl, Walks.list (A := X.A.in1) (I.ok.hd hc) _ a hne its.toArray, st, truth_ib rv hf, fun h' tk hk => ?_⟩
  refine ⟨.bl _, H, I.kept fun b o eo => hk b o (fun hmem => ?_) (Heap.get?_push_of_some _ eo), ?_, q⟩
  · rcases List.mem_cons.mp hmem with e1 | hmem
    · exact absurd (e1 ▸ Heap.lt_size eo) (Nat.lt_irrefl _)
    · cases hmem
  · show Value.bool _ = Value.bool _
    have := all_range (xs.map trV)
    rw [List.length_map] at this
    rw [List.size_toArray, ← rv.length, this, List.all_map]
    rfl
theorem c_isi : CallR X (.builtin "isinstance") (rIsi X.K) := call_isi
theorem sl_any : SlR X (rSlX X.K) := SlR.or sl_list (SlR.or sl_str sl_tupA)
theorem m_join : MtR X "str.join" (rJoin X.K) := mt_join
theorem pt_tru {a : Expr} {ta : TE} (ha : PE X a ta) (hs : ∀ whole, isTrue a X.env whole = (do let v ← whole; standAt a.pos; holding [v] (truthy v)) := by intro _; rfl) : PT X a (tTruX X.K ta) := pt_truth ha hs
end
end Lg

/-! The steps. -/
namespace Lg
open PySem PySem.Spec PyProof.Rows L2

inductive SetAt : L2.St → Nat → V → L2.St → Prop
  | here {x : Option V} {r : L2.St} {v : V} : SetAt (x :: r) 0 v (some v :: r)
  | there {x : Option V} {r r' : L2.St} {n : Nat} {v : V} : SetAt r n v r' → SetAt (x :: r) (n + 1) v (x :: r')
theorem SetAt.eq {σ σ' : L2.St} {i : Nat} {v : V} (h : SetAt σ i v σ') : σ.set i (some v) = σ' := by
  induction h with
  | here => rfl
  | there _ ih => show _ :: _ = _; rw [ih]
inductive GetAt : L2.St → Nat → V → Prop
  | here {r : L2.St} {v : V} : GetAt (some v :: r) 0 v
  | there {x : Option V} {r : L2.St} {n : Nat} {v : V} : GetAt r n v → GetAt (x :: r) (n + 1) v
theorem GetAt.eq {σ : L2.St} {i : Nat} {v : V} (h : GetAt σ i v) : σ[i]? = some (some v) := by
  induction h with
  | here => rfl
  | there _ ih => simpa using ih

/-- a list that L tells as data, owned or frozen; a list or a tuple -/
inductive LsIn (K : PySem.W.Frag) (L : List Ent) (a : Addr) (ds : List PyData) : Prop
  | own (h : Lg.ls K a ds ∈ L)
  | dat (h : Lg.dat (.ref a) (.list ds) ∈ L)
inductive See (K : PySem.W.Frag) (L : List Ent) : V → PyData → Prop
  | is {v : V} {d : PyData} (h : Is L v d) : See K L v d
  | own {a : Addr} {ds : List PyData} (h : Lg.ls K a ds ∈ L) : See K L (.ref a) (.list ds)
section
variable {K : PySem.W.Frag} {L L' : List Ent} {H F : Hp} {a p : Addr} {ds es : List PyData} {d e : PyData} {v : V}
theorem LsIn.ok (h : LsIn K L a ds) (e : Ex F H) (q : ∀ e ∈ L, e.ok K F H) : ∃ xs, H a = some (.lst xs) ∧ DvAll K F xs ds := by
  cases h with
  | own m =>
    obtain ⟨_, x, h1, xs, rfl, h2⟩ := q _ m
    exact ⟨xs, h1, h2⟩
  | dat m =>
    have h1 : Dv K F (.ref a) (.list ds) := q _ m
    cases h1 with
    | lst h2 h3 => exact ⟨_, e _ _ h2, h3⟩
theorem LsIn.more (h : LsIn K L a ds) (s : ∀ e ∈ L, e ∈ L') : LsIn K L' a ds := by
  cases h with
  | own m => exact .own (s _ m)
  | dat m => exact .dat (s _ m)
theorem LsIn.cons {e : Ent} (h : LsIn K L a ds) : LsIn K (e :: L) a ds := h.more fun _ m => .tail _ m
theorem St.lsin (hS : St K L H) (h : LsIn K L a ds) : ∃ F xs, Ex F H ∧ (∀ e ∈ L, e.ok K F H) ∧ H a = some (.lst xs) ∧ DvAll K F xs ds := by
  obtain ⟨F, h1, h2⟩ := hS.ex
  obtain ⟨xs, h3, h4⟩ := h.ok h1 h2
  exact ⟨F, xs, h1, h2, h3, h4⟩
theorem See.dp (hS : St K L H) (h : See K L v d) : Dp K H v d := by
  cases h with
  | is h => exact hS.dp h
  | own m =>
    obtain ⟨F, xs, h1, _, h3, h4⟩ := hS.lsin (.own m)
    exact .lst (SqL.of h3) (DpAll.of (DvAll.mono h1 _ _ h4))
where DpAll.of {xs : List V} {ds : List PyData} (h : DvAll K H xs ds) : DpAll K H xs ds := DvAll.dp _ _ h
theorem St.lenl (hS : St K L H) (h : LsIn K L a ds) : ∃ xs, H a = some (.lst xs) ∧ xs.length = ds.length := by
  obtain ⟨F, xs, _, _, h3, h4⟩ := hS.lsin h
  exact ⟨xs, h3, h4.len⟩
/-- the value of a scalar -/
theorem St.int_of {i : Int} (h : St K (.dat v (.int i) :: L) H) : v = .int i := by
  obtain ⟨F, _, h2⟩ := h.ex
  have : Dv K F v (.int i) := h2 _ (.head _)
  cases this; rfl
theorem St.str_of {x : Str} (h : St K (.dat v (.str x) :: L) H) : v = .str x := by
  obtain ⟨F, _, h2⟩ := h.ex
  have : Dv K F v (.str x) := h2 _ (.head _)
  cases this; rfl
theorem St.bl_of {b : Bool} (h : St K (.dat v (.bool b) :: L) H) : v = .bl b := by
  obtain ⟨F, _, h2⟩ := h.ex
  have : Dv K F v (.bool b) := h2 _ (.head _)
  cases this; rfl
theorem St.non_of (h : St K (.dat v .none :: L) H) : v = .non := by
  obtain ⟨F, _, h2⟩ := h.ex
  have : Dv K F v .none := h2 _ (.head _)
  cases this; rfl
theorem St.tup_of (h : St K (.dat v (.tuple ds) :: L) H) : ∃ a, v = .ref a := by
  obtain ⟨F, _, h2⟩ := h.ex
  have : Dv K F v (.tuple ds) := h2 _ (.head _)
  cases this; exact ⟨_, rfl⟩
theorem St.lst_of (h : St K (.dat v (.list ds) :: L) H) : ∃ a, v = .ref a := by
  obtain ⟨F, _, h2⟩ := h.ex
  have : Dv K F v (.list ds) := h2 _ (.head _)
  cases this; exact ⟨_, rfl⟩
end

/-! ### readings -/
def NewL (vs : List V) (H : Hp) (Q : VK) : Prop := vs.length ≤ sizeLine ∧ ∀ p, H p = none → Q (.ref p) (upd H p (.lst vs))
def NewT (vs : List V) (H : Hp) (Q : VK) : Prop := vs.length ≤ sizeLine ∧ ∀ p, H p = none → Q (.ref p) (upd H p (.tup vs))
def TyThen (K : PySem.W.Frag) (T : String) (x : V) (H : Hp) (P : Prop) : Prop := tyV K T x H ∧ P
def ChainK (b : Bool) (tc : TE) (r : R2) (y : V) (σ : L2.St) (H : Hp) (Q : VK) : Prop := if b = true then tc σ H fun w H4 => r y w H4 Q else Q (.bl false) H
section
variable {K : PySem.W.Frag} {L L' : List Ent} {H : Hp} {σ σ' : L2.St} {D : Ends} {Q : VK} {E : XK} {ta tb tc te : TE} {tt tu : TT} {t u : TS} {g : TG} {i j : Int} {x y v : V} {b c : Bool} {a p : Addr} {ds es : List PyData} {d e : PyData} {n : Nat}
theorem w_seq (h : t { D with nx := u D } σ H) : tSeq t u D σ H := h
theorem w_cut0 (h : t { D with nx := u D } σ H) : C8.tCut t u D σ H := ⟨u D, h, fun _ _ q => q⟩
theorem w_cut (Mid : L2.St → Hp → Prop) (h : t { D with nx := Mid } σ H) (k : ∀ σ' H', Mid σ' H' → u D σ' H') : C8.tCut t u D σ H := ⟨Mid, h, k⟩
theorem w_asg (h : te σ H fun x H1 => g x σ H1 D.nx) : tAsg te g D σ H := h
theorem w_name {R : L2.St → Hp → Prop} (q : SetAt σ n v σ') (h : R σ' H) : gName n v σ H R := by
  show R (σ.set n (some v)) H
  rw [q.eq]; exact h
theorem w_var (q : GetAt σ n v) (h : Q v H) : tVar n σ H Q := ⟨v, q.eq, h⟩
theorem w_c (h : Q v H) : tC v σ H Q := h
theorem w_op {r : R2} (h : ta σ H fun x H1 => tb σ H1 fun y H2 => r x y H2 Q) : tOp r ta tb σ H Q := h
theorem w_un {r : V → Hp → VK → Prop} (h : ta σ H fun x H1 => r x H1 Q) : tUn r ta σ H Q := h
theorem w_nil {R : List V → Hp → Prop} (h : R [] H) : tNil σ H R := h
theorem w_cons {tr : TA} {R : List V → Hp → Prop} (h : ta σ H fun x H1 => tr σ H1 fun xs H2 => R (x :: xs) H2) : tCons ta tr σ H R := h
theorem w_call {sp : Sp} {tr : TA} (h : tr σ H fun vs H1 => sp vs H1 Q E) : tCall sp [] E tr σ H Q := by
  show tr σ H fun vs H1 => sp (vs ++ []) H1 Q E
  simpa using h
theorem w_cb {r : List V → Hp → VK → Prop} {tr : TA} (h : tr σ H fun vs H1 => r vs H1 Q) : tCB r tr σ H Q := h
theorem w_tup {tr : TA} (h : tr σ H fun xs H1 => NewT xs H1 Q) : tTup tr σ H Q := h
theorem w_lst {tr : TA} (h : tr σ H fun xs H1 => NewL xs H1 Q) : tLst tr σ H Q := h
theorem w_bm {T : String} {r : V → List V → Hp → VK → Prop} {tr : TA} (h : ta σ H fun x H1 => TyThen K T x H1 (tr σ H1 fun xs H2 => r x xs H2 Q)) : tBM K T r ta tr σ H Q := h
theorem w_bm0 {T : String} {r : V → List V → Hp → VK → Prop} (h : ta σ H fun x H1 => TyThen K T x H1 (r x [] H1 Q)) : tBM0 K T r ta σ H Q := h
theorem w_sl {r : V → Option Int → Option Int → Hp → VK → Prop} {tl th : TO} (h : te σ H fun x H1 => tl σ H1 fun l H2 => th σ H2 fun u H3 => r x l u H3 Q) : tSl r te tl th σ H Q := h
theorem w_nopart {R : Option Int → Hp → Prop} (h : R none H) : tNoPart σ H R := h
theorem w_part {R : Option Int → Hp → Prop} (h : te σ H fun x H1 => ∃ i, x = .int i ∧ R (some i) H1) : tPart te σ H R := h
theorem w_isint {G : Int → Prop} (h : G i) : ∃ k, V.int i = .int k ∧ G k := ⟨i, rfl, h⟩
theorem w_test {R : Bool → Hp → Prop} (h : te σ H fun x H' => ∃ k, x = .bl k ∧ R k H') : tTest te σ H R := h
theorem w_tB {R : Bool → Hp → Prop} (h : te σ H fun x H' => ∃ k, x = .bl k ∧ R k H') : tB te σ H R := h
theorem w_isbl {R : Bool → Hp → Prop} (h : R b H) : ∃ k, V.bl b = .bl k ∧ R k H := ⟨b, rfl, h⟩
theorem w_isbl' {G : Bool → Prop} (h : G b) : ∃ k, V.bl b = .bl k ∧ G k := ⟨b, rfl, h⟩
theorem w_and {R : Bool → Hp → Prop} (h : tt σ H fun c H1 => if c = true then tu σ H1 R else R false H1) : tAnd tt tu σ H R := h
theorem w_or {R : Bool → Hp → Prop} (h : tt σ H fun c H1 => if c = true then R true H1 else tu σ H1 R) : tOr tt tu σ H R := h
theorem w_not {R : Bool → Hp → Prop} (h : tt σ H fun c H1 => R (!c) H1) : tNot tt σ H R := h
/-- both tests leave the heap -/
theorem w_andP {R : Bool → Hp → Prop} (h1 : ∀ R' : Bool → Hp → Prop, R' b H → tt σ H R') (h2 : b = true → ∀ R' : Bool → Hp → Prop, R' c H → tu σ H R') (h : R (b && c) H) : tAnd tt tu σ H R := by
  refine h1 _ ?_
  cases b with
  | true => exact h2 rfl _ h
  | false => exact h
theorem w_orP {R : Bool → Hp → Prop} (h1 : ∀ R' : Bool → Hp → Prop, R' b H → tt σ H R') (h2 : b = false → ∀ R' : Bool → Hp → Prop, R' c H → tu σ H R') (h : R (b || c) H) : tOr tt tu σ H R := by
  refine h1 _ ?_
  cases b with
  | true => exact h
  | false => exact h2 rfl _ h
theorem w_ifexp (h : tt σ H fun c H1 => if c = true then ta σ H1 Q else tb σ H1 Q) : tIf tt ta tb σ H Q := h
theorem w_andV (h : ta σ H fun x H1 => ∃ c, x = .bl c ∧ if c = true then tb σ H1 Q else Q (.bl false) H1) : tAndV ta tb σ H Q := h
theorem w_orV (h : ta σ H fun x H1 => ∃ c, x = .bl c ∧ if c = true then Q (.bl true) H1 else tb σ H1 Q) : tOrV ta tb σ H Q := h
theorem w_andVP (h1 : ∀ R' : VK, R' (.bl b) H → ta σ H R') (h2 : b = true → ∀ R' : VK, R' (.bl c) H → tb σ H R') (h : Q (.bl (b && c)) H) : tAndV ta tb σ H Q := by
  refine h1 _ ⟨b, rfl, ?_⟩
  cases b with
  | true => exact h2 rfl _ h
  | false => exact h
theorem w_orVP (h1 : ∀ R' : VK, R' (.bl b) H → ta σ H R') (h2 : b = false → ∀ R' : VK, R' (.bl c) H → tb σ H R') (h : Q (.bl (b || c)) H) : tOrV ta tb σ H Q := by
  refine h1 _ ⟨b, rfl, ?_⟩
  cases b with
  | true => exact h
  | false => exact h2 rfl _ h
theorem w_notV (h : ta σ H fun x H1 => ∃ c, x = .bl c ∧ Q (.bl (!c)) H1) : tNotV ta σ H Q := h
theorem w_tru {R : Bool → Hp → Prop} (h : ta σ H fun x H' => ∃ k, TruV K x H' k ∧ R k H') : tTruX K ta σ H R := h
theorem w_truI {R : Bool → Hp → Prop} (h : R (i != 0) H) : ∃ k, TruV K (.int i) H k ∧ R k H := ⟨_, rfl, h⟩
theorem w_truB {R : Bool → Hp → Prop} (h : R b H) : ∃ k, TruV K (.bl b) H k ∧ R k H := ⟨_, rfl, h⟩
theorem w_ifs (h : tt σ H fun b H1 => if b = true then t D σ H1 else u D σ H1) : tIfS tt t u D σ H := h
theorem w_next (h : D.nx σ H) : tNext D σ H := h
theorem w_break (h : D.bk σ H) : tBreak D σ H := h
theorem w_cont (h : D.ct σ H) : tCont D σ H := h
theorem w_ret (h : te σ H D.rt) : tRet te D σ H := h
theorem w_retn (h : D.rt .non H) : tRetN D σ H := h
theorem w_drop (h : te σ H fun _ H1 => D.nx σ H1) : tDrop te D σ H := h
theorem w_sub {to ti : TE} {ts : TSet} {R : L2.St → Hp → Prop} (h : to σ H fun o H1 => ti σ H1 fun i H2 => ts o i v H2 fun H3 => R σ H3) : gSub to ti ts v σ H R := h
theorem w_gnil {R : L2.St → Hp → Prop} (h : R σ H) : gNil [] σ H R := ⟨rfl, h⟩
theorem w_gcons {tg : TG} {tu : TGs} {r : List V} {R : L2.St → Hp → Prop} (h : tg v σ H fun σ' H' => tu r σ' H' R) : gCons tg tu (v :: r) σ H R := ⟨v, r, rfl, h⟩
/-! branches -/
theorem w_ite {A B : Prop} (h1 : b = true → A) (h2 : b = false → B) : if b = true then A else B := by
  cases b with
  | true => exact h1 rfl
  | false => exact h2 rfl
theorem w_ifd {P A B : Prop} [Decidable P] (h1 : P → A) (h2 : ¬ P → B) : if decide P = true then A else B := by
  by_cases h : P
  · rw [if_pos (decide_eq_true h)]; exact h1 h
  · rw [if_neg (by simp [h])]; exact h2 h
theorem w_ifnd {P A B : Prop} [Decidable P] (h1 : ¬ P → A) (h2 : P → B) : if (!decide P) = true then A else B := by
  by_cases h : P
  · rw [if_neg (by simp [h])]; exact h2 h
  · rw [if_pos (by simp [h])]; exact h1 h
theorem w_ifT {A B : Prop} (h : A) : if true = true then A else B := by rw [if_pos rfl]; exact h
theorem w_ifF {A B : Prop} (h : B) : if false = true then A else B := by rw [if_neg Bool.false_ne_true]; exact h
theorem w_ifp {P A B : Prop} [Decidable P] (hp : P) (h : A) : if decide P = true then A else B := by rw [if_pos (decide_eq_true hp)]; exact h
theorem w_ifq {P A B : Prop} [Decidable P] (hp : ¬ P) (h : B) : if decide P = true then A else B := by rw [if_neg (by simp [hp])]; exact h
theorem w_bt {A B : Prop} (hb : b = true) (h : A) : if b = true then A else B := by rw [if_pos hb]; exact h
theorem w_bf {A B : Prop} (hb : b = false) (h : B) : if b = true then A else B := by rw [if_neg (by simp [hb])]; exact h
/-! ints -/
theorem w_add (h : Q (.int (i + j)) H) : rPlus K (.int i) (.int j) H Q := .inl ⟨i, j, rfl, rfl, h⟩
theorem w_sub2 (h : Q (.int (i - j)) H) : rMinus (.int i) (.int j) H Q := ⟨i, j, rfl, rfl, h⟩
theorem w_mulL (hi : -(2 ^ 64) < i ∧ i < 2 ^ 64) (h : Q (.int (i * j)) H) : rTimes (.int i) (.int j) H Q := .inl ⟨i, j, rfl, rfl, .inl hi, h⟩
theorem w_mulR (hi : -(2 ^ 64) < j ∧ j < 2 ^ 64) (h : Q (.int (i * j)) H) : rTimes (.int i) (.int j) H Q := .inl ⟨i, j, rfl, rfl, .inr hi, h⟩
theorem w_mod (hj : 0 < j) (h : Q (.int (i % j)) H) : rMod (.int i) (.int j) H Q := ⟨i, j, rfl, rfl, hj, h⟩
theorem w_fdiv (hj : 0 < j ∧ j < 1073741824) (h : Q (.int (i / j)) H) : rFdiv (.int i) (.int j) H Q := ⟨i, j, rfl, rfl, hj, h⟩
theorem w_band (h : Q (.int (Builtin.bitAnd i j)) H) : rAnd (.int i) (.int j) H Q := ⟨i, j, rfl, rfl, h⟩
theorem w_lt (h : Q (.bl (decide (i < j))) H) : rLt (.int i) (.int j) H Q := ⟨i, j, rfl, rfl, h⟩
theorem w_le (h : Q (.bl (decide (i ≤ j))) H) : rLe (.int i) (.int j) H Q := ⟨i, j, rfl, rfl, h⟩
theorem w_gt (h : Q (.bl (decide (j < i))) H) : rGt (.int i) (.int j) H Q := ⟨i, j, rfl, rfl, h⟩
theorem w_ge (h : Q (.bl (decide (j ≤ i))) H) : rGe (.int i) (.int j) H Q := ⟨i, j, rfl, rfl, h⟩
theorem dI (i j : Int) : decide (V.int i = V.int j) = decide (i = j) := by by_cases h : i = j <;> simp [h]
theorem dS (i j : Str) : decide (V.str i = V.str j) = decide (i = j) := by by_cases h : i = j <;> simp [h]
theorem w_eqI (h : Q (.bl (decide (i = j))) H) : rEqX K (.int i) (.int j) H Q := .inl ⟨rfl, by rw [dI]; exact h⟩
theorem w_neI (h : Q (.bl (!decide (i = j))) H) : rNeX K (.int i) (.int j) H Q := .inl ⟨rfl, by rw [dI]; exact h⟩
theorem w_eqS {i j : Str} (h : Q (.bl (decide (i = j))) H) : rEqX K (.str i) (.str j) H Q := .inl ⟨rfl, by rw [dS]; exact h⟩
theorem w_neS {i j : Str} (h : Q (.bl (!decide (i = j))) H) : rNeX K (.str i) (.str j) H Q := .inl ⟨rfl, by rw [dS]; exact h⟩
theorem w_is (h : Q (.bl (decide (x = .non))) H) : rIsNo x .non H Q := ⟨rfl, h⟩
theorem w_isnot (h : Q (.bl (!decide (x = .non))) H) : rNotNo x .non H Q := ⟨rfl, h⟩
theorem w_isN (h : Q (.bl true) H) : rIsNo .non .non H Q := ⟨rfl, h⟩
theorem w_isR (h : Q (.bl false) H) : rIsNo (.ref a) .non H Q := ⟨rfl, h⟩
theorem w_isI (h : Q (.bl false) H) : rIsNo (.int i) .non H Q := ⟨rfl, h⟩
theorem w_isS {z : Str} (h : Q (.bl false) H) : rIsNo (.str z) .non H Q := ⟨rfl, h⟩
theorem w_nsN (h : Q (.bl false) H) : rNotNo .non .non H Q := ⟨rfl, h⟩
theorem w_nsR (h : Q (.bl true) H) : rNotNo (.ref a) .non H Q := ⟨rfl, h⟩
theorem w_nsI (h : Q (.bl true) H) : rNotNo (.int i) .non H Q := ⟨rfl, h⟩
theorem w_nsS {z : Str} (h : Q (.bl true) H) : rNotNo (.str z) .non H Q := ⟨rfl, h⟩
theorem w_int (h : Q (.int i) H) : rIntX [.int i] H Q := .inl ⟨i, rfl, h⟩
theorem w_intb (h : Q (.int (if b then 1 else 0)) H) : rIntX [.bl b] H Q := .inr ⟨b, rfl, h⟩
theorem w_chainLe (hc : ∀ R' : VK, R' (.int j) H → tc σ H R') (h : Q (.bl (b && decide (i ≤ j))) H) : ChainK b tc rLe (.int i) σ H Q := by
  unfold ChainK
  cases b with
  | true => rw [if_pos rfl]; exact hc _ ⟨i, j, rfl, rfl, h⟩
  | false => rw [if_neg Bool.false_ne_true]; exact h
theorem w_chainLt (hc : ∀ R' : VK, R' (.int j) H → tc σ H R') (h : Q (.bl (b && decide (i < j))) H) : ChainK b tc rLt (.int i) σ H Q := by
  unfold ChainK
  cases b with
  | true => rw [if_pos rfl]; exact hc _ ⟨i, j, rfl, rfl, h⟩
  | false => rw [if_neg Bool.false_ne_true]; exact h
theorem w_chain {r r' : R2} (h : ta σ H fun x H1 => tb σ H1 fun y H2 => r x y H2 fun z H3 => ∃ k, z = .bl k ∧ ChainK k tc r' y σ H3 Q) : tChain r r' ta tb tc σ H Q := h
/-! texts -/
theorem w_addS {y z : Str} (hl : y.length + z.length ≤ 100000) (h : Q (.str (y ++ z)) H) : rPlus K (.str y) (.str z) H Q := .inr (.inl ⟨y, z, rfl, rfl, Nat.le_trans hl (by decide), h⟩)
theorem w_repS {z : Str} (h0 : 0 ≤ i) (h1 : i ≤ 100000) (h2 : z.length ≤ 100) (h : Q (.str ⟨(repL z.cps.toList i.toNat).toArray⟩) H) : rTimes (.str z) (.int i) H Q := .inr (.inr ⟨z, i, rfl, rfl, h0, h1, h2, h⟩)
theorem w_lenS {z : Str} (hl : z.length ≤ 100000) (h : Q (.int z.length) H) : rLenX K [.str z] H Q := ⟨.str z, z.length, rfl, ⟨Nat.le_trans hl (by decide), rfl⟩, h⟩
theorem w_ord {z : Str} (hz : z.length = 1) (h : Q (.int (z.cps.getD 0 0 : Nat)) H) : rOrd [.str z] H Q := ⟨z, rfl, hz, h⟩
theorem w_ord1 {k : Nat} (h : Q (.int (k : Int)) H) : rOrd [.str ⟨#[k]⟩] H Q := ⟨_, rfl, rfl, h⟩
theorem w_ixS {z : Str} {k : Nat} (hl : z.length ≤ 100000) (hk : i = (k : Int)) {c : Nat} (hc : z.cps.toList[k]? = some c) (h : Q (.str ⟨#[c]⟩) H) : rIx K (.str z) (.int i) H Q :=
  .inr (.inr ⟨z, i, c, rfl, rfl, Nat.le_trans hl (by decide), by rw [hk]; exact atI_nat hc, h⟩)
theorem w_slS {z : Str} {lo hi : Option Int} (hl : z.length ≤ 100000) (h : Q (.str (cutS z lo hi)) H) : rSlX K (.str z) lo hi H Q := .inr (.inl ⟨z, rfl, Nat.le_trans hl (by decide), h⟩)
theorem w_tyS {z : Str} {P : Prop} (h : P) : TyThen K "str" (.str z) H P := ⟨rfl, h⟩
theorem w_inSg {k : Nat} {z : Str} (h : Q (.bl (decide (k ∈ z.cps.toList))) H) : rInX K false (.str ⟨#[k]⟩) (.str z) H Q := .inr ⟨k, z, rfl, rfl, h⟩
theorem w_ninSg {k : Nat} {z : Str} (h : Q (.bl (!decide (k ∈ z.cps.toList))) H) : rInX K true (.str ⟨#[k]⟩) (.str z) H Q := .inr ⟨k, z, rfl, rfl, h⟩
/-! lists -/
theorem w_newL {vs : List V} (hS : St K L H) (hv : IsAll L vs ds) (hn : vs.length ≤ 1000) (h : ∀ p H', St K (Lg.ls K p ds :: L) H' → Q (.ref p) H') : NewL vs H Q :=
  ⟨Nat.le_trans hn (by decide), fun p hp => h p _ (hS.alloc hp fun F _ q => ⟨vs, rfl, hv.dv q⟩)⟩
theorem w_newLr {vs : List V} (hS : St K L H) (hn : vs.length ≤ 1000) (h : ∀ p H', St K (Lg.own p (.lst vs) :: L) H' → Q (.ref p) H') : NewL vs H Q :=
  ⟨Nat.le_trans hn (by decide), fun p hp => h p _ (hS.alloc hp fun F _ q => rfl)⟩
theorem w_newT {vs : List V} (hS : St K L H) (hv : IsAll L vs ds) (hn : vs.length ≤ 1000) (h : ∀ p H', St K (Lg.dat (.ref p) (.tuple ds) :: L) H' → Q (.ref p) H') : NewT vs H Q :=
  ⟨Nat.le_trans hn (by decide), fun p hp => h p _ (hS.fresh hp fun F hF _ q => .tup (SqT.of upd_same) (DvAll.mono (Ex.new hF) _ _ (hv.dv q)))⟩
theorem w_newTr {vs : List V} (hS : St K L H) (hn : vs.length ≤ 1000) (h : ∀ p H', St K (Lg.own p (.tup vs) :: L) H' → Q (.ref p) H') : NewT vs H Q :=
  ⟨Nat.le_trans hn (by decide), fun p hp => h p _ (hS.alloc hp fun F _ q => rfl)⟩
theorem w_tyL {P : Prop} (hS : St K L H) (hl : LsIn K L a ds) (h : P) : TyThen K "list" (.ref a) H P := by
  obtain ⟨F, xs, _, _, h3, _⟩ := hS.lsin hl
  exact ⟨.inl ⟨rfl, _, SqL.of h3⟩, h⟩
theorem w_app (hS : St K L H) (hp : Put L (Lg.ls K a ds) (Lg.ls K a (ds ++ [d])) L') (hv : Is L v d) (hn : ds.length ≤ 100000) (h : ∀ H', St K L' H' → Q .non H') : rAppend (.ref a) [v] H Q := by
  obtain ⟨F, xs, h1, h2, h3, h4⟩ := hS.lsin (.own hp.mem)
  refine ⟨a, xs, v, rfl, rfl, h3, ?_, h _ (hS.writeP hp fun F' x e q hx hφ => ?_)⟩
  · rw [h4.len]; exact Nat.lt_of_le_of_lt hn (by decide)
  · obtain ⟨ys, rfl, hys⟩ := hφ
    rw [h3] at hx
    cases hx
    exact ⟨_, rfl, hys.app (.cons (hv.dv q) .nil)⟩
theorem w_pop (hS : St K L H) (hp : Put L (Lg.ls K a (ds ++ [d])) (Lg.ls K a ds) L') (h : ∀ v H', St K (.dat v d :: L') H' → Q v H') : rPop (.ref a) [] H Q := by
  obtain ⟨F, xs, h1, h2, h3, h4⟩ := hS.lsin (.own hp.mem)
  have hlen := h4.len
  obtain ⟨v, hv, hd⟩ := h4.get (i := ds.length) (d := d) (by simp)
  have hxs : xs.length - 1 = ds.length := by rw [hlen]; simp
  refine ⟨a, xs, v, rfl, rfl, h3, by rw [hxs]; exact hv, h _ _ ?_⟩
  have hS' := hS.know (v := v) (d := d) fun F' e q => by
    obtain ⟨ys, h5, h6⟩ := LsIn.ok (.own hp.mem) e q
    rw [h3] at h5
    cases h5
    obtain ⟨v', hv', hd'⟩ := h6.get (i := ds.length) (d := d) (by simp)
    rw [hv] at hv'
    cases hv'
    exact hd'
  refine hS'.writeP (.there hp) fun F' x e q hx hφ => ?_
  obtain ⟨ys, rfl, hys⟩ := hφ
  rw [h3] at hx
  cases hx
  refine ⟨_, rfl, ?_⟩
  have := hys.take ds.length
  rw [List.take_left] at this
  rw [List.dropLast_eq_take, hxs]
  exact this
theorem w_setL {k : Nat} (hS : St K L H) (hp : Put L (Lg.ls K a ds) (Lg.ls K a (ds.set k d)) L') (hv : Is L v d) (hk : i = (k : Int)) (hn : k < ds.length) {R : Hp → Prop} (h : ∀ H', St K L' H' → R H') : rSetL (.ref a) (.int i) v H R := by
  obtain ⟨F, xs, h1, h2, h3, h4⟩ := hS.lsin (.own hp.mem)
  refine ⟨a, xs, i, k, rfl, rfl, h3, ?_, h _ (hS.writeP hp fun F' x e q hx hφ => ?_)⟩
  · rw [hk]
    unfold ixN
    rw [if_pos (by omega), if_pos (by rw [h4.len]; omega)]
    simp
  · obtain ⟨ys, rfl, hys⟩ := hφ
    rw [h3] at hx
    cases hx
    exact ⟨_, rfl, hys.set _ (hv.dv q)⟩
theorem w_lenL (hS : St K L H) (hl : LsIn K L a ds) (h : Q (.int ds.length) H) : rLenX K [.ref a] H Q := by
  obtain ⟨F, xs, h1, h2, h3, h4⟩ := hS.lsin hl
  exact ⟨.ref a, ds.length, rfl, .inl ⟨xs, SqL.of h3, h4.len.symm⟩, h⟩
theorem w_lenT (hS : St K L H) (hl : Is L (.ref a) (.tuple ds)) (h : Q (.int ds.length) H) : rLenX K [.ref a] H Q := by
  obtain ⟨xs, h1, h2, _⟩ := hS.tup_parts hl
  exact ⟨.ref a, ds.length, rfl, .inr ⟨xs, h1, h2.symm⟩, h⟩
theorem St.item (hS : St K L H) (hl : LsIn K L a ds) {k : Nat} (hd : ds[k]? = some d) : ∃ xs v, H a = some (.lst xs) ∧ xs[k]? = some v ∧ xs.length = ds.length ∧ St K (.dat v d :: L) H := by
  obtain ⟨F, xs, h1, h2, h3, h4⟩ := hS.lsin hl
  obtain ⟨v, h5, h6⟩ := h4.get hd
  refine ⟨xs, v, h3, h5, h4.len, hS.know fun F' e q => ?_⟩
  obtain ⟨ys, h7, h8⟩ := hl.ok e q
  rw [h3] at h7
  cases h7
  obtain ⟨v', h9, h10⟩ := h8.get hd
  rw [h5] at h9
  cases h9
  exact h10
theorem w_ixL {k : Nat} (hS : St K L H) (hl : LsIn K L a ds) (hk : i = (k : Int)) (hd : ds[k]? = some d) (h : ∀ v, St K (.dat v d :: L) H → Q v H) : rIx K (.ref a) (.int i) H Q := by
  obtain ⟨xs, v, h3, h5, _, h6⟩ := hS.item hl hd
  exact .inl ⟨a, xs, i, v, rfl, rfl, SqL.of h3, by rw [hk]; exact at_of rfl h5, h v h6⟩
theorem w_ixLi {k : Nat} {m : Int} (hS : St K L H) (hl : LsIn K L a ds) (hk : i = (k : Int)) (hd : ds[k]? = some (.int m)) (h : Q (.int m) H) : rIx K (.ref a) (.int i) H Q :=
  w_ixL hS hl hk hd fun v h6 => by rw [h6.int_of]; exact h
theorem w_ixLs {k : Nat} {m : Str} (hS : St K L H) (hl : LsIn K L a ds) (hk : i = (k : Int)) (hd : ds[k]? = some (.str m)) (h : Q (.str m) H) : rIx K (.ref a) (.int i) H Q :=
  w_ixL hS hl hk hd fun v h6 => by rw [h6.str_of]; exact h
theorem w_ixT {k : Nat} (hS : St K L H) (hl : Is L (.ref a) (.tuple ds)) (hk : i = (k : Int)) (hd : ds[k]? = some d) (h : ∀ v, St K (.dat v d :: L) H → Q v H) : rIx K (.ref a) (.int i) H Q := by
  obtain ⟨xs, h1, h2, h3⟩ := hS.tup_parts hl
  obtain ⟨v, h4, h5⟩ := h3 _ _ hd
  exact .inr (.inl ⟨a, xs, i, v, rfl, rfl, h1, by rw [hk]; exact at_of rfl h4, h v h5⟩)
theorem w_ixTi {k : Nat} {m : Int} (hS : St K L H) (hl : Is L (.ref a) (.tuple ds)) (hk : i = (k : Int)) (hd : ds[k]? = some (.int m)) (h : Q (.int m) H) : rIx K (.ref a) (.int i) H Q :=
  w_ixT hS hl hk hd fun v h6 => by rw [h6.int_of]; exact h
theorem w_ixTs {k : Nat} {m : Str} (hS : St K L H) (hl : Is L (.ref a) (.tuple ds)) (hk : i = (k : Int)) (hd : ds[k]? = some (.str m)) (h : Q (.str m) H) : rIx K (.ref a) (.int i) H Q :=
  w_ixT hS hl hk hd fun v h6 => by rw [h6.str_of]; exact h
theorem w_plusL (hS : St K L H) (h1 : LsIn K L a ds) (h2 : LsIn K L p es) (hn : ds.length + es.length ≤ 100000) (h : ∀ q H', St K (Lg.ls K q (ds ++ es) :: L) H' → Q (.ref q) H') : rPlus K (.ref a) (.ref p) H Q := by
  obtain ⟨F, xs, g1, g2, g3, g4⟩ := hS.lsin h1
  obtain ⟨ys, g5, g6⟩ := h2.ok g1 g2
  refine .inr (.inr (.inl ⟨a, p, xs, ys, rfl, rfl, g3, g5, ?_, fun q hq => h q _ (hS.alloc hq fun F' e w => ?_)⟩))
  · rw [g4.len, g6.len]; exact Nat.le_trans hn (by decide)
  · obtain ⟨xs', k1, k2⟩ := h1.ok e w
    obtain ⟨ys', k3, k4⟩ := h2.ok e w
    rw [g3] at k1; cases k1
    rw [g5] at k3; cases k3
    exact ⟨_, rfl, k2.app k4⟩
theorem w_repLs (hS : St K L H) (h1 : LsIn K L a ds) (h0 : i ≤ 100000) (h0' : -100000 ≤ i) (hn : ds.length * i.toNat ≤ 100000) (h : ∀ q H', St K (Lg.ls K q (List.replicate i.toNat ds).flatten :: L) H' → Q (.ref q) H') : rTimes (.ref a) (.int i) H Q := by
  obtain ⟨F, xs, g1, g2, g3, g4⟩ := hS.lsin h1
  refine .inr (.inl ⟨a, i, xs, rfl, rfl, g3, by omega, by omega, ?_, fun q hq => h q _ (hS.alloc hq fun F' e w => ?_)⟩)
  · rw [g4.len]; exact Nat.le_trans hn (by decide)
  · obtain ⟨xs', k1, k2⟩ := h1.ok e w
    rw [g3] at k1; cases k1
    exact ⟨_, rfl, k2.flat _⟩
def cutD (ds : List PyData) (lo hi : Option Int) : List PyData := (ds.drop (HT.sIx ds.length 0 lo)).take (HT.sIx ds.length ds.length hi - HT.sIx ds.length 0 lo)
theorem w_slL {lo hi : Option Int} (hS : St K L H) (h1 : LsIn K L a ds) (h : ∀ q H', St K (Lg.ls K q (cutD ds lo hi) :: L) H' → Q (.ref q) H') : rSlX K (.ref a) lo hi H Q := by
  obtain ⟨F, xs, g1, g2, g3, g4⟩ := hS.lsin h1
  refine .inl ⟨a, xs, rfl, SqL.of g3, fun q hq => h q _ (hS.alloc hq fun F' e w => ?_)⟩
  obtain ⟨xs', k1, k2⟩ := h1.ok e w
  rw [g3] at k1; cases k1
  refine ⟨_, rfl, ?_⟩
  unfold cutV cutD
  rw [g4.len]
  exact (k2.drop _).take _
theorem w_listL (hS : St K L H) (h1 : LsIn K L a ds) (h : ∀ q H', St K (Lg.ls K q ds :: L) H' → Q (.ref q) H') : rListOf K [.ref a] H Q := by
  obtain ⟨F, xs, g1, g2, g3, g4⟩ := hS.lsin h1
  refine ⟨a, xs, rfl, .inl (SqL.of g3), fun q hq => h q _ (hS.alloc hq fun F' e w => ?_)⟩
  obtain ⟨xs', k1, k2⟩ := h1.ok e w
  rw [g3] at k1; cases k1
  exact ⟨_, rfl, k2⟩
theorem w_tupL (hS : St K L H) (h1 : LsIn K L a ds) (h : ∀ q H', St K (Lg.dat (.ref q) (.tuple ds) :: L) H' → Q (.ref q) H') : rTupOf K [.ref a] H Q := by
  obtain ⟨F, xs, g1, g2, g3, g4⟩ := hS.lsin h1
  refine ⟨a, xs, rfl, .inl ⟨SqL.of g3, fun q hq => h q _ (hS.fresh hq fun F' hF' e w => ?_)⟩⟩
  obtain ⟨xs', k1, k2⟩ := h1.ok e w
  rw [g3] at k1; cases k1
  exact .tup (SqT.of upd_same) (DvAll.mono (Ex.new hF') _ _ k2)
theorem w_eqD (hS : St K L H) (h1 : See K L x d) (h2 : See K L y e) (s1 : SeqAt.shaped d = true) (s2 : SeqAt.shaped e = true) (h : Q (.bl (PyData.eqv d e)) H) : rEqX K x y H Q :=
  .inr ⟨d, e, h1.dp hS, h2.dp hS, s1, s2, h⟩
theorem w_neD (hS : St K L H) (h1 : See K L x d) (h2 : See K L y e) (s1 : SeqAt.shaped d = true) (s2 : SeqAt.shaped e = true) (h : Q (.bl (!PyData.eqv d e)) H) : rNeX K x y H Q :=
  .inr ⟨d, e, h1.dp hS, h2.dp hS, s1, s2, h⟩
theorem shaped_self (s1 : SeqAt.shaped d = true) : PyData.eqv d d = true := SeqAt.eqv_refl d (SeqAt.canLay_of_shaped s1)
theorem w_eq1 (hS : St K L H) (h1 : See K L x d) (h2 : See K L y d) (s1 : SeqAt.shaped d = true) (h : Q (.bl true) H) : rEqX K x y H Q :=
  w_eqD hS h1 h2 s1 s1 (by rw [shaped_self s1]; exact h)
theorem w_ne1 (hS : St K L H) (h1 : See K L x d) (h2 : See K L y d) (s1 : SeqAt.shaped d = true) (h : Q (.bl false) H) : rNeX K x y H Q :=
  w_neD hS h1 h2 s1 s1 (by rw [shaped_self s1]; exact h)
theorem ints_ib (ns : List Int) : (ns.map V.int).all flatIB = true := by simp [flatIB]
theorem bls_ib (ns : List Bool) : (ns.map V.bl).all flatIB = true := by simp [flatIB]
theorem w_anyB {bs : List Bool} (hS : St K L H) (h1 : LsIn K L a (bs.map PyData.bool)) (h : Q (.bl (bs.any id)) H) : rAnyX K [.ref a] H Q := by
  obtain ⟨F, xs, g1, g2, g3, g4⟩ := hS.lsin h1
  have e := g4.bls_inv
  subst e
  refine ⟨a, _, rfl, SqL.of g3, bls_ib bs, ?_⟩
  have : (bs.map V.bl).any trV = bs.any id := by rw [List.any_map]; rfl
  rw [this]; exact h
theorem w_allB {bs : List Bool} (hS : St K L H) (h1 : LsIn K L a (bs.map PyData.bool)) (h : Q (.bl (bs.all id)) H) : rAllX K [.ref a] H Q := by
  obtain ⟨F, xs, g1, g2, g3, g4⟩ := hS.lsin h1
  have e := g4.bls_inv
  subst e
  refine ⟨a, _, rfl, SqL.of g3, bls_ib bs, ?_⟩
  have : (bs.map V.bl).all trV = bs.all id := by rw [List.all_map]; rfl
  rw [this]; exact h
theorem w_anyI {ns : List Int} (hS : St K L H) (h1 : LsIn K L a (ns.map PyData.int)) (h : Q (.bl (ns.any (· != 0))) H) : rAnyX K [.ref a] H Q := by
  obtain ⟨F, xs, g1, g2, g3, g4⟩ := hS.lsin h1
  have e := g4.ints_inv
  subst e
  refine ⟨a, _, rfl, SqL.of g3, ints_ib ns, ?_⟩
  have : (ns.map V.int).any trV = ns.any (· != 0) := by rw [List.any_map]; rfl
  rw [this]; exact h
theorem w_join {z : Str} {ys : List Str} (hS : St K L H) (h1 : LsIn K L a (ys.map PyData.str)) (hn : (ys.map (·.length)).sum + ys.length * z.length ≤ 100000) (h : Q (.str (Txt.join z ys)) H) : rJoin K (.str z) [.ref a] H Q := by
  obtain ⟨F, xs, g1, g2, g3, g4⟩ := hS.lsin h1
  exact ⟨z, a, ys, rfl, rfl, .inl (by rw [← g4.strs_inv]; exact SqL.of g3), Nat.le_trans hn (by decide), h⟩
/-! isinstance -/
theorem w_isi {T U : String} (hT : TyX K H x (.type T)) (hk : kitB T U = some b) (h : Q (.bl b) H) : rIsi K [x, .ty U] H Q := ⟨x, .ty U, .type T, .type U, b, rfl, .ty U, hT, kit_ty hk, h⟩
theorem w_isiL {U : String} (hS : St K L H) (hl : LsIn K L a ds) (hk : kitB "list" U = some b) (h : Q (.bl b) H) : rIsi K [.ref a, .ty U] H Q := by
  obtain ⟨F, xs, _, _, h3, _⟩ := hS.lsin hl
  exact w_isi (.base (.lst h3)) hk h
theorem w_isiI {U : String} (hk : kitB "int" U = some b) (h : Q (.bl b) H) : rIsi K [.int i, .ty U] H Q := w_isi (.base (.int i)) hk h
theorem w_isiS {z : Str} {U : String} (hk : kitB "str" U = some b) (h : Q (.bl b) H) : rIsi K [.str z, .ty U] H Q := w_isi (.base (.str z)) hk h
theorem w_isiN {U : String} (hk : kitB "NoneType" U = some b) (h : Q (.bl b) H) : rIsi K [.non, .ty U] H Q := w_isi (.base .non) hk h
theorem w_isiT {U : String} (hS : St K L H) (hl : Is L (.ref a) (.tuple ds)) (hk : kitB "tuple" U = some b) (h : Q (.bl b) H) : rIsi K [.ref a, .ty U] H Q := by
  obtain ⟨xs, h1, h2, _⟩ := hS.tup_parts hl
  rcases h1 with (h1 | ⟨o, h1⟩) | ⟨o, its, n, h1, hc, _⟩
  · exact w_isi (.base (.tup h1)) hk h
  · exact w_isi (.fTuple h1) hk h
  · exact w_isi (.kTuple h1 hc) hk h
end
end Lg

/-! Loops, comprehensions, the draws. -/
namespace Lg
open PySem PySem.Spec PyProof.Rows L2

def iAny (K : PySem.W.Frag) (tl : TE) : TI := fun σ H R => iList K tl σ H R ∨ (iTup K tl σ H R ∨ iStr tl σ H R)
def gUnp (K : PySem.W.Frag) (n : Nat) (t : TGs) : TG := fun v σ H Q => gTup K n t v σ H Q ∨ gUnl K n t v σ H Q
section
variable {X : Cx}
theorem PI.or {tg iter : Expr} {w1 w2 : TI} (h1 : PI X tg iter w1) (h2 : PI X tg iter w2) : PI X tg iter (fun σ H R => w1 σ H R ∨ w2 σ H R) :=
  ⟨fun pins s σ H R I h => h.elim (fun q => h1.run pins s σ H R I q) fun q => h2.run pins s σ H R I q⟩
theorem pi_any {tg l : Expr} {tl : TE} (hl : PE X l tl) : PI X tg l (iAny X.K tl) := PI.or (pi_list hl) (PI.or (pi_tup hl) (pi_str hl))
theorem PG.or {target : Expr} {t u : TG} (h1 : PG X target t) (h2 : PG X target u) : PG X target (fun v σ H Q => t v σ H Q ∨ u v σ H Q) :=
  ⟨fun pins s σ H v w Q I r h => h.elim (fun q => h1.run pins s σ H v w Q I r q) fun q => h2.run pins s σ H v w Q I r q⟩
theorem pg_unp {es : List Expr} {k : Nat} {t : TGs} {n : Nat} {pos : Pos} (hc : X.calm = true) (h : PGs X es t)
    (hn : (assignEach es X.env).length = n := by rfl) (hst : (assignEach es X.env).findIdx? (·.1) = none := by rfl) : PG X (.Tuple es k pos) (gUnp X.K n t) := PG.or (pg_tup hc h hn hst) (pg_unl hc h hn hst)
end

def Rng1 (vs : List V) (H1 : Hp) (R : It → Hp → Prop) : Prop := ∃ j : Int, vs = [.int j] ∧ -(2 ^ 62) ≤ j ∧ j < 2 ^ 62 ∧ R (Itr 0 j.toNat) H1
def Rng2 (vs : List V) (H1 : Hp) (R : It → Hp → Prop) : Prop := ∃ i j : Int, vs = [.int i, .int j] ∧ (-(2 ^ 62) ≤ i ∧ i < 2 ^ 62 ∧ -(2 ^ 62) ≤ j ∧ j < 2 ^ 62) ∧ R (Itr i (j - i).toNat) H1
def Rng3 (vs : List V) (H1 : Hp) (R : It → Hp → Prop) : Prop := ∃ (i j c : Int) (n : Nat), vs = [.int i, .int j, .int c] ∧ RgC i j c n ∧ R (Itc i c n) H1
def Enu (K : PySem.W.Frag) (vs : List V) (H1 : Hp) (R : It → Hp → Prop) : Prop := ∃ a xs, vs = [.ref a] ∧ SqL K H1 a xs ∧ R (Ite K a) H1
def AnyL (K : PySem.W.Frag) (x : V) (H1 : Hp) (R : It → Hp → Prop) : Prop := ∃ a, x = .ref a ∧ (∃ xs, SqL K H1 a xs) ∧ R (Itl K a) H1
def AnyT (K : PySem.W.Frag) (x : V) (H1 : Hp) (R : It → Hp → Prop) : Prop := ∃ a, x = .ref a ∧ (∃ xs, SqT K H1 a xs) ∧ R (Itt K a) H1
def AnyS (v : V) (H1 : Hp) (R : It → Hp → Prop) : Prop := ∃ x, v = .str x ∧ R (Its x) H1
def AnyV (K : PySem.W.Frag) (v : V) (H1 : Hp) (R : It → Hp → Prop) : Prop := AnyL K v H1 R ∨ (AnyT K v H1 R ∨ AnyS v H1 R)
def ForW (J : It) (g : TG) (tb : TS) (D : Ends) (σ : L2.St) (H1 : Hp) : Prop := ∃ W : Nat → Nat → L2.St → Hp → Prop, (∃ m, W 0 m σ H1) ∧ ∀ i m σ H, W i m σ H →
  (J.stop i H ∧ D.nx σ H) ∨ (J.go i H ∧ ∃ N : L2.St → Hp → Prop, (∀ σ' H', N σ' H' → ∃ m', m' < m ∧ W (i + 1) m' σ' H') ∧ ∀ x H', J.yld i H x H' → g x σ H' fun σ2 H2 => tb { D with nx := N, ct := N, bk := D.nx } σ2 H2)
def LcW (J : It) (g : TG) (tt : TT) (te : TE) (vs : List Nat) (σ : L2.St) (H1 : Hp) (Q : VK) : Prop := ∀ D, H1 D = none → ∃ W : Nat → Nat → Hp → Prop, (∃ m, W 0 m (upd H1 D (.lst []))) ∧ ∀ i m H, W i m H →
  (J.stop i H ∧ Q (.ref D) H) ∨ (J.go i H ∧ ∃ Nx : Hp → Prop, (∀ H', Nx H' → ∃ m', m' < m ∧ W (i + 1) m' H') ∧ ∀ x H', J.yld i H x H' → g x (wipe σ vs) H' fun σ2 H2 => wipe σ2 vs = wipe σ vs ∧ tt σ2 H2 fun b H3 =>
    if b = true then te σ2 H3 fun y H4 => ∃ acc, H4 D = some (.lst acc) ∧ acc.length < sizeLine ∧ Nx (upd H4 D (.lst (acc ++ [y]))) else Nx H3)
section
variable {K : PySem.W.Frag} {L L' : List Ent} {H : Hp} {σ σ' : L2.St} {D : Ends} {Q : VK} {E : XK} {ta tb tc te tl : TE} {tt tu : TT} {t u tbody : TS} {g : TG} {i j : Int} {x y v : V} {b c : Bool} {a p : Addr} {ds es : List PyData} {d e : PyData} {n : Nat} {vs : List Nat} {wi : TI}
theorem w_for (h : wi σ H fun J H1 => ForW J g tbody D σ H1) : tFor wi g tbody D σ H := h
theorem w_lc (h : wi σ H fun J H1 => LcW J g tt te vs σ H1 Q) : tLc wi g tt te vs σ H Q := h
/-! the walked thing -/
theorem w_anyL1 {R : It → Hp → Prop} (h : tl σ H fun x H1 => AnyL K x H1 R) : iAny K tl σ H R := .inl h
theorem w_anyT1 {R : It → Hp → Prop} (h : tl σ H fun x H1 => AnyT K x H1 R) : iAny K tl σ H R := .inr (.inl h)
theorem w_anyS1 {R : It → Hp → Prop} (h : tl σ H fun v H1 => AnyS v H1 R) : iAny K tl σ H R := .inr (.inr h)
theorem w_anyVar {n : Nat} {R : It → Hp → Prop} (q : GetAt σ n v) (h : AnyV K v H R) : iAny K (tVar n) σ H R := by
  rcases h with h | h | h
  · exact .inl ⟨v, q.eq, h⟩
  · exact .inr (.inl ⟨v, q.eq, h⟩)
  · exact .inr (.inr ⟨v, q.eq, h⟩)
theorem w_anyC {R : It → Hp → Prop} (h : AnyV K v H R) : iAny K (tC v) σ H R := h
theorem w_vS {z : Str} {R : It → Hp → Prop} (h : R (Its z) H) : AnyV K (.str z) H R := .inr (.inr ⟨z, rfl, h⟩)
theorem w_vL {R : It → Hp → Prop} (hS : St K L H) (hl : LsIn K L a ds) (h : R (Itl K a) H) : AnyV K (.ref a) H R := by
  obtain ⟨F, xs, _, _, h3, _⟩ := hS.lsin hl
  exact .inl ⟨a, rfl, ⟨xs, SqL.of h3⟩, h⟩
theorem w_vT {R : It → Hp → Prop} (hS : St K L H) (hl : Is L (.ref a) (.tuple ds)) (h : R (Itt K a) H) : AnyV K (.ref a) H R := by
  obtain ⟨xs, h1, _⟩ := hS.tup_parts hl
  exact .inr (.inl ⟨a, rfl, ⟨xs, h1⟩, h⟩)
theorem w_itL {R : It → Hp → Prop} (hS : St K L H) (hl : LsIn K L a ds) (h : R (Itl K a) H) : AnyL K (.ref a) H R := by
  obtain ⟨F, xs, _, _, h3, _⟩ := hS.lsin hl
  exact ⟨a, rfl, ⟨xs, SqL.of h3⟩, h⟩
theorem w_itT {R : It → Hp → Prop} (hS : St K L H) (hl : Is L (.ref a) (.tuple ds)) (h : R (Itt K a) H) : AnyT K (.ref a) H R := by
  obtain ⟨xs, h1, _⟩ := hS.tup_parts hl
  exact ⟨a, rfl, ⟨xs, h1⟩, h⟩
theorem w_itS {R : It → Hp → Prop} {z : Str} (h : R (Its z) H) : AnyS (.str z) H R := ⟨z, rfl, h⟩
theorem w_rng1 {ta : TA} {R : It → Hp → Prop} (h : ta σ H fun vs H1 => Rng1 vs H1 R) : iRng1 ta σ H R := h
theorem w_rng2 {ta : TA} {R : It → Hp → Prop} (h : ta σ H fun vs H1 => Rng2 vs H1 R) : iRng2 ta σ H R := h
theorem w_rng3 {ta : TA} {R : It → Hp → Prop} (h : ta σ H fun vs H1 => Rng3 vs H1 R) : iRng3 ta σ H R := h
theorem w_itR1 {R : It → Hp → Prop} (hj : -100000 ≤ j ∧ j ≤ 100000000) (h : R (Itr 0 j.toNat) H) : Rng1 [.int j] H R := ⟨j, rfl, by omega, by omega, h⟩
theorem w_itR2 {R : It → Hp → Prop} (hi : -100000 ≤ i ∧ i ≤ 100000000) (hj : -100000 ≤ j ∧ j ≤ 100000000) (h : R (Itr i (j - i).toNat) H) : Rng2 [.int i, .int j] H R :=
  ⟨i, j, rfl, by omega, h⟩
theorem w_itR3 {R : It → Hp → Prop} {k : Int} {n : Nat} (hc : RgC i j k n) (h : R (Itc i k n) H) : Rng3 [.int i, .int j, .int k] H R := ⟨i, j, k, n, rfl, hc, h⟩
theorem w_enum {ta : TA} {R : It → Hp → Prop} (h : ta σ H fun vs H1 => Enu K vs H1 R) : iEnum K ta σ H R := h
theorem w_itE {R : It → Hp → Prop} (hS : St K L H) (hl : LsIn K L a ds) (h : R (Ite K a) H) : Enu K [.ref a] H R := by
  obtain ⟨F, xs, _, _, h3, _⟩ := hS.lsin hl
  exact ⟨a, xs, rfl, SqL.of h3, h⟩
/-! for -/
theorem w_forL (I : Nat → L2.St → Hp → Prop) (h0 : I 0 σ H) (hI : ∀ i σ H, i ≤ ds.length → I i σ H → ∃ L, St K L H ∧ LsIn K L a ds)
    (hs : ∀ i d v σ H, ds[i]? = some d → I i σ H → (∀ L, St K L H → LsIn K L a ds → St K (.dat v d :: L) H) → g v σ H fun σ2 H2 => tbody { D with nx := I (i + 1), ct := I (i + 1), bk := D.nx } σ2 H2)
    (hd : ∀ σ H, I ds.length σ H → D.nx σ H) : ForW (Itl K a) g tbody D σ H := by
  refine ⟨fun i m σ H => m = ds.length - i ∧ i ≤ ds.length ∧ I i σ H, ⟨ds.length, by simp, Nat.zero_le _, h0⟩, ?_⟩
  rintro i m σ H ⟨rfl, hi, p⟩
  obtain ⟨L, hS, hl⟩ := hI i σ H hi p
  by_cases hlt : i < ds.length
  · obtain ⟨xs, v, h3, h5, hlen, h6⟩ := hS.item hl (k := i) (d := ds[i]) (by simp [hlt])
    refine .inr ⟨⟨xs, v, SqL.of h3, h5⟩, I (i + 1), fun σ' H' p' => ⟨ds.length - (i + 1), by omega, rfl, hlt, p'⟩, fun x H' y => ?_⟩
    obtain ⟨rfl, y⟩ := y
    have hx : xs[i]? = some x := y xs (SqL.of h3)
    have hxv : v = x := by rw [h5] at hx; exact Option.some.inj hx
    subst hxv
    refine hs i ds[i] v σ H' (by simp [hlt]) p fun L2 hS2 hl2 => ?_
    obtain ⟨xs2, v2, k3, k5, _, k6⟩ := hS2.item hl2 (k := i) (d := ds[i]) (by simp [hlt])
    rw [h3] at k3
    cases k3
    rw [h5] at k5
    cases k5
    exact k6
  · have e : i = ds.length := by omega
    subst e
    obtain ⟨xs, h3, h4⟩ := hS.lenl hl
    exact .inl ⟨⟨xs, SqL.of h3, Nat.le_of_eq h4⟩, hd σ H p⟩
theorem w_forT {xs : List V} (hx : xs.length = ds.length) (I : Nat → L2.St → Hp → Prop) (h0 : I 0 σ H) (hI : ∀ i σ H, i ≤ ds.length → I i σ H → SqT K H a xs)
    (hs : ∀ i d v σ H, ds[i]? = some d → xs[i]? = some v → I i σ H → g v σ H fun σ2 H2 => tbody { D with nx := I (i + 1), ct := I (i + 1), bk := D.nx } σ2 H2)
    (hd : ∀ σ H, I ds.length σ H → D.nx σ H) : ForW (Itt K a) g tbody D σ H := by
  refine for_tup (xs := xs) I h0 (fun i σ H hi p => hI i σ H (by omega) p) (fun i x σ H hv p => ?_) (fun σ H p => hd σ H (by rw [← hx]; exact p))
  have hlt : i < ds.length := by
    rw [← hx]
    exact (List.getElem?_eq_some_iff.mp hv).1
  exact hs i ds[i] x σ H (by simp [hlt]) hv p
theorem w_forR {lo : Int} {n : Nat} (I : Nat → L2.St → Hp → Prop) (h0 : I 0 σ H)
    (hs : ∀ i σ H, i < n → I i σ H → g (.int (lo + i)) σ H fun σ2 H2 => tbody { D with nx := I (i + 1), ct := I (i + 1), bk := D.nx } σ2 H2) (hd : ∀ σ H, I n σ H → D.nx σ H) : ForW (Itr lo n) g tbody D σ H :=
  for_range I h0 hs hd
theorem w_forS {z : Str} (I : Nat → L2.St → Hp → Prop) (h0 : I 0 σ H)
    (hs : ∀ i c σ H, z.cps.toList[i]? = some c → I i σ H → g (.str ⟨#[c]⟩) σ H fun σ2 H2 => tbody { D with nx := I (i + 1), ct := I (i + 1), bk := D.nx } σ2 H2) (hd : ∀ σ H, I z.cps.toList.length σ H → D.nx σ H) : ForW (Its z) g tbody D σ H := by
  refine for_it walk_str I h0 (fun _ _ _ _ _ => trivial) (fun i x σ H H' hi p y => ?_) (fun σ H p => hd σ H (by simpa using p))
  obtain ⟨rfl, c, hc, rfl⟩ := y
  exact hs i c σ H' (by simpa using hc) p
/-! comprehensions without tests -/
theorem lc_mk {J : It} {N : Nat} (R : Nat → PyData → Prop) (hN : N ≤ 100000) (hS : St K L H)
    (hgo : ∀ i H es q, i < N → St K (.cell q (.ls K es) :: L) H → J.go i H) (hst : ∀ H es q, St K (.cell q (.ls K es) :: L) H → J.stop N H)
    (hs : ∀ i q es H x H', i < N → es.length = i → St K (.cell q (.ls K es) :: L) H → J.yld i H x H' → ∀ Z : VK, (∀ y e H3, R i e → St K (.dat y e :: .cell q (.ls K es) :: L) H3 → Z y H3) → g x (wipe σ vs) H' fun σ2 H2 => wipe σ2 vs = wipe σ vs ∧ te σ2 H2 Z)
    (h : ∀ q es H', es.length = N → (∀ i e, es[i]? = some e → R i e) → St K (.cell q (.ls K es) :: L) H' → Q (.ref q) H') : LcW J g tYes te vs σ H Q := by
  intro q hq
  refine ⟨fun i m H => m = N - i ∧ i ≤ N ∧ ∃ es, es.length = i ∧ (∀ j e, es[j]? = some e → R j e) ∧ St K (.cell q (.ls K es) :: L) H, ⟨N, by simp, Nat.zero_le _, [], rfl, fun j e z => by simp at z, hS.alloc hq fun F _ _ => ⟨[], rfl, .nil⟩⟩, ?_⟩
  rintro i m H ⟨rfl, hi, es, hlen, hR, hS1⟩
  by_cases hlt : i < N
  · refine .inr ⟨hgo i H es q hlt hS1, fun H' => i + 1 ≤ N ∧ ∃ es, es.length = i + 1 ∧ (∀ j e, es[j]? = some e → R j e) ∧ St K (.cell q (.ls K es) :: L) H', fun H' w => ⟨N - (i + 1), by omega, rfl, w⟩, fun x H' y => ?_⟩
    refine hs i q es H x H' hlt hlen hS1 y _ fun y e H3 hRe hS3 => ?_
    obtain ⟨F, xs, h1, h2, h3, h4⟩ := hS3.lsin (.own (.tail _ (.head _)))
    refine ⟨xs, h3, ?_, by omega, es ++ [e], by simp [hlen], fun j e' he => ?_, ?_⟩
    · rw [h4.len, hlen]
      exact Nat.lt_of_lt_of_le (Nat.lt_of_lt_of_le hlt hN) (by decide)
    · by_cases hj : j < es.length
      · rw [List.getElem?_append_left hj] at he
        exact hR j e' he
      · rw [List.getElem?_append_right (by omega)] at he
        have hj0 : j - es.length = 0 := by
          cases hz : j - es.length with
          | zero => rfl
          | succ n => rw [hz] at he; simp at he
        rw [hj0] at he
        have : j = i := by omega
        subst this
        simp at he
        subst he
        exact hRe
    · have hS4 := hS3.writeP (o := .lst (xs ++ [y])) (ψ := .ls K (es ++ [e])) (.there .here) fun F' x e' q hx hφ => ?_
      · exact hS4.tail
      · obtain ⟨ys, rfl, hys⟩ := hφ
        rw [h3] at hx
        cases hx
        exact ⟨_, rfl, hys.app (.cons (q _ (.head _)) .nil)⟩
  · have e : i = N := by omega
    subst e
    exact .inl ⟨hst H es q hS1, h q es H hlen hR hS1⟩
theorem w_lcL {R : Nat → PyData → Prop} (hS : St K L H) (hl : LsIn K L a ds) (hn : ds.length ≤ 100000)
    (hs : ∀ i d q es v H, ds[i]? = some d → es.length = i → St K (.dat v d :: .cell q (.ls K es) :: L) H → ∀ Z : VK, (∀ y e H3, R i e → St K (.dat y e :: .cell q (.ls K es) :: L) H3 → Z y H3) → g v (wipe σ vs) H fun σ2 H2 => wipe σ2 vs = wipe σ vs ∧ te σ2 H2 Z)
    (h : ∀ q es H', es.length = ds.length → (∀ i e, es[i]? = some e → R i e) → St K (.cell q (.ls K es) :: L) H' → Q (.ref q) H') : LcW (Itl K a) g tYes te vs σ H Q := by
  refine lc_mk R hn hS (fun i H es q hi h1 => ?_) (fun H es q h1 => ?_) (fun i q es H x H' hi hlen h1 y Z hZ => ?_) h
  · obtain ⟨xs, v, h3, h5, _, _⟩ := h1.item hl.cons (k := i) (d := ds[i]) (by simp [hi])
    exact ⟨xs, v, SqL.of h3, h5⟩
  · obtain ⟨xs, h3, h4⟩ := h1.lenl hl.cons
    exact ⟨xs, SqL.of h3, Nat.le_of_eq h4⟩
  · obtain ⟨rfl, y⟩ := y
    obtain ⟨xs, v, h3, h5, _, h6⟩ := h1.item hl.cons (k := i) (d := ds[i]) (by simp [hi])
    have hx := y xs (SqL.of h3)
    rw [h5] at hx
    have hvx := Option.some.inj hx
    subst hvx
    exact hs i ds[i] q es _ H' (by simp [hi]) hlen h6 Z hZ
theorem w_lcR {lo : Int} {n : Nat} {R : Nat → PyData → Prop} (hS : St K L H) (hn : n ≤ 100000)
    (hs : ∀ i q es H, i < n → es.length = i → St K (.cell q (.ls K es) :: L) H → ∀ Z : VK, (∀ y e H3, R i e → St K (.dat y e :: .cell q (.ls K es) :: L) H3 → Z y H3) → g (.int (lo + i)) (wipe σ vs) H fun σ2 H2 => wipe σ2 vs = wipe σ vs ∧ te σ2 H2 Z)
    (h : ∀ q es H', es.length = n → (∀ i e, es[i]? = some e → R i e) → St K (.cell q (.ls K es) :: L) H' → Q (.ref q) H') : LcW (Itr lo n) g tYes te vs σ H Q := by
  refine lc_mk R hn hS (fun i H es q hi h1 => hi) (fun H es q h1 => Nat.le_refl _) (fun i q es H x H' hi hlen h1 y Z hZ => ?_) h
  obtain ⟨rfl, rfl⟩ := y
  exact hs i q es H' hi hlen h1 Z hZ
theorem w_lcR3 {lo c : Int} {n : Nat} {R : Nat → PyData → Prop} (hS : St K L H) (hn : n ≤ 100000)
    (hs : ∀ i q es H, i < n → es.length = i → St K (.cell q (.ls K es) :: L) H → ∀ Z : VK, (∀ y e H3, R i e → St K (.dat y e :: .cell q (.ls K es) :: L) H3 → Z y H3) → g (.int (lo + (i : Nat) * c)) (wipe σ vs) H fun σ2 H2 => wipe σ2 vs = wipe σ vs ∧ te σ2 H2 Z)
    (h : ∀ q es H', es.length = n → (∀ i e, es[i]? = some e → R i e) → St K (.cell q (.ls K es) :: L) H' → Q (.ref q) H') : LcW (Itc lo c n) g tYes te vs σ H Q := by
  refine lc_mk R hn hS (fun i H es q hi h1 => hi) (fun H es q h1 => Nat.le_refl _) (fun i q es H x H' hi hlen h1 y Z hZ => ?_) h
  obtain ⟨rfl, rfl⟩ := y
  exact hs i q es H' hi hlen h1 Z hZ
theorem w_lcS {z : Str} {R : Nat → PyData → Prop} (hS : St K L H) (hn : z.length ≤ 100000)
    (hs : ∀ i k q es H, z.cps.toList[i]? = some k → es.length = i → St K (.cell q (.ls K es) :: L) H → ∀ Z : VK, (∀ y e H3, R i e → St K (.dat y e :: .cell q (.ls K es) :: L) H3 → Z y H3) → g (.str ⟨#[k]⟩) (wipe σ vs) H fun σ2 H2 => wipe σ2 vs = wipe σ vs ∧ te σ2 H2 Z)
    (h : ∀ q es H', es.length = z.cps.toList.length → (∀ i e, es[i]? = some e → R i e) → St K (.cell q (.ls K es) :: L) H' → Q (.ref q) H') : LcW (Its z) g tYes te vs σ H Q := by
  refine lc_mk (N := z.cps.size) R hn hS (fun i H es q hi h1 => hi) (fun H es q h1 => Nat.le_refl _) (fun i q es H x H' hi hlen h1 y Z hZ => ?_) (fun q es H' h1 => h q es H' (by simpa using h1))
  obtain ⟨rfl, k, hk, rfl⟩ := y
  exact hs i k q es H' (by simpa using hk) hlen h1 Z hZ
/-- enumerate: the pair is a new tuple -/
theorem w_lcE {R : Nat → PyData → Prop} (hS : St K L H) (hl : LsIn K L a ds) (hn : ds.length ≤ 100000)
    (hs : ∀ i d q es T H, ds[i]? = some d → es.length = i → St K (.dat (.ref T) (.tuple [.int (i : Nat), d]) :: .cell q (.ls K es) :: L) H → ∀ Z : VK, (∀ y e H3, R i e → St K (.dat y e :: .cell q (.ls K es) :: L) H3 → Z y H3) → g (.ref T) (wipe σ vs) H fun σ2 H2 => wipe σ2 vs = wipe σ vs ∧ te σ2 H2 Z)
    (h : ∀ q es H', es.length = ds.length → (∀ i e, es[i]? = some e → R i e) → St K (.cell q (.ls K es) :: L) H' → Q (.ref q) H') : LcW (Ite K a) g tYes te vs σ H Q := by
  refine lc_mk R hn hS (fun i H es q hi h1 => ?_) (fun H es q h1 => ?_) (fun i q es H x H' hi hlen h1 y Z hZ => ?_) h
  · obtain ⟨xs, v, h3, h5, _, _⟩ := h1.item hl.cons (k := i) (d := ds[i]) (by simp [hi])
    exact ⟨xs, v, SqL.of h3, h5⟩
  · obtain ⟨xs, h3, h4⟩ := h1.lenl hl.cons
    exact ⟨xs, SqL.of h3, Nat.le_of_eq h4⟩
  · obtain ⟨T, x', rfl, hT, rfl, y⟩ := y
    obtain ⟨xs, v, h3, h5, _, h6⟩ := h1.item hl.cons (k := i) (d := ds[i]) (by simp [hi])
    have hx := y xs (SqL.of h3)
    rw [h5] at hx
    have hvx := Option.some.inj hx
    subst hvx
    have h7 := h6.fresh (o := .tup [.int (i : Nat), v]) (v := .ref T) (d := .tuple [.int (i : Nat), ds[i]]) hT fun F hF e q => .tup (SqT.of upd_same) (.cons (.int _) (.cons (Dv.mono (Ex.new hF) _ _ (q _ (.head _))) .nil))
    exact hs i ds[i] q es T _ (by simp [hi]) hlen (h7.to (.cons .here (.cons (.there .here) (.drop .refl)))) Z hZ
/-- targets that unpack -/
theorem zip_ok {F : Hp} : ∀ {xs : List V} {ds : List PyData}, DvAll K F xs ds → ∀ e ∈ List.zipWith Ent.dat xs ds, e.ok K F H
  | _, [], h, e, he => by cases h; cases he
  | _, d :: ds, h, e, he => by
    cases h with
    | cons h1 h2 =>
      rw [List.zipWith_cons_cons] at he
      cases he with
      | head => exact h1
      | tail _ he => exact zip_ok h2 e he
theorem zip_adr : ∀ {xs : List V} {ds : List PyData}, (List.zipWith Ent.dat xs ds ++ L).filterMap Ent.adr = L.filterMap Ent.adr
  | [], _ => rfl
  | _ :: _, [] => rfl
  | x :: xs, d :: ds => zip_adr (xs := xs) (ds := ds)
theorem St.zip {F : Hp} {xs : List V} (hS : St K L H) (h1 : Ex F H) (h2 : ∀ e ∈ L, e.ok K F H) (h3 : DvAll K F xs ds) : St K (List.zipWith Ent.dat xs ds ++ L) H :=
  ⟨⟨F, h1, fun e he => by
    rcases List.mem_append.mp he with he | he
    · exact zip_ok h3 e he
    · exact h2 e he⟩, by rw [zip_adr]; exact hS.nd⟩
theorem St.tup_all (hS : St K L H) (hl : Is L (.ref a) (.tuple ds)) : ∃ xs, SqT K H a xs ∧ xs.length = ds.length ∧ St K (List.zipWith Ent.dat xs ds ++ L) H := by
  obtain ⟨F, h1, h2⟩ := hS.ex
  have := hl.dv h2
  cases this with
  | tup g1 g2 => exact ⟨_, h1.sqT g1, g2.len, hS.zip h1 h2 g2⟩
theorem St.lst_all (hS : St K L H) (hl : LsIn K L a ds) : ∃ xs, H a = some (.lst xs) ∧ xs.length = ds.length ∧ St K (List.zipWith Ent.dat xs ds ++ L) H := by
  obtain ⟨F, xs, h1, h2, h3, h4⟩ := hS.lsin hl
  exact ⟨xs, h3, h4.len, hS.zip h1 h2 h4⟩
theorem w_unpT {tgs : TGs} {R : L2.St → Hp → Prop} (hS : St K L H) (hl : Is L (.ref a) (.tuple ds)) (hn : ds.length = n) (h : ∀ xs, xs.length = ds.length → St K (List.zipWith Ent.dat xs ds ++ L) H → tgs xs σ H R) : gUnp K n tgs (.ref a) σ H R := by
  obtain ⟨xs, h1, h2, h3⟩ := hS.tup_all hl
  exact .inl ⟨a, xs, rfl, h1, by rw [h2, hn], h xs h2 h3⟩
theorem w_unpL {tgs : TGs} {R : L2.St → Hp → Prop} (hS : St K L H) (hl : LsIn K L a ds) (hn : ds.length = n) (h : ∀ xs, xs.length = ds.length → St K (List.zipWith Ent.dat xs ds ++ L) H → tgs xs σ H R) : gUnp K n tgs (.ref a) σ H R := by
  obtain ⟨xs, h1, h2, h3⟩ := hS.lst_all hl
  exact .inr ⟨a, xs, rfl, SqL.of h1, by rw [h2, hn], h xs h2 h3⟩
theorem w_unpT2 {tgs : TGs} {d1 d2 : PyData} {R : L2.St → Hp → Prop} (hS : St K L H) (hl : Is L (.ref a) (.tuple [d1, d2])) (h : ∀ v1 v2, St K (.dat v1 d1 :: .dat v2 d2 :: L) H → tgs [v1, v2] σ H R) : gUnp K 2 tgs (.ref a) σ H R :=
  w_unpT hS hl rfl fun xs hx h3 => match xs, hx, h3 with
    | [_, _], _, h3 => h _ _ h3
theorem w_unpT3 {tgs : TGs} {d1 d2 d3 : PyData} {R : L2.St → Hp → Prop} (hS : St K L H) (hl : Is L (.ref a) (.tuple [d1, d2, d3])) (h : ∀ v1 v2 v3, St K (.dat v1 d1 :: .dat v2 d2 :: .dat v3 d3 :: L) H → tgs [v1, v2, v3] σ H R) : gUnp K 3 tgs (.ref a) σ H R :=
  w_unpT hS hl rfl fun xs hx h3 => match xs, hx, h3 with
    | [_, _, _], _, h3 => h _ _ _ h3

/-! ### the draws of a law -/
def spDraw (K : PySem.W.Frag) : Sp := fun vs H Q _ => ∃ (L : List Ent) (b : Addr) (m : Int), vs = [.ref b, .int m] ∧ St K L H ∧ bx K b ∈ L ∧ 0 < m ∧ ∀ k H', 0 ≤ k → k < m → St K L H' → Q (.int k) H'
theorem w_draw {m : Int} {E : XK} (hS : St K L H) (hb : bx K a ∈ L) (hm : 0 < m) (h : ∀ k H', 0 ≤ k → k < m → St K L H' → Q (.int k) H') : spDraw K [.ref a, .int m] H Q E := ⟨L, a, m, rfl, hS, hb, hm, h⟩
end
end Lg

/-! A law's own cell, digits, draw. -/
namespace Lg
open PySem PySem.Spec PyProof.Rows L2
local macro_rules | `(tactic| walk_at "ar") => `(tactic| first | omega | (simp; done) | (simp; omega) | (simp only [S_len]; omega))
local macro_rules | `(tactic| walk_at "gt") => `(tactic| repeat (first | exact GetAt.here | apply GetAt.there))
local macro_rules | `(tactic| walk_at "st") => `(tactic| repeat (first | exact SetAt.here | apply SetAt.there))
local macro_rules | `(tactic| walk_at "mem") => `(tactic| first | assumption | exact List.mem_cons_self | (apply List.mem_cons_of_mem; walk_at "mem"))
local macro_rules | `(tactic| walk_at "put") => `(tactic| repeat (first | exact Put.here | apply Put.there))
local macro_rules | `(tactic| walk_at "rem") => `(tactic| repeat (first | exact Rem.here | apply Rem.there))
local macro_rules | `(tactic| walk_at "pick") => `(tactic| first | exact Pick.refl | exact Pick.cons (by walk_at "rem") (by walk_at "pick") | (apply Pick.drop; walk_at "pick") | exact Pick.nil)
local macro_rules | `(tactic| walk_at "is") => `(tactic| first | exact Is.int | exact Is.str | exact Is.bl | exact Is.non | assumption | exact Is.dat (by walk_at "mem") | (apply Is.cons; walk_at "is"))
local macro_rules | `(tactic| walk_at "isall") => `(tactic| first | exact IsAll.nil | exact IsAll.cons (by walk_at "is") (by walk_at "isall"))
local macro_rules | `(tactic| walk_at "lsin") => `(tactic| first | assumption | exact LsIn.own (by walk_at "mem") | exact LsIn.dat (by walk_at "mem") | (apply LsIn.cons; walk_at "lsin"))
local macro_rules | `(tactic| walk_at "see") => `(tactic| first | exact See.own (by walk_at "mem") | exact See.is (by walk_at "is"))
local macro_rules | `(tactic| walk_at "w1") => `(tactic| first
  | (with_reducible apply Lg.w_seq)
  | (with_reducible apply Lg.w_asg)
  | ((with_reducible show gName _ _ _ _ _); (with_reducible refine Lg.w_name (by walk_at "st") ?_))
  | ((with_reducible show tVar _ _ _ _); (with_reducible refine Lg.w_var (by walk_at "gt") ?_))
  | (with_reducible apply Lg.w_c)
  | (with_reducible apply Lg.w_op)
  | (with_reducible apply Lg.w_un)
  | (with_reducible apply Lg.w_nil)
  | (with_reducible apply Lg.w_cons)
  | (with_reducible apply Lg.w_call)
  | (with_reducible apply Lg.w_cb)
  | (with_reducible apply Lg.w_tup)
  | (with_reducible apply Lg.w_lst)
  | (with_reducible apply Lg.w_bm)
  | (with_reducible apply Lg.w_bm0)
  | (with_reducible apply Lg.w_sl)
  | (with_reducible apply Lg.w_nopart)
  | (with_reducible apply Lg.w_part)
  | (with_reducible apply Lg.w_isint)
  | (with_reducible apply Lg.w_test)
  | (with_reducible apply Lg.w_tB)
  | (with_reducible apply Lg.w_isbl')
  | (with_reducible apply Lg.w_not)
  | (with_reducible apply Lg.w_tru)
  | (with_reducible apply Lg.w_truI)
  | (with_reducible apply Lg.w_truB)
  | (with_reducible apply Lg.w_ifs)
  | (with_reducible apply Lg.w_next)
  | (with_reducible apply Lg.w_break)
  | (with_reducible apply Lg.w_cont)
  | (with_reducible apply Lg.w_ret)
  | (with_reducible apply Lg.w_retn)
  | (with_reducible apply Lg.w_drop)
  | (with_reducible apply Lg.w_sub)
  | (with_reducible apply Lg.w_gnil)
  | (with_reducible apply Lg.w_gcons)
  | (with_reducible apply Lg.w_ifT)
  | (with_reducible apply Lg.w_ifF)
  | (with_reducible apply Lg.w_add)
  | (with_reducible apply Lg.w_sub2)
  | ((with_reducible show rTimes (V.int _) (V.int _) _ _); (with_reducible refine Lg.w_mulR (by omega) ?_))
  | ((with_reducible show rTimes (V.int _) (V.int _) _ _); (with_reducible refine Lg.w_mulL (by omega) ?_))
  | ((with_reducible show rMod (V.int _) (V.int _) _ _); (with_reducible refine Lg.w_mod (by first | decide | omega) ?_))
  | ((with_reducible show rFdiv (V.int _) (V.int _) _ _); (with_reducible refine Lg.w_fdiv (by first | decide | omega) ?_))
  | (with_reducible apply Lg.w_band)
  | (with_reducible apply Lg.w_lt)
  | (with_reducible apply Lg.w_le)
  | (with_reducible apply Lg.w_gt)
  | (with_reducible apply Lg.w_ge)
  | (with_reducible apply Lg.w_eqI)
  | (with_reducible apply Lg.w_neI)
  | (with_reducible apply Lg.w_eqS)
  | (with_reducible apply Lg.w_neS)
  | (with_reducible apply Lg.w_isN)
  | (with_reducible apply Lg.w_isR)
  | (with_reducible apply Lg.w_isI)
  | (with_reducible apply Lg.w_isS)
  | (with_reducible apply Lg.w_nsN)
  | (with_reducible apply Lg.w_nsR)
  | (with_reducible apply Lg.w_nsI)
  | (with_reducible apply Lg.w_nsS)
  | (with_reducible apply Lg.w_int)
  | (with_reducible apply Lg.w_intb)
  | (with_reducible apply Lg.w_ord1)
  | (with_reducible apply Lg.w_tyS)
  | (with_reducible apply Lg.w_inSg)
  | (with_reducible apply Lg.w_ninSg)
  | ((with_reducible show NewL _ _ _); (with_reducible refine Lg.w_newL (by assumption) (by walk_at "isall") (by simp) ?_); (intro p' H' hS'))
  | ((with_reducible show NewT _ _ _); (with_reducible refine Lg.w_newT (by assumption) (by walk_at "isall") (by simp) ?_); (intro p' H' hS'))
  | ((with_reducible show TyThen _ _ (V.ref _) _ _); (with_reducible refine Lg.w_tyL (by assumption) (by walk_at "lsin") ?_))
  | ((with_reducible show rLenX _ [V.ref _] _ _); (with_reducible refine Lg.w_lenL (by assumption) (by walk_at "lsin") ?_))
  | ((with_reducible show rLenX _ [V.ref _] _ _); (with_reducible refine Lg.w_lenT (by assumption) (by walk_at "is") ?_))
  | ((with_reducible show spDraw _ _ _ _ _); (with_reducible refine Lg.w_draw (by assumption) (by walk_at "mem") (by first | decide | omega) ?_); (intro k' H' hk0' hk1' hS'))
  | ((with_reducible show rSlX _ (V.ref _) _ _ _ _); (with_reducible refine Lg.w_slL (by assumption) (by walk_at "lsin") ?_); (intro p' H' hS'))
  | ((with_reducible show rListOf _ [V.ref _] _ _); (with_reducible refine Lg.w_listL (by assumption) (by walk_at "lsin") ?_); (intro p' H' hS'))
  | (with_reducible apply Lg.w_for)
  | (with_reducible apply Lg.w_lc)
  | ((with_reducible show iAny _ (tVar _) _ _ _); (with_reducible refine Lg.w_anyVar (by walk_at "gt") ?_))
  | (with_reducible apply Lg.w_anyC)
  | (with_reducible apply Lg.w_vS)
  | (with_reducible apply Lg.w_itS)
  | ((with_reducible show AnyV _ (V.ref _) _ _); (with_reducible refine Lg.w_vL (by assumption) (by walk_at "lsin") ?_))
  | ((with_reducible show AnyL _ (V.ref _) _ _); (with_reducible refine Lg.w_itL (by assumption) (by walk_at "lsin") ?_))
  | ((with_reducible show AnyV _ (V.ref _) _ _); (with_reducible refine Lg.w_vT (by assumption) (by walk_at "is") ?_))
  | ((with_reducible show AnyT _ (V.ref _) _ _); (with_reducible refine Lg.w_itT (by assumption) (by walk_at "is") ?_))
  | ((with_reducible show Enu _ [V.ref _] _ _); (with_reducible refine Lg.w_itE (by assumption) (by walk_at "lsin") ?_))
  | ((with_reducible show rPlus _ (V.ref _) (V.ref _) _ _); (with_reducible refine Lg.w_plusL (by assumption) (by walk_at "lsin") (by walk_at "lsin") (by walk_at "ar") ?_); (intro p' H' hS'))
  | ((with_reducible show rTimes (V.ref _) (V.int _) _ _); (with_reducible refine Lg.w_repLs (by assumption) (by walk_at "lsin") (by walk_at "ar") (by walk_at "ar") (by walk_at "ar") ?_); (intro p' H' hS'))
  | ((with_reducible show rLenX _ [V.str _] _ _); (with_reducible refine Lg.w_lenS (by walk_at "ar") ?_))
  | ((with_reducible show rSlX _ (V.str _) _ _ _ _); (with_reducible refine Lg.w_slS (by walk_at "ar") ?_))
  | (with_reducible apply Lg.w_rng1)
  | (with_reducible apply Lg.w_rng2)
  | (with_reducible apply Lg.w_rng3)
  | (with_reducible apply Lg.w_enum)
  | ((with_reducible show Rng1 _ _ _); (with_reducible refine Lg.w_itR1 (by omega) ?_))
  | ((with_reducible show Rng2 _ _ _); (with_reducible refine Lg.w_itR2 (by omega) (by omega) ?_))
  | (with_reducible apply Lg.w_ifexp)
  | (with_reducible apply Lg.w_chain)
  | ((with_reducible show ChainK _ _ _ _ _ _ _); (with_reducible refine Lg.w_chainLe (by (intro R' hR'; walk_at "w"; exact hR')) ?_))
  | ((with_reducible show ChainK _ _ _ _ _ _ _); (with_reducible refine Lg.w_chainLt (by (intro R' hR'; walk_at "w"; exact hR')) ?_))
  | ((with_reducible show tAnd _ _ _ _ _); (with_reducible refine Lg.w_andP (by (intro R' hR'; walk_at "w"; exact hR')) (by (intro hb' R' hR'; walk_at "w"; exact hR')) ?_))
  | ((with_reducible show tOr _ _ _ _ _); (with_reducible refine Lg.w_orP (by (intro R' hR'; walk_at "w"; exact hR')) (by (intro hb' R' hR'; walk_at "w"; exact hR')) ?_))
  | ((with_reducible show tAndV _ _ _ _ _); (with_reducible refine Lg.w_andVP (by (intro R' hR'; walk_at "w"; exact hR')) (by (intro hb' R' hR'; walk_at "w"; exact hR')) ?_))
  | ((with_reducible show tOrV _ _ _ _ _); (with_reducible refine Lg.w_orVP (by (intro R' hR'; walk_at "w"; exact hR')) (by (intro hb' R' hR'; walk_at "w"; exact hR')) ?_))
  | (with_reducible apply Lg.w_notV))
local macro_rules | `(tactic| walk_at "w") => `(tactic| repeat (walk_at "w1"))
section
variable {K : PySem.W.Frag}
def t_cell (K : PySem.W.Frag) : TS :=
    (tSeq (tIfS (tTest (tOp rLt (tVar 1) (tCB (rLenX K) (tCons (tVar 0) tNil)))) (tRet (tOp (rIx K) (tVar 0) (tVar 1))) tNext)
    (tRet (tC (.int 0))))
def t_digits (K : PySem.W.Frag) (sp_l_cell : Sp) : TS :=
    (tSeq (tAsg (tLst tNil) (gName 3))
    (tSeq (tFor (iRng2 (tCons (tVar 1) (tCons (tVar 2) tNil))) (gName 4) (tSeq (tAsg (tCall sp_l_cell [] C8.E0 (tCons (tVar 0) (tCons (tVar 4) tNil))) (gName 5))
    (C8.tCut (tIfS (tTest (tOp rLt (tVar 5) (tC (.int 0)))) (tAsg (tOp rMinus (tC (.int 1)) (tOp rTimes (tC (.int 2)) (tVar 5))) (gName 5)) tNext)
    (tIfS (tTest (tOp rGe (tVar 5) (tC (.int 1000000000000000000)))) (tFor (iRng1 (tCons (tC (.int 60)) tNil)) (gName 6) (tIfS (tTest (tOp rGt (tVar 5) (tC (.int 0)))) (tSeq (tDrop (tBM K "list" rAppend (tVar 3) (tCons (tOp rMod (tCB (rIntX) (tCons (tVar 5) tNil)) (tC (.int 1000))) tNil)))
    (tAsg (tOp rFdiv (tVar 5) (tC (.int 1000))) (gName 5))) tNext)) (tSeq (tAsg (tOp rMod (tCB (rIntX) (tCons (tOp (rPlus K) (tOp (rPlus K) (tOp rTimes (tVar 5) (tC (.int 40692))) (tOp rTimes (tVar 4) (tC (.int 52774)))) (tC (.int 17))) tNil)) (tC (.int 2147483399))) (gName 7))
    (tFor (iRng1 (tCons (tC (.int 12)) tNil)) (gName 6) (tSeq (tAsg (tOp rMod (tCB (rIntX) (tCons (tOp (rPlus K) (tOp (rPlus K) (tOp rTimes (tVar 7) (tC (.int 40014))) (tOp rTimes (tC (.int 5)) (tVar 6))) (tC (.int 3))) tNil)) (tC (.int 2147483563))) (gName 7))
    (tDrop (tBM K "list" rAppend (tVar 3) (tCons (tOp rMod (tCB (rIntX) (tCons (tOp rFdiv (tVar 7) (tC (.int 1009))) tNil)) (tC (.int 1000))) tNil))))))))))
    (tRet (tVar 3))))
def t_draw (K : PySem.W.Frag) : TS :=
    (tSeq (tAsg (tOp (rIx K) (tVar 0) (tC (.int 1))) (gName 2))
    (tSeq (tAsg (tOp (rPlus K) (tVar 2) (tC (.int 1))) (gSub (tVar 0) (tC (.int 1)) rSetL))
    (tSeq (tIfS (tTest (tOp rLt (tVar 2) (tCB (rLenX K) (tCons (tOp (rIx K) (tVar 0) (tC (.int 0))) tNil)))) (tRet (tOp rMod (tCB (rIntX) (tCons (tOp (rIx K) (tOp (rIx K) (tVar 0) (tC (.int 0))) (tVar 2)) tNil)) (tVar 1))) tNext)
    (tRet (tOp rMod (tCB (rIntX) (tCons (tOp (rPlus K) (tOp rTimes (tVar 2) (tC (.int 7))) (tC (.int 3))) tNil)) (tVar 1))))))
/-- some int -/
def spCell (K : PySem.W.Frag) : Sp := fun vs H Q _ => ∃ (a : Addr) (ns : List Int) (k : Int), vs = [.ref a, .int k] ∧ SqL K H a (ns.map V.int) ∧ 0 ≤ k ∧ ∀ n, Q (.int n) H
theorem p_cell (vs : List V) (H : Hp) (Q : VK) (E : XK) (h : spCell K vs H Q E) : vs.length = 2 ∧ t_cell K { nx := fun _ H' => Q .non H', rt := Q } (start ["_law_script", "_law_k"] vs) H := by
  obtain ⟨a, ns, k, rfl, hS, hk, hQ⟩ := h
  refine ⟨rfl, ?_⟩
  unfold t_cell
  show tSeq _ _ _ [some (.ref a), some (.int k)] H
  walk_at "w"
  refine ⟨.ref a, ns.length, rfl, .inl ⟨_, hS, by simp⟩, ?_⟩
  walk_at "w"
  refine w_ifd (fun h => ?_) (fun h => ?_)
  · walk_at "w"
    obtain ⟨j, rfl⟩ := Int.eq_ofNat_of_zero_le hk
    have hj : j < ns.length := by omega
    exact .inl ⟨a, _, _, .int ns[j], rfl, rfl, hS, atI_nat (by simp [hj]), hQ _⟩
  · walk_at "w"
    exact hQ 0
/-- some list of ints -/
def spDigits (K : PySem.W.Frag) : Sp := fun vs H Q _ => ∃ (L : List Ent) (a : Addr) (ns : List Int) (i j : Int), vs = [.ref a, .int i, .int j] ∧ St K L H ∧ Ent.fact (.seq K a ns) ∈ L ∧ 0 ≤ i ∧ i ≤ 100 ∧ -100 ≤ j ∧ j ≤ 100 ∧
  ∀ (p : Addr) (ms : List Int) (H' : Hp), St K (Lg.ls K p (ms.map PyData.int) :: L) H' → Q (.ref p) H'
theorem St.fact_of {L : List Ent} {H : Hp} {φ : Fr} (h : St K L H) (m : Ent.fact φ ∈ L) : φ.p H := by
  obtain ⟨F, h1, h2⟩ := h.ex
  exact φ.mono _ _ h1 (h2 _ m)
theorem p_digits (vs : List V) (H : Hp) (Q : VK) (E : XK) (h : spDigits K vs H Q E) :
    vs.length = 3 ∧ t_digits K (spCell K) { nx := fun _ H' => Q .non H', rt := Q } (start ["_law_script", "_law_first", "_law_last", "_law_digits_here", "_law_k", "_law_cell_here", "_law_turn", "_law_seed"] vs) H := by
  obtain ⟨L, a, ns, i, j, rfl, hS, hm, hi0, hi1, hj0, hj1, hQ⟩ := h
  refine ⟨rfl, ?_⟩
  unfold t_digits
  show tSeq _ _ _ [some (.ref a), some (.int i), some (.int j), none, none, none, none, none] H
  walk_at "w"
  rename_i p H1 hS1
  refine w_forR (fun n σ H' => ∃ (ms : List Int) (v4 v5 v6 v7 : Option V), σ = [some (.ref a), some (.int i), some (.int j), some (.ref p), v4, v5, v6, v7] ∧ St K (Lg.ls K p (ms.map PyData.int) :: L) H' ∧ ms.length ≤ 60 * n) ?_ ?_ ?_
  · exact ⟨[], _, _, _, _, rfl, hS1, by simp⟩
  · rintro n σ H' hn ⟨ms, v4, v5, v6, v7, rfl, hS1, hl⟩
    walk_at "w"
    refine ⟨a, ns, i + n, rfl, (hS1.tail).fact_of hm, by omega, fun c => ?_⟩
    walk_at "w"
    refine w_cut (fun σ H2 => ∃ (c : Int), σ = [some (.ref a), some (.int i), some (.int j), some (.ref p), some (.int (i + n)), some (.int c), v6, v7] ∧ H2 = H') ?_ ?_
    · walk_at "w"
      refine w_ifd (fun h => ?_) (fun h => ?_)
      · walk_at "w"
        exact ⟨_, rfl, rfl⟩
      · walk_at "w"
        exact ⟨_, rfl, rfl⟩
    · rintro σ H2 ⟨c, rfl, rfl⟩
      walk_at "w"
      refine w_ifd (fun h => ?_) (fun h => ?_)
      · walk_at "w"
        refine w_forR (fun m σ H' => ∃ (ms : List Int) (c : Int) (v6 : Option V), σ = [some (.ref a), some (.int i), some (.int j), some (.ref p), some (.int (i + n)), some (.int c), v6, v7] ∧ St K (Lg.ls K p (ms.map PyData.int) :: L) H' ∧ ms.length ≤ 60 * n + m) ?_ ?_ ?_
        · exact ⟨ms, c, _, rfl, hS1, by omega⟩
        · rintro m σ H' hm' ⟨ms, c, v6, rfl, hS1, hl⟩
          replace hm' : m < 60 := hm'
          walk_at "w"
          refine w_ifd (fun h => ?_) (fun h => ?_)
          · walk_at "w"
            refine w_app hS1 .here (d := .int (c % 1000)) .int (by simp; omega) fun H2 hS2 => ?_
            walk_at "w"
            exact ⟨ms ++ [c % 1000], _, _, rfl, by simpa using hS2, by simp; omega⟩
          · walk_at "w"
            exact ⟨ms, c, _, rfl, hS1, by omega⟩
        · rintro σ H' ⟨ms, c, v6, rfl, hS1, hl⟩
          replace hl : ms.length ≤ 60 * n + 60 := hl
          exact ⟨ms, _, _, _, _, rfl, hS1, by omega⟩
      · walk_at "w"
        refine w_forR (fun m σ H' => ∃ (ms : List Int) (c : Int) (v5 v6 : Option V), σ = [some (.ref a), some (.int i), some (.int j), some (.ref p), some (.int (i + n)), v5, v6, some (.int c)] ∧ St K (Lg.ls K p (ms.map PyData.int) :: L) H' ∧ ms.length ≤ 60 * n + m) ?_ ?_ ?_
        · exact ⟨ms, _, _, _, rfl, hS1, by omega⟩
        · rintro m σ H' hm' ⟨ms, c, v5, v6, rfl, hS1, hl⟩
          replace hm' : m < 12 := hm'
          walk_at "w"
          refine w_app hS1 .here (d := .int _) .int (by simp; omega) fun H2 hS2 => ?_
          walk_at "w"
          exact ⟨ms ++ [_], _, _, _, rfl, by simpa using hS2, by simp; omega⟩
        · rintro σ H' ⟨ms, c, v5, v6, rfl, hS1, hl⟩
          replace hl : ms.length ≤ 60 * n + 12 := hl
          exact ⟨ms, _, _, _, _, rfl, hS1, by omega⟩
  · rintro σ H' ⟨ms, v4, v5, v6, v7, rfl, hS1, hl⟩
    walk_at "w"
    exact hQ p ms H' hS1
theorem p_draw (vs : List V) (H : Hp) (Q : VK) (E : XK) (h : spDraw K vs H Q E) : vs.length = 2 ∧ t_draw K { nx := fun _ H' => Q .non H', rt := Q } (start ["_law_box", "_law_many", "_law_at"] vs) H := by
  obtain ⟨L, b, m, rfl, hS, hb, hm, hQ⟩ := h
  refine ⟨rfl, ?_⟩
  unfold t_draw
  show tSeq _ _ _ [some (.ref b), some (.int m), none] H
  obtain ⟨F, o, h1, h2, h3, d, at_, ns, rfl, h4, h5⟩ := hS.cell hb
  have hd : H d = some (.lst (ns.map V.int)) := h1 _ _ h5
  have hne : d ≠ b := fun z => by rw [z, h2] at h5; cases h5
  walk_at "w"
  refine .inl ⟨b, _, 1, .int at_, rfl, rfl, SqL.of h3, rfl, ?_⟩
  walk_at "w"
  refine ⟨b, _, 1, 1, rfl, rfl, h3, rfl, ?_⟩
  have hS2 : St K L (upd H b (.lst [.ref d, .int (at_ + 1)])) := hS.turn hb fun F' x e hx hφ => by
    obtain ⟨d', at', ns', rfl, q1, q2⟩ := hφ
    rw [h3] at hx
    cases hx
    exact ⟨_, _, _, rfl, by omega, q2⟩
  show tSeq _ _ _ _ (upd H b (.lst [.ref d, .int (at_ + 1)]))
  have hd2 : (upd H b (.lst [.ref d, .int (at_ + 1)])) d = some (.lst (ns.map V.int)) := by rw [upd_ne hne]; exact hd
  have hb2 : (upd H b (.lst [.ref d, .int (at_ + 1)])) b = some (.lst [.ref d, .int (at_ + 1)]) := upd_same
  revert hS2 hd2 hb2
  generalize upd H b (.lst [.ref d, .int (at_ + 1)]) = H2
  intro hS2 hd2 hb2
  walk_at "w"
  refine .inl ⟨b, _, 0, .ref d, rfl, rfl, SqL.of hb2, rfl, ?_⟩
  walk_at "w"
  refine ⟨.ref d, ns.length, rfl, .inl ⟨_, SqL.of hd2, by simp⟩, ?_⟩
  walk_at "w"
  refine w_ifd (fun h => ?_) (fun h => ?_)
  · walk_at "w"
    refine .inl ⟨b, _, 0, .ref d, rfl, rfl, SqL.of hb2, rfl, ?_⟩
    walk_at "w"
    obtain ⟨j, rfl⟩ := Int.eq_ofNat_of_zero_le h4
    have hj : j < ns.length := by omega
    refine .inl ⟨d, _, _, .int ns[j], rfl, rfl, SqL.of hd2, atI_nat (by simp [hj]), ?_⟩
    walk_at "w"
    exact hQ _ _ (Int.emod_nonneg _ (by omega)) (Int.emod_lt_of_pos _ hm) hS2
  · walk_at "w"
    exact hQ _ _ (Int.emod_nonneg _ (by omega)) (Int.emod_lt_of_pos _ hm) hS2
/-- [digits, 0]: the box -/
theorem w_newBox {L : List Ent} {H : Hp} {a : Addr} {ms : List Int} {Q : VK} (hS : St K (Lg.ls K a (ms.map PyData.int) :: L) H) (h : ∀ p H', St K (bx K p :: L) H' → Q (.ref p) H') : NewL [.ref a, .int 0] H Q := by
  refine ⟨by show 2 ≤ sizeLine; decide, fun p hp => h p _ ?_⟩
  have h1 := (hS.freeze).alloc (φ := .box K) (o := .lst [.ref a, .int 0]) hp fun F e q => by
    have h2 : Dv K F (.ref a) (.list (ms.map PyData.int)) := q _ (.head _)
    cases h2 with
    | lst g1 g2 => exact ⟨a, 0, ms, rfl, Int.le_refl _, by rw [← g2.ints_inv]; exact g1⟩
  exact h1.to (.cons .here (.drop .refl))
end
end Lg

/-! Texts as lists of codes; data that fits. -/
namespace Lg
open PySem PySem.Spec PyProof.Rows L2
abbrev S (l : List Nat) : Str := ⟨l.toArray⟩
theorem S_tl (l : List Nat) : (S l).cps.toList = l := rfl
theorem S_len (l : List Nat) : (S l).length = l.length := by simp [S, Str.length]
theorem S_app (a b : List Nat) : S a ++ S b = S (a ++ b) := SX.S_cat a b
theorem S_one (c : Nat) : (⟨#[c]⟩ : Str) = S [c] := rfl
theorem S_nil : ("" : Str) = S [] := by decide +kernel
theorem S_inj {a b : List Nat} (h : S a = S b) : a = b := congrArg (fun x : Str => x.cps.toList) h
theorem S_of (x : Str) : x = S x.cps.toList := by cases x; simp [S]
theorem sIx_nat' (n d k : Nat) (z : Int) (h : z = (k : Int)) : HT.sIx n d (some z) = min k n := by rw [h, HT.sIx_nat]
theorem cut_gen {α : Type} (l : List α) (a b : Nat) : (l.drop (min a l.length)).take (min b l.length - min a l.length) = (l.drop a).take (b - a) := by
  by_cases h : a ≤ l.length
  · rw [Nat.min_eq_left h]
    by_cases h2 : b ≤ l.length
    · rw [Nat.min_eq_left h2]
    · have h3 : l.length ≤ b := by omega
      rw [Nat.min_eq_right h3, List.take_of_length_le (l := l.drop a) (i := b - a) (by rw [List.length_drop]; omega), List.take_of_length_le (by rw [List.length_drop]; omega)]
  · have h3 : l.length ≤ a := by omega
    rw [Nat.min_eq_right h3, List.drop_of_length_le (Nat.le_refl _), List.drop_of_length_le h3]
    simp
theorem cutS_nn {l : List Nat} {i j : Int} {a b : Nat} (hi : i = (a : Int)) (hj : j = (b : Int)) : cutS (S l) (some i) (some j) = S ((l.drop a).take (b - a)) := by
  unfold cutS
  rw [S_len, sIx_nat' _ _ a _ hi, sIx_nat' _ _ b _ hj]
  show S ((l.drop (min a l.length)).take (min b l.length - min a l.length)) = S _
  rw [cut_gen]
theorem cutD_nn {ds : List PyData} {i j : Int} {a b : Nat} (hi : i = (a : Int)) (hj : j = (b : Int)) : cutD ds (some i) (some j) = (ds.drop a).take (b - a) := by
  unfold cutD
  rw [sIx_nat' _ _ a _ hi, sIx_nat' _ _ b _ hj, cut_gen]
theorem cutD_no {ds : List PyData} {j : Int} {b : Nat} (hj : j = (b : Int)) : cutD ds none (some j) = ds.take b := by
  unfold cutD
  rw [sIx_nat' _ _ b _ hj, HT.sIx_none]
  have := cut_gen ds 0 b
  simpa using this
theorem cutD_on {ds : List PyData} {i : Int} {a : Nat} (hi : i = (a : Int)) : cutD ds (some i) none = ds.drop a := by
  unfold cutD
  rw [sIx_nat' _ _ a _ hi, HT.sIx_none]
  by_cases h : a ≤ ds.length
  · rw [Nat.min_eq_left h, List.take_of_length_le (by rw [List.length_drop]; omega)]
  · have h3 : ds.length ≤ a := by omega
    rw [Nat.min_eq_right h3, List.drop_of_length_le (Nat.le_refl _), List.drop_of_length_le h3]
    simp
theorem cutD_all {ds : List PyData} : cutD ds none none = ds := by
  unfold cutD
  simp [HT.sIx_none]
theorem rgc_24 {n : Nat} (hn : n ≤ 100000) : RgC 0 (n : Int) 24 ((n + 23) / 24) := by
  refine ⟨by decide, by decide, ?_, ?_⟩
  · unfold Builtin.Range.small Builtin.Range.rangeSize Builtin.Range.rangeFitsLong
    simp
    omega
  · unfold Builtin.Range.rangeSize
    rw [if_pos (by decide)]
    by_cases h : (0 : Int) < n
    · rw [if_pos h]; omega
    · rw [if_neg h]; omega
/-! data of a depth -/
def Fit (n : Nat) (d : PyData) : Prop := d.canLay0 = true ∧ d.depth ≤ n
theorem Fit.shaped {n : Nat} {d : PyData} (h : Fit n d) (hn : n ≤ 64 := by decide) : SeqAt.shaped d = true := by
  show (d.canLay0 && decide (d.depth ≤ 64)) = true
  rw [h.1, Bool.true_and]
  exact decide_eq_true (Nat.le_trans h.2 hn)
theorem Fit.mono {n m : Nat} {d : PyData} (h : Fit n d) (hm : n ≤ m) : Fit m d := ⟨h.1, Nat.le_trans h.2 hm⟩
theorem fit_int (n : Nat) (i : Int) : Fit n (.int i) := ⟨by simp [PyData.canLay0], by simp [PyData.depth]⟩
theorem fit_bool (n : Nat) (i : Bool) : Fit n (.bool i) := ⟨by simp [PyData.canLay0], by simp [PyData.depth]⟩
theorem fit_none (n : Nat) : Fit n .none := ⟨by simp [PyData.canLay0], by simp [PyData.depth]⟩
/-- all codes below 1114112 -/
def Asc (l : List Nat) : Prop := ∀ c ∈ l, c < 1114112
theorem fit_str (n : Nat) {l : List Nat} (h : Asc l) : Fit n (.str (S l)) := by
  refine ⟨?_, by simp [PyData.depth]⟩
  simp only [PyData.canLay0, PyData.strOk]
  rw [← Array.all_toList, List.all_eq_true]
  intro c hc
  exact decide_eq_true (h c hc)
theorem layAll {ds : List PyData} {n : Nat} (h : ∀ d ∈ ds, Fit n d) : PyData.canLayAll0 ds = true ∧ PyData.depthAll ds ≤ n := by
  induction ds with
  | nil => exact ⟨by simp [PyData.canLayAll0], by simp [PyData.depthAll]⟩
  | cons d ds ih =>
    obtain ⟨h1, h2⟩ := ih fun d hd => h d (.tail _ hd)
    obtain ⟨h3, h4⟩ := h d (.head _)
    exact ⟨by simp [PyData.canLayAll0, h1, h3], by simp [PyData.depthAll]; omega⟩
theorem fit_list {n : Nat} {ds : List PyData} (h : ∀ d ∈ ds, Fit n d) : Fit (n + 1) (.list ds) := by
  obtain ⟨h1, h2⟩ := layAll h
  exact ⟨by simp only [PyData.canLay0]; exact h1, by simp only [PyData.depth]; omega⟩
theorem fit_tuple {n : Nat} {ds : List PyData} (h : ∀ d ∈ ds, Fit n d) : Fit (n + 1) (.tuple ds) := by
  obtain ⟨h1, h2⟩ := layAll h
  exact ⟨by simp only [PyData.canLay0]; exact h1, by simp only [PyData.depth]; omega⟩
theorem fit_ints (n : Nat) (ns : List Int) : Fit (n + 1) (.list (ns.map PyData.int)) := fit_list fun d hd => by
  obtain ⟨i, _, rfl⟩ := List.mem_map.mp hd
  exact fit_int n i
theorem Asc.drop {l : List Nat} (h : Asc l) (n : Nat) : Asc (l.drop n) := fun c hc => h c (List.mem_of_mem_drop hc)
theorem Asc.take {l : List Nat} (h : Asc l) (n : Nat) : Asc (l.take n) := fun c hc => h c (List.mem_of_mem_take hc)
theorem Asc.app {l m : List Nat} (h : Asc l) (h' : Asc m) : Asc (l ++ m) := fun c hc => (List.mem_append.mp hc).elim (h c) (h' c)
theorem Asc.rep {l : List Nat} (h : Asc l) (n : Nat) : Asc (repL l n) := fun c hc => by
  unfold repL at hc
  obtain ⟨a, ha, hc⟩ := List.mem_flatten.mp hc
  rw [List.eq_of_mem_replicate ha] at hc
  exact h c hc
theorem repL_len (l : List Nat) (n : Nat) : (repL l n).length = n * l.length := by simp [repL]
theorem repD_one (d : PyData) : ∀ n, (List.replicate n [d]).flatten = List.replicate n d
  | 0 => rfl
  | n + 1 => by rw [List.replicate_succ, List.flatten_cons, repD_one d n]; rfl
theorem rep_ints (i : Int) (n : Nat) : List.replicate n (PyData.int i) = (List.replicate n i).map PyData.int := by simp
theorem joinL_one : ∀ l : List Nat, TL.joinL [] (l.map fun c => [c]) = l
  | [] => rfl
  | [_] => rfl
  | c :: d :: l => by
    have := joinL_one (d :: l)
    show [c] ++ ([] ++ TL.joinL [] ((d :: l).map fun c => [c])) = _
    rw [this]; rfl
theorem join_one (l : List Nat) : Txt.join (S []) (l.map fun c => S [c]) = S l := by
  have := SX.join_S [] (l.map fun c => [c])
  rw [joinL_one, List.map_map] at this
  exact this
/-- a list is its items by place -/
theorem list_by {ds : List PyData} {n : Nat} {f : Nat → PyData} (hl : ds.length = n) (h : ∀ (i : Nat) (e : PyData), ds[i]? = some e → e = f i) : ds = (List.range n).map f := by
  apply List.ext_getElem?
  intro i
  by_cases hi : i < n
  · have h1 : ds[i]? = some ds[i] := by simp [hl, hi]
    rw [h1, h i _ h1]
    simp [hi]
  · rw [List.getElem?_eq_none (by omega), List.getElem?_eq_none (by simp; omega)]
section
variable {K : PySem.W.Frag} {L : List Ent} {H : Hp} {σ : L2.St} {Q : VK} {a : Addr} {i : Int} {n : Nat}
theorem w_ixN {ns : List Int} (hS : St K L H) (hl : LsIn K L a (ns.map PyData.int)) (h0 : 0 ≤ i) (h1 : i < ns.length) (h : Q (.int (ns.getD i.toNat 0)) H) : rIx K (.ref a) (.int i) H Q := by
  have hk : i.toNat < ns.length := by omega
  exact w_ixLi (k := i.toNat) hS hl (by omega) (by simp [List.getD_eq_getElem?_getD, hk]) h
theorem w_ixSg {l : List Nat} {c : Nat} (hl : l.length ≤ 100000) (h0 : 0 ≤ i) (hc : l[i.toNat]? = some c) (h : Q (.str (S [c])) H) : rIx K (.str (S l)) (.int i) H Q :=
  w_ixS (k := i.toNat) (by rw [S_len]; exact hl) (by omega) (by simpa using hc) h
theorem w_unpLi {ns : List Int} {tgs : TGs} {R : L2.St → Hp → Prop} (hS : St K L H) (hl : LsIn K L a (ns.map PyData.int)) (hn : ns.length = n) (h : tgs (ns.map V.int) σ H R) : gUnp K n tgs (.ref a) σ H R := by
  obtain ⟨F, xs, h1, h2, h3, h4⟩ := hS.lsin hl
  have e := h4.ints_inv
  subst e
  exact .inr ⟨a, _, rfl, SqL.of h3, by simpa using hn, h⟩
theorem w_addSS {y z : List Nat} (hl : y.length + z.length ≤ 100000) (h : Q (.str (S (y ++ z))) H) : rPlus K (.str (S y)) (.str (S z)) H Q :=
  w_addS (by rw [S_len, S_len]; exact hl) (by rw [S_app]; exact h)
theorem w_repSS {z : List Nat} (h0 : 0 ≤ i) (h1 : i ≤ 100000) (h2 : z.length ≤ 100) (h : Q (.str (S (repL z i.toNat))) H) : rTimes (.str (S z)) (.int i) H Q :=
  w_repS h0 h1 (by rw [S_len]; exact h2) h
theorem w_lenSS {l : List Nat} (hl : l.length ≤ 100000) (h : Q (.int l.length) H) : rLenX K [.str (S l)] H Q := w_lenS (by rw [S_len]; exact hl) (by rw [S_len]; exact h)
theorem w_eqSS {x y : List Nat} (h : Q (.bl (decide (x = y))) H) : rEqX K (.str (S x)) (.str (S y)) H Q := w_eqS (by
  have : decide (S x = S y) = decide (x = y) := by
    by_cases e : x = y
    · simp [e]
    · rw [decide_eq_false e, decide_eq_false (fun q => e (S_inj q))]
  rw [this]; exact h)
theorem w_joinSS {z : List Nat} {ys : List (List Nat)} (hS : St K L H) (h1 : LsIn K L a (ys.map fun y => PyData.str (S y))) (hn : (ys.map (·.length)).sum + ys.length * z.length ≤ 100000) (h : Q (.str (S (TL.joinL z ys))) H) : rJoin K (.str (S z)) [.ref a] H Q := by
  refine w_join (ys := ys.map S) hS (by simpa [Function.comp_def] using h1) ?_ ?_
  · rw [S_len]
    simpa [Function.comp_def, S_len] using hn
  · rw [SX.join_S]; exact h
theorem kit_ll : kitB "list" "list" = some true := by decide +kernel
theorem kit_tt : kitB "tuple" "tuple" = some true := by decide +kernel
theorem kit_ii : kitB "int" "int" = some true := by decide +kernel
theorem kit_si : kitB "str" "int" = some false := by decide +kernel
theorem kit_ss : kitB "str" "str" = some true := by decide +kernel
theorem kit_is : kitB "int" "str" = some false := by decide +kernel
theorem w_isLL {ds : List PyData} (hS : St K L H) (hl : LsIn K L a ds) (h : Q (.bl true) H) : rIsi K [.ref a, .ty "list"] H Q := w_isiL hS hl kit_ll h
theorem w_isTT {ds : List PyData} (hS : St K L H) (hl : Is L (.ref a) (.tuple ds)) (h : Q (.bl true) H) : rIsi K [.ref a, .ty "tuple"] H Q := w_isiT hS hl kit_tt h
theorem w_isII (h : Q (.bl true) H) : rIsi K [.int i, .ty "int"] H Q := w_isiI kit_ii h
theorem w_isSI {z : Str} (h : Q (.bl false) H) : rIsi K [.str z, .ty "int"] H Q := w_isiS kit_si h
theorem w_isSS {z : Str} (h : Q (.bl true) H) : rIsi K [.str z, .ty "str"] H Q := w_isiS kit_ss h
theorem w_isIS (h : Q (.bl false) H) : rIsi K [.int i, .ty "str"] H Q := w_isiI kit_is h
/-- some int item, with a property of all -/
theorem w_ixLP {ds : List PyData} {P : Int → Prop} (hS : St K L H) (hl : LsIn K L a ds) (h0 : 0 ≤ i) (h1 : i < ds.length) (hP : ∀ d ∈ ds, ∃ m, d = .int m ∧ P m) (h : ∀ m, P m → Q (.int m) H) : rIx K (.ref a) (.int i) H Q := by
  have hk : i.toNat < ds.length := by omega
  obtain ⟨m, hm, hp⟩ := hP ds[i.toNat] (List.getElem_mem hk)
  exact w_ixLi (k := i.toNat) hS hl (by omega) (by rw [List.getElem?_eq_getElem hk, hm]) (h m hp)
/-- the law begins -/
theorem St.begin {ns : List Int} (hO : Only H) (hs : SqL K H a (ns.map V.int)) : St K [Ent.fact (.seq K a ns)] H := by
  refine ⟨⟨H, Ex.rfl, fun e he => ?_⟩, List.nodup_nil⟩
  cases he with
  | head => exact hs
  | tail _ he => cases he
end
end Lg

/-! Raw lists that are owned, lists of owned lists, comprehensions with a test, truth values compared. -/
namespace Lg
open PySem PySem.Spec PyProof.Rows L2
section
variable {K : PySem.W.Frag} {L L' : List Ent} {H : Hp} {σ : L2.St} {Q : VK} {a b : Addr} {i : Int} {k : Nat} {v : V} {xs : List V} {tt : TT} {te : TE} {g : TG} {vs : List Nat}
theorem w_appR (hS : St K L H) (hp : Put L (Lg.own a (.lst xs)) (Lg.own a (.lst (xs ++ [v]))) L') (hn : xs.length ≤ 100000) (h : ∀ H', St K L' H' → Q .non H') : rAppend (.ref a) [v] H Q := by
  have h3 := hS.own hp.mem
  exact ⟨a, xs, v, rfl, rfl, h3, Nat.lt_of_le_of_lt hn (by decide), h _ (hS.writeP hp fun _ _ _ _ _ _ => rfl)⟩
theorem w_tyR {P : Prop} (hS : St K L H) (hm : Lg.own a (.lst xs) ∈ L) (h : P) : TyThen K "list" (.ref a) H P := ⟨.inl ⟨rfl, _, SqL.of (hS.own hm)⟩, h⟩
theorem w_ixR (hS : St K L H) (hm : Lg.own a (.lst xs) ∈ L) (hk : i = (k : Int)) (hx : xs[k]? = some v) (h : Q v H) : rIx K (.ref a) (.int i) H Q :=
  .inl ⟨a, xs, i, v, rfl, rfl, SqL.of (hS.own hm), by rw [hk]; exact at_of rfl hx, h⟩
theorem w_lenR (hS : St K L H) (hm : Lg.own a (.lst xs) ∈ L) (h : Q (.int xs.length) H) : rLenX K [.ref a] H Q :=
  ⟨.ref a, xs.length, rfl, .inl ⟨xs, SqL.of (hS.own hm), rfl⟩, h⟩
theorem w_setLi {ns : List Int} {m : Int} (hS : St K L H) (hp : Put L (Lg.ls K a (ns.map PyData.int)) (Lg.ls K a ((ns.set i.toNat m).map PyData.int)) L') (h0 : 0 ≤ i) (hn : i < ns.length) {R : Hp → Prop} (h : ∀ H', St K L' H' → R H') : rSetL (.ref a) (.int i) (.int m) H R :=
  w_setL (k := i.toNat) (d := .int m) hS (by rw [List.map_set] at hp; exact hp) .int (by omega) (by simp; omega) h
theorem w_setRaw {j : Nat} (hS : St K L H) (hp : Put L (Lg.own a (.lst xs)) (Lg.own a (.lst (xs.set j v))) L') (hj : i = (j : Int)) (hn : j < xs.length) {R : Hp → Prop} (h : ∀ H', St K L' H' → R H') : rSetL (.ref a) (.int i) v H R := by
  refine ⟨a, xs, i, j, rfl, rfl, hS.own hp.mem, ?_, h _ (hS.writeP hp fun _ _ _ _ _ _ => rfl)⟩
  rw [hj]
  unfold ixN
  rw [if_pos (by omega), if_pos (by omega)]
  simp
theorem dB (x y : Bool) : decide (V.bl x = V.bl y) = decide (x = y) := by cases x <;> cases y <;> decide
theorem w_eqB {x y : Bool} (h : Q (.bl (decide (x = y))) H) : rEqX K (.bl x) (.bl y) H Q := .inl ⟨rfl, by rw [dB]; exact h⟩
theorem w_neB {x y : Bool} (h : Q (.bl (!decide (x = y))) H) : rNeX K (.bl x) (.bl y) H Q := .inl ⟨rfl, by rw [dB]; exact h⟩
theorem See.ls {ds : List PyData} (h : LsIn K L a ds) : See K L (.ref a) (.list ds) := by
  cases h with
  | own m => exact .own m
  | dat m => exact .is (.dat m)
theorem St.raw0 (h : St K (Lg.ls K a [] :: L) H) : St K (Lg.own a (.lst []) :: L) H := h.data .here fun F x _ _ _ hφ => by
  obtain ⟨xs, rfl, hx⟩ := hφ
  have := hx.len
  cases xs with
  | nil => rfl
  | cons x xs => simp at this
/-- owned lists of ints, side by side -/
def lsL (K : PySem.W.Frag) (bs : List Addr) (ds : List (List Int)) : List Ent := List.zipWith (fun b (d : List Int) => Lg.ls K b (d.map PyData.int)) bs ds
theorem St.dropA : ∀ {A : List Ent}, St K (A ++ L) H → St K L H
  | [], h => h
  | _ :: _, h => St.dropA (St.tail h)
theorem St.pickL {bs : List Addr} {ds : List (List Int)} {d : List Int} (h : St K (lsL K bs ds ++ L) H) (hb : bs[k]? = some b) (hd : ds[k]? = some d) : St K (Lg.ls K b (d.map PyData.int) :: L) H := by
  have he : (lsL K bs ds)[k]? = some (Lg.ls K b (d.map PyData.int)) := by
    unfold lsL
    rw [List.getElem?_zipWith, hb, hd]
  obtain ⟨hk, e⟩ := List.getElem?_eq_some_iff.mp he
  have h1 : lsL K bs ds = (lsL K bs ds).take k ++ Lg.ls K b (d.map PyData.int) :: (lsL K bs ds).drop (k + 1) := by
    rw [← e, List.getElem_cons_drop, List.take_append_drop]
  rw [h1, List.append_assoc] at h
  have h2 := h.dropA
  have h3 : St K ((lsL K bs ds).drop (k + 1) ++ (Lg.ls K b (d.map PyData.int) :: L)) H := h2.perm (by
    rw [List.cons_append]
    exact List.perm_middle.symm)
  exact h3.dropA
theorem lsL_snoc {bs : List Addr} {ds : List (List Int)} {d : List Int} (h : bs.length = ds.length) : lsL K (bs ++ [b]) (ds ++ [d]) = lsL K bs ds ++ [Lg.ls K b (d.map PyData.int)] := by
  unfold lsL
  rw [List.zipWith_append h]
  rfl
/-- [x for x in ints if test] -/
theorem w_lcFI {ns : List Int} (p : Int → Bool) (hS : St K L H) (hl : LsIn K L a (ns.map PyData.int)) (hn : ns.length ≤ 100000)
    (hs : ∀ (n : Int) (H : Hp) (Z1 : VK) (Z2 : Hp → Prop), (p n = true → Z1 (.int n) H) → (p n = false → Z2 H) → g (.int n) (wipe σ vs) H fun σ2 H2 => wipe σ2 vs = wipe σ vs ∧ tt σ2 H2 fun b H3 => if b = true then te σ2 H3 Z1 else Z2 H3)
    (h : ∀ q H', St K (.cell q (.ls K ((ns.filter p).map PyData.int)) :: L) H' → Q (.ref q) H') : LcW (Itl K a) g tt te vs σ H Q := by
  intro q hq
  refine ⟨fun i m H => m = ns.length - i ∧ i ≤ ns.length ∧ St K (.cell q (.ls K (((ns.take i).filter p).map PyData.int)) :: L) H, ⟨ns.length, by simp, Nat.zero_le _, hS.alloc hq fun F _ _ => ⟨[], rfl, .nil⟩⟩, ?_⟩
  rintro i m H ⟨rfl, hi, hS1⟩
  by_cases hlt : i < ns.length
  · obtain ⟨xs, v, h3, h5, _, h6⟩ := hS1.item hl.cons (k := i) (d := .int ns[i]) (by simp [hlt])
    obtain rfl := h6.int_of
    refine .inr ⟨⟨xs, .int ns[i], SqL.of h3, h5⟩, fun H' => i + 1 ≤ ns.length ∧ St K (.cell q (.ls K (((ns.take (i + 1)).filter p).map PyData.int)) :: L) H', fun H' w => ⟨ns.length - (i + 1), by omega, rfl, w⟩, fun x H' y => ?_⟩
    obtain ⟨rfl, y⟩ := y
    have hx := y xs (SqL.of h3)
    rw [h5] at hx
    have hvx := Option.some.inj hx
    subst hvx
    have e : ns.take (i + 1) = ns.take i ++ [ns[i]] := by rw [List.take_add_one]; simp [hlt]
    refine hs ns[i] H' _ _ (fun hp => ?_) fun hp => ?_
    · obtain ⟨F, ys, h1, h2, h7, h8⟩ := hS1.lsin (.own (.head _))
      refine ⟨ys, h7, ?_, by omega, ?_⟩
      · rw [h8.len]
        refine Nat.lt_of_le_of_lt ?_ (show 100000 < sizeLine by decide)
        rw [List.length_map]
        exact Nat.le_trans (List.length_filter_le _ _) (by simp; omega)
      · refine hS1.writeP (.here) fun F' x e2 q2 hx hφ => ?_
        obtain ⟨zs, rfl, hzs⟩ := hφ
        rw [h7] at hx
        cases hx
        refine ⟨_, rfl, ?_⟩
        rw [e, List.filter_append, List.map_append]
        have : [ns[i]].filter p = [ns[i]] := by simp [hp]
        rw [this]
        exact hzs.app (.cons (.int _) .nil)
    · refine ⟨by omega, ?_⟩
      rw [e, List.filter_append]
      have : [ns[i]].filter p = [] := by simp [hp]
      rw [this, List.append_nil]
      exact hS1
  · have e : i = ns.length := by omega
    subst e
    rw [List.take_length] at hS1
    obtain ⟨xs, h3, h4⟩ := hS1.lenl hl.cons
    exact .inl ⟨⟨xs, SqL.of h3, by rw [h4]; simp⟩, h q H hS1⟩
end
end Lg

/-! repr of data. HandS' promise of a def says nothing of the objects that are just being shown (Around.guards); here it does: FnG, its call, its end. -/
namespace Lg
open PySem PySem.Spec PyProof.Rows L2
/-- a def's promise where nothing is being shown -/
structure FnG (P : Program) (w : World) (K : PySem.W.Frag) (mg : Str → Option Value) (base : Heap) (CX : CXT) (k : Nat) (f : Addr) (fd : FuncData) (ps : List Str) (sp : Sp) : Prop where
  len : ∀ vs H Q E, sp vs H Q E → vs.length = ps.length
  run : ∀ (A : Around) (outer : List Env) (s : Shared) (H : Hp) (args : Args) (us : List Value) (vs : List V) (Q : VK) (E : XK), Room k A → A.guards = some [] → Env0 P w K mg base A outer s H → BindsTo s fd args (ps.zip us) → Vals vs us → sp vs H Q E →
    codeAny (model P w) A (.call (.ref f) args) (CR CX outer P w H s Q E) s
section
variable {P : Program} {w : World} {K : PySem.W.Frag} {mg : Str → Option Value} {base : Heap} {x qual : Str} {params : Arguments} {body : List Stmt} {scope : Scope} {dvs : List V} {kws : List (Str × V)} {f : Addr} {fd : FuncData}
theorem deeper_guards {A : Around} {env : Env} (h : A.guards = some []) : (A.deeper env).guards = some [] := h
theorem okG {CX : CXT} {N ps : List Str} {k : Nat} {sp : Sp} (F : FunD K x qual params body scope dvs kws f fd) (S : FnScope N ps scope) (len : ∀ vs H Q E, sp vs H Q E → vs.length = ps.length)
    (hbody : ∀ (cdv : Value) (A : Around) (outer : List Env) (s : Shared) (H : Hp) (vs : List V) (Q : VK) (E : XK), Room k (A.deeper (envOfC qual scope s.heap.objs.size f cdv)) → (A.deeper (envOfC qual scope s.heap.objs.size f cdv)).guards = some [] → sp vs H Q E →
      ∃ t, PSs (cxOf CX P w K mg base N qual scope f cdv A outer s H E) body t ∧ t { nx := fun _ H' => Q .non H', rt := Q } (start N vs) H) : FnG P w K mg base CX (k + 1) f fd ps sp := by
  obtain ⟨oc, od, dV, kV, doc, pm, an, cdv, ct, osl, rfl, lk, hcd, _, _⟩ := F.ex
  constructor
  · exact len
  intro A outer s H args us vs Q E room still e0 bind rel prom
  have known : K.In s.heap := e0.mod.kin.keeps fun b o e => (e0.bs b o e).1
  have kinds : ∀ y ∈ ps.zip us, scope.names.lookup y.1 = some .local ∨ (scope.names.lookup y.1 = some .cell ∧ ((cellsFrom (s.heap.objs.size + 1) scope.names []).lookup y.1).isSome = true) := by
    intro y hy
    rcases S.par y.1 (List.of_mem_zip hy).1 with q | q
    · exact .inl q
    · exact .inr ⟨q, PySem.W.cellsFrom_some _ _ _ (.inl q)⟩
  refine codeAny_call_function room.depth (known _ _ lk) rfl S.co S.gen rfl (PySem.W.codeRec_of known hcd) (bind _ _ _ _ ?_)
  refine wpAny_newFunctionEnv_cells S.kind kinds fun env he s1 ic => ?_
  subst he
  refine ⟨(e0.mod.nolimit.keeps fun b o e => (e0.bs b o e).1).keeps ic.toInCall.keep, codeAny_func ?_⟩
  obtain ⟨t, ht, hq⟩ := hbody cdv A outer s H vs Q E (room.deeper _) still prom
  refine wpAny_mono (ht.run [] s1 (start N vs) H _ (inv_start S room.hd e0 (len _ _ _ _ prom) rel ic) hq) (fun fl s' hs => ?_) fun e s' hs => hs
  cases fl with
  | ret u =>
    obtain ⟨v, _, H', J, rv, q⟩ := hs
    exact ⟨v, H', J.os, J.bare, J.base, J.hok, rv, q⟩
  | next =>
    obtain ⟨_, H', J, q⟩ := hs
    exact ⟨V.non, H', J.os, J.bare, J.base, J.hok, rfl, q⟩
  | brk => exact hs.elim fun _ h => h.elim fun _ h => h.2.elim
  | cont => exact hs.elim fun _ h => h.elim fun _ h => h.2.elim
/-- a def that may be called where nothing is being shown -/
structure CalG (P : Program) (w : World) (K : PySem.W.Frag) (mg : Str → Option Value) (base : Heap) (k : Nat) (x : Str) (sp : Sp) (dvs : List V) : Prop where
  ex : ∃ (f : Addr) (fd : FuncData) (ps : List Str) (ds : List Value), FnG P w K mg base C8.CX0 k f fd ps sp ∧ mg x = some (.ref f) ∧ PySem.W.keepIn K (.ref f) = true ∧ Binds K fd ps ds ∧ Vals dvs ds
end
section
variable {X : Cx} {k j : Nat} {x : Str} {sp : Sp} {dvs : List V} {p pos : Pos} {e : Expr} {es : List Expr} {t : TA}
theorem pe_cG (c : CalG X.prog X.w X.K X.mg X.base k x sp dvs) (hr : Room j X.A) (hs : X.A.guards = some []) (hk : k ≤ j) (hg : Gl X x) (ha : PA X (e :: es) t)
    (hdb : (x == ("__debug__" : Str)) = false := by decide) (he : starEach (e :: es) X.env = (false, eval e X.env) :: starEach es X.env := by rfl) (hpl : (backTo pos (starEach es X.env)).any (·.1) = false := by rfl) :
    PE X (.Call (.Name x p) (e :: es) [] pos) (tCall sp dvs C8.E0 t) := by
  obtain ⟨f, fd, ps, ds, F, hm, kp, b, d⟩ := c.ex
  refine ⟨fun pins s σ H Q I h => ?_⟩
  refine wpAny_Call_Name_kw (ld_glob I hg hm ?_ hdb)
  refine PySem.W.callWith_K (h₀ := X.base) I.ok.mod.kin kp (thn (ha.run pos pins s σ H _ I h) fun us s1 ⟨vs, H1, I1, r, q⟩ => ⟨I1.kIn, ?_⟩) he hpl
  have r2 : Vals (vs ++ dvs) (us ++ ds) := r.append d
  have hl : (us ++ ds).length = ps.length := by rw [← r2.length]; exact F.len _ _ _ _ q
  refine wpAny_call (codeAny_mono (F.run X.A X.stack s1 H1 ⟨us, []⟩ (us ++ ds) (vs ++ dvs) Q C8.E0 (hr.mono hk) hs I1.env0 (b s1 us I1.kIn hl) r2 q) fun r s' hq => ?_)
  cases r with
  | error e => exact False.elim hq
  | ok fl =>
    cases fl with
    | ret u => exact I1.after hq
    | next => exact False.elim hq
    | brk => exact False.elim hq
    | cont => exact False.elim hq
end
/-- the law's call -/
theorem law_callG {P : Program} {w : World} {K : PySem.W.Frag} {mg mb : Str → Option Value} {CX : CXT} {k : Nat} {fa a : Addr} {fd : FuncData} {x : Str} {sp : Sp} {s₁ : Shared} {vs : List Value} {ns : List Int}
    (KX : K.In s₁.heap) (hns : s₁.heap.Ns mainGlobals mg) (hb : s₁.heap.Ns builtinsNs mb) (hbb : ∀ x : Str, x ≠ "__name__" → mb x = bootBuiltins x) (hlim : s₁.heap.NoLimit) (hg : s₁.gens = #[])
    (ha : s₁.heap.get? a = some { cls := .type "list", data := .seq vs.toArray }) (hi : IntsAre vs ns) (hl : ns.length ≤ sizeLine) (hr : Room k callerA)
    (F : ∀ base : Heap, K.In base → base.Ns mainGlobals mg → FnG P w K mg base CX k fa fd [x] sp) (hbind : ∀ (s : Shared) (u : Value), BindsTo s fd ⟨[u], []⟩ [(x, u)])
    (hsp : ∀ H : Hp, Only H → SqL K H a (ns.map V.int) → sp [.ref a] H (fun v _ => v = .bl true) fun _ _ _ => False)
    (hCX : ∀ H e s', CX [] H s₁ (fun _ _ _ => False) e s' → False) :
    codeAny (model P w) callerA (.call (.ref fa) ⟨[.ref a], []⟩) (fun r s' => r = .ok (.ret (.bool true)) ∧ OldK s₁.heap s'.heap ∧ s'.os = s₁.os ∧ AllBare s'.gens) s₁ := by
  have rv := vals_ints hi
  have main : ∀ H : Hp, Only H → SqL K H a (ns.map V.int) → HOk P w H s₁.heap → (∀ b, b ≠ a → H b = none) → (H a ≠ none → K.lookup a = none) →
      codeAny (model P w) callerA (.call (.ref fa) ⟨[.ref a], []⟩) (fun r s' => r = .ok (.ret (.bool true)) ∧ OldK s₁.heap s'.heap ∧ s'.os = s₁.os ∧ AllBare s'.gens) s₁ := by
    intro H hO hS hok one off
    have plain : ∀ {b : Addr} {o : Obj}, s₁.heap.get? b = some o → (∀ n, o.data ≠ .seq vs.toArray n) → H b = none := fun {b o} e hd => by
      by_cases q : b = a
      · subst q
        rw [ha] at e
        cases e
        exact absurd rfl (hd _)
      · exact one b q
    have ns' : ∀ {b : Addr} {m : Str → Option Value}, s₁.heap.Ns b m → (hidT s₁.heap H).Ns b m := fun {b m} ⟨o, es, ep, e, d, r⟩ => ⟨o, es, ep, hidT_get e (plain e fun n z => by rw [d] at z; cases z), d, r⟩
    have known : K.In (hidT s₁.heap H) := fun b o e => hidT_get (KX b o e) (by
      by_cases q : b = a
      · subst q
        cases z : H b with
        | none => rfl
        | some u => rw [off (by rw [z]; simp)] at e; cases e
      · exact one b q)
    have e0 : Env0 P w K mg (hidT s₁.heap H) callerA [] s₁ H := by
      refine ⟨rfl, ⟨known, ns' hns, ⟨mb, ns' hb, hbb⟩, ?_⟩, fun b o e => of_hidT e, Nat.le_of_eq (hidT_size _ _), trivial, fun b hb => absurd (show b ∈ ([] : List Addr) from hb) (by simp), hok, .of_eq hg⟩
      obtain ⟨mc, h1, h2⟩ := hlim
      exact ⟨mc, ns' h1, h2⟩
    refine codeAny_mono ((F _ known (ns' hns)).run callerA [] s₁ H ⟨[.ref a], []⟩ [.ref a] [.ref a] _ _ hr rfl e0 (hbind s₁ (.ref a)) (.cons rfl .nil) (hsp H hO hS)) fun r s' h => ?_
    match r, h with
    | .error e, h => exact (hCX H e s' h).elim
    | .ok .next, h => exact False.elim h
    | .ok .brk, h => exact False.elim h
    | .ok .cont, h => exact False.elim h
    | .ok (.ret u), h =>
      obtain ⟨v, H', os, bare, un, hok', r', q⟩ := h
      obtain rfl : v = .bl true := q
      obtain rfl : u = Value.bool true := r'
      refine ⟨rfl, OldK.of_keep fun b o e => ?_, os, bare⟩
      rcases hO b with z | ⟨ob, xs, z⟩
      · exact un.keep b o e z (by intro z; exact absurd (show b ∈ ([] : List Addr) from z) (by simp)) (by simp)
      · have e1 := (hok b _ z).1
        have e2 := (hok' b _ (un.frzs b ob _ z)).1
        rw [e] at e1
        cases e1
        exact e2
  cases hk : K.lookup a with
  | some o =>
    have e := KX a o hk
    rw [ha] at e
    cases e
    exact main (fun _ => none) (fun _ => .inl rfl) (.inr ⟨_, vs.toArray, _, hk, rfl, rfl, rfl, by rw [List.size_toArray, hi.length]; exact hl, by simpa using rv⟩) (fun b u z => by have z' : (none : Option HO) = some u := z; cases z') (fun _ _ => rfl) fun z => absurd rfl z
  | none =>
    have at_a : (if a = a then some (HO.frz { cls := .type "list", data := .seq vs.toArray } (.lst (ns.map V.int))) else none) = some (HO.frz { cls := .type "list", data := .seq vs.toArray } (.lst (ns.map V.int))) := if_pos rfl
    refine main (fun b => if b = a then some (.frz { cls := .type "list", data := .seq vs.toArray } (.lst (ns.map V.int))) else none) (fun b => ?_) (.inl (.inr ⟨_, at_a⟩)) (fun b u z => ?_) (fun b q => if_neg q) fun _ => hk
    · by_cases hb : b = a
      · exact .inr ⟨_, _, if_pos hb⟩
      · exact .inl (if_neg hb)
    · by_cases hb : b = a
      · subst hb
        have z' := at_a.symm.trans z
        cases z'
        exact ⟨ha, by rw [List.length_map]; exact hl, vs, _, rv, ha⟩
      · have z' := (if_neg hb).symm.trans z
        cases z'
/-- the end of a law whose defs show data -/
theorem walk_ofG {l : PySem.W.OpenLaw} {n k : Nat} {q : Program} {loose : List Str} {XP : (Str → Option Value) → Heap → Prop} {YP : World → Heap → Prop} {d : DefRec} {CX : CXT} {x : Str}
    (hn : l.most = some n) (hn2 : n ≤ sizeLine) (hdf : d.params.defaults = []) (hr : Room k callerA)
    (F : ∀ (w : World) (mg : Str → Option Value) (fa : Addr) (h : Heap), YP w h → h.Ns mainGlobals mg → mg d.name = some (.ref fa) →
      ∃ (K : PySem.W.Frag) (fd : FuncData) (sp : Sp), K.In h ∧ (∀ (s : Shared) (u : Value), BindsTo s fd ⟨[u], []⟩ [(x, u)]) ∧
        (∀ (H : Hp) (a : Addr) (ns : List Int), ns.length ≤ n → Only H → SqL K H a (ns.map V.int) → sp [.ref a] H (fun v _ => v = .bl true) fun _ _ _ => False) ∧
        ∀ base : Heap, K.In base → base.Ns mainGlobals mg → FnG l.prog w K mg base CX k fa fd [x] sp)
    (hCX : ∀ (H : Hp) (s : Shared) (e : Value) (s' : Shared), CX [] H s (fun _ _ _ => False) e s' → False) :
    PySem.W.WalkO q loose XP YP l.row.toRowW d [] (fun f vs => PySem.call f vs) := by
  refine Att.attach_call hn hdf fun w s₀ s₁ mg mb fa o pm cd doc a vs ns G Y ho hd hcd hmg hobj hints hlen hg => ?_
  obtain ⟨K, fd, sp, KX, hb, hsp, hF⟩ := F w mg fa _ Y G.T.g hmg
  exact law_callG KX G.T.g G.T.b G.T.builtins G.T.nolimit hg hobj hints (Nat.le_trans hlen hn2) hr hF hb (fun H hO hS => hsp H a ns hlen hO hS) fun H e s' => hCX H s₁ e s'
/-! ### repr -/
/-- what may be shown: no dict, ints short -/
structure Shw (n w : Nat) (d : PyData) : Prop where
  lay : d.canLay0 = true
  dep : d.depth ≤ n
  wgt : d.weight ≤ w
  ish : d.intsShort 13 = true
  shw : d.showable = true
theorem Shw.fits {n w : Nat} {d : PyData} (h : Shw n w d) (hn : n ≤ 60) (hw : w ≤ 1048576) : d.shown.length ≤ sizeLine := by
  refine PyData.shown_fits_of_layable0 (B := 13) (by decide) (by decide) ?_ h.ish
  have h1 := h.dep
  have h2 := h.wgt
  unfold PyData.layable0
  rw [h.lay, decide_eq_true (by omega), decide_eq_true (by omega)]
  rfl
theorem Shw.shaped {n w : Nat} {d : PyData} (h : Shw n w d) (hn : n ≤ 60) : SeqAt.shaped d = true := Fit.shaped (n := 60) ⟨h.lay, Nat.le_trans h.dep hn⟩
def rReprX (K : PySem.W.Frag) : List V → Hp → VK → Prop := fun xs H Q => ∃ (v : V) (d : PyData) (n w : Nat), xs = [v] ∧ Dp K H v d ∧ Shw n w d ∧ n ≤ 60 ∧ w ≤ 1048576 ∧ Q (.str d.shown) H
theorem c_repr {X : Cx} (hu : X.A.units + 64 < cLine) (hs : X.A.guards = some []) : CallR X (.builtin "repr") (rReprX X.K) := by
  intro pins s σ H xs us Q I r h
  obtain ⟨v, d, n, w, rfl, hd, sh, hn, hw, q⟩ := h
  obtain ⟨u, rfl, ru⟩ := vals1 r
  obtain ⟨as, rd⟩ := Dp.reads I d v u hd ru
  have hsz := sh.fits hn hw
  have hnd : d.hasDict = false := PyData.hasDict_of_canLay d sh.lay
  have hsw := sh.shw
  cases rd with
  | none => exact PySem.P.repr_of_none ⟨.str _, H, I.tok _, ⟨_, rfl⟩, by simpa only [PyData.shown] using q⟩
  | bool b => exact PySem.P.repr_of_bool ⟨.str _, H, I.tok _, ⟨_, rfl⟩, by simpa only [PyData.shown] using q⟩
  | int i t => exact PySem.P.repr_of_int (by simpa [PyData.showable] using hsw) ⟨.str _, H, I.tok _, ⟨_, rfl⟩, by simpa only [PyData.shown] using q⟩
  | str x t => exact PySem.P.repr_of_str ⟨.str _, H, I.tok _, ⟨_, rfl⟩, by simpa only [PyData.shown] using q⟩ (by simpa only [PyData.shown] using hsz)
  | list h1 h2 h3 h4 =>
    have hdp := sh.dep
    exact repr_of_reads' (.list h1 h2 h3 h4) hsw (PyData.noDict_hsm hnd) hs (by omega) (fun _ _ e => e) (fun h' u tk hk => ⟨.str _, H, I.kept hk, ⟨_, rfl⟩, q⟩) hsz
  | tuple h1 h2 h3 h4 =>
    have hdp := sh.dep
    exact repr_of_reads' (.tuple h1 h2 h3 h4) hsw (PyData.noDict_hsm hnd) hs (by omega) (fun _ _ e => e) (fun h' u tk hk => ⟨.str _, H, I.kept hk, ⟨_, rfl⟩, q⟩) hsz
  | dict => simp [PyData.hasDict] at hnd
section
variable {K : PySem.W.Frag} {L : List Ent} {H : Hp} {Q : VK} {v : V} {d : PyData}
theorem w_repr {n w : Nat} (hS : St K L H) (hv : See K L v d) (sh : Shw n w d) (hn : n ≤ 60) (hw : w ≤ 1048576) (h : Q (.str d.shown) H) : rReprX K [v] H Q := ⟨v, d, n, w, rfl, hv.dp hS, sh, hn, hw, h⟩
theorem log2_le {m k : Nat} (h : m < 2 ^ k) : m.log2 + 1 ≤ k + 1 := by
  refine Nat.succ_le_succ ?_
  rcases Nat.eq_zero_or_pos m with h0 | h0
  · rw [h0]
    exact Nat.le_trans (Nat.le_of_eq (show Nat.log2 0 = 0 by decide +kernel)) (Nat.zero_le _)
  · exact Nat.le_of_lt ((Nat.log2_lt (Nat.pos_iff_ne_zero.mp h0)).mpr h)
theorem sh_int (n : Nat) {w : Nat} {i : Int} (h : i.natAbs < 10 ^ 12) (hw : 42 ≤ w) : Shw n w (.int i) := by
  have h2 : i.natAbs < 2 ^ 40 := Nat.lt_of_lt_of_le h (by decide)
  have h3 := log2_le h2
  refine ⟨by simp [PyData.canLay0], by simp [PyData.depth], ?_, ?_, ?_⟩
  · unfold PyData.weight
    split
    · omega
    · omega
  · unfold PyData.intsShort
    exact decide_eq_true (PyData.shown_int_le h)
  · unfold PyData.showable
    exact decide_eq_true (by omega)
theorem sh_bool (n w : Nat) (b : Bool) : Shw n w (.bool b) := ⟨by simp [PyData.canLay0], by simp [PyData.depth], by simp [PyData.weight], by simp [PyData.intsShort], by simp [PyData.showable]⟩
theorem sh_none (n w : Nat) : Shw n w .none := ⟨by simp [PyData.canLay0], by simp [PyData.depth], by simp [PyData.weight], by simp [PyData.intsShort], by simp [PyData.showable]⟩
theorem sh_str (n : Nat) {w : Nat} {l : List Nat} (h : Asc l) (hw : l.length ≤ w) : Shw n w (.str (S l)) := ⟨(fit_str n h).1, by simp [PyData.depth], by simpa [PyData.weight, S] using hw, by simp [PyData.intsShort], by simp [PyData.showable]⟩
theorem sh_all {n w : Nat} : ∀ {ds : List PyData}, (∀ d ∈ ds, Shw n w d) → PyData.canLayAll0 ds = true ∧ PyData.depthAll ds ≤ n ∧ PyData.weightAll ds ≤ ds.length * (w + 1) ∧ PyData.intsShortAll 13 ds = true ∧ PyData.showableAll ds = true
  | [], _ => by simp [PyData.canLayAll0, PyData.depthAll, PyData.weightAll, PyData.intsShortAll, PyData.showableAll]
  | d :: ds, h => by
    obtain ⟨h1, h2, h3, h4, h5⟩ := sh_all fun e he => h e (.tail _ he)
    obtain ⟨g1, g2, g3, g4, g5⟩ := h d (.head _)
    simp only [PyData.canLayAll0, PyData.depthAll, PyData.weightAll, PyData.intsShortAll, PyData.showableAll, g1, h1, g4, h4, g5, h5, List.length_cons, Nat.add_mul, Bool.and_self]
    refine ⟨trivial, by omega, by omega, trivial, trivial⟩
theorem sh_list {n w m : Nat} {ds : List PyData} (h : ∀ d ∈ ds, Shw n w d) (hm : ds.length * (w + 1) ≤ m) : Shw (n + 1) m (.list ds) := by
  obtain ⟨h1, h2, h3, h4, h5⟩ := sh_all h
  exact ⟨by simpa [PyData.canLay0] using h1, by simp only [PyData.depth]; omega, by simp only [PyData.weight]; omega, by simpa [PyData.intsShort] using h4, by simpa [PyData.showable] using h5⟩
theorem sh_tuple {n w m : Nat} {ds : List PyData} (h : ∀ d ∈ ds, Shw n w d) (hm : ds.length * (w + 1) ≤ m) : Shw (n + 1) m (.tuple ds) := by
  obtain ⟨h1, h2, h3, h4, h5⟩ := sh_all h
  exact ⟨by simpa [PyData.canLay0] using h1, by simp only [PyData.depth]; omega, by simp only [PyData.weight]; omega, by simpa [PyData.intsShort] using h4, by simpa [PyData.showable] using h5⟩
theorem Shw.mono {n w n' w' : Nat} (h : Shw n w d) (hn : n ≤ n') (hw : w ≤ w') : Shw n' w' d := ⟨h.lay, Nat.le_trans h.dep hn, Nat.le_trans h.wgt hw, h.ish, h.shw⟩
end
end Lg

/-! Texts of numbers, find, while, membership in a tuple of flat things, the head with one more Bool. -/
namespace Lg
open PySem PySem.Spec PyProof.Rows L2 PySem.NumText
/-! ### the head: one more Bool of what is written -/
abbrev AlB : Type := He.AlD × Bool
def obsB (n : Nat) (fa : List He.Fa) (fn : List He.DefD) (ex : PySem.W.Frag → Bool) (g : Addr → Option Obj) : AlB := (He.obsDG n fa fn g, ex (He.frG g (He.asD g n)))
def hookB (n : Nat) (fa : List He.Fa) (fn : List He.DefD) (ex : PySem.W.Frag → Bool) : PySem.W.Hook where
  α := AlB
  obs := fun s => obsB n fa fn ex s.heap.get?
  val := fun _ => (He.valD fn, true)
  says := fun _ h => ∃ K : PySem.W.Frag, K.In h ∧ He.SaysD fa fn K ∧ ex K = true
  of := fun _ _ e => ⟨_, He.frG_in, congrArg (fun z : AlB => z.1) e, congrArg (fun z : AlB => z.2) e⟩
  keeps := fun _ _ _ ⟨K, hK, c⟩ k => ⟨K, PySem.W.Frag.In.keeps hK k, c⟩
theorem obsB_eq {n : Nat} {fa : List He.Fa} {fn : List He.DefD} {ex : PySem.W.Frag → Bool} {g : Addr → Option Obj} {s : Shared} (h : ∀ a, g a = s.heap.get? a) : obsB n fa fn ex g = (hookB n fa fn ex).obs s := by
  have e : g = s.heap.get? := funext h
  rw [e] <;> rfl
/-! ### relations -/
def rIntY : List V → Hp → VK → Prop := fun xs H Q => rIntX xs H Q ∨ ∃ a n, xs = [.str a] ∧ PySem.intText? a = some n ∧ a.length ≤ 640 ∧ Q (.int n) H
def rStrX : List V → Hp → VK → Prop := fun xs H Q => (∃ i, xs = [.int i] ∧ i.natAbs.log2 < 1920 ∧ Q (.str (Str.ofString (toString i))) H) ∨ ∃ a, xs = [.str a] ∧ Q (.str a) H
def rFind3 : V → List V → Hp → VK → Prop := fun x xs H Q => ∃ (a b : Str) (i : Int), x = .str a ∧ xs = [.str b, .int i] ∧ Q (.int (Txt.find3 a b i)) H
def rMax2 : List V → Hp → VK → Prop := fun xs H Q => ∃ i j, xs = [.int i, .int j] ∧ Q (.int (if j > i then j else i)) H
def rMin2 : List V → Hp → VK → Prop := fun xs H Q => ∃ i j, xs = [.int i, .int j] ∧ Q (.int (if j < i then j else i)) H
section
variable {X : Cx}
theorem c_int2 : CallR X (.type "int") rIntY := by
  intro pins s σ H xs us Q I r h
  rcases h with h | h
  · exact c_int pins s σ H xs us Q I r h
  · exact call_int_str pins s σ H xs us Q I r h
theorem c_str : CallR X (.type "str") rStrX := by
  intro pins s σ H xs us Q I r h
  rcases h with h | h
  · exact call_str_int pins s σ H xs us Q I r h
  · exact SkE.call_str_str pins s σ H xs us Q I r h
theorem m_find3 : MtR X "str.find" rFind3 := mt_find3
end
section
variable {K : PySem.W.Frag} {L L' : List Ent} {H : Hp} {σ : L2.St} {Q : VK} {a b : Addr} {i : Int} {k : Nat} {v : V} {d : PyData} {ds : List PyData}
theorem w_intI2 (h : Q (.int i) H) : rIntY [.int i] H Q := .inl (w_int h)
theorem w_intT {l : List Nat} {n : Int} (hn : PySem.intText? (S l) = some n) (hl : l.length ≤ 640) (h : Q (.int n) H) : rIntY [.str (S l)] H Q := .inr ⟨_, n, rfl, hn, by rw [S_len]; exact hl, h⟩
/-- the digits of a number -/
def dg (n : Nat) : List Nat := (Nat.toDigits 10 n).map Char.toNat
theorem dg_text (n : Nat) : Str.ofString (toString ((n : Nat) : Int)) = S (dg n) := by
  rw [S_of (Str.ofString (toString ((n : Nat) : Int)))]
  congr 1
  exact PySem.W.KIN.signs_num n
theorem w_strI {n : Nat} (hi : i = (n : Int)) (hn : n < 10 ^ 12) (h : Q (.str (S (dg n))) H) : rStrX [.int i] H Q := by
  refine .inl ⟨i, rfl, ?_, ?_⟩
  · have h2 : i.natAbs < 2 ^ 40 := by
      have : (10 : Nat) ^ 12 ≤ 2 ^ 40 := by decide
      omega
    have := log2_le h2
    omega
  · rw [hi, dg_text]
    exact h
theorem w_strS {z : Str} (h : Q (.str z) H) : rStrX [.str z] H Q := .inr ⟨z, rfl, h⟩
theorem dg_len {n k : Nat} (hk : 1 ≤ k) (hn : n < 10 ^ k) : (dg n).length ≤ k := by
  unfold dg
  rw [List.length_map]
  exact digits10_le hk hn
theorem dg_pos (n : Nat) : 1 ≤ (dg n).length := by
  unfold dg
  rw [List.length_map]
  exact tDigits_len_ge 10 n
theorem dg_ge {n k : Nat} (hn : 10 ^ k ≤ n) : k + 1 ≤ (dg n).length := by
  unfold dg
  rw [List.length_map]
  exact digits10_ge hn
theorem dg_val (n : Nat) : digitsVal (dg n) = n := PySem.W.KIN.val_back n
theorem dg_digits (n : Nat) : AllDigits (dg n) := by
  intro c hc
  obtain ⟨ch, hch, e⟩ := List.mem_map.mp hc
  rw [← e]
  have h := Nat.isDigit_of_mem_toDigits (b := 10) (by decide) (by decide) hch
  have h2 : ch.val ≥ '0'.val ∧ ch.val ≤ '9'.val := by
    simpa [Char.isDigit] using h
  exact ⟨h2.1, h2.2⟩
theorem digitsVal_le : ∀ (cs : List Nat) (acc : Nat), AllDigits cs → cs.foldl (fun acc c => acc * 10 + (c - 48)) acc < (acc + 1) * 10 ^ cs.length
  | [], acc, _ => by simp
  | c :: cs, acc, h => by
    have h1 := digitsVal_le cs (acc * 10 + (c - 48)) fun d hd => h d (.tail _ hd)
    have h2 := h c (.head _)
    refine Nat.lt_of_lt_of_le h1 ?_
    rw [List.length_cons, Nat.pow_succ, Nat.mul_comm (10 ^ cs.length) 10, ← Nat.mul_assoc]
    exact Nat.mul_le_mul_right _ (by omega)
/-- no zero ahead, but of zero -/
theorem dg_head {n : Nat} (h : (dg n).head? = some 48) : (dg n).length = 1 := by
  cases hd : dg n with
  | nil => rw [hd] at h; cases h
  | cons c cs =>
    rw [hd] at h
    have hc : c = 48 := Option.some.inj h
    have h1 := dg_digits n
    rw [hd] at h1
    have h2 := dg_val n
    rw [hd] at h2
    unfold digitsVal at h2
    rw [List.foldl_cons, hc] at h2
    have h3 := digitsVal_le cs 0 fun d hd => h1 d (.tail _ hd)
    have h4 : n < 10 ^ cs.length := by
      rw [← h2]
      simpa using h3
    have h5 : (dg n).length = cs.length + 1 := by rw [hd]; rfl
    rw [← hd, h5]
    by_cases h0 : cs.length = 0
    · omega
    · have := dg_len (n := n) (k := cs.length) (by omega) h4
      omega
theorem int_dg {n : Nat} (hn : n < 10 ^ 10) : PySem.intText? (S (dg n)) = some (n : Int) := by
  rw [← dg_text]
  exact PySem.W.KIN.num_reads (by omega) (by omega)
/-! ### find -/
/-- the place of the first c in l, from i on -/
theorem find_none {l : List Nat} {c k : Nat} (h : c ∉ l.drop k) (hk : k ≤ l.length) : Txt.find3 (S l) (S [c]) (k : Int) = -1 := by
  rcases StrLaws.find3_spec (S l) c (k : Int) with ⟨e, _⟩ | ⟨m, e, h1, h2, h3, _⟩
  · exact e
  · exfalso
    rw [S_len] at h2
    have hf : fromIndex (S l).length (k : Int) = k := by
      unfold fromIndex
      rw [S_len, if_neg (by omega)]
      omega
    rw [hf] at h1
    refine h ?_
    have h4 : l[m]? = some c := by
      have : (S l).cps.getD m 0 = c := h3
      have h5 : l[m]? = some l[m] := List.getElem?_eq_getElem h2
      rw [h5]
      congr 1
      rw [← this]
      simp [S, Array.getD, h2]
    refine List.mem_of_getElem? (i := m - k) ?_
    rw [List.getElem?_drop, show k + (m - k) = m by omega, h4]
theorem find_some {l r : List Nat} {c k m : Nat} (h : l.drop k = r) (hm : r[m]? = some c) (hn : c ∉ r.take m) (hk : k ≤ l.length) : Txt.find3 (S l) (S [c]) (k : Int) = ((k + m : Nat) : Int) := by
  have hml : m < r.length := (List.getElem?_eq_some_iff.mp hm).1
  have hrl : r.length = l.length - k := by rw [← h, List.length_drop]
  have hf : fromIndex (S l).length (k : Int) = k := by
    unfold fromIndex
    rw [S_len, if_neg (by omega)]
    omega
  have hget : ∀ j, j < l.length → (S l).cps.getD j 0 = l.getD j 0 := fun j hj => by simp [S, Array.getD, hj, List.getD_eq_getElem?_getD]
  have hr : ∀ j, r[j]? = l[k + j]? := fun j => by rw [← h, List.getElem?_drop]
  rcases StrLaws.find3_spec (S l) c (k : Int) with ⟨e, h1⟩ | ⟨q, e, h1, h2, h3, h4⟩
  · exfalso
    refine h1 (k + m) (by rw [hf]; omega) (by rw [S_len]; omega) ?_
    rw [hget _ (by omega), List.getD_eq_getElem?_getD, ← hr, hm]
    rfl
  · rw [e]
    rw [hf] at h1 h4
    rw [S_len] at h2
    have h5 : ¬ k + m < q := fun z => by
      refine h4 (k + m) (by omega) z ?_
      rw [hget _ (by omega), List.getD_eq_getElem?_getD, ← hr, hm]
      rfl
    have h6 : ¬ q < k + m := fun z => by
      refine hn ?_
      refine List.mem_of_getElem? (i := q - k) ?_
      rw [List.getElem?_take_of_lt (by omega), hr, show k + (q - k) = q by omega]
      have : l.getD q 0 = c := by rw [← hget _ h2]; exact h3
      rw [← this, List.getD_eq_getElem?_getD, List.getElem?_eq_getElem h2]
      rfl
    congr 1
    omega
theorem w_find3 {l : List Nat} {c : Nat} (h : Q (.int (Txt.find3 (S l) (S [c]) i)) H) : rFind3 (.str (S l)) [.str (S [c]), .int i] H Q := ⟨_, _, i, rfl, rfl, h⟩
/-! ### flat things -/
def dV : V → PyData
  | .int i => .int i
  | .str z => .str z
  | .bl b => .bool b
  | _ => .none
theorem dv_flat {F : Hp} : ∀ {x v : V}, flatV x = true → Dv K F v (dV x) → v = x
  | .int i, _, _, h => by cases h; rfl
  | .str i, _, _, h => by cases h; rfl
  | .bl i, _, _, h => by cases h; rfl
  | .non, _, _, h => by cases h; rfl
theorem dvs_flat {F : Hp} : ∀ {xs vs : List V}, xs.all flatV = true → DvAll K F vs (xs.map dV) → vs = xs
  | [], _, _, h => by cases h; rfl
  | x :: xs, _, f, h => by
    rw [List.all_cons, Bool.and_eq_true] at f
    cases h with
    | cons h1 h2 => rw [dv_flat f.1 h1, dvs_flat f.2 h2]
theorem St.flatT {xs : List V} (hS : St K L H) (hl : Is L (.ref a) (.tuple (xs.map dV))) (hf : xs.all flatV = true) : SqT K H a xs := by
  obtain ⟨F, h1, h2⟩ := hS.ex
  have := hl.dv h2
  cases this with
  | tup hs ha =>
    have e := dvs_flat hf ha
    rw [← e]
    exact h1.sqT hs
theorem w_inT {xs : List V} {x : V} {neg : Bool} (hS : St K L H) (hl : Is L (.ref a) (.tuple (xs.map dV))) (hx : flatV x = true) (hf : xs.all flatV = true) (h : Q (.bl (if neg then !inV x xs else inV x xs)) H) : rInX K neg x (.ref a) H Q :=
  .inl ⟨a, xs, rfl, .inr (hS.flatT hl hf), hx, hf, h⟩
def sV (ys : List (List Nat)) : List V := ys.map fun y => V.str (S y)
theorem inV_s (l : List Nat) : ∀ ys : List (List Nat), inV (.str (S l)) (sV ys) = decide (l ∈ ys)
  | [] => rfl
  | y :: ys => by
    show (eqV (.str (S y)) (.str (S l)) || inV (.str (S l)) (sV ys)) = _
    rw [inV_s l ys]
    show ((S y == S l) || decide (l ∈ ys)) = _
    rw [show (S y == S l) = decide (l = y) from by
      by_cases h : l = y
      · subst h
        simp
      · rw [decide_eq_false h, beq_eq_false_iff_ne]
        exact fun z => h (S_inj z).symm]
    rw [← Bool.decide_or]
    exact decide_eq_decide.mpr List.mem_cons.symm
theorem sV_flat (ys : List (List Nat)) : (sV ys).all flatV = true := by simp [sV, flatV]
theorem sV_dV (ys : List (List Nat)) : (sV ys).map dV = ys.map fun y => PyData.str (S y) := by simp [sV, dV]
theorem w_inTS {l : List Nat} {ys : List (List Nat)} (hS : St K L H) (hl : Is L (.ref a) (.tuple (ys.map fun y => PyData.str (S y)))) (h : Q (.bl (decide (l ∈ ys))) H) : rInX K false (.str (S l)) (.ref a) H Q :=
  w_inT (xs := sV ys) hS (by rw [sV_dV]; exact hl) rfl (sV_flat ys) (by rw [inV_s]; exact h)
theorem w_ninTS {l : List Nat} {ys : List (List Nat)} (hS : St K L H) (hl : Is L (.ref a) (.tuple (ys.map fun y => PyData.str (S y)))) (h : Q (.bl (!decide (l ∈ ys))) H) : rInX K true (.str (S l)) (.ref a) H Q :=
  w_inT (xs := sV ys) hS (by rw [sV_dV]; exact hl) rfl (sV_flat ys) (by rw [inV_s]; exact h)
/-- a tuple that stands in the written part -/
theorem dvs_of : ∀ {F : Hp} (ys : List (List Nat)), DvAll K F (sV ys) (ys.map fun y => PyData.str (S y))
  | _, [] => .nil
  | _, y :: ys => .cons (.str _) (dvs_of ys)
theorem St.tupK {ys : List (List Nat)} (hS : St K L H) (h : ∀ H, SqT K H a (sV ys)) : St K (.dat (.ref a) (.tuple (ys.map fun y => PyData.str (S y))) :: L) H := hS.know fun F _ _ => .tup (h F) (dvs_of ys)
/-! ### while -/
def WB (P : L2.St → Hp → Prop) (μ : L2.St → Nat) (m : Nat) (tb : TS) (D : Ends) (σ : L2.St) (b : Bool) (H1 : Hp) : Prop :=
  if b = true then ∃ N : L2.St → Hp → Prop, (∀ σ' H', N σ' H' → ∃ m', m' < m ∧ (m' = μ σ' ∧ P σ' H')) ∧ tb { D with nx := N, ct := N, bk := D.nx } σ H1 else D.nx σ H1
theorem w_wb {P : L2.St → Hp → Prop} {μ : L2.St → Nat} {m : Nat} {tb : TS} {D : Ends} {c : Bool} (h1 : c = true → tb { D with nx := fun σ' H' => μ σ' < m ∧ P σ' H', ct := fun σ' H' => μ σ' < m ∧ P σ' H', bk := D.nx } σ H) (h2 : c = false → D.nx σ H) : WB P μ m tb D σ c H := by
  unfold WB
  cases c with
  | true => exact ⟨_, fun σ' H' q => ⟨_, q.1, rfl, q.2⟩, h1 rfl⟩
  | false => exact h2 rfl
theorem w_while {c : TT} {tb : TS} {D : Ends} (P : L2.St → Hp → Prop) (μ : L2.St → Nat) (h0 : P σ H) (hs : ∀ σ H, P σ H → c σ H fun b H1 => WB P μ (μ σ) tb D σ b H1) : tWhile c tb D σ H := by
  refine ⟨fun m σ H => m = μ σ ∧ P σ H, ⟨_, rfl, h0⟩, ?_⟩
  rintro m σ H ⟨rfl, p⟩
  exact hs σ H p
end
end Lg

/-! Texts as lists of signs: membership; what is alike; small laws of lists. -/
namespace Lg
open PySem PySem.Spec PyProof.Rows L2 PySem.NumText
section
variable {K : PySem.W.Frag} {L L' : List Ent} {H : Hp} {σ : L2.St} {Q : VK} {a b : Addr} {i : Int} {k : Nat} {v : V} {d : PyData} {ds : List PyData}
theorem w_neg (h : Q (.int (-i)) H) : rU (fun i => .int (-i)) (.int i) H Q := ⟨i, rfl, h⟩
theorem w_inSS {c : Nat} {z : List Nat} (h : Q (.bl (decide (c ∈ z))) H) : rInX K false (.str (S [c])) (.str (S z)) H Q := w_inSg h
theorem w_ninSS {c : Nat} {z : List Nat} (h : Q (.bl (!decide (c ∈ z))) H) : rInX K true (.str (S [c])) (.str (S z)) H Q := w_ninSg h
theorem w_inSS' {c : Nat} {z : List Nat} (h : Q (.bl (decide (c ∈ z))) H) : rInX K false (.str ⟨#[c]⟩) (.str (S z)) H Q := w_inSg h
theorem w_neSS {x y : List Nat} (h : Q (.bl (!decide (x = y))) H) : rNeX K (.str (S x)) (.str (S y)) H Q := w_neS (by
  rw [show decide (S x = S y) = decide (x = y) from decide_eq_decide.mpr ⟨S_inj, fun e => by rw [e]⟩]
  exact h)
def Fr.tupf (K : PySem.W.Frag) (a : Addr) (xs : List V) (ds : List PyData) : Fr := ⟨fun F => SqT K F a xs ∧ DvAll K F xs ds, fun _ _ e h => ⟨e.sqT h.1, DvAll.mono e _ _ h.2⟩⟩
theorem St.tupF (hS : St K L H) (hl : Is L (.ref a) (.tuple ds)) : ∃ xs, SqT K H a xs ∧ St K (.fact (Fr.tupf K a xs ds) :: L) H := by
  obtain ⟨F, h1, h2⟩ := hS.ex
  have := hl.dv h2
  cases this with
  | tup hs ha =>
    refine ⟨_, h1.sqT hs, ⟨F, h1, fun e he => ?_⟩, hS.nd⟩
    cases he with
    | head => exact ⟨hs, ha⟩
    | tail _ he => exact h2 e he
theorem w_listT (hS : St K L H) (hl : Is L (.ref a) (.tuple ds)) (h : ∀ q H', St K (Lg.ls K q ds :: L) H' → Q (.ref q) H') : rListOf K [.ref a] H Q := by
  obtain ⟨xs, h1, hS'⟩ := hS.tupF hl
  refine ⟨a, xs, rfl, .inr h1, fun q hq => ?_⟩
  have h3 := hS'.alloc hq (φ := .ls K ds) (o := .lst xs) (fun F' _ w => ⟨xs, rfl, (w _ (.head _)).2⟩)
  exact h q _ (h3.to (.cons .here (.drop .refl)))
/-- an index that is drawn, into a list of texts -/
theorem w_ixLSP {P : List Nat → Prop} (hS : St K L H) (hl : LsIn K L a ds) (h0 : 0 ≤ i) (h1 : i < ds.length) (hP : ∀ d ∈ ds, ∃ m, d = .str (S m) ∧ P m) (h : ∀ m, P m → Q (.str (S m)) H) : rIx K (.ref a) (.int i) H Q := by
  have hk : i.toNat < ds.length := by omega
  obtain ⟨m, hm, hp⟩ := hP ds[i.toNat] (List.getElem_mem hk)
  exact w_ixLs (k := i.toNat) hS hl (by omega) (by rw [List.getElem?_eq_getElem hk, hm]) (h m hp)
/-- .. into a list of anything -/
theorem w_ixLD {P : PyData → Prop} (hS : St K L H) (hl : LsIn K L a ds) (h0 : 0 ≤ i) (h1 : i < ds.length) (hP : ∀ d ∈ ds, P d) (h : ∀ v d, P d → St K (.dat v d :: L) H → Q v H) : rIx K (.ref a) (.int i) H Q := by
  have hk : i.toNat < ds.length := by omega
  exact w_ixL (k := i.toNat) hS hl (by omega) (List.getElem?_eq_getElem hk) fun v hS2 => h v _ (hP _ (List.getElem_mem hk)) hS2
end
theorem takeWhile_take {α : Type} {p : α → Bool} : ∀ {r : List α} {m : Nat}, (∀ x ∈ r.take m, p x = true) → (∀ x, r[m]? = some x → p x = false) → r.takeWhile p = r.take m
  | [], m, _, _ => by simp
  | x :: r, 0, _, h => by
    have := h x rfl
    simp [this]
  | x :: r, m + 1, h1, h2 => by
    have hx := h1 x (by simp)
    rw [List.takeWhile_cons, if_pos hx, List.take_succ_cons, takeWhile_take (m := m) (fun y hy => h1 y (by rw [List.take_succ_cons]; exact .tail _ hy)) (fun y hy => h2 y (by simpa using hy))]
theorem takeWhile_app {α : Type} {p : α → Bool} {l x : List α} (h1 : ∀ c ∈ l, p c = true) (h2 : ∀ c, x.head? = some c → p c = false) : (l ++ x).takeWhile p = l := by
  rw [takeWhile_take (m := l.length), List.take_left]
  · rw [List.take_left]
    exact h1
  · intro c hc
    rw [List.getElem?_append_right (Nat.le_refl _), Nat.sub_self] at hc
    exact h2 c (by rw [List.head?_eq_getElem?]; exact hc)
end Lg

/-! try with several clauses, each with a name or without; methods that may raise. -/
namespace Lg
open PySem PySem.Spec PyProof.Rows L2
/-- a clause: the class, the slot of its name if it has one, its suite -/
structure Cl where
  c : Value
  i : Option Nat
  ts : Addr → Value → Option Addr → TS
def Cl.at_ (k : Cl) (a : Addr) (σ : L2.St) : L2.St := match k.i with
  | none => σ
  | some i => σ.set i (some (.ref a))
def Cl.off (k : Cl) (σ : L2.St) : L2.St := match k.i with
  | none => σ
  | some i => σ.set i none
def Cl.ends (k : Cl) (D : Ends) : Ends := { nx := fun σ H => D.nx (k.off σ) H, rt := D.rt, bk := fun σ H => D.bk (k.off σ) H, ct := fun σ H => D.ct (k.off σ) H }
/-- what a row of clauses wishes of an exception of the body -/
def wMix (K : PySem.W.Frag) (Wout : WX) (D : Ends) : List Cl → WX
  | [] => Wout
  | k :: r => fun cls d σ H => ∃ b, PySem.W.exmOne K cls k.c = some b ∧ (b = true → ∀ a, H a = none → k.ts a cls d (k.ends D) (k.at_ a σ) H) ∧ (b = false → wMix K Wout D r cls d σ H)
inductive HdsM (X : Cx) : List ExceptHandler → List Cl → Prop
  | nil : HdsM X [] []
  | bare {x : Str} {c : Value} {ts : Addr → Value → Option Addr → TS} {b₀ : Stmt} {suite : List Stmt} {np pos' : Pos} {hds : List ExceptHandler} {l : List Cl} (hc : Names X x c)
      (hsu : ∀ (a : Addr) (oe : Obj) (cls : Value) (d : Option Addr) (pn : List (Addr × Obj)), Zc cls d oe → (∃ vs, oe.data = .fields vs) → PSs (X.suite a ((a, oe) :: pn)) (b₀ :: suite) (ts a cls d)) (r : HdsM X hds l) :
      HdsM X (.ExceptHandler (some (.Name x np)) none (b₀ :: suite) pos' :: hds) (⟨c, none, ts⟩ :: l)
  | as {x n : Str} {i : Nat} {c : Value} {ts : Addr → Value → Option Addr → TS} {b₀ : Stmt} {suite : List Stmt} {np pos' : Pos} {hds : List ExceptHandler} {l : List Cl} (hi : X.N[i]? = some n) (hln : X.env.kindOf n = some .local) (hc : Names X x c)
      (hsu : ∀ (a : Addr) (oe : Obj) (cls : Value) (d : Option Addr) (pn : List (Addr × Obj)), Zc cls d oe → (∃ vs, oe.data = .fields vs) → PSs (X.suite a ((a, oe) :: pn)) (b₀ :: suite) (ts a cls d)) (r : HdsM X hds l) :
      HdsM X (.ExceptHandler (some (.Name x np)) (some n) (b₀ :: suite) pos' :: hds) (⟨c, some i, ts⟩ :: l)
section
variable {X : Cx} {body : List Stmt} {h₀ : ExceptHandler} {hds : List ExceptHandler} {l : List Cl} {pos : Pos} {tb : WX → TS} {Wout : WX}
theorem ps_try_mix (hs : X.stack = X.env :: X.outer) (hf : X.env.frame = some X.env.locals) (hN : X.N.Nodup) (tk : Takes X Wout)
    (hb : ∀ (W : WX) (pn : List (Addr × Obj)) (xe : Value → Shared → Prop), Takes (X.tr pn xe) W → PassesOwn (model X.prog X.w) X.A X.env xe → PSs (X.tr pn xe) body (tb W))
    (hh : HdsM X (h₀ :: hds) l) : PS X (.Try body (h₀ :: hds) [] [] pos) (fun D σ H => tb (wMix X.K Wout D l) D σ H) := by
  refine ⟨fun pins s σ H D I h => ?_⟩
  have ok := I.ok
  have fr : X.A.frames = some (X.env :: X.outer) := by rw [ok.frames, hs]
  have run := (hb (wMix X.K Wout D l) (X.pn ++ pins) (fun e s₁ => wpAny (model X.prog X.w) X.A (noteFrame e X.env) (fun _ s₂ => wpAny (model X.prog X.w) X.A (setFlight e none) (fun _ s₃ =>
    wpAny (model X.prog X.w) X.A (handleBy e X.env (h₀ :: hds)) (SP X pins D) X.xe s₃) X.xe s₂) X.xe s₁) (fun u s' xx => ?_) PassesOwn.looking).run [] s σ H D (I.toTry _) h
  · refine wpAny_Try_except (wpAny_mono run (fun f s1 hsp => ?_) fun e s1 he => he)
    match f, hsp with
    | .next, ⟨σ', H', J', q⟩ => exact wpAny_execs_nil ⟨σ', H', J'.ofTry ok, q⟩
    | .brk, ⟨σ', H', J', q⟩ => exact ⟨σ', H', J'.ofTry ok, q⟩
    | .cont, ⟨σ', H', J', q⟩ => exact ⟨σ', H', J'.ofTry ok, q⟩
    | .ret u, ⟨v, σ', H', J', r, q⟩ => exact ⟨v, σ', H', J'.ofTry ok, r, q⟩
  -- the exception lands here
  obtain ⟨a, B, sI, pins', σ', H', cls, d, rfl, J', nb, up, sky, na, os, ag, w⟩ := xx
  have J : Inv X pins σ' H' sI := J'.ofTry ok
  have sky' : Sky B (X.env :: X.outer) a (Zc cls d) X.env.locals s'.heap := by rw [← hs]; exact sky
  show wpAny (model X.prog X.w) X.A (noteFrame (.ref a) X.env) _ _ _
  refine Sky.land Zc.steady fr hf sky' fun h3 fl3 up3 => ?_
  have J3 : Inv X pins σ' H' { s' with heap := h3 } := J.landed nb fl3.1 (up.trans up3) os ag
  obtain ⟨oe3, vs3, he3, hz3, hd3⟩ := fl3.there
  have off : a ∉ frs (X.env :: X.outer) := fun hm => by
    obtain ⟨_, o', e', hnf⟩ := fl3.2.2.1.mem hm
    rw [he3] at e'
    cases e'
    exact hnf _ hd3
  have nL : a ≠ X.env.locals := fun z => off (List.mem_filterMap.mpr ⟨X.env, List.mem_cons_self, by rw [hf, z]⟩)
  have nF : a ∉ X.fs := fun hm => by
    obtain ⟨e, he, q⟩ := List.mem_filterMap.mp hm
    exact off (List.mem_filterMap.mpr ⟨e, List.mem_cons_of_mem _ he, q⟩)
  have S3 := J3.suite he3 hd3 na nL nF
  have LT : PySem.W.Looks (model X.prog X.w) h3 (typeOf (.ref a)) cls := fun A Q E s k q => wpAny_typeOf_ref (k _ _ he3) (by rw [hz3.1]; exact q)
  have test : ∀ {x : Str} {c : Value} {np : Pos}, Names X x c → ∀ {Q : Value → Shared → Prop} {E : Value → Shared → Prop}, Q c { s' with heap := h3 } → wpAny (model X.prog X.w) (X.A.mark (some (.ref a))) (eval (.Name x np) X.env) Q E { s' with heap := h3 } := fun {x c np} hc {Q E} q => by
    obtain ⟨hg, hdbg, hm | ⟨hm, hv, hnn⟩⟩ := hc
    · exact ld_glob (X := X.suite a ((a, oe3) :: (X.pn ++ pins))) S3 hg hm q hdbg
    · exact ld_blt (X := X.suite a ((a, oe3) :: (X.pn ++ pins))) S3 hg hm hv q hnn hdbg
  have go : ∀ {hds' : List ExceptHandler} {l' : List Cl}, HdsM X hds' l' → wMix X.K Wout D l' cls d σ' H' → wpAny (model X.prog X.w) X.A (handleBy (.ref a) X.env hds') (SP X pins D) X.xe { s' with heap := h3 } := by
    intro hds' l' hk
    induction hk with
    | nil =>
      intro w
      refine wpAny_handleBy_nil ?_
      obtain ⟨k1, k2, k3, oe, vs, T, oT, ts', he, hz, hd, h1, hr⟩ := id fl3
      unfold PySem.passOn
      refine wpAny_bind (wpAny_field he hd h1 ?_)
      rw [if_neg (show ¬ ((Value.ref T == Value.none) = true) from by simp)]
      have fin : wpAny (model X.prog X.w) X.A (setFlight (.ref a) X.env.frame) (fun _ s4 => wpAny (model X.prog X.w) X.A (throw (.ref a) : Sem Flow) (SP X pins D) X.xe s4) X.xe { s' with heap := h3 } := by
        rw [hf]
        refine HandSPX.setFlight_upZ fl3 fun h4 hh4 up4 => wpAny_throw (tk _ _ ?_)
        exact ⟨a, B, sI, pins, σ', H', cls, d, rfl, J, nb, (up.trans up3).trans up4, .inr (.inr (by rw [hs]; exact hh4)), na, os, ag, w⟩
      first
        | exact wpAny_bind (wpAny_pure (wpAny_bind fin))
        | exact wpAny_bind fin
    | @bare x c ts b₀ suite np pos' hds2 l2 hc hsu r ih =>
      rintro ⟨b, hb1, hyes, hno⟩
      refine wpAny_handleBy_cons (codeAny_handlers_test ?_) (by intro q; cases q)
      refine test hc ((PySem.W.exm_one (M := model X.prog X.w) (J3.kIn) LT hb1).here ?_)
      cases b with
      | false => exact ih (hno rfl)
      | true =>
        refine codeAny_handlers_suite ?_
        refine HandSPX.lands_againZ fl3 fun h4 fl4 up4 => ?_
        have J4 : Inv X pins σ' H' { s' with heap := h4 } := J.landed nb fl4.1 ((up.trans up3).trans up4) os ag
        obtain ⟨oe4, vs4, he4, hz4, hd4⟩ := fl4.there
        refine wpAny_mono ((hsu a oe4 cls d (X.pn ++ pins) hz4 ⟨_, hd4⟩).run [] _ _ H' _ (J4.suite he4 hd4 na nL nF) (hyes rfl a na)) (fun f s6 hsp => ?_) fun _ _ z => False.elim z
        match f, hsp with
        | .next, ⟨σ6, H6, S6, q6⟩ => exact ⟨_, _, S6.unsuite ok, q6⟩
        | .brk, ⟨σ6, H6, S6, q6⟩ => exact ⟨_, _, S6.unsuite ok, q6⟩
        | .cont, ⟨σ6, H6, S6, q6⟩ => exact ⟨_, _, S6.unsuite ok, q6⟩
        | .ret u, ⟨v6, σ6, H6, S6, r6, q6⟩ => exact ⟨_, _, _, S6.unsuite ok, r6, q6⟩
    | @as x n i c ts b₀ suite np pos' hds2 l2 hi hln hc hsu r ih =>
      rintro ⟨b, hb1, hyes, hno⟩
      refine wpAny_handleBy_cons (codeAny_handlers_test ?_) (by intro q; cases q)
      refine test hc ((PySem.W.exm_one (M := model X.prog X.w) (J3.kIn) LT hb1).here ?_)
      cases b with
      | false => exact ih (hno rfl)
      | true =>
        refine codeAny_handlers_suite_as ?_
        refine HandSPX.lands_againZ fl3 fun h4 fl4 up4 => ?_
        have J4 : Inv X pins σ' H' { s' with heap := h4 } := J.landed nb fl4.1 ((up.trans up3).trans up4) os ag
        obtain ⟨oe4, vs4, he4, hz4, hd4⟩ := fl4.there
        refine store_ok (X := X.suite a ((a, oe4) :: (X.pn ++ pins))) (v := .ref a) (J4.suite he4 hd4 na nL nF) hN hi (.inl hln) rfl (fun s5 S5 => ?_) (.inr hln)
        refine wpAny_mono ((hsu a oe4 cls d (X.pn ++ pins) hz4 ⟨_, hd4⟩).run [] s5 _ H' _ S5 (hyes rfl a na)) (fun f s6 hsp => ?_) fun _ _ z => False.elim z
        have gone : ∀ {σ6 : L2.St} {H6 : Hp} {Q : Shared → Prop}, Inv (X.suite a ((a, oe4) :: (X.pn ++ pins))) [] σ6 H6 s6 → (∀ s7, Inv X pins (σ6.set i none) H6 s7 → Q s7) →
            wpAny (model X.prog X.w) X.A (do bindName X.env n .none; unbindBehindTheSuite X.env n pos') (fun _ s7 => Q s7) X.xe s6 := fun {σ6 H6 Q} S6 hq => gone_ok (S6.unsuite ok) hN hi hln hq
        match f, hsp with
        | .next, ⟨σ6, H6, S6, q6⟩ => exact gone S6 fun s7 J7 => ⟨_, _, J7, q6⟩
        | .brk, ⟨σ6, H6, S6, q6⟩ => exact gone S6 fun s7 J7 => ⟨_, _, J7, q6⟩
        | .cont, ⟨σ6, H6, S6, q6⟩ => exact gone S6 fun s7 J7 => ⟨_, _, J7, q6⟩
        | .ret u, ⟨v6, σ6, H6, S6, r6, q6⟩ => exact gone S6 fun s7 J7 => ⟨_, _, _, J7, r6, q6⟩
  exact go hh w
end
/-! ### methods that may raise -/
def tMethS (C : Addr) (m : Str) (sp : Sp) (E : L2.St → XK) (ta : TE) (t : TA) : TE := fun σ H Q => ta σ H fun x H1 => ∃ a dx fs, x = .ref a ∧ H1 a = some (.ins C dx fs) ∧ fs.lookup m = none ∧ t σ H1 fun vs H2 => sp (x :: vs) H2 Q (E σ)
section
variable {X : Cx} {CX : CXT} {k : Nat} {f C : Addr} {fd : FuncData} {ps : List Str} {sp : Sp} {E : L2.St → XK} {x m : Str} {p pos apos : Pos} {e o : Expr} {es : List Expr} {ta : TE} {t : TA}
theorem pe_methS {pl : Sem Bool} (he : PE X o ta) (c : Cls X.K C) (hm : Meth X.K C m f) (F : FnOk X.prog X.w X.K X.mg X.base CX k f fd ps sp) (hr : Room k X.A) (hb : Binds X.K fd ps []) (hx : ∀ σ, PassesAt CX X σ (E σ)) (ha : PA X (e :: es) t)
    (hst : starEach (e :: es) X.env = (false, eval e X.env) :: starEach es X.env := by rfl) (hpl : (backTo pos (starEach es X.env)).any (·.1) = false := by rfl)
    (ht : eval (.Call (.Attribute o m apos) (e :: es) [] pos) X.env = (do
      let ov ← eval o X.env
      standAt apos.atName
      let (f, first) ← holding [ov] (getMethod ov m pl)
      callWith pos f first (backTo pos (starEach (e :: es) X.env)) (backToKw pos (keywordEach [] X.env))) := by rfl) :
    PE X (.Call (.Attribute o m apos) (e :: es) [] pos) (tMethS C m sp E ta t) := by
  refine ⟨fun pins s σ H Q I h => ?_⟩
  refine PySem.W.methodCall_KW (pl := pl) (thn (he.run pins s σ H _ I h) fun u s1 ⟨x, H1, I1, rx, a, dx, fs, ex, ea, l, q⟩ => ?_) ht
  subst ex
  obtain rfl : u = Value.ref a := rx
  refine getmeth_ok I1 ea c hm l ?_
  refine PySem.W.callWith_K (first := [.ref a]) (h₀ := X.base) I.ok.mod.kin hm.kp (thn (ha.run pos pins s1 σ H1 _ I1 q) fun us s2 ⟨vs, H2, I2, r, q2⟩ => ⟨I2.kIn, ?_⟩) hst hpl
  exact run_fnS (us := .ref a :: us) (vs := .ref a :: vs) F hr hb (hx σ) I2 (.cons rfl r) q2
theorem pe_methS0 {pl : Sem Bool} (he : PE X o ta) (c : Cls X.K C) (hm : Meth X.K C m f) (F : FnOk X.prog X.w X.K X.mg X.base CX k f fd ps sp) (hr : Room k X.A) (hb : Binds X.K fd ps []) (hx : ∀ σ, PassesAt CX X σ (E σ))
    (ht : eval (.Call (.Attribute o m apos) [] [] pos) X.env = (do
      let ov ← eval o X.env
      standAt apos.atName
      let (f, first) ← holding [ov] (getMethod ov m pl)
      callWith pos f first (backTo pos (starEach [] X.env)) (backToKw pos (keywordEach [] X.env))) := by rfl) :
    PE X (.Call (.Attribute o m apos) [] [] pos) (tMethS C m sp E ta tNil) := by
  refine ⟨fun pins s σ H Q I h => ?_⟩
  refine PySem.W.methodCall_KW (pl := pl) (thn (he.run pins s σ H _ I h) fun u s1 ⟨x, H1, I1, rx, a, dx, fs, ex, ea, l, q⟩ => ?_) ht
  subst ex
  obtain rfl : u = Value.ref a := rx
  refine getmeth_ok I1 ea c hm l ?_
  exact PySem.W.callWith_K0 (first := [.ref a]) I1.kIn hm.kp (run_fnS (us := [.ref a]) (vs := [.ref a]) F hr hb (hx σ) I1 (.cons rfl .nil) q)
/-- C(e, ..), its __init__ may raise -/
def tMakeS (C : Addr) (sp : Sp) (E : L2.St → XK) (t : TA) : TE := fun σ H Q => t σ H fun vs H1 => ∀ x dx, H1 x = none → H1 dx = none → dx ≠ x →
  sp (.ref x :: vs) (upd (upd H1 dx (.own x)) x (.ins C dx [])) (fun v H2 => v = .non ∧ Q (.ref x) H2) (E σ)
theorem pe_makeS (M : Mk X.K C f) (F : FnOk X.prog X.w X.K X.mg X.base CX k f fd ps sp) (hr : Room (k + 1) X.A) (hg : Gl X x) (hm : X.mg x = some (.ref C)) (hb : Binds X.K fd ps []) (hx : ∀ σ, PassesAt CX X σ (E σ))
    (ha : PA X (e :: es) t) (hdb : (x == ("__debug__" : Str)) = false := by decide) (he : starEach (e :: es) X.env = (false, eval e X.env) :: starEach es X.env := by rfl) (hpl : (backTo pos (starEach es X.env)).any (·.1) = false := by rfl) :
    PE X (.Call (.Name x p) (e :: es) [] pos) (tMakeS C sp E t) := by
  refine ⟨fun pins s σ H Q I h => ?_⟩
  refine wpAny_Call_Name_kw (ld_glob I hg hm ?_ hdb)
  refine PySem.W.callWith_K (h₀ := X.base) I.ok.mod.kin M.kp (thn (ha.run pos pins s σ H _ I h) fun us s1 ⟨vs, H1, I1, r, q⟩ => ⟨I1.kIn, ?_⟩) he hpl
  have hq := q (s1.heap.objs.size + 1) s1.heap.objs.size (I1.hok.fresh (Nat.le_succ _)) (I1.hok.fresh (Nat.le_refl _)) (Nat.ne_of_lt (Nat.lt_succ_self _))
  have I2 := Inv.made (C := C) I1
  have r2 : Vals (V.ref (s1.heap.objs.size + 1) :: vs) (Value.ref (s1.heap.objs.size + 1) :: us) := .cons rfl r
  have hl : (Value.ref (s1.heap.objs.size + 1) :: us).length = ps.length := by
    rw [← r2.length]
    exact F.len _ _ _ _ hq
  refine wpAny_call (make_map (f := f) I1.kIn M.makes M.init (beq_iff_eq.mp M.fn) (codeAny_mono (F.run _ X.stack _ _ ⟨Value.ref (s1.heap.objs.size + 1) :: us, []⟩ (Value.ref (s1.heap.objs.size + 1) :: us) _ _ (E σ) (hr.make C us [])
    (I2.env0.make C us []) (by have b2 := hb _ (Value.ref (s1.heap.objs.size + 1) :: us) I2.kIn (by rw [List.append_nil]; exact hl); rw [List.append_nil] at b2; exact b2) r2 hq) fun r s' hq' => ?_))
  match r, hq' with
  | .error e, hq' => exact hx σ pins _ _ e s' I2 hq'
  | .ok (.ret u), hq' =>
    obtain ⟨v, H', I3, rv, ev, q3⟩ := I2.after hq'
    subst ev
    exact ⟨rv, ⟨V.ref (s1.heap.objs.size + 1), H', I3, rfl, q3⟩⟩
  | .ok .next, hq' => exact False.elim hq'
  | .ok .brk, hq' => exact False.elim hq'
  | .ok .cont, hq' => exact False.elim hq'
end
end Lg

/-! Own exceptions over ValueError in the ledger: made with an own __init__, raised, caught, their field read; objects of own classes. -/
namespace Lg
open PySem PySem.Spec PyProof.Rows L2
/-- what is written of an own exception class with an __init__ -/
def oexB (K : PySem.W.Frag) (C : Addr) : Bool := (match K.lookup C with
  | some ⟨.type "type", _, .cls cd, sl⟩ => (match cd.mro, sl.toList with
    | .ref C' :: bm, [_, _, _, _, some (.builtin n), _] => C' == C && (n == "ValueError.__new__" && (!cd.hasDel && (cd.hasDict && PySem.HandSPX.refsVE bm)))
    | _, _ => false)
  | _ => false) && (decide (PySem.W.findIn K (.ref C) "__setattr__" = some (some (.builtin "object.__setattr__"))) && (decide (PySem.W.subIn K (.ref C) (.type "BaseException") = some true) &&
    (decide (PySem.W.typeIn K (.ref C) = some (.type "type")) && PySem.W.keepIn K (.ref C))))
theorem oexB_ok {K : PySem.W.Frag} {C : Addr} (h : oexB K C = true) : OexC K C := by
  unfold oexB at h
  simp only [Bool.and_eq_true, decide_eq_true_eq] at h
  obtain ⟨q, h1, h2, h3, h4⟩ := h
  refine ⟨?_, h1, h2, h3, h4⟩
  split at q
  · rename_i dd cd sl ho
    split at q
    · rename_i C' bm k0 k1 k2 k3 n k5 hm hs
      simp only [Bool.and_eq_true, beq_iff_eq, Bool.not_eq_true'] at q
      obtain ⟨rfl, rfl, hdel, hdc, hr⟩ := q
      obtain ⟨nm, bs, mro, ns, qn, hd, sn, sub, ab, col, del⟩ := cd
      dsimp only at hm hdel hdc
      subst hm hdel hdc
      have hsl : sl = #[k0, k1, k2, k3, some (.builtin "ValueError.__new__"), k5] := by
        obtain ⟨l⟩ := sl
        simp only at hs
        rw [hs]
      subst hsl
      exact ⟨nm, qn, ns, bs, bm, sn, sub, ab, col, dd, k0, k1, k2, k3, k5, ho, hr⟩
    · cases q
  · cases q
section
variable {K : PySem.W.Frag} {L L' : List Ent} {H : Hp} {σ : L2.St} {Q : VK} {a b d C : Addr} {i : Int} {k : Nat} {v : V} {o : HO} {f : Str}
/-- a cell is given up -/
theorem St.del (h : St K (Lg.own a o :: L) H) : St K L (L2.del H a) := by
  obtain ⟨F, h1, h2⟩ := h.ex
  have hFa : F a = none := (h2 _ (.head _)).1
  have nd := h.nd
  have hn : ∀ e ∈ L, e.adr ≠ some a := fun e he q => by
    have : a ∈ L.filterMap Ent.adr := List.mem_filterMap.mpr ⟨e, he, q⟩
    exact (List.nodup_cons.mp (show (a :: L.filterMap Ent.adr).Nodup from nd)).1 this
  refine ⟨⟨F, fun x u hx => ?_, fun e he => ?_⟩, (List.nodup_cons.mp (show (a :: L.filterMap Ent.adr).Nodup from nd)).2⟩
  · have : x ≠ a := fun z => by rw [z, hFa] at hx; cases hx
    rw [L2.del_ne this]
    exact h1 x u hx
  · have he2 := h2 e (.tail _ he)
    cases e with
    | cell c φ =>
      obtain ⟨h3, o', h4, h5⟩ := he2
      have : c ≠ a := fun z => hn _ he (by rw [z]; rfl)
      exact ⟨h3, o', by rw [L2.del_ne this]; exact h4, h5⟩
    | dat v d => exact he2
    | fact φ => exact he2
/-- the promise of such an __init__ that stores its one argument -/
def spExI (K : PySem.W.Frag) (C : Addr) (f : Str) : Sp := fun vs H Q _ => ∃ (L : List Ent) (a : Addr) (v : V), vs = [.ref a, v] ∧ OexC K C ∧ PySem.W.findIn K (.ref C) f = some none ∧ St K (Lg.own a (exo a C none) :: L) H ∧
  ∀ d H', H d = none → St K (Lg.own d (exd d [(f, v)]) :: Lg.own a (exo a C (some d)) :: L) H' → Q .non H'
theorem p_exi {nx : L2.St → Hp → Prop} {rt : VK} (vs : List V) (h : spExI K C f vs H Q (fun _ _ _ => False)) (hnx : ∀ σ H', Q .non H' → nx σ H') : vs.length = 2 ∧ tOst K f (tVar 0) (tVar 1) { nx := nx, rt := rt } (vs.map some) H := by
  obtain ⟨L, a, v, rfl, hC, hno, hS, hQ⟩ := h
  refine ⟨rfl, v, rfl, .ref a, rfl, a, C, rfl, hC, hno, .inl ⟨hS.own (.head _), fun dx hdx hne => hnx _ _ (hQ dx _ hdx ?_)⟩⟩
  have h1 := hS.alloc hdx (φ := .eq (exd dx [(f, v)])) (o := exd dx [(f, v)]) (fun _ _ _ => rfl)
  have h2 := h1.writeP (φ := .eq (exo a C none)) (ψ := .eq (exo a C (some dx))) (o := exo a C (some dx)) (.there .here) (fun _ _ _ _ _ _ => rfl)
  exact h2
/-- C(e) is made -/
theorem w_mkO {ta : TA} {R : XK} (hS : St K L H) (hC : OexC K C) (hno : PySem.W.findIn K (.ref C) f = some none) (ht : ∀ R : List V → Hp → Prop, R [v] H → ta σ H R) (h : ∀ d H', St K (Lg.own d (.xd [(f, v)]) :: L) H' → R (.ref C) (some d) H') : tMkO C (spExI K C f) [] ta σ H R := by
  refine ht _ ⟨by simp, fun a ha => ⟨L, a, v, by simp, hC, hno, ?_, fun d H' hd hS' => ⟨rfl, d, [(f, v)], ?_, ?_, ?_, ?_⟩⟩⟩
  · exact hS.alloc ha (φ := .eq (exo a C none)) (o := exo a C none) (fun _ _ _ => rfl)
  · exact hS'.own (.tail _ (.head _))
  · exact hS'.own (.head _)
  · by_cases q : d = a
    · rw [q, upd_same] at hd
      cases hd
    · rw [upd_ne q] at hd
      exact hd
  · have h1 : St K (Lg.own a (exo a C (some d)) :: Lg.own d (exd d [(f, v)]) :: L) H' := hS'.perm (List.Perm.swap _ _ _)
    have h2 := h1.del
    exact h d _ (h2.writeP (φ := .eq (exd d [(f, v)])) (ψ := .eq (.xd [(f, v)])) (o := .xd [(f, v)]) .here (fun _ _ _ _ _ _ => rfl))
/-- e.f in a suite -/
theorem w_xf {cls : Value} {fs : List (Str × V)} {te : TE} {x : V} (hS : St K L H) (hm : Lg.own d (.xd fs) ∈ L) (hl : fs.lookup f = some v) (ht : ∀ R : VK, R (.ref a) H → te σ H R) (h : Q v H) : tXf a (.ref C) (some d) C f te σ H Q :=
  ht _ ⟨rfl, rfl, d, fs, v, rfl, hS.own hm, hl, h⟩
end
end Lg

/-! Defs, methods, makers that may raise, as constants of the module; raise; what a suite asks of its exception. -/
namespace Lg
open PySem PySem.Spec PyProof.Rows L2
section
variable {P : Program} {w : World} {K : PySem.W.Frag} {mg : Str → Option Value} {base : Heap}
structure CalX (P : Program) (w : World) (K : PySem.W.Frag) (mg : Str → Option Value) (base : Heap) (k : Nat) (x : Str) (sp : Sp) : Prop where
  ex : ∃ (f : Addr) (fd : FuncData) (ps : List Str), FnOk P w K mg base (L2.CX P w) k f fd ps sp ∧ mg x = some (.ref f) ∧ PySem.W.keepIn K (.ref f) = true ∧ Binds K fd ps []
structure MetX (P : Program) (w : World) (K : PySem.W.Frag) (mg : Str → Option Value) (base : Heap) (k : Nat) (C : Addr) (m : Str) (sp : Sp) : Prop where
  ex : ∃ (f : Addr) (fd : FuncData) (ps : List Str), Cls K C ∧ Meth K C m f ∧ FnOk P w K mg base (L2.CX P w) k f fd ps sp ∧ Binds K fd ps []
structure MakX (P : Program) (w : World) (K : PySem.W.Frag) (mg : Str → Option Value) (base : Heap) (k : Nat) (x : Str) (C : Addr) (sp : Sp) : Prop where
  ex : ∃ (f : Addr) (fd : FuncData) (ps : List Str), Mk K C f ∧ FnOk P w K mg base (L2.CX P w) k f fd ps sp ∧ mg x = some (.ref C) ∧ Binds K fd ps []
/-- an own exception whose __init__ stores its argument in f -/
structure Oex (P : Program) (w : World) (K : PySem.W.Frag) (mg : Str → Option Value) (base : Heap) (k : Nat) (x : Str) (C : Addr) (f : Str) : Prop where
  cls : OexC K C
  no : PySem.W.findIn K (.ref C) f = some none
  ex : ∃ (fI : Addr) (fd : FuncData) (ps : List Str), PySem.W.findIn K (.ref C) "__init__" = some (some (.ref fI)) ∧ PySem.W.typeIn K (.ref fI) = some (.type "function") ∧ FnOk P w K mg base C8.CX0 k fI fd ps (spExI K C f) ∧ mg x = some (.ref C) ∧ Binds K fd ps []
/-- an own exception without an __init__ -/
structure Bex (K : PySem.W.Frag) (mg : Str → Option Value) (x : Str) (C : Addr) : Prop where
  q : PySem.W.excIn K C He.veBase "ValueError.__new__" = true
  g : mg x = some (.ref C)
  k : PySem.W.keepIn K (.ref C) = true
  b : PySem.W.subIn K (.ref C) (.type "BaseException") = some true
  t : PySem.W.typeIn K (.ref C) = some (.type "type")
end
def tRaiseO (C : Addr) (sp : Sp) (W : WX) (ta : TA) : TS := fun _ σ H => tMkO C sp [] ta σ H fun cls d H' => W cls d σ H'
def tRaiseB (C : Addr) (W : WX) : TS := fun _ σ H => W (.ref C) none σ H
section
variable {X : Cx} {k j : Nat} {C : Addr} {x m f : Str} {sp : Sp} {W : WX} {p pos apos pos2 : Pos} {e o : Expr} {es : List Expr} {ta : TE} {t : TA}
theorem pe_cX (c : CalX X.prog X.w X.K X.mg X.base k x sp) (hr : Room j X.A) (hk : k ≤ j) (tk : Takes X W) (hg : Gl X x) (ha : PA X (e :: es) t)
    (hdb : (x == ("__debug__" : Str)) = false := by decide) (he : starEach (e :: es) X.env = (false, eval e X.env) :: starEach es X.env := by rfl) (hpl : (backTo pos (starEach es X.env)).any (·.1) = false := by rfl) :
    PE X (.Call (.Name x p) (e :: es) [] pos) (tCallS sp (WE W) t) := by
  obtain ⟨f, fd, ps, F, hm, kp, b⟩ := c.ex
  exact pe_callS F (hr.mono hk) hg hm kp b (fun σ => passAt tk σ) ha hdb he hpl
theorem pe_kX (c : MakX X.prog X.w X.K X.mg X.base k x C sp) (hr : Room j X.A) (hk : k + 1 ≤ j) (tk : Takes X W) (hg : Gl X x) (ha : PA X (e :: es) t)
    (hdb : (x == ("__debug__" : Str)) = false := by decide) (he : starEach (e :: es) X.env = (false, eval e X.env) :: starEach es X.env := by rfl) (hpl : (backTo pos (starEach es X.env)).any (·.1) = false := by rfl) :
    PE X (.Call (.Name x p) (e :: es) [] pos) (tMakeS C sp (WE W) t) := by
  obtain ⟨f, fd, ps, M, F, hm, b⟩ := c.ex
  exact pe_makeS M F (hr.mono hk) hg hm b (fun σ => passAt tk σ) ha hdb he hpl
theorem pe_mX {pl : Sem Bool} (c : MetX X.prog X.w X.K X.mg X.base k C m sp) (hr : Room j X.A) (hk : k ≤ j) (tk : Takes X W) (he : PE X o ta) (ha : PA X (e :: es) t)
    (hst : starEach (e :: es) X.env = (false, eval e X.env) :: starEach es X.env := by rfl) (hpl : (backTo pos (starEach es X.env)).any (·.1) = false := by rfl)
    (ht : eval (.Call (.Attribute o m apos) (e :: es) [] pos) X.env = (do
      let ov ← eval o X.env
      standAt apos.atName
      let (f, first) ← holding [ov] (getMethod ov m pl)
      callWith pos f first (backTo pos (starEach (e :: es) X.env)) (backToKw pos (keywordEach [] X.env))) := by rfl) :
    PE X (.Call (.Attribute o m apos) (e :: es) [] pos) (tMethS C m sp (WE W) ta t) := by
  obtain ⟨f, fd, ps, hc, hm, F, b⟩ := c.ex
  exact pe_methS (pl := pl) he hc hm F (hr.mono hk) b (fun σ => passAt tk σ) ha hst hpl ht
theorem pe_mX0 {pl : Sem Bool} (c : MetX X.prog X.w X.K X.mg X.base k C m sp) (hr : Room j X.A) (hk : k ≤ j) (tk : Takes X W) (he : PE X o ta)
    (ht : eval (.Call (.Attribute o m apos) [] [] pos) X.env = (do
      let ov ← eval o X.env
      standAt apos.atName
      let (f, first) ← holding [ov] (getMethod ov m pl)
      callWith pos f first (backTo pos (starEach [] X.env)) (backToKw pos (keywordEach [] X.env))) := by rfl) :
    PE X (.Call (.Attribute o m apos) [] [] pos) (tMethS C m sp (WE W) ta tNil) := by
  obtain ⟨f, fd, ps, hc, hm, F, b⟩ := c.ex
  exact pe_methS0 (pl := pl) he hc hm F (hr.mono hk) b (fun σ => passAt tk σ) ht
theorem ps_rO (c : Oex X.prog X.w X.K X.mg X.base k x C f) (hc : X.calm = true) (hr : Room j X.A) (hk : k + 1 ≤ j) (tk : Takes X W) (hg : Gl X x) (ha : PA X (e :: es) t)
    (hdb : (x == ("__debug__" : Str)) = false := by decide) (he : starEach (e :: es) X.env = (false, eval e X.env) :: starEach es X.env := by rfl) (hpl : (backTo pos (starEach es X.env)).any (·.1) = false := by rfl) :
    PS X (.Raise (some (.Call (.Name x p) (e :: es) [] pos)) none pos2) (tRaiseO C (spExI X.K C f) W t) := by
  obtain ⟨fI, fd, ps, iC, tI, F, hm, b⟩ := c.ex
  exact ps_raise hc tk (pmk_oex c.cls iC tI F (hr.mono hk) b .nil C8.pass0 hg hm ha hdb he hpl)
theorem ps_rB {jj : Nat} {p2 : Pos} (c : Bex X.K X.mg x C) (hc : X.calm = true) (tk : Takes X W) (hg : Gl X x) (hdb : (x == ("__debug__" : Str)) = false := by decide) :
    PS X (.Raise (some (.Call (.Name x p) [.Constant (.str m) jj p2] [] pos)) none pos2) (tRaiseB C W) := ps_raise hc tk (pmk_own PySem.F.excBase_ValueError c.q c.g c.k (raises_own c.b c.t) hg hdb)
theorem c_max2 {X : Cx} (hc : X.calm = true) : CallR X (.builtin "max") rMax2 := call_max2 hc
theorem c_min2 {X : Cx} (hc : X.calm = true) : CallR X (.builtin "min") rMin2 := call_min2 hc
/-- try: what the body reads, W being what the clauses wish -/
def tTry (tb : WX → TS) (K : PySem.W.Frag) (Wout : WX) (l : List Cl) : TS := fun D σ H => tb (wMix K Wout D l) D σ H
theorem takesF {X : Cx} : Takes X (fun _ _ _ _ => False) := takes_none5
/-! a suite -/
/-- e.f: the exception is of the class at C, its dict at d -/
theorem pe_xfC {a : Addr} {oe : Obj} {cls : Value} {d : Option Addr} {pn : List (Addr × Obj)} {e : Expr} {te : TE} {n : Str} (T : xfB X.K C = true) (hno : PySem.W.findIn X.K (.ref C) n = some none)
    (hz : Zc cls d oe) (hf : ∃ vs, oe.data = .fields vs) (he : PE (X.suite a ((a, oe) :: pn)) e te) (hb : attributeBase e n X.env (eval e X.env) = eval e X.env := by rfl) :
    PE (X.suite a ((a, oe) :: pn)) (.Attribute e n pos) (tXf a cls d C n te) := pe_xf (xfB_ok T) hno hz hf he hb
/-- isinstance(e, c), the exception being of the class at D, without a dict -/
def tIsE (K : PySem.W.Frag) (D a : Addr) (cls : Value) (d : Option Addr) (t : TA) : TE := fun σ H Q => cls = .ref D ∧ d = none ∧ tCB (rIsE K D a) t σ H Q
theorem pe_isE {a D : Addr} {oe : Obj} {cls : Value} {d : Option Addr} {pn : List (Addr × Obj)} {e : Expr} {es : List Expr} {t : TA} (C : ExcC X.K D) (hz : Zc cls d oe) (hf : ∃ vs, oe.data = .fields vs) (hg : Gl X "isinstance") (hm : X.mg "isinstance" = none)
    (ha : PA (X.suite a ((a, oe) :: pn)) (e :: es) t) (he : starEach (e :: es) X.env = (false, eval e X.env) :: starEach es X.env := by rfl) (hpl : (backTo pos (starEach es X.env)).any (·.1) = false := by rfl) :
    PE (X.suite a ((a, oe) :: pn)) (.Call (.Name "isinstance" p) (e :: es) [] pos) (tIsE X.K D a cls d t) := by
  refine ⟨fun pins s σ H Q I h => ?_⟩
  obtain ⟨rfl, rfl, h⟩ := h
  exact (pe_callB (X := X.suite a ((a, oe) :: pn)) (call_isE C hz hf) hg hm (by decide +kernel) ha (by decide) (by decide) he hpl).run pins s σ H Q I h
def excB (K : PySem.W.Frag) (D : Addr) : Bool := decide (PySem.W.findIn K (.ref D) "__getattribute__" = some (some (.builtin "BaseException.__getattribute__"))) && (decide (PySem.W.findIn K (.ref D) "__getattr__" = some none) && (decide (PySem.W.subIn K (.ref D) (.type "BaseException") = some true) &&
  (PySem.W.hasDictIn K D && (decide (PySem.W.findIn K (.ref D) "__class__" = some (some (.builtin "object.__class__"))) && (decide (PySem.W.specialIn K (.builtin "object.__class__") "__get__" = some (some (.builtin "getset_descriptor.__get__"))) &&
  (decide (PySem.W.takesIn K (.builtin "object.__class__") = some true) && decide (PySem.W.mroIn K D (.type "object") = some true)))))))
theorem excB_ok {K : PySem.W.Frag} {D : Addr} (h : excB K D = true) : ExcC K D := by
  unfold excB at h
  simp only [Bool.and_eq_true, decide_eq_true_eq] at h
  obtain ⟨h1, h2, h3, h4, h5, h6, h7, h8⟩ := h
  exact ⟨h1, h2, h3, h4, h5, h6, h7, h8⟩
end
end Lg

/-! Tuples cut and joined, list.pop, fields of objects, makers, methods, raise and try in the ledger. -/
namespace Lg
open PySem PySem.Spec PyProof.Rows L2
section
variable {K : PySem.W.Frag} {L L' : List Ent} {H : Hp} {σ : L2.St} {Q : VK} {a b C dx : Addr} {i : Int} {k : Nat} {v x : V} {d : PyData} {ds es : List PyData} {fs : List (Str × V)} {f m : Str} {ta tv : TE} {t : TA} {D : Ends} {sp : Sp}
theorem w_plusT (hS : St K L H) (h1 : Is L (.ref a) (.tuple ds)) (h2 : Is L (.ref b) (.tuple es)) (hn : ds.length + es.length ≤ 100000) (h : ∀ v H', St K (Lg.dat v (.tuple (ds ++ es)) :: L) H' → Q v H') : rPlus K (.ref a) (.ref b) H Q := by
  obtain ⟨xs, ha, hS1⟩ := hS.tupF h1
  obtain ⟨ys, hb, hS2⟩ := hS1.tupF h2.cons
  obtain ⟨F0, _, hF0⟩ := hS2.ex
  have l1 : xs.length = ds.length := (hF0 _ (.tail _ (.head _))).2.len
  have l2 : ys.length = es.length := (hF0 _ (.head _)).2.len
  refine .inr (.inr (.inr ⟨a, b, xs, ys, rfl, rfl, ha, hb, ?_, fun e => ?_, fun _ e => ?_, fun _ _ p hp => ?_⟩))
  · rw [l1, l2]; exact Nat.le_trans hn (by decide)
  · have : ds = [] := List.length_eq_zero_iff.mp (by rw [← l1, e]; rfl)
    rw [this] at h
    exact h _ _ (hS.learn h2)
  · have : es = [] := List.length_eq_zero_iff.mp (by rw [← l2, e]; rfl)
    rw [this, List.append_nil] at h
    exact h _ _ (hS.learn h1)
  · have h3 := hS2.fresh hp (d := .tuple (ds ++ es)) (v := .ref p) (o := .tup (xs ++ ys)) (fun F hF _ q => .tup (SqT.of upd_same) (DvAll.mono (Ex.new hF) _ _ (DvAll.app (q _ (.tail _ (.head _))).2 (q _ (.head _)).2)))
    exact h _ _ (h3.to (.cons .here (.drop (.drop .refl))))
theorem w_slT {lo hi : Option Int} (hS : St K L H) (h1 : Is L (.ref a) (.tuple ds)) (h : ∀ v H', St K (Lg.dat v (.tuple (cutD ds lo hi)) :: L) H' → Q v H') : rSlX K (.ref a) lo hi H Q := by
  obtain ⟨xs, ha, hS1⟩ := hS.tupF h1
  obtain ⟨F0, _, hF0⟩ := hS1.ex
  have l1 : xs.length = ds.length := (hF0 _ (.head _)).2.len
  refine .inr (.inr ⟨a, xs, rfl, ha, fun e => ?_, fun _ p hp => ?_⟩)
  · have e2 : cutD ds lo hi = ds := by
      unfold cutD
      rw [← l1, e.1, e.2, List.drop_zero, Nat.sub_zero, l1, List.take_length]
    rw [e2] at h
    exact h _ _ (hS.learn h1)
  · have h3 := hS1.fresh hp (d := .tuple (cutD ds lo hi)) (v := .ref p) (o := .tup (cutV xs lo hi)) (fun F hF _ q => .tup (SqT.of upd_same) (DvAll.mono (Ex.new hF) _ _ (by
      have q2 := (q _ (.head _)).2
      unfold cutV cutD
      rw [l1]
      exact (q2.drop _).take _)))
    exact h _ _ (h3.to (.cons .here (.drop .refl)))
theorem w_tupT (hS : St K L H) (h1 : Is L (.ref a) (.tuple ds)) (h : Q (.ref a) H) : rTupOf K [.ref a] H Q := by
  obtain ⟨xs, ha, _⟩ := hS.tupF h1
  exact ⟨a, xs, rfl, .inr ⟨ha, h⟩⟩
theorem St.tf {xs : List V} (hS : St K L H) (hm : Ent.fact (Fr.tupf K a xs ds) ∈ L) : SqT K H a xs ∧ xs.length = ds.length ∧ ∀ (i : Nat) (d : PyData) (v : V), ds[i]? = some d → xs[i]? = some v → St K (.dat v d :: L) H := by
  obtain ⟨F, h1, h2⟩ := hS.ex
  have h3 := h2 _ hm
  refine ⟨h1.sqT h3.1, h3.2.len, fun i d v hd hv => ?_⟩
  obtain ⟨u, hu, hdv⟩ := h3.2.get hd
  rw [hv] at hu
  cases hu
  refine ⟨⟨F, h1, fun e he => ?_⟩, hS.nd⟩
  cases he with
  | head => exact hdv
  | tail _ he => exact h2 e he
/-- a comprehension over a tuple (St.tupF ahead) -/
theorem w_lcT {R : Nat → PyData → Prop} {xs : List V} {g : TG} {te : TE} {vs : List Nat} (hS : St K L H) (hm : Ent.fact (Fr.tupf K a xs ds) ∈ L) (hn : ds.length ≤ 100000)
    (hs : ∀ i d q es v H, ds[i]? = some d → es.length = i → St K (.dat v d :: .cell q (.ls K es) :: L) H → ∀ Z : VK, (∀ y e H3, R i e → St K (.dat y e :: .cell q (.ls K es) :: L) H3 → Z y H3) → g v (wipe σ vs) H fun σ2 H2 => wipe σ2 vs = wipe σ vs ∧ te σ2 H2 Z)
    (h : ∀ q es H', es.length = ds.length → (∀ i e, es[i]? = some e → R i e) → St K (.cell q (.ls K es) :: L) H' → Q (.ref q) H') : LcW (Itt K a) g tYes te vs σ H Q := by
  have hl := (hS.tf hm).2.1
  refine lc_mk R hn hS (fun i H es q hi h1 => ?_) (fun H es q h1 => ?_) (fun i q es H x H' hi hlen h1 y Z hZ => ?_) h
  · exact ⟨xs, xs[i]'(by omega), (h1.tf (.tail _ hm)).1, List.getElem?_eq_getElem (by omega)⟩
  · exact ⟨xs, (h1.tf (.tail _ hm)).1, Nat.le_of_eq hl⟩
  · obtain ⟨rfl, y⟩ := y
    obtain ⟨s1, _, s3⟩ := h1.tf (.tail _ hm)
    exact hs i ds[i] q es _ H' (by simp [hi]) hlen (s3 i ds[i] x (by simp [hi]) (y xs s1)) Z hZ
/-! objects -/
theorem w_fldE (h : ta σ H fun x H1 => ∃ a C dx fs v, x = .ref a ∧ H1 a = some (.ins C dx fs) ∧ Cls K C ∧ NoAttr K C f ∧ fs.lookup f = some v ∧ Q v H1) : tFld K ta f σ H Q := h
theorem w_fld {R : V → Prop} (hS : St K L H) (hm : Lg.own a (.ins C dx fs) ∈ L) (hC : Cls K C) (hn : NoAttr K C f) (hl : fs.lookup f = some v) (h : R v) : ∃ a' C dx fs v, (V.ref a) = .ref a' ∧ H a' = some (.ins C dx fs) ∧ Cls K C ∧ NoAttr K C f ∧ fs.lookup f = some v ∧ R v :=
  ⟨a, C, dx, fs, v, rfl, hS.own hm, hC, hn, hl, h⟩
theorem len_put {g : Str} {y : V} {gs : List (Str × V)} {n : Nat} (h : gs.length ≤ n) : (putF g y gs).length ≤ n + 1 := Nat.le_trans (length_putF _ _ _) (by omega)
theorem w_sfldE (h : tv σ H fun y H1 => ta σ H1 fun x H2 => ∃ a C dx fs, x = .ref a ∧ H2 a = some (.ins C dx fs) ∧ Cls K C ∧ NoAttr K C f ∧ fs.length < 1000 ∧ D.nx σ (upd H2 a (.ins C dx (putF f y fs)))) : sFld K ta tv f D σ H := h
theorem w_sfld {R : Hp → Prop} (hS : St K L H) (hp : Put L (Lg.own a (.ins C dx fs)) (Lg.own a (.ins C dx (putF f v fs))) L') (hC : Cls K C) (hn : NoAttr K C f) (hl : fs.length < 1000) (h : ∀ H', St K L' H' → R H') :
    ∃ a' C dx fs, (V.ref a) = .ref a' ∧ H a' = some (.ins C dx fs) ∧ Cls K C ∧ NoAttr K C f ∧ fs.length < 1000 ∧ R (upd H a' (.ins C dx (putF f v fs))) :=
  ⟨a, C, dx, fs, rfl, hS.own hp.mem, hC, hn, hl, h _ (hS.writeP hp fun _ _ _ _ _ _ => rfl)⟩
theorem w_makeE {E : XK} (h : t σ H fun vs H1 => ∀ x dx, H1 x = none → H1 dx = none → dx ≠ x → sp (.ref x :: (vs ++ [])) (upd (upd H1 dx (.own x)) x (.ins C dx [])) (fun v H2 => v = .non ∧ Q (.ref x) H2) E) : tMake C sp [] E t σ H Q := h
/-- a new object's place -/
theorem St.born (hS : St K L H) (hx : H a = none) (hd : H dx = none) (hne : dx ≠ a) : St K (Lg.own a (.ins C dx []) :: Lg.own dx (.own a) :: L) (upd (upd H dx (.own a)) a (.ins C dx [])) := by
  have h1 := hS.alloc hd (φ := .eq (.own a)) (o := .own a) (fun _ _ _ => rfl)
  exact h1.alloc (by rw [upd_ne (Ne.symm hne)]; exact hx) (φ := .eq (.ins C dx [])) (o := .ins C dx []) (fun _ _ _ => rfl)
theorem w_methE {E : XK} (h : ta σ H fun x H1 => ∃ a dx fs, x = .ref a ∧ H1 a = some (.ins C dx fs) ∧ fs.lookup m = none ∧ t σ H1 fun vs H2 => sp (x :: (vs ++ [])) H2 Q E) : tMeth C m sp [] E ta t σ H Q := h
theorem w_meth {R : Prop} (hS : St K L H) (hm : Lg.own a (.ins C dx fs) ∈ L) (hl : fs.lookup m = none) (h : R) : ∃ a' dx fs, (V.ref a) = .ref a' ∧ H a' = some (.ins C dx fs) ∧ fs.lookup m = none ∧ R := ⟨a, dx, fs, rfl, hS.own hm, hl, h⟩
theorem w_methSE {E : L2.St → XK} (h : ta σ H fun x H1 => ∃ a dx fs, x = .ref a ∧ H1 a = some (.ins C dx fs) ∧ fs.lookup m = none ∧ t σ H1 fun vs H2 => sp (x :: vs) H2 Q (E σ)) : tMethS C m sp E ta t σ H Q := h
theorem w_callS {E : L2.St → XK} (h : t σ H fun vs H1 => sp vs H1 Q (E σ)) : tCallS sp E t σ H Q := h
theorem w_raiseO {W : WX} (h : tMkO C sp [] t σ H fun cls d H' => W cls d σ H') : tRaiseO C sp W t D σ H := h
theorem w_raiseB {W : WX} (h : W (.ref C) none σ H) : tRaiseB C W D σ H := h
theorem w_try {tb : WX → TS} {Wout : WX} {l : List Cl} (h : tb (wMix K Wout D l) D σ H) : tTry tb K Wout l D σ H := h
/-- the last of a list of data -/
theorem w_popL (hS : St K L H) (hp : Put L (Lg.ls K a (ds ++ [d])) (Lg.ls K a ds) L') (h : ∀ v H', St K (Lg.dat v d :: L') H' → Q v H') : rPop (.ref a) [] H Q := by
  obtain ⟨xs, v, h3, h5, h4, h6⟩ := hS.item (.own hp.mem) (k := ds.length) (d := d) (by simp)
  have hlen : xs.length = ds.length + 1 := by rw [h4]; simp
  refine ⟨a, xs, v, rfl, rfl, h3, by rw [hlen]; exact h5, h _ _ ?_⟩
  refine h6.writeP (.there hp) fun F x e q hx hφ => ?_
  obtain ⟨zs, rfl, hzs⟩ := hφ
  rw [h3] at hx
  cases hx
  refine ⟨_, rfl, ?_⟩
  have h7 := hzs.take ds.length
  rw [List.take_left] at h7
  rw [List.dropLast_eq_take, hlen]
  exact h7
end
end Lg

/-! x in (a, b, ..), items of any form. -/
namespace Lg
open PySem PySem.Spec PyProof.Rows L2
def rInT (K : PySem.W.Frag) (neg : Bool) : R2 := fun x y H Q => ∃ d ds, Dp K H x d ∧ Dp K H y (.tuple ds) ∧ SeqAt.shaped d = true ∧ SeqAt.shaped (.tuple ds) = true ∧ Q (.bl (if neg then !(ds.any fun z => PyData.eqv z d) else ds.any fun z => PyData.eqv z d)) H
theorem units65 {k : Nat} {A : Around} (hr : Room k A) : A.units + 66 < cLine := by
  have := hr.un
  omega
theorem shaped_depth {d : PyData} (h : SeqAt.shaped d = true) : d.depth ≤ 64 := by
  unfold SeqAt.shaped at h
  simp only [Bool.and_eq_true, decide_eq_true_eq] at h
  exact h.2
section
variable {X : Cx}
theorem o_inT (hu : X.A.units + 66 < cLine) : OpR X (compareOp .In) (rInT X.K false) := by
  intro pins s σ H x y v u Q I rx ry h
  obtain ⟨d, ds, hd, he, sd, se, q⟩ := h
  obtain ⟨as, r1⟩ := Dp.reads I d x v hd rx
  obtain ⟨bs, r2⟩ := Dp.reads I (.tuple ds) y u he ry
  have := shaped_depth sd
  exact SeqAt.in_tuple_reads r2 r1 (SeqAt.canLay_of_shaped se) (SeqAt.canLay_of_shaped sd) (by omega) ⟨.bl _, H, I, rfl, q⟩
theorem o_notinT (hu : X.A.units + 66 < cLine) : OpR X (compareOp .NotIn) (rInT X.K true) := by
  intro pins s σ H x y v u Q I rx ry h
  obtain ⟨d, ds, hd, he, sd, se, q⟩ := h
  obtain ⟨as, r1⟩ := Dp.reads I d x v hd rx
  obtain ⟨bs, r2⟩ := Dp.reads I (.tuple ds) y u he ry
  have := shaped_depth sd
  exact SeqAt.notIn_tuple_reads r2 r1 (SeqAt.canLay_of_shaped se) (SeqAt.canLay_of_shaped sd) (by omega) ⟨.bl _, H, I, rfl, q⟩
end
section
variable {K : PySem.W.Frag} {L : List Ent} {H : Hp} {Q : VK} {a : Addr} {x : V} {d : PyData} {ds : List PyData} {neg : Bool}
theorem w_inD (hS : St K L H) (hx : See K L x d) (hy : Is L (.ref a) (.tuple ds)) (s1 : SeqAt.shaped d = true) (s2 : SeqAt.shaped (.tuple ds) = true) (h : Q (.bl (if neg then !(ds.any fun z => PyData.eqv z d) else ds.any fun z => PyData.eqv z d)) H) : rInT K neg x (.ref a) H Q :=
  ⟨d, ds, hx.dp hS, hS.dp hy, s1, s2, h⟩
end
end Lg

/-! for over enumerate; lists of lists -/
namespace Lg
open PySem PySem.Spec PyProof.Rows L2
section
variable {K : PySem.W.Frag} {L L' : List Ent} {H : Hp} {Q : VK} {a : Addr} {ds : List PyData} {g : TG} {tbody : TS} {D : Ends} {σ : L2.St}
theorem w_forE (I : Nat → L2.St → Hp → Prop) (h0 : I 0 σ H) (hI : ∀ i σ H, i ≤ ds.length → I i σ H → ∃ L, St K L H ∧ LsIn K L a ds)
    (hs : ∀ i d T σ H H', ds[i]? = some d → I i σ H → (∀ L, St K L H → LsIn K L a ds → St K (.dat (.ref T) (.tuple [.int (i : Nat), d]) :: L) H') → g (.ref T) σ H' fun σ2 H2 => tbody { D with nx := I (i + 1), ct := I (i + 1), bk := D.nx } σ2 H2)
    (hd : ∀ σ H, I ds.length σ H → D.nx σ H) : ForW (Ite K a) g tbody D σ H := by
  refine ⟨fun i m σ H => m = ds.length - i ∧ i ≤ ds.length ∧ I i σ H, ⟨ds.length, by simp, Nat.zero_le _, h0⟩, ?_⟩
  rintro i m σ H ⟨rfl, hi, p⟩
  obtain ⟨L, hS, hl⟩ := hI i σ H hi p
  by_cases hlt : i < ds.length
  · obtain ⟨xs, v, h3, h5, hlen, h6⟩ := hS.item hl (k := i) (d := ds[i]) (by simp [hlt])
    refine .inr ⟨⟨xs, v, SqL.of h3, h5⟩, I (i + 1), fun σ' H' p' => ⟨ds.length - (i + 1), by omega, rfl, hlt, p'⟩, fun x H' y => ?_⟩
    obtain ⟨T, x', rfl, hT, rfl, y⟩ := y
    have hx : xs[i]? = some x' := y xs (SqL.of h3)
    have hxv : v = x' := by rw [h5] at hx; exact Option.some.inj hx
    subst hxv
    refine hs i ds[i] T σ H _ (by simp [hlt]) p fun L2 hS2 hl2 => ?_
    obtain ⟨xs2, v2, k3, k5, _, k6⟩ := hS2.item hl2 (k := i) (d := ds[i]) (by simp [hlt])
    rw [h3] at k3
    cases k3
    rw [h5] at k5
    cases k5
    have h7 := k6.fresh (o := .tup [.int (i : Nat), v]) (v := .ref T) (d := .tuple [.int (i : Nat), ds[i]]) hT fun F hF e q => .tup (SqT.of upd_same) (.cons (.int _) (.cons (Dv.mono (Ex.new hF) _ _ (q _ (.head _))) .nil))
    exact h7.to (.cons .here (.drop .refl))
  · have e : i = ds.length := by omega
    subst e
    obtain ⟨xs, h3, h4⟩ := hS.lenl hl
    exact .inl ⟨⟨xs, SqL.of h3, Nat.le_of_eq h4⟩, hd σ H p⟩
end
end Lg

/-! len(set(texts)): any number of texts, alike ones among them -/
namespace Lg
open PySem PySem.Spec PyProof.Rows L2
abbrev empS (led : Bool) : Obj := { cls := .type "set", dict := none, data := .set #[] 0 (.fresh 0 0 led) }
/-- a set that holds the texts of l, of which there are n -/
def Holds (prog : Program) (w : World) (z : Heap) (S : Addr) (l : List Str) (n : Nat) : Prop := ∃ f : Str → Bool, (∀ k, f k = true ↔ k ∈ l) ∧ z.SetOf (PySem.strKind prog w) S f n ∧ n ≤ l.length ∧ (n = l.length ↔ l.Nodup)
section
variable {prog : Program} {w : World} {A : Around} {R : Result → Shared → Prop} {I : Addr} {fp wr : List Addr} {G : Array GenState → Array GenState → Prop} {n : Nat} {P : Nat → Value → Prop} {T : Nat → Shared → Prop}
theorem Holds.get {z z' : Heap} {S : Addr} {l : List Str} {m : Nat} (h : Holds prog w z S l m) (k : ∀ o, z.get? S = some o → z'.get? S = some o) : Holds prog w z' S l m := by
  obtain ⟨f, h1, ⟨o, es, ep, t, ho, rest⟩, h3⟩ := h
  exact ⟨f, h1, ⟨o, es, ep, t, k _ ho, rest⟩, h3⟩
theorem setLoop (W : WalksS prog w A.in1 I fp wr G n P T) (S : Addr) (out : S ∉ fp) (xs : List Str) (len : xs.length = n) (few : n ≤ 4000)
    (vals : ∀ i v, P i v → ∃ t x, xs[i]? = some x ∧ v = .str x t) :
    ∀ (k i : Nat) (u : Shared), n - i = k → i ≤ n → T i u → (∃ m, Holds prog w u.heap S (xs.take i) m) →
      (∀ u', Moved (S :: wr) G u u' → (∃ m, Holds prog w u'.heap S xs m) → R (.ok (.ret .none)) u') →
      codeAny (model prog w) A (.builtin "set.update.loop" ⟨[.ref S, .ref I], []⟩) R u := by
  have outw : S ∉ wr := fun z => out (W.sub _ z)
  have more : ∀ b ∈ wr, b ∈ S :: wr := fun b hb => .tail _ hb
  intro k
  induction k with
  | zero =>
    intro i u hk hi hT ⟨m, hm⟩ fin
    obtain rfl : i = n := by omega
    refine codeAny_builtin PyProof.Rows.F.entry_set_update_loop ?_
    rw [Around.under_plainId PyProof.Rows.F.plain_set_update_loop _]
    refine wpAny_bind (W.done u _ _ hT fun u' mv => wpAny_pure (fin u' (mv.mono more) ⟨m, ?_⟩))
    rw [← len, List.take_length] at hm
    exact hm.get fun o ho => mv.heap S o outw ho
  | succ k ih =>
    intro i u hk hi hT ⟨m, hm⟩ fin
    have hlt : i < n := by omega
    refine codeAny_builtin PyProof.Rows.F.entry_set_update_loop ?_
    rw [Around.under_plainId PyProof.Rows.F.plain_set_update_loop _]
    refine wpAny_bind (W.item i u _ _ hlt hT fun v u' hP hT' mv => ?_)
    obtain ⟨t, x, hx, rfl⟩ := vals i v hP
    obtain ⟨f, f1, f2, f3, f4⟩ := hm.get (z' := u'.heap) fun o ho => mv.heap S o outw ho
    refine wpAny_bind (wpAny_holding ?_)
    unfold setAdd
    refine wpAny_holding (wpAny_bind ((PySem.strKind prog w).pyHash (k := x) (strKind_is _ _ _ _) ?_))
    have li : (xs.take i).length ≤ 4000 := by rw [List.length_take]; omega
    refine wpAny_setAddHashed_of (knd := PySem.strKind prog w) (s := { u' with toks := u'.toks + 1 }) (strKind_is _ _ _ _) rfl f2 (by unfold scanBound; omega) fun z sb new => ?_
    have tk : xs.take (i + 1) = xs.take i ++ [x] := by rw [List.take_succ, hx]; rfl
    have lt : (xs.take i).length = i := by rw [List.length_take]; omega
    refine wpAny_pure ⟨plainId_quiet PyProof.Rows.F.plain_set_update_loop _, ih (i + 1) _ (by omega) hlt (W.frame _ u' _ _ hT' (Nat.le_succ _) fun b hb o e => ?_) ⟨_, _, ?_, new, ?_⟩ fun u2 mv2 h2 => ?_⟩
    · rw [sb.2 b (fun z => out (by rw [← z]; exact hb))]; exact e
    · intro q
      rw [tk, List.mem_append, Bool.or_eq_true, f1 q, decide_eq_true_eq, List.mem_singleton]
    · rw [tk, List.length_append, List.nodup_append]
      by_cases hf : f x = true
      · rw [if_pos hf]
        refine ⟨by simp; omega, ⟨fun z => ?_, fun z => ?_⟩⟩
        · simp at z; omega
        · exact absurd rfl (z.2.2 x ((f1 x).mp hf) x (List.mem_singleton.mpr rfl))
      · rw [if_neg hf]
        have nx : x ∉ xs.take i := fun z => hf ((f1 x).mpr z)
        refine ⟨by simp; omega, ⟨fun z => ?_, fun z => ?_⟩⟩
        · refine ⟨f4.mp (by simp at z; omega), by simp, fun y hy y' hy' e => ?_⟩
          rw [List.mem_singleton] at hy'
          subst hy'
          subst e
          exact nx hy
        · have := f4.mpr z.1
          simp; omega
    · refine fin u2 (Moved.trans W.gtrans ((mv.mono more).then_heap (Nat.le_succ _) fun b o hb e => ?_) mv2) h2
      rw [sb.2 b (fun z => hb (by rw [z]; exact .head _))]; exact e
end
section
variable {prog : Program} {w : World} {A : Around} {E : Value → Shared → Prop} {u : Shared}
theorem texts_at {us : List Value} {xs : List Str} (h : StrsAre us xs) : ∀ {i : Nat} {v : Value}, us[i]? = some v → ∃ t, v = .str (xs.getD i Str.empty) t := by
  induction h with
  | nil => intro i v e; simp at e
  | cons n t _ ih =>
    intro i v e
    cases i with
    | zero => simp at e; exact ⟨t, e.symm⟩
    | succ i => simpa using ih (by simpa using e)
/-- set(a tuple of texts) -/
theorem setOfTup {l : Addr} {its : Array Value} {xs : List Str} {Q : Value → Shared → Prop} (quiet : A.handled = none) (tup : u.heap.IsTuple l its) (are : StrsAre its.toList xs) (few : xs.length ≤ 4000)
    (fin : ∀ (z : Heap) (tk m : Nat), Holds prog w z u.heap.objs.size xs m → (∀ b o, b < u.heap.objs.size → u.heap.get? b = some o → z.get? b = some o) → Q (.ref u.heap.objs.size) { u with heap := z, toks := tk }) :
    wpAny (model prog w) A (call (.type "set") [.ref l]) Q E u := by
  obtain ⟨c, tl, hmro⟩ := PySem.F.called_set.mro
  have m1 := PySem.F.called_set.made
  have m2 := PySem.F.called_set.sub
  have m3 := PySem.F.called_set.notType
  have m4 := PySem.F.called_set.canCreate
  have m5 := PySem.F.typeCall_set_1 (.ref l)
  refine wpAny_call (codeAny_of_tree (show wpAny _ _ (callAny (.type "set") _) _ _ _ from ?_))
  refine wpAny_pure ⟨Code.quiet_builtin _ (by decide +kernel), codeAny_builtin PySem.F.entry_type_call ?_⟩
  rw [Around.under_plain (weight_type_call_type "set" [.ref l] []) rfl]
  repeat (any_goals (first | assumption | wp_step))
  refine codeAny_mono (code_set_new_1 (.ref l) (E := E) (Q₁ := fun v u1 => ∃ led : Bool, v = .ref u.heap.objs.size ∧ u1 = { u with heap := u.heap.push (empS led) }) fun led => ⟨led, rfl, rfl⟩) fun r u1 hr => ?_
  cases r with
  | error e => exact hr
  | ok fl =>
    cases fl with
    | ret v =>
      obtain ⟨led, rfl, rfl⟩ := hr
      have g1 : (u.heap.push (empS led)).get? u.heap.objs.size = some (empS led) := Heap.get?_push_size _ rfl
      have g2 : Shared.TypeIs { u with heap := u.heap.push (empS led) } (.ref u.heap.objs.size) "set" := ⟨_, g1, rfl⟩
      have g3 := PySem.F.called_set.init.lookup
      have g4 := PySem.F.called_set.init.bind (.ref u.heap.objs.size)
      repeat (any_goals (first | assumption | wp_step))
      refine codeAny_mono (codeAny_call_builtin (R := wants (fun r u2 => r = .none ∧ ∃ z tk m, u2 = { u with heap := z, toks := tk } ∧ Holds prog w z u.heap.objs.size xs m ∧
          (∀ b o, b < u.heap.objs.size → u.heap.get? b = some o → z.get? b = some o)) E) PySem.F.called_set.init.plain PySem.F.entry_set_init (check_set_init_1 g2 ?_)) fun r u2 hr2 => ?_
      · obtain ⟨⟨oc, od, odt, osl⟩, ho, hc, nl, hd⟩ := tup
        dsimp only at hc hd
        subst hc
        subst hd
        have t1 : (u.heap.push (empS led)).get? l = some { cls := .type "tuple", dict := od, data := .seq its nl, slots := osl } := Heap.get?_push_of_some _ ho
        have t2 := PySem.F.sub_tuple_set
        have t3 := PySem.F.sub_tuple_frozenset
        have t4 : (Value.type "tuple" == Value.type "dict") = false := by decide
        have t5 : (u.heap.push (empS led)).IsTuple l its := ⟨_, t1, rfl, nl, rfl⟩
        unfold Builtin.«set.__init__» noKeywords Builtin.Frozenset.updateFrom
        generalize hPI : pyIter = PI
        wp_walk
        subst hPI
        refine wpAny_pyIter_tuple t5 (wpAny_bind (wpAny_runValue ?_))
        have sz : (u.heap.push (empS led)).objs.size = Nat.succ u.heap.objs.size := by rw [Heap.size_push]
        have lt : l < u.heap.objs.size := Heap.lt_size ho
        have len : xs.length = its.size := by rw [← StrsAre.len_eq are, Array.length_toList]
        have ne1 : l ≠ (u.heap.push (empS led)).objs.size := by rw [sz]; exact Nat.ne_of_lt (Nat.lt_succ_of_lt lt)
        have out : u.heap.objs.size ∉ [(u.heap.push (empS led)).objs.size, l] := by
          intro z
          rcases List.mem_cons.mp z with z | z
          · rw [sz] at z
            exact Nat.ne_of_lt (Nat.lt_succ_self _) z
          · rw [List.mem_singleton] at z
            rw [← z] at lt
            exact Nat.lt_irrefl _ lt
        refine setLoop ((Walks.tuple (by simp [quiet]) _ l ne1 its).toS) u.heap.objs.size out xs len (by omega) (fun i v hv => ?_) (its.size - 0) 0 _ (by omega) (Nat.zero_le _)
          ⟨⟨_, Heap.get?_push_size _ rfl, rfl, rfl⟩, (t5.push _)⟩ ⟨0, fun _ => false, fun k => by simp, ?_, by simp, by simp⟩ fun u3 mv h3 => ?_
        · have hv' : its.toList[i]? = some v := by rw [Array.getElem?_toList]; exact hv
          obtain ⟨t, e⟩ := texts_at are hv'
          have il : i < xs.length := by
            have := (List.getElem?_eq_some_iff.mp hv').1
            rw [Array.length_toList] at this
            omega
          exact ⟨t, xs[i], List.getElem?_eq_getElem il, by rw [e, List.getD_eq_getElem?_getD, List.getElem?_eq_getElem il]; rfl⟩
        · exact (PyProof.Rows.setObjOf_fresh (knd := PySem.strKind prog w) led).setOf (Heap.get?_push_of_some _ g1) (by unfold scanBound; omega)
        · obtain ⟨m, h3⟩ := h3
          obtain ⟨z, gz, dz, tz, oz⟩ := u3
          obtain rfl : gz = u.gens := mv.gens
          obtain rfl : dz = u.drawn := mv.drawn
          obtain rfl : oz = u.os := mv.os
          refine wpAny_pure (wpAny_pure ⟨rfl, z, tz, m, rfl, h3, fun b o hb e => ?_⟩)
          refine mv.heap b o (fun z => ?_) (Heap.get?_push_of_some _ (Heap.get?_push_of_some _ e))
          rcases List.mem_cons.mp z with z | z
          · exact Nat.ne_of_lt hb z
          · rw [List.mem_singleton] at z
            rw [z] at hb
            have hb : (u.heap.push (empS led)).objs.size < u.heap.objs.size := hb
            rw [sz] at hb
            exact Nat.lt_irrefl _ (Nat.lt_trans (Nat.lt_succ_self _) hb)
      · cases r with
        | error e => exact hr2
        | ok fl2 =>
          cases fl2 with
          | ret v =>
            obtain ⟨rfl, z, tk, m, rfl, hz, keep⟩ := hr2
            repeat (any_goals (first | assumption | wp_step))
            exact fin z tk m hz keep
          | _ => exact hr2.elim
    | _ => exact hr.elim
end
section
variable {X : Cx}
/-- len(set(a tuple of texts)) -/
def tLenSetT (K : PySem.W.Frag) (ta : TE) : TE := fun σ H Q => ta σ H fun x H1 => ∃ (l : Addr) (xs : List Str), x = .ref l ∧ SqT K H1 l (xs.map V.str) ∧ xs.length ≤ 4000 ∧ ∀ m : Nat, m ≤ xs.length → (m = xs.length ↔ xs.Nodup) → Q (.int m) H1
theorem strs_of {ys : List Str} {us : List Value} (h : Vals (ys.map V.str) us) : StrsAre us ys := by
  induction ys generalizing us with
  | nil => cases h; exact .nil
  | cons y ys ih =>
    cases h with
    | cons r t =>
      obtain ⟨k, rfl⟩ := r
      exact .cons y k (ih t)
theorem pe_lenSetT {a : Expr} {ta : TE} {p p2 q pos : Pos} (hc : X.calm = true) (g1 : Gl X "len") (m1 : X.mg "len" = none) (g2 : Gl X "set") (m2 : X.mg "set" = none) (ha : PE X a ta)
    (na : starEach [a] X.env = (false, eval a X.env) :: starEach [] X.env := by rfl) : PE X (.Call (.Name "len" p) [.Call (.Name "set" p2) [a] [] q] [] pos) (tLenSetT X.K ta) := by
  refine ⟨fun pins u σ H Q I h => ?_⟩
  refine Call_ (ld_blt I g1 m1 boot_len (PyProof.Rows.callWith_builtin1 (PyProof.Rows.args_cons ?_ rfl) rfl rfl))
  refine Call_ (ld_blt I g2 m2 boot_set (PyProof.Rows.callWith_type1 (PyProof.Rows.args_cons (thn (ha.run pins u σ H _ I h) fun v u1 ⟨x, H1, I1, r1, q1⟩ => PyProof.Rows.args_nil ?_) na) na rfl))
  obtain ⟨l, xs, rfl, hq, few, q1⟩ := q1
  cases r1
  obtain ⟨its, r, pl, _⟩ := I1.tuple hq
  refine setOfTup (I1.ok.hd hc) pl (by simpa using strs_of r) few fun z tk m hz keep => PyProof.Rows.args_nil ?_
  obtain ⟨f, _, ⟨o, es, ep, t, ho, hex, hd, _, _, _, hf, hn⟩, le, iff⟩ := hz
  have I2 : Inv X pins σ H1 { u1 with heap := z, toks := tk } := I1.kept fun b o e => keep b o (Heap.lt_size e) e
  exact call_len_set ho hex hd hf (by rw [hn]; omega) ⟨.int m, H1, I2.tok _, ⟨_, by rw [hn]⟩, q1 m le iff⟩
end
end Lg

/-! texts: replace, cuts at a sign (with a limit or without), f-strings, the beginning -/
namespace Lg
open PySem PySem.Spec PyProof.Rows L2 PySem.NumText
section
variable {X : Cx} {e f o : Expr} {te tf to : TE} {es : List Expr} {ta : TA} {pos apos : Pos}
/-- e gives a token out -/
structure PEk (X : Cx) (e : Expr) (t : TE) : Prop where
  run : ∀ (pins : List (Addr × Obj)) (u : Shared) (σ : L2.St) (H : Hp) (Q : VK), Inv X pins σ H u → t σ H Q →
  wpAny (model X.prog X.w) X.A (eval e X.env) (fun v u1 => 1 ≤ u1.toks ∧ EP X pins σ Q v u1) X.xe u
theorem pek_str {x : Str} {j : Nat} : PEk X (.Constant (.str x) j pos) (tC (.str x)) := ⟨fun pins u σ H Q I h => Calls.Constant_str ⟨by show 1 ≤ u.toks + 1; omega, .str x, H, I.tok _, ⟨_, rfl⟩, h⟩⟩
theorem pek_op {op : Operator} {r : R2} (ho : OpR X (binaryOp op) r) (ha : PEk X e te) (hb : PE X f tf) : PEk X (.BinOp e op f pos) (tOp r te tf) := by
  constructor
  intro pins u σ H Q I h
  refine wpAny_BinOp (wpAny_mono (ha.run pins u σ H _ I h) (fun v u1 q => ?_) fun _ _ z => z)
  obtain ⟨hk, x, H1, I1, r1, q1⟩ := q
  refine wpAny_mono (wpAny_toks_of hk (hb.run pins u1 σ H1 _ I1 q1)) (fun w u2 q2 => ?_) fun _ _ z => z.2
  obtain ⟨hk2, y, H2, I2, r2, q2⟩ := q2
  exact wpAny_mono (wpAny_toks_of hk2 (ho pins u2 σ H2 x y v w Q I2 r1 r2 q2)) (fun _ _ z => z) fun _ _ z => z.2
theorem pe_opk {op : Operator} {r : R2} (ho : OpR X (binaryOp op) r) (ha : PEk X e te) (hb : PET X f tf) : PE X (.BinOp e op f pos) (tOp r te tf) := by
  refine ⟨fun pins u σ H Q I h => wpAny_BinOp (wpAny_mono (ha.run pins u σ H _ I h) (fun v u1 q => ?_) fun _ _ z => z)⟩
  obtain ⟨hk, x, H1, I1, r1, q1⟩ := q
  exact thn (hb pins u1 σ H1 _ hk I1 q1) fun w u2 ⟨y, H2, I2, r2, q2⟩ => ho pins u2 σ H2 x y v w Q I2 r1 r2 q2
theorem pa_consk (ha : PEk X e te) (hr : PAT X es ta) (hs : starEach (e :: es) X.env = (false, eval e X.env) :: starEach es X.env := by rfl) : PA X (e :: es) (tCons te ta) := by
  refine ⟨fun p pins u σ H Q I h => ?_⟩
  rw [hs]
  refine Calls.spliced_cons (wpAny_mono (ha.run pins u σ H _ I h) (fun v u1 q => ?_) fun _ _ z => z)
  obtain ⟨hk, x, H1, I1, r1, q1⟩ := q
  exact thn (hr p pins u1 σ H1 _ hk I1 q1) fun us u2 ⟨xs, H2, I2, r2, q2⟩ => ⟨x :: xs, H2, I2, .cons r1 r2, q2⟩
/-- two texts of the module, each with a token of its own -/
def rawB (K : PySem.W.Frag) (n m y z : Str) : Bool := match PySem.W.nsIn K mainGlobals n, PySem.W.nsIn K mainGlobals m with
  | some (some (.str a t)), some (some (.str b k)) => decide (a = y) && (decide (b = z) && (decide (t ≠ 0) && (decide (k ≠ 0) && decide (t ≠ k))))
  | _, _ => false
def Raw2 (mg : Str → Option Value) (n m y z : Str) : Prop := ∃ t k : Tok, mg n = some (.str y t) ∧ mg m = some (.str z k) ∧ t ≠ 0 ∧ k ≠ 0 ∧ t ≠ k
theorem rawB_ok {K : PySem.W.Frag} {h : Heap} {mg : Str → Option Value} (X : K.In h) (G : h.Ns mainGlobals mg) {n m y z : Str} (c : rawB K n m y z = true) : Raw2 mg n m y z := by
  unfold rawB at c
  split at c
  · rename_i a t b k e1 e2
    simp only [Bool.and_eq_true, decide_eq_true_eq] at c
    obtain ⟨rfl, rfl, c1, c2, c3⟩ := c
    exact ⟨t, k, PySem.W.mg_of X G e1, PySem.W.mg_of X G e2, c1, c2, c3⟩
  · cases c
theorem pe_replN {n m y z : Str} {p1 p2 : Pos} (ho : PE X o to) (gn : Gl X n) (gm : Gl X m) (raw : Raw2 X.mg n m y z) (hyz : (y == z) = false := by decide)
    (hst : starEach [.Name n p1, .Name m p2] X.env = [(false, eval (.Name n p1) X.env), (false, eval (.Name m p2) X.env)] := by rfl)
    (hbase : attributeBase o "replace" X.env (eval o X.env) = eval o X.env := by rfl) (hline : (apos.endLine == pos.line) = true := by rfl)
    (hn : (n == ("__debug__" : Str)) = false := by decide) (hm : (m == ("__debug__" : Str)) = false := by decide) :
    PE X (.Call (.Attribute o "replace" apos) [.Name n p1, .Name m p2] [] pos) (CwR.tReplC to y z) := by
  obtain ⟨t, k, m1, m2, t0, k0, tk⟩ := raw
  refine ⟨fun pins u σ H Q I h => PySem.Call_method2 hbase hst hline (thn (ho.run pins u σ H _ I h) fun v u1 q => ?_)⟩
  obtain ⟨v', H1, I1, r1, x, rfl, hb, q⟩ := q
  obtain ⟨tx, rfl⟩ := r1
  refine ⟨"str", _, PySem.F.plainAttrs_str, PySem.F.slot_str_replace, PySem.F.type_str_replace, typeIs_str _ _ _, (fun _ e => nomatch e), ?_⟩
  refine Calls.callWith_builtin rfl (Calls.evalArgs_plain (Calls.spliced_cons (ld_glob I1 gn m1 (Calls.spliced_cons (ld_glob I1 gm m2 (Calls.spliced_nil ?_) hm)) hn)))
  exact PySem.SC.replace t0 k0 tk hyz hb fun t' j => ⟨.str (Txt.replace x y z), H1, I1.tok j, ⟨t', rfl⟩, q⟩
end
/-! ### cuts -/
/-- at most k cuts at c -/
def spM (c : Nat) : Nat → List Nat → List (List Nat)
  | 0, l => [l]
  | k + 1, l => if c ∈ l then l.takeWhile (· != c) :: spM c k ((l.dropWhile (· != c)).drop 1) else [l]
theorem cut_at {c : Nat} : ∀ {l : List Nat}, c ∈ l → l = l.takeWhile (· != c) ++ c :: (l.dropWhile (· != c)).drop 1 ∧ c ∉ l.takeWhile (· != c)
  | [], h => by cases h
  | x :: r, h => by
    by_cases e : x = c
    · subst e
      simp
    · have hr : c ∈ r := by
        cases h with
        | head => exact absurd rfl e
        | tail _ h => exact h
      obtain ⟨h1, h2⟩ := cut_at hr
      have hb : (x != c) = true := by simpa using e
      rw [List.takeWhile_cons_of_pos (p := (· != c)) hb, List.dropWhile_cons_of_pos (p := (· != c)) hb]
      refine ⟨by rw [List.cons_append, ← h1], fun z => ?_⟩
      cases z with
      | head => exact e rfl
      | tail _ z => exact h2 z
/-- where c stands, counted from a -/
def posL (c : Nat) : Nat → List Nat → List Nat
  | _, [] => []
  | a, x :: r => if x = c then a :: posL c (a + 1) r else posL c (a + 1) r
theorem posL_free {c : Nat} : ∀ {l : List Nat} {a : Nat}, c ∉ l → posL c a l = []
  | [], _, _ => rfl
  | x :: r, a, h => by
    have e : ¬ x = c := fun z => h (by rw [z]; exact .head _)
    rw [posL, if_neg e]
    exact posL_free fun z => h (.tail _ z)
theorem posL_app {c : Nat} : ∀ {p r : List Nat} {a : Nat}, c ∉ p → posL c a (p ++ c :: r) = (a + p.length) :: posL c (a + p.length + 1) r
  | [], r, a, _ => by simp [posL]
  | x :: p, r, a, h => by
    have e : ¬ x = c := fun z => h (by rw [z]; exact .head _)
    rw [List.cons_append, posL, if_neg e, posL_app fun z => h (.tail _ z), List.length_cons]
    have e1 : a + 1 + p.length = a + (p.length + 1) := by omega
    rw [e1]
theorem sub_one {l : List Nat} {c i : Nat} : Builtin.Str.subAt (S l) (S [c]) i = decide (l[i]? = some c) := by
  rw [StrLaws.subAt_eq]
  show ((l.drop i).take 1 == [c]) = _
  by_cases h : l[i]? = some c
  · rw [decide_eq_true h]
    obtain ⟨hi, hx⟩ := List.getElem?_eq_some_iff.mp h
    rw [List.drop_eq_getElem_cons hi, hx]
    simp
  · rw [decide_eq_false h]
    cases hd : l.drop i with
    | nil => simp
    | cons x r =>
      have h3 : l[i]? = some x := by
        have := congrArg (fun z => z[0]?) hd
        simpa using this
      rw [h3] at h
      have hx : ¬ x = c := fun z => h (by rw [z])
      simp [hx]
theorem occ_one {l : List Nat} {c k : Nat} : ∀ (r : List Nat) (a : Nat) (found : Array Nat) (free : Nat), l.drop a = r → free ≤ a → found.size ≤ k →
    (forIn (List.range' a (r.length + 1)) (found, free) (StrLaws.occBody (S l) (S [c]) l.length k)).run.fst.toList = found.toList ++ (posL c a r).take (k - found.size)
  | [], a, found, free, hr, hf, hk => by
    have ha : l.length ≤ a := by
      have := congrArg List.length hr
      simp at this
      omega
    rw [List.length_nil, List.range'_succ, List.forIn_cons]
    have hc : ¬ (((found.size < k ∧ free ≤ a) ∧ a + (S [c]).length ≤ l.length) ∧ Builtin.Str.subAt (S l) (S [c]) a = true) := fun z => by
      have := z.1.2
      have e : (S [c]).length = 1 := rfl
      omega
    unfold StrLaws.occBody
    rw [if_neg hc]
    simp [posL]
  | x :: r, a, found, free, hr, hf, hk => by
    have ha : a < l.length := by
      have := congrArg List.length hr
      simp at this
      omega
    have hx : l[a]? = some x := by
      have := congrArg (fun z => z[0]?) hr
      simpa using this
    have hr2 : l.drop (a + 1) = r := by
      have := congrArg (List.drop 1) hr
      simpa [Nat.add_comm] using this
    rw [List.length_cons, List.range'_succ, List.forIn_cons]
    have e : (S [c]).length = 1 := rfl
    have ih := fun f2 fr h1 h2 => occ_one (l := l) (c := c) (k := k) r (a + 1) f2 fr hr2 h1 h2
    unfold StrLaws.occBody at ih ⊢
    by_cases hh : (((found.size < k ∧ free ≤ a) ∧ a + (S [c]).length ≤ l.length) ∧ Builtin.Str.subAt (S l) (S [c]) a = true)
    · rw [if_pos hh]
      have hxc : x = c := by
        have := hh.2
        rw [sub_one, hx] at this
        simpa using this
      show Array.toList (Prod.fst (Id.run (forIn (List.range' (a + 1) (r.length + 1)) (found.push a, a + (S [c]).length) _))) = _
      rw [ih _ _ (by omega) (by rw [Array.size_push]; omega), posL, if_pos hxc, Array.size_push]
      have e2 : k - found.size = (k - (found.size + 1)) + 1 := by have := hh.1.1.1; omega
      rw [e2, List.take_succ_cons]
      simp
    · rw [if_neg hh]
      show Array.toList (Prod.fst (Id.run (forIn (List.range' (a + 1) (r.length + 1)) (found, free) _))) = _
      rw [ih _ _ (by omega) hk, posL]
      by_cases hxc : x = c
      · rw [if_pos hxc]
        have hk2 : k - found.size = 0 := by
          by_cases hlt : found.size < k
          · exact absurd ⟨⟨⟨hlt, hf⟩, by omega⟩, by rw [sub_one, hx, hxc]; simp⟩ hh
          · omega
        rw [hk2]
        simp
      · rw [if_neg hxc]
theorem occ_is {l : List Nat} {c k : Nat} : Builtin.Str.occurrences (S l) (S [c]) 0 l.length k = (posL c 0 l).take k := by
  rw [StrLaws.occ_eq]
  have := occ_one (l := l) (c := c) (k := k) l 0 #[] 0 rfl (Nat.le_refl _) (Nat.zero_le _)
  simpa using this
theorem parts_is {l : List Nat} {c : Nat} : ∀ (k a : Nat), a ≤ l.length → (StrLaws.partsFrom (S l) 1 a ((posL c a (l.drop a)).take k)).map TL.tl = spM c k (l.drop a)
  | 0, a, ha => by
    rw [List.take_zero]
    show [TL.tl (Builtin.Str.strSub (S l) a (S l).length)] = _
    rw [TL.tl_strSub_end]
    rfl
  | k + 1, a, ha => by
    unfold spM
    by_cases h : c ∈ l.drop a
    · rw [if_pos h]
      obtain ⟨h1, h2⟩ := cut_at h
      generalize (l.drop a).takeWhile (· != c) = p at *
      generalize ((l.drop a).dropWhile (· != c)).drop 1 = q at *
      have hl := congrArg List.length h1
      rw [List.length_drop, List.length_append, List.length_cons] at hl
      have hd : q = l.drop (a + p.length + 1) := by
        rw [show a + p.length + 1 = a + (p.length + 1) by omega, ← List.drop_drop, h1]
        simp
      have hp : posL c a (l.drop a) = (a + p.length) :: posL c (a + p.length + 1) (l.drop (a + p.length + 1)) := by
        rw [← hd, h1]
        exact posL_app h2
      rw [hp, List.take_succ_cons]
      show TL.tl (Builtin.Str.strSub (S l) a (a + p.length)) :: (StrLaws.partsFrom (S l) 1 (a + p.length + 1) _).map TL.tl = _
      rw [parts_is k (a + p.length + 1) (by omega), TL.tl_strSub, ← hd]
      congr 1
      show (l.drop a).take (a + p.length - a) = _
      rw [show a + p.length - a = p.length by omega, h1, List.take_left]
    · rw [if_neg h, posL_free h, List.take_nil]
      show [TL.tl (Builtin.Str.strSub (S l) a (S l).length)] = _
      rw [TL.tl_strSub_end]
theorem sub_all {l : List Nat} : Builtin.Str.strSub (S l) 0 (S l).length = S l := by
  have := TL.tl_strSub_end (S l) 0
  rw [List.drop_zero] at this
  rw [← TL.mk_tl (Builtin.Str.strSub (S l) 0 (S l).length), this]
theorem kind1 {c : Nat} (h : c < 256) (x : Str) : ¬ Builtin.Str.strKind x < Builtin.Str.strKind (S [c]) := TL.kind_ok (by simp [S, h])
theorem map_tl {xs : List Str} {ys : List (List Nat)} (h : xs.map TL.tl = ys) : xs = ys.map S := by
  subst h
  rw [List.map_map]
  conv => lhs; rw [← List.map_id xs]
  exact List.map_congr_left fun x _ => (TL.mk_tl x).symm
theorem cuts_is {l : List Nat} {c k : Nat} : StrLaws.partsFrom (S l) 1 0 ((posL c 0 l).take k) = (spM c k l).map S := by
  have := parts_is (l := l) (c := c) k 0 (Nat.zero_le _)
  rw [List.drop_zero] at this
  exact map_tl this
theorem cutS_gen {l : List Nat} {c k : Nat} (hc : c < 256) : (if (decide ((S l).length < (S [c]).length) || decide (Builtin.Str.strKind (S l) < Builtin.Str.strKind (S [c]))) = true then [S l] else
    if (Builtin.Str.occurrences (S l) (S [c]) 0 (S l).length k).isEmpty = true then [S l] else Builtin.Str.partsBetween (S l) (Builtin.Str.occurrences (S l) (S [c]) 0 (S l).length k) (S [c]).length) = (spM c k l).map S := by
  rw [S_len l, occ_is, StrLaws.partsBetween_eq, ← cuts_is]
  have e1 : (S [c]).length = 1 := rfl
  rw [e1]
  have hs : StrLaws.partsFrom (S l) 1 0 [] = [S l] := by
    show [Builtin.Str.strSub (S l) 0 (S l).length] = _
    rw [sub_all]
  by_cases h1 : (decide (l.length < 1) || decide (Builtin.Str.strKind (S l) < Builtin.Str.strKind (S [c]))) = true
  · rw [if_pos h1]
    have hl : l = [] := by
      rw [Bool.or_eq_true, decide_eq_true_eq, decide_eq_true_eq] at h1
      rcases h1 with h1 | h1
      · exact List.length_eq_zero_iff.mp (by omega)
      · exact absurd h1 (kind1 hc _)
    subst hl
    simp only [posL, List.take_nil]
    exact hs.symm
  · rw [if_neg h1]
    by_cases h2 : ((posL c 0 l).take k).isEmpty = true
    · rw [if_pos h2, List.isEmpty_iff.mp h2]
      exact hs.symm
    · rw [if_neg h2]
theorem split_is {l : List Nat} {c : Nat} (hc : c < 256) : Txt.split (S l) (S [c]) = (spM c (l.length + 1) l).map S := by
  have := cutS_gen (l := l) (k := (S l).length + 1) hc
  rw [S_len] at this
  unfold Txt.split
  rw [S_len]
  exact this
theorem splitMax_is {l : List Nat} {c k : Nat} (hc : c < 256) : Txt.splitMax (S l) (S [c]) (k : Int) = (spM c k l).map S := by
  have e : PySem.limitOf (S l) (k : Int) = k := by
    unfold PySem.limitOf
    rw [if_neg (by omega)]
    omega
  unfold Txt.splitMax
  rw [e]
  exact cutS_gen hc
theorem tw_free {c : Nat} : ∀ {l : List Nat}, c ∉ l → l.takeWhile (· != c) = l ∧ l.dropWhile (· != c) = []
  | [], _ => ⟨rfl, rfl⟩
  | x :: r, h => by
    have hb : (x != c) = true := by simpa using fun z => h (by rw [z]; exact .head _)
    obtain ⟨h1, h2⟩ := tw_free (l := r) fun z => h (.tail _ z)
    rw [List.takeWhile_cons_of_pos (p := (· != c)) hb, List.dropWhile_cons_of_pos (p := (· != c)) hb, h1, h2]
    exact ⟨rfl, rfl⟩
theorem part_is {l : List Nat} {c : Nat} : Txt.partition (S l) (S [c]) = (S (l.takeWhile (· != c)), S (if c ∈ l then [c] else []), S ((l.dropWhile (· != c)).drop 1)) := by
  by_cases h : c ∈ l
  · obtain ⟨h1, h2⟩ := cut_at h
    rw [if_pos h]
    refine SX.partition_some (by simp) ?_
    have := TL.par_part1 (s := c) (S := []) (p := l.takeWhile (· != c)) (rest := (l.dropWhile (· != c)).drop 1) (acc := []) h2
    simp only [List.nil_append, List.cons_append] at this
    rw [← h1] at this
    exact this
  · rw [if_neg h, SX.partition_none (by simp) (TL.par_none1 h)]
    obtain ⟨e1, e2⟩ := tw_free h
    rw [e1, e2]
    rfl
theorem starts_is {l : List Nat} {c : Nat} : Txt.startswith (S l) (S [c]) = decide (l.head? = some c) := by
  unfold Txt.startswith
  rw [sub_one, S_len]
  cases l with
  | nil => rfl
  | cons x r =>
    have e1 : 1 ≤ (S (x :: r)).length := by rw [S_len]; simp
    simp
    intro _
    exact e1
theorem remp_is {l : List Nat} {c : Nat} : Txt.removeprefix (S l) (S [c]) = S (if l.head? = some c then l.drop 1 else l) := by
  rw [StrLaws.removeprefix_eq, sub_one, S_len, S_len]
  cases l with
  | nil => simp
  | cons x r =>
    by_cases h : x = c
    · subst h
      simp
    · simp [h]
theorem repl_is {l : List Nat} {a b : Nat} : Txt.replace (S l) (S [a]) (S [b]) = S (l.map fun x => if x = a then b else x) := by
  rw [← TL.mk_tl (Txt.replace (S l) (S [a]) (S [b]))]
  congr 1
  show (Txt.replace (S l) (S [a]) (S [b])).cps.toList.toArray = _
  rw [StrLaws.replace_list (by show 1 ≤ 1; omega)]
  congr 1
  show StrLaws.replL [a] [b] l = _
  induction l with
  | nil => exact StrLaws.replL_nil
  | cons x r ih =>
    by_cases h : x = a
    · rw [StrLaws.replL_hit (by simp) (by simp [h])]
      simp [h, ih]
    · rw [StrLaws.replL_miss (by simpa using h)]
      simp [h, ih]
/-- a number, its sign with it -/
def dgI (i : Int) : List Nat := if i < 0 then 45 :: dg i.natAbs else dg i.natAbs
theorem dgI_text (i : Int) : Str.ofString (toString i) = S (dgI i) := by
  unfold dgI
  cases i with
  | ofNat n => rw [if_neg (by show ¬ ((n : Int) < 0); omega)]; exact dg_text n
  | negSucc m =>
    rw [if_pos (Int.negSucc_lt_zero m)]
    have e : toString (Int.negSucc m) = "-" ++ toString ((m + 1 : Nat) : Int) := rfl
    rw [S_of (Str.ofString (toString (Int.negSucc m)))]
    congr 1
    rw [e, signs_ofString, String.toList_append, List.map_append, ← signs_ofString (toString ((m + 1 : Nat) : Int)), dg_text (m + 1)]
    rfl
end Lg

/-! texts: the rules over the ledger -/
namespace Lg
open PySem PySem.Spec PyProof.Rows L2
def rSplit1 : V → List V → Hp → VK → Prop := fun x xs H Q => ∃ a b, x = .str a ∧ xs = [.str b] ∧ (b.length == 0) = false ∧ a.length + 2 ≤ sizeLine ∧ rNewStrs (Txt.split a b) H Q
def rSplitM : V → List V → Hp → VK → Prop := fun x xs H Q => ∃ (a b : Str) (k : Int), x = .str a ∧ xs = [.str b, .int k] ∧ (b.length == 0) = false ∧ -(2 ^ 63) ≤ k ∧ k < 2 ^ 63 ∧ a.length + 2 ≤ sizeLine ∧ rNewStrs (Txt.splitMax a b k) H Q
def rPartX : V → List V → Hp → VK → Prop := fun x xs H Q => ∃ a b, x = .str a ∧ xs = [.str b] ∧ (b.length == 0) = false ∧ a.length ≤ sizeLine ∧
  ∀ p, H p = none → Q (.ref p) (upd H p (.tup [.str (Txt.partition a b).1, .str (Txt.partition a b).2.1, .str (Txt.partition a b).2.2]))
def rStarts : V → List V → Hp → VK → Prop := fun x xs H Q => ∃ a b, x = .str a ∧ xs = [.str b] ∧ Q (.bl (Txt.startswith a b)) H
def rRemp : V → List V → Hp → VK → Prop := fun x xs H Q => ∃ a b, x = .str a ∧ xs = [.str b] ∧ a.length ≤ sizeLine ∧ Q (.str (Txt.removeprefix a b)) H
def tFS (ts : List TE) : TE := fun σ H Q => tJs ts Str.empty σ H fun out H1 => Q (.str out) H1
section
variable {X : Cx}
theorem m_split1 : MtR X "str.split" rSplit1 := mt_split
theorem m_splitM : MtR X "str.split" rSplitM := mt_splitMax
theorem m_part : MtR X "str.partition" rPartX := mt_partition
theorem m_starts : MtR X "str.startswith" rStarts := mt_startswith
theorem m_remp : MtR X "str.removeprefix" rRemp := mt_removeprefix
theorem pe_fs {v1 v2 : Expr} {rest : List Expr} {ts : List TE} {pos : Pos} (h : PJ X (v1 :: v2 :: rest) ts) : PE X (.JoinedStr (v1 :: v2 :: rest) pos) (tFS ts) := pe_joined h
end
section
variable {K : PySem.W.Frag} {L : List Ent} {H : Hp} {σ : L2.St} {Q : VK} {a : Addr} {i : Int} {k c : Nat} {l : List Nat} {v : V} {d : PyData} {ds : List PyData}
abbrev sD (x : List Nat) : PyData := .str (S x)
theorem strs_ls {xs : List (List Nat)} {F : Hp} : DvAll K F (xs.map fun x => V.str (S x)) (xs.map sD) := by
  induction xs with
  | nil => exact .nil
  | cons x xs ih => exact .cons (.str _) ih
theorem w_newStrs {xs : List (List Nat)} {ys : List Str} (hS : St K L H) (e : ys = xs.map S) (h : ∀ p H', St K (Lg.ls K p (xs.map sD) :: L) H' → Q (.ref p) H') : rNewStrs ys H Q := by
  subst e
  intro p hp
  refine h p _ (hS.alloc hp fun F _ _ => ⟨_, rfl, ?_⟩)
  rw [List.map_map]
  exact strs_ls
theorem w_split1 (hS : St K L H) (hl : l.length ≤ 100000) (hc : c < 256) (h : ∀ p H', St K (Lg.ls K p ((spM c (l.length + 1) l).map sD) :: L) H' → Q (.ref p) H') : rSplit1 (.str (S l)) [.str (S [c])] H Q :=
  ⟨_, _, rfl, rfl, by rw [S_len]; rfl, by rw [S_len, sizeLine_eq]; omega, w_newStrs hS (split_is hc) h⟩
theorem w_splitM (hS : St K L H) (hl : l.length ≤ 100000) (hc : c < 256) (hk : i = (k : Int)) (hk2 : k ≤ 1000) (h : ∀ p H', St K (Lg.ls K p ((spM c k l).map sD) :: L) H' → Q (.ref p) H') : rSplitM (.str (S l)) [.str (S [c]), .int i] H Q :=
  ⟨_, _, i, rfl, rfl, by rw [S_len]; rfl, by omega, by omega, by rw [S_len, sizeLine_eq]; omega, w_newStrs hS (by rw [hk]; exact splitMax_is hc) h⟩
theorem w_partn (hS : St K L H) (hl : l.length ≤ 100000) (h : ∀ p H', St K (Lg.dat (.ref p) (.tuple [sD (l.takeWhile (· != c)), sD (if c ∈ l then [c] else []), sD ((l.dropWhile (· != c)).drop 1)]) :: L) H' → Q (.ref p) H') : rPartX (.str (S l)) [.str (S [c])] H Q := by
  refine ⟨_, _, rfl, rfl, by rw [S_len]; rfl, by rw [S_len, sizeLine_eq]; omega, fun p hp => h p _ ?_⟩
  rw [part_is]
  exact hS.fresh hp fun F hF _ _ => .tup (SqT.of upd_same) (.cons (.str _) (.cons (.str _) (.cons (.str _) .nil)))
theorem w_starts (h : Q (.bl (decide (l.head? = some c))) H) : rStarts (.str (S l)) [.str (S [c])] H Q := ⟨_, _, rfl, rfl, by rw [starts_is]; exact h⟩
theorem w_remp (hl : l.length ≤ 100000) (h : Q (.str (S (if l.head? = some c then l.drop 1 else l))) H) : rRemp (.str (S l)) [.str (S [c])] H Q := ⟨_, _, rfl, rfl, by rw [S_len, sizeLine_eq]; omega, by rw [remp_is]; exact h⟩
theorem w_truS {R : Bool → Hp → Prop} (hl : l.length ≤ 100000) (h : R (!l.isEmpty) H) : ∃ k, TruV K (.str (S l)) H k ∧ R k H := by
  refine ⟨_, ⟨by rw [S_len, sizeLine_eq]; omega, ?_⟩, h⟩
  rw [S_len]
  cases l with
  | nil => rfl
  | cons x r =>
    show true = (((x :: r).length : Int) != 0)
    rw [List.length_cons]
    symm
    rw [bne_iff_ne]
    omega
theorem w_replC {to : TE} {y z : Nat} (h : to σ H fun v H1 => ∃ l : List Nat, v = .str (S l) ∧ l.length ≤ 100000 ∧ Q (.str (S (l.map fun x => if x = y then z else x))) H1) (mono : ∀ R R' : VK, (∀ v H1, R v H1 → R' v H1) → to σ H R → to σ H R') : CwR.tReplC to (S [y]) (S [z]) σ H Q := by
  refine mono _ _ (fun v H1 ⟨l, e, hl, q⟩ => ?_) h
  refine ⟨S l, e, ?_, by rw [repl_is]; exact q⟩
  rw [S_len, S_len]
  show l.length + (l.length + 1) * 1 ≤ _
  omega
theorem w_strN (hn : i.natAbs < 10 ^ 12) (h : Q (.str (S (dgI i))) H) : rStrX [.int i] H Q := by
  refine .inl ⟨i, rfl, ?_, by rw [dgI_text]; exact h⟩
  have h2 : i.natAbs < 2 ^ 40 := by
    have : (10 : Nat) ^ 12 ≤ 2 ^ 40 := by decide
    omega
  have := log2_le h2
  omega
theorem w_fs {ts : List TE} (h : tJs ts (S []) σ H fun out H1 => Q (.str out) H1) : tFS ts σ H Q := h
theorem w_js0 {R : Str → Hp → Prop} {x : Str} (h : R x H) : tJs [] x σ H R := h
theorem w_js {t : TE} {ts : List TE} {R : Str → Hp → Prop} (h : t σ H fun x H1 => ∃ y : Str, x = .str y ∧ (S l ++ y).length ≤ sizeLine ∧ tJs ts (S l ++ y) σ H1 R) : tJs (t :: ts) (S l) σ H R := h
theorem w_jsS {m : List Nat} {ts : List TE} {R : Str → Hp → Prop} (hm : l.length + m.length ≤ 100000) (h : tJs ts (S (l ++ m)) σ H R) : ∃ y : Str, V.str (S m) = .str y ∧ (S l ++ y).length ≤ sizeLine ∧ tJs ts (S l ++ y) σ H R := by
  have e : S l ++ S m = S (l ++ m) := SX.S_cat l m
  refine ⟨_, rfl, ?_, ?_⟩
  · rw [e, S_len, List.length_append, sizeLine_eq]
    omega
  · rw [e]; exact h
theorem w_fmt {te : TE} (h : te σ H fun x H1 => (∃ y : Str, x = .str y ∧ y.length ≤ sizeLine ∧ Q (.str y) H1) ∨ ∃ i : Int, x = .int i ∧ i.natAbs.log2 < 1920 ∧ Q (.str (toString i)) H1) : tFmt te σ H Q := h
theorem w_fmtS (hl : l.length ≤ 100000) (h : Q (.str (S l)) H) : (∃ y : Str, V.str (S l) = .str y ∧ y.length ≤ sizeLine ∧ Q (.str y) H) ∨ ∃ i : Int, V.str (S l) = .int i ∧ i.natAbs.log2 < 1920 ∧ Q (.str (toString i)) H :=
  .inl ⟨_, rfl, by rw [S_len, sizeLine_eq]; omega, h⟩
theorem w_fmtI (hn : i.natAbs < 10 ^ 12) (h : Q (.str (S (dgI i))) H) : (∃ y : Str, V.int i = .str y ∧ y.length ≤ sizeLine ∧ Q (.str y) H) ∨ ∃ j : Int, V.int i = .int j ∧ j.natAbs.log2 < 1920 ∧ Q (.str (toString j)) H := by
  refine .inr ⟨i, rfl, ?_, ?_⟩
  · have h2 : i.natAbs < 2 ^ 40 := by
      have : (10 : Nat) ^ 12 ≤ 2 ^ 40 := by decide
      omega
    have := log2_le h2
    omega
  · have e := dgI_text i
    show Q (.str (Str.ofString (toString i))) H
    rw [e]; exact h
theorem w_lenSet {ta : TE} {xs : List (List Nat)} (h : ta σ H fun x H1 => ∃ (l : Addr) (xs : List Str), x = .ref l ∧ SqT K H1 l (xs.map V.str) ∧ xs.length ≤ 4000 ∧ ∀ m : Nat, m ≤ xs.length → (m = xs.length ↔ xs.Nodup) → Q (.int m) H1) : tLenSetT K ta σ H Q := h
theorem S_nodup {xs : List (List Nat)} : (xs.map S).Nodup ↔ xs.Nodup := by
  constructor
  · intro h
    rw [List.nodup_iff_pairwise_ne] at h ⊢
    rw [List.pairwise_map] at h
    exact h.imp fun z e => z (by rw [e])
  · intro h
    rw [List.nodup_iff_pairwise_ne] at h ⊢
    rw [List.pairwise_map]
    exact h.imp fun z e => z (S_inj e)
theorem strs_back {F : Hp} : ∀ {vs : List V} {xs : List (List Nat)}, DvAll K F vs (xs.map sD) → vs = (xs.map S).map V.str
  | _, [], h => by cases h; rfl
  | _, x :: xs, h => by
    cases h with
    | cons h1 h2 => cases h1; simp [strs_back h2]
theorem w_lenSetT {xs : List (List Nat)} (hS : St K L H) (hl : Is L (.ref a) (.tuple (xs.map sD))) (few : xs.length ≤ 4000) (h : ∀ m : Nat, m ≤ xs.length → (m = xs.length ↔ xs.Nodup) → Q (.int m) H) :
    ∃ (l : Addr) (xs : List Str), V.ref a = .ref l ∧ SqT K H l (xs.map V.str) ∧ xs.length ≤ 4000 ∧ ∀ m : Nat, m ≤ xs.length → (m = xs.length ↔ xs.Nodup) → Q (.int m) H := by
  obtain ⟨F, h1, h2⟩ := hS.is_of hl
  cases h2 with
  | tup g1 g2 =>
    rw [strs_back g2] at g1
    refine ⟨a, xs.map S, rfl, h1.sqT g1, by rw [List.length_map]; exact few, fun m hm hi => ?_⟩
    rw [List.length_map] at hm hi
    exact h m hm (hi.trans S_nodup)
end
end Lg

/-! len(set(a list of texts)) -/
namespace Lg
open PySem PySem.Spec PyProof.Rows L2
section
variable {prog : Program} {w : World} {A : Around} {E : Value → Shared → Prop} {u : Shared}
/-- set(a list of texts) -/
theorem setOfLst {l : Addr} {its : Array Value} {xs : List Str} {Q : Value → Shared → Prop} (quiet : A.handled = none) (lst : u.heap.IsList l its) (are : StrsAre its.toList xs) (few : xs.length ≤ 4000)
    (fin : ∀ (z : Heap) (tk m : Nat), Holds prog w z u.heap.objs.size xs m → (∀ b o, b < u.heap.objs.size → u.heap.get? b = some o → z.get? b = some o) → Q (.ref u.heap.objs.size) { u with heap := z, toks := tk }) :
    wpAny (model prog w) A (call (.type "set") [.ref l]) Q E u := by
  obtain ⟨c, tl, hmro⟩ := PySem.F.called_set.mro
  have m1 := PySem.F.called_set.made
  have m2 := PySem.F.called_set.sub
  have m3 := PySem.F.called_set.notType
  have m4 := PySem.F.called_set.canCreate
  have m5 := PySem.F.typeCall_set_1 (.ref l)
  refine wpAny_call (codeAny_of_tree (show wpAny _ _ (callAny (.type "set") _) _ _ _ from ?_))
  refine wpAny_pure ⟨Code.quiet_builtin _ (by decide +kernel), codeAny_builtin PySem.F.entry_type_call ?_⟩
  rw [Around.under_plain (weight_type_call_type "set" [.ref l] []) rfl]
  repeat (any_goals (first | assumption | wp_step))
  refine codeAny_mono (code_set_new_1 (.ref l) (E := E) (Q₁ := fun v u1 => ∃ led : Bool, v = .ref u.heap.objs.size ∧ u1 = { u with heap := u.heap.push (empS led) }) fun led => ⟨led, rfl, rfl⟩) fun r u1 hr => ?_
  cases r with
  | error e => exact hr
  | ok fl =>
    cases fl with
    | ret v =>
      obtain ⟨led, rfl, rfl⟩ := hr
      have g1 : (u.heap.push (empS led)).get? u.heap.objs.size = some (empS led) := Heap.get?_push_size _ rfl
      have g2 : Shared.TypeIs { u with heap := u.heap.push (empS led) } (.ref u.heap.objs.size) "set" := ⟨_, g1, rfl⟩
      have g3 := PySem.F.called_set.init.lookup
      have g4 := PySem.F.called_set.init.bind (.ref u.heap.objs.size)
      repeat (any_goals (first | assumption | wp_step))
      refine codeAny_mono (codeAny_call_builtin (R := wants (fun r u2 => r = .none ∧ ∃ z tk m, u2 = { u with heap := z, toks := tk } ∧ Holds prog w z u.heap.objs.size xs m ∧
          (∀ b o, b < u.heap.objs.size → u.heap.get? b = some o → z.get? b = some o)) E) PySem.F.called_set.init.plain PySem.F.entry_set_init (check_set_init_1 g2 ?_)) fun r u2 hr2 => ?_
      · obtain ⟨⟨oc, od, odt, osl⟩, ho, hc, nl, hd⟩ := lst
        dsimp only at hc hd
        subst hc
        subst hd
        have t1 : (u.heap.push (empS led)).get? l = some { cls := .type "list", dict := od, data := .seq its nl, slots := osl } := Heap.get?_push_of_some _ ho
        have t2 := PySem.F.sub_list_set
        have t3 := PySem.F.sub_list_frozenset
        have t4 : (Value.type "list" == Value.type "dict") = false := by decide
        have t5 : (u.heap.push (empS led)).IsList l its := ⟨_, t1, rfl, nl, rfl⟩
        unfold Builtin.«set.__init__» noKeywords Builtin.Frozenset.updateFrom
        generalize hPI : pyIter = PI
        wp_walk
        subst hPI
        refine wpAny_pyIter_list t5 (wpAny_bind (wpAny_runValue ?_))
        have sz : (u.heap.push (empS led)).objs.size = Nat.succ u.heap.objs.size := by rw [Heap.size_push]
        have lt : l < u.heap.objs.size := Heap.lt_size ho
        have len : xs.length = its.size := by rw [← StrsAre.len_eq are, Array.length_toList]
        have ne1 : l ≠ (u.heap.push (empS led)).objs.size := by rw [sz]; exact Nat.ne_of_lt (Nat.lt_succ_of_lt lt)
        have out : u.heap.objs.size ∉ [(u.heap.push (empS led)).objs.size, l] := by
          intro z
          rcases List.mem_cons.mp z with z | z
          · rw [sz] at z
            exact Nat.ne_of_lt (Nat.lt_succ_self _) z
          · rw [List.mem_singleton] at z
            rw [← z] at lt
            exact Nat.lt_irrefl _ lt
        refine setLoop ((Walks.list (by simp [quiet]) _ l ne1 its).toS) u.heap.objs.size out xs len (by omega) (fun i v hv => ?_) (its.size - 0) 0 _ (by omega) (Nat.zero_le _)
          ⟨⟨_, Heap.get?_push_size _ rfl, rfl, rfl⟩, (t5.push _)⟩ ⟨0, fun _ => false, fun k => by simp, ?_, by simp, by simp⟩ fun u3 mv h3 => ?_
        · have hv' : its.toList[i]? = some v := by rw [Array.getElem?_toList]; exact hv
          obtain ⟨t, e⟩ := texts_at are hv'
          have il : i < xs.length := by
            have := (List.getElem?_eq_some_iff.mp hv').1
            rw [Array.length_toList] at this
            omega
          exact ⟨t, xs[i], List.getElem?_eq_getElem il, by rw [e, List.getD_eq_getElem?_getD, List.getElem?_eq_getElem il]; rfl⟩
        · exact (PyProof.Rows.setObjOf_fresh (knd := PySem.strKind prog w) led).setOf (Heap.get?_push_of_some _ g1) (by unfold scanBound; omega)
        · obtain ⟨m, h3⟩ := h3
          obtain ⟨z, gz, dz, tz, oz⟩ := u3
          obtain rfl : gz = u.gens := mv.gens
          obtain rfl : dz = u.drawn := mv.drawn
          obtain rfl : oz = u.os := mv.os
          refine wpAny_pure (wpAny_pure ⟨rfl, z, tz, m, rfl, h3, fun b o hb e => ?_⟩)
          refine mv.heap b o (fun z => ?_) (Heap.get?_push_of_some _ (Heap.get?_push_of_some _ e))
          rcases List.mem_cons.mp z with z | z
          · exact Nat.ne_of_lt hb z
          · rw [List.mem_singleton] at z
            rw [z] at hb
            have hb : (u.heap.push (empS led)).objs.size < u.heap.objs.size := hb
            rw [sz] at hb
            exact Nat.lt_irrefl _ (Nat.lt_trans (Nat.lt_succ_self _) hb)
      · cases r with
        | error e => exact hr2
        | ok fl2 =>
          cases fl2 with
          | ret v =>
            obtain ⟨rfl, z, tk, m, rfl, hz, keep⟩ := hr2
            repeat (any_goals (first | assumption | wp_step))
            exact fin z tk m hz keep
          | _ => exact hr2.elim
    | _ => exact hr.elim
end
section
variable {X : Cx}
/-- len(set(a list of texts)) -/
def tLenSetL (K : PySem.W.Frag) (ta : TE) : TE := fun σ H Q => ta σ H fun x H1 => ∃ (l : Addr) (xs : List Str), x = .ref l ∧ SqL K H1 l (xs.map V.str) ∧ xs.length ≤ 4000 ∧ ∀ m : Nat, m ≤ xs.length → (m = xs.length ↔ xs.Nodup) → Q (.int m) H1
theorem pe_lenSetL {a : Expr} {ta : TE} {p p2 q pos : Pos} (hc : X.calm = true) (g1 : Gl X "len") (m1 : X.mg "len" = none) (g2 : Gl X "set") (m2 : X.mg "set" = none) (ha : PE X a ta)
    (na : starEach [a] X.env = (false, eval a X.env) :: starEach [] X.env := by rfl) : PE X (.Call (.Name "len" p) [.Call (.Name "set" p2) [a] [] q] [] pos) (tLenSetL X.K ta) := by
  refine ⟨fun pins u σ H Q I h => ?_⟩
  refine Call_ (ld_blt I g1 m1 boot_len (PyProof.Rows.callWith_builtin1 (PyProof.Rows.args_cons ?_ rfl) rfl rfl))
  refine Call_ (ld_blt I g2 m2 boot_set (PyProof.Rows.callWith_type1 (PyProof.Rows.args_cons (thn (ha.run pins u σ H _ I h) fun v u1 ⟨x, H1, I1, r1, q1⟩ => PyProof.Rows.args_nil ?_) na) na rfl))
  obtain ⟨l, xs, rfl, hq, few, q1⟩ := q1
  cases r1
  obtain ⟨its, r, pl, _⟩ := I1.list hq
  refine setOfLst (I1.ok.hd hc) pl.isList (by simpa using strs_of r) few fun z tk m hz keep => PyProof.Rows.args_nil ?_
  obtain ⟨f, _, ⟨o, es, ep, t, ho, hex, hd, _, _, _, hf, hn⟩, le, iff⟩ := hz
  have I2 : Inv X pins σ H1 { u1 with heap := z, toks := tk } := I1.kept fun b o e => keep b o (Heap.lt_size e) e
  exact call_len_set ho hex hd hf (by rw [hn]; omega) ⟨.int m, H1, I2.tok _, ⟨_, by rw [hn]⟩, q1 m le iff⟩
def tLenSetX (K : PySem.W.Frag) (ta : TE) : TE := fun σ H Q => tLenSetT K ta σ H Q ∨ tLenSetL K ta σ H Q
theorem pe_lenSetX {a : Expr} {ta : TE} {p p2 q pos : Pos} (hc : X.calm = true) (g1 : Gl X "len") (m1 : X.mg "len" = none) (g2 : Gl X "set") (m2 : X.mg "set" = none) (ha : PE X a ta)
    (na : starEach [a] X.env = (false, eval a X.env) :: starEach [] X.env := by rfl) : PE X (.Call (.Name "len" p) [.Call (.Name "set" p2) [a] [] q] [] pos) (tLenSetX X.K ta) :=
  ⟨fun pins u σ H Q I h => h.elim (fun h => (pe_lenSetT hc g1 m1 g2 m2 ha na).run pins u σ H Q I h) fun h => (pe_lenSetL hc g1 m1 g2 m2 ha na).run pins u σ H Q I h⟩
end
section
variable {K : PySem.W.Frag} {L : List Ent} {H : Hp} {σ : L2.St} {Q : VK} {a : Addr} {n : Nat}
theorem w_lenSetLV {xs : List (List Nat)} (q : GetAt σ n (.ref a)) (hS : St K L H) (hl : LsIn K L a (xs.map sD)) (few : xs.length ≤ 4000) (h : ∀ m : Nat, m ≤ xs.length → (m = xs.length ↔ xs.Nodup) → Q (.int m) H) : tLenSetX K (tVar n) σ H Q := by
  obtain ⟨F, vs, _, _, h3, h4⟩ := hS.lsin hl
  rw [strs_back h4] at h3
  refine .inr ⟨_, q.eq, a, xs.map S, rfl, SqL.of h3, by rw [List.length_map]; exact few, fun m hm hi => ?_⟩
  rw [List.length_map] at hm hi
  exact h m hm (hi.trans S_nodup)
theorem w_lenSetTV {xs : List (List Nat)} (q : GetAt σ n (.ref a)) (hS : St K L H) (hl : Is L (.ref a) (.tuple (xs.map sD))) (few : xs.length ≤ 4000) (h : ∀ m : Nat, m ≤ xs.length → (m = xs.length ↔ xs.Nodup) → Q (.int m) H) : tLenSetX K (tVar n) σ H Q :=
  .inl ⟨_, q.eq, w_lenSetT hS hl few h⟩
end
end Lg

/-! a written text replaced in what gives a token out; list.extend; sum; truth of lists; pairs of owned lists -/
namespace Lg
open PySem PySem.Spec PyProof.Rows L2
section
variable {X : Cx} {e f o : Expr} {te tf to : TE} {es : List Expr} {ta : TA} {pos apos : Pos}
/-- a row of parts that gives a token out -/
structure PAk (X : Cx) (es : List Expr) (t : TA) : Prop where
  run : ∀ (p : Pos) (pins : List (Addr × Obj)) (u : Shared) (σ : L2.St) (H : Hp) (Q : List V → Hp → Prop), Inv X pins σ H u → t σ H Q →
  wpAny (model X.prog X.w) X.A (spliced (backTo p (starEach es X.env))) (fun vs u1 => 1 ≤ u1.toks ∧ AP X pins σ Q vs u1) X.xe u
theorem pak_cons (ha : PEk X e te) (hr : PA X es ta) (hs : starEach (e :: es) X.env = (false, eval e X.env) :: starEach es X.env := by rfl) : PAk X (e :: es) (tCons te ta) := by
  constructor
  intro p pins u σ H Q I h
  rw [hs]
  refine Calls.spliced_cons (wpAny_mono (ha.run pins u σ H _ I h) (fun v u1 q => ?_) fun _ _ z => z)
  obtain ⟨hk, x, H1, I1, r1, q1⟩ := q
  refine wpAny_mono (wpAny_toks_of hk (hr.run p pins u1 σ H1 _ I1 q1)) (fun us u2 q2 => ?_) fun _ _ z => z.2
  obtain ⟨hk2, xs, H2, I2, r2, q2⟩ := q2
  exact ⟨hk2, x :: xs, H2, I2, .cons r1 r2, q2⟩
theorem pak_str {x : Str} {j : Nat} {q : Pos} (hr : PA X es ta) : PAk X (.Constant (.str x) j q :: es) (tCons (tC (.str x)) ta) := pak_cons pek_str hr rfl
theorem pek_lst (h : PAk X es ta) : PEk X (.List es pos) (tLst ta) := by
  constructor
  intro pins u σ H Q I hq
  refine wpAny_List_spliced (wpAny_mono (h.run pos pins u σ H _ I hq) (fun us u1 q => ?_) fun _ _ z => z)
  obtain ⟨hk, xs, H1, I1, r, z, q⟩ := q
  refine ⟨by rw [← r.length]; exact z, ?_⟩
  have hf : H1 u1.heap.objs.size = none := I1.hok.fresh (Nat.le_refl _)
  exact ⟨hk, .ref u1.heap.objs.size, upd H1 u1.heap.objs.size (.lst xs), I1.laid (t' := u1.toks) (fun b w e => Heap.get?_push_of_some _ e) (Nat.le_refl _) ⟨z, us, 0, r, Heap.get?_push_size _ rfl⟩, rfl, q _ hf⟩
theorem pek_ix {b : Expr} {tb : TE} {r : R2} (hr : IxR X r) (ha : PEk X e te) (hb : PE X b tb) (hs : PlainIx b) : PEk X (.Subscript e b pos) (tOp r te tb) := by
  constructor
  intro pins u σ H Q I h
  refine Subscript_ (wpAny_mono (ha.run pins u σ H _ I h) (fun v u1 q => ?_) fun _ _ z => z)
  obtain ⟨hk, x, H1, I1, r1, q1⟩ := q
  refine wpAny_mono (wpAny_toks_of hk (hb.run pins u1 σ H1 _ I1 q1)) (fun w u2 q2 => ?_) fun _ _ z => z.2
  obtain ⟨hk2, y, H2, I2, r2, q2⟩ := q2
  exact wpAny_mono (wpAny_toks_of hk2 (hr e b pins u2 σ H2 x y v w Q I2 r1 r2 q2 (hs _ _))) (fun _ _ z => z) fun _ _ z => z.2
theorem pek_ixs {b : Expr} {tb : TE} (ha : PEk X e te) (hb : PE X b tb) (hs : PlainIx b) : PEk X (.Subscript e b pos) (tOp (rIx X.K) te tb) := pek_ix ix_seq ha hb hs
theorem pe_replK {y z : Str} {j k : Nat} {c0 c1 : Pos} (ho : PEk X o to) (hyz : (y == z) = false := by decide)
    (hst : starEach [.Constant (.str y) j c0, .Constant (.str z) k c1] X.env = [(false, eval (.Constant (.str y) j c0) X.env), (false, eval (.Constant (.str z) k c1) X.env)] := by rfl)
    (hbase : attributeBase o "replace" X.env (eval o X.env) = eval o X.env := by rfl) (hline : (apos.endLine == pos.line) = true := by rfl) :
    PE X (.Call (.Attribute o "replace" apos) [.Constant (.str y) j c0, .Constant (.str z) k c1] [] pos) (CwR.tReplC to y z) := by
  refine ⟨fun pins u σ H Q I h => PySem.Call_method2 hbase hst hline (wpAny_mono (ho.run pins u σ H _ I h) (fun v u1 q => ?_) fun _ _ z => z)⟩
  obtain ⟨hk, v', H1, I1, r1, x, rfl, hb, q⟩ := q
  obtain ⟨tx, rfl⟩ := r1
  refine ⟨"str", _, PySem.F.plainAttrs_str, PySem.F.slot_str_replace, PySem.F.type_str_replace, typeIs_str _ _ _, (fun _ e => nomatch e), ?_⟩
  refine Calls.callWith_builtin rfl (Calls.evalArgs_plain (Calls.spliced_cons (Calls.Constant_str (Calls.spliced_cons (Calls.Constant_str (Calls.spliced_nil ?_))))))
  exact PySem.SC.replace (show u1.toks ≠ 0 by omega) (show u1.toks + 1 ≠ 0 by omega) (show u1.toks ≠ u1.toks + 1 by omega) hyz hb fun t' n => ⟨.str (Txt.replace x y z), H1, I1.tok n, ⟨t', rfl⟩, q⟩
/-- the same where the text is taken out of a row: all that is looked up is looked up here -/
theorem pe_replS {y z : Str} {j k : Nat} {c0 c1 p2 : Pos} {a b : Expr} (ho : PEk X (.Subscript a b p2) to) (hyz : (y == z) = false := by decide) (hline : (apos.endLine == pos.line) = true := by rfl) :
    PE X (.Call (.Attribute (.Subscript a b p2) "replace" apos) [.Constant (.str y) j c0, .Constant (.str z) k c1] [] pos) (CwR.tReplC to y z) :=
  pe_replK ho hyz rfl rfl hline
end
section
variable {K : PySem.W.Frag} {L L' : List Ent} {H : Hp} {Q : VK} {a b : Addr} {ds es : List PyData}
theorem w_extend (hS : St K L H) (hp : Put L (Lg.ls K a ds) (Lg.ls K a (ds ++ es)) L') (hb : LsIn K L b es) (hn : ds.length + es.length ≤ 100000) (h : ∀ H', St K L' H' → Q .non H') : rExtend (.ref a) [.ref b] H Q := by
  obtain ⟨F, xs, e1, e2, h3, h4⟩ := hS.lsin (.own hp.mem)
  obtain ⟨F2, zs, _, _, k3, k4⟩ := hS.lsin hb
  refine ⟨a, b, xs, zs, rfl, rfl, h3, k3, ?_, h _ ?_⟩
  · rw [h4.len, k4.len, sizeLine_eq]; omega
  · refine hS.writeP hp fun F' x e q hx hφ => ?_
    obtain ⟨vs, rfl, hvs⟩ := hφ
    rw [h3] at hx
    cases hx
    obtain ⟨ws, m1, m2⟩ := hb.ok e q
    rw [k3] at m1
    cases m1
    exact ⟨_, rfl, hvs.app m2⟩
theorem w_sum {ns : List Int} (hS : St K L H) (hl : LsIn K L a (ns.map PyData.int)) (h : Q (.int ns.sum) H) : rSum K [.ref a] H Q := by
  obtain ⟨F, xs, _, _, h3, h4⟩ := hS.lsin hl
  rw [h4.ints_inv] at h3
  exact ⟨a, ns, rfl, SqL.of h3, h⟩
theorem truL_ok (hS : St K L H) (hl : LsIn K L a ds) : TruV K (.ref a) H (!ds.isEmpty) := by
  obtain ⟨F, xs, _, _, h3, h4⟩ := hS.lsin hl
  refine .inl ⟨xs, SqL.of h3, ?_⟩
  have := h4.len
  cases xs <;> cases ds <;> simp at this ⊢
theorem w_neBl {x y : Bool} (h : Q (.bl (!decide (x = y))) H) : rNeX K (.bl x) (.bl y) H Q := .inl ⟨rfl, by
  have e : decide (V.bl x = V.bl y) = decide (x = y) := by cases x <;> cases y <;> rfl
  rw [e]; exact h⟩
end
end Lg

/-! while by a number that the ledger tells; the last of a list; texts joined with nothing -/
namespace Lg
open PySem PySem.Spec PyProof.Rows L2
section
variable {K : PySem.W.Frag} {L : List Ent} {σ : L2.St} {H : Hp} {Q : VK} {a : Addr} {ds : List PyData} {d : PyData}
def WBN (P : Nat → L2.St → Hp → Prop) (m : Nat) (tb : TS) (D : Ends) (σ : L2.St) (b : Bool) (H1 : Hp) : Prop :=
  if b = true then ∃ N : L2.St → Hp → Prop, (∀ σ' H', N σ' H' → ∃ m', m' < m ∧ P m' σ' H') ∧ tb { D with nx := N, ct := N, bk := D.nx } σ H1 else D.nx σ H1
theorem w_wbn {P : Nat → L2.St → Hp → Prop} {m : Nat} {tb : TS} {D : Ends} {c : Bool} (h1 : c = true → tb { D with nx := fun σ' H' => ∃ m', m' < m ∧ P m' σ' H', ct := fun σ' H' => ∃ m', m' < m ∧ P m' σ' H', bk := D.nx } σ H) (h2 : c = false → D.nx σ H) : WBN P m tb D σ c H := by
  unfold WBN
  cases c with
  | true => exact ⟨_, fun _ _ z => z, h1 rfl⟩
  | false => exact h2 rfl
theorem w_whileN {c : TT} {tb : TS} {D : Ends} (P : Nat → L2.St → Hp → Prop) (m0 : Nat) (h0 : P m0 σ H) (hs : ∀ m σ H, P m σ H → c σ H fun b H1 => WBN P m tb D σ b H1) : tWhile c tb D σ H := ⟨P, ⟨m0, h0⟩, hs⟩
theorem w_ixM1 {i : Int} (hS : St K L H) (hl : LsIn K L a (ds ++ [d])) (hi : i = -1) (h : ∀ v, St K (.dat v d :: L) H → Q v H) : rIx K (.ref a) (.int i) H Q := by
  subst hi
  obtain ⟨xs, v, h3, h5, hlen, h6⟩ := hS.item hl (k := ds.length) (d := d) (by simp)
  refine .inl ⟨a, xs, -1, v, rfl, rfl, SqL.of h3, ?_, h v h6⟩
  have hn : xs.length = ds.length + 1 := by simpa using hlen
  have e : ixN xs.length (-1) = some ds.length := by
    unfold ixN
    rw [if_neg (by decide), if_pos (by omega)]
    congr 1
    omega
  unfold atI
  rw [e]
  exact h5
theorem w_ixM1i {i m : Int} (hS : St K L H) (hl : LsIn K L a (ds ++ [.int m])) (hi : i = -1) (h : Q (.int m) H) : rIx K (.ref a) (.int i) H Q :=
  w_ixM1 hS hl hi fun v h6 => by rw [h6.int_of]; exact h
theorem w_ixM1s {i : Int} {m : Str} (hS : St K L H) (hl : LsIn K L a (ds ++ [.str m])) (hi : i = -1) (h : Q (.str m) H) : rIx K (.ref a) (.int i) H Q :=
  w_ixM1 hS hl hi fun v h6 => by rw [h6.str_of]; exact h
theorem joinL_nil : ∀ ys : List (List Nat), TL.joinL [] ys = ys.flatten
  | [] => rfl
  | [y] => by simp [TL.joinL]
  | y :: z :: ys => by
    have := joinL_nil (z :: ys)
    show y ++ ([] ++ TL.joinL [] (z :: ys)) = _
    rw [this]
    rfl
end
end Lg

/-! [x for x in list if test]: any data -/
namespace Lg
open PySem PySem.Spec PyProof.Rows L2
section
variable {K : PySem.W.Frag} {L : List Ent} {σ : L2.St} {H : Hp} {Q : VK} {a : Addr} {ds : List PyData} {g : TG} {tt : TT} {te : TE} {vs : List Nat}
theorem w_lcFD (p : PyData → Bool) (hS : St K L H) (hl : LsIn K L a ds) (hn : ds.length ≤ 100000)
    (hs : ∀ (v : V) (d : PyData) (H : Hp) (L' : List Ent) (Z1 : VK) (Z2 : Hp → Prop), d ∈ ds → St K (.dat v d :: L') H → (p d = true → Z1 v H) → (p d = false → Z2 H) → g v (wipe σ vs) H fun σ2 H2 => wipe σ2 vs = wipe σ vs ∧ tt σ2 H2 fun b H3 => if b = true then te σ2 H3 Z1 else Z2 H3)
    (h : ∀ q H', St K (.cell q (.ls K (ds.filter p)) :: L) H' → Q (.ref q) H') : LcW (Itl K a) g tt te vs σ H Q := by
  intro q hq
  refine ⟨fun i m H => m = ds.length - i ∧ i ≤ ds.length ∧ St K (.cell q (.ls K ((ds.take i).filter p)) :: L) H, ⟨ds.length, by simp, Nat.zero_le _, hS.alloc hq fun F _ _ => ⟨[], rfl, .nil⟩⟩, ?_⟩
  rintro i m H ⟨rfl, hi, hS1⟩
  by_cases hlt : i < ds.length
  · obtain ⟨xs, v, h3, h5, _, h6⟩ := hS1.item hl.cons (k := i) (d := ds[i]) (by simp [hlt])
    refine .inr ⟨⟨xs, v, SqL.of h3, h5⟩, fun H' => i + 1 ≤ ds.length ∧ St K (.cell q (.ls K ((ds.take (i + 1)).filter p)) :: L) H', fun H' w => ⟨ds.length - (i + 1), by omega, rfl, w⟩, fun x H' y => ?_⟩
    obtain ⟨rfl, y⟩ := y
    have hx := y xs (SqL.of h3)
    rw [h5] at hx
    have hvx := Option.some.inj hx
    subst hvx
    have e : ds.take (i + 1) = ds.take i ++ [ds[i]] := by rw [List.take_add_one]; simp [hlt]
    refine hs v ds[i] H' _ _ _ (List.getElem_mem hlt) h6 (fun hp => ?_) fun hp => ?_
    · obtain ⟨F, ys, h1, h2, h7, h8⟩ := hS1.lsin (.own (.head _))
      refine ⟨ys, h7, ?_, by omega, ?_⟩
      · rw [h8.len]
        refine Nat.lt_of_le_of_lt ?_ (show 100000 < sizeLine by decide)
        exact Nat.le_trans (List.length_filter_le _ _) (by simp; omega)
      · rw [e, List.filter_append]
        have : [ds[i]].filter p = [ds[i]] := by simp [hp]
        rw [this]
        have h9 := h6.writeP (o := .lst (ys ++ [v])) (ψ := .ls K ((ds.take i).filter p ++ [ds[i]])) (.there .here) fun F' x e2 q2 hx hφ => ?_
        · exact h9.tail
        · obtain ⟨zs, rfl, hzs⟩ := hφ
          rw [h7] at hx
          cases hx
          exact ⟨_, rfl, hzs.app (.cons (q2 _ (.head _)) .nil)⟩
    · refine ⟨by omega, ?_⟩
      rw [e, List.filter_append]
      have : [ds[i]].filter p = [] := by simp [hp]
      rw [this, List.append_nil]
      exact hS1
  · have e : i = ds.length := by omega
    subst e
    rw [List.take_length] at hS1
    obtain ⟨xs, h3, h4⟩ := hS1.lenl hl.cons
    exact .inl ⟨⟨xs, SqL.of h3, by rw [h4]; simp⟩, h q H hS1⟩
end
end Lg

/-! ints in lists; min, max -/
namespace Lg
open PySem PySem.Spec PyProof.Rows L2
section
variable {K : PySem.W.Frag} {L : List Ent} {H : Hp} {Q : VK} {a : Addr}
theorem inV_i (i : Int) : ∀ ns : List Int, inV (.int i) (ns.map V.int) = decide (i ∈ ns)
  | [] => rfl
  | n :: ns => by
    show (eqV (.int n) (.int i) || inV (.int i) (ns.map V.int)) = _
    rw [inV_i i ns]
    show ((n == i) || decide (i ∈ ns)) = _
    rw [show (n == i) = decide (i = n) from by
      by_cases h : i = n
      · subst h
        simp
      · rw [decide_eq_false h, beq_eq_false_iff_ne]
        exact fun z => h z.symm]
    rw [← Bool.decide_or]
    exact decide_eq_decide.mpr List.mem_cons.symm
theorem w_inLI {i : Int} {ns : List Int} {neg : Bool} (hS : St K L H) (hl : LsIn K L a (ns.map PyData.int)) (h : Q (.bl (if neg then !decide (i ∈ ns) else decide (i ∈ ns))) H) : rInX K neg (.int i) (.ref a) H Q := by
  obtain ⟨F, xs, _, _, h3, h4⟩ := hS.lsin hl
  rw [h4.ints_inv] at h3
  exact .inl ⟨a, ns.map V.int, rfl, .inl (SqL.of h3), rfl, by simp [flatV], by rw [inV_i]; exact h⟩
end
end Lg

/-! list.count of texts -/
namespace Lg
open PySem PySem.Spec PyProof.Rows L2
def rCountL : V → List V → Hp → VK → Prop := fun x vs H Q => ∃ (l : Addr) (ys : List Str) (k : Str), x = .ref l ∧ vs = [.str k] ∧ H l = some (.lst (ys.map V.str)) ∧ Q (.int (countIn (.str k) (ys.map PyData.str))) H
theorem strs_are : ∀ {ys : List Str} {us : List Value}, Vals (ys.map V.str) us → StrsAre us ys
  | [], _, h => by cases h; exact .nil
  | y :: ys, _, h => by
    cases h with
    | cons r1 rs =>
      obtain ⟨t, rfl⟩ := r1
      exact .cons y t (strs_are rs)
theorem mt_countL {X : Cx} : MtR X "list.count" rCountL := by
  intro pins s σ H x vs v us Q I rx rv h
  obtain ⟨l, ys, k, rfl, rfl, hH, q⟩ := h
  cases rx
  obtain ⟨u, rfl, ru⟩ := rv.one
  obtain ⟨t, rfl⟩ := ru
  obtain ⟨z, its, n, r, hl, e⟩ := I.lstM hH
  exact count_list_strs ⟨_, e, rfl, n, rfl⟩ (strs_are r) ⟨.int _, H, I.tok _, ⟨_, rfl⟩, q⟩
section
variable {K : PySem.W.Frag} {L : List Ent} {H : Hp} {Q : VK} {a : Addr}
theorem countIn_is (k : List Nat) : ∀ ys : List (List Nat), countIn (.str (S k)) ((ys.map S).map PyData.str) = ((ys.count k : Nat) : Int)
  | [] => rfl
  | y :: ys => by
    have ih := countIn_is k ys
    rw [List.map_cons, List.map_cons, countIn, ih, List.count_cons]
    simp only [same]
    by_cases h : y = k
    · subst h
      simp
      omega
    · have h2 : (S y == S k) = false := by
        rw [beq_eq_false_iff_ne]
        exact fun z => h (S_inj z)
      have h3 : (y == k) = false := by rw [beq_eq_false_iff_ne]; exact h
      simp [h2, h3]
theorem w_countL {k : List Nat} {ys : List (List Nat)} (hS : St K L H) (hl : LsIn K L a (ys.map fun y => PyData.str (S y))) (h : Q (.int ((ys.count k : Nat) : Int)) H) : rCountL (.ref a) [.str (S k)] H Q := by
  obtain ⟨F, vs, _, _, h3, h4⟩ := hS.lsin hl
  have e : (ys.map fun y => PyData.str (S y)) = (ys.map S).map PyData.str := by rw [List.map_map]; rfl
  rw [e] at h4
  rw [h4.strs_inv] at h3
  exact ⟨a, ys.map S, S k, rfl, rfl, h3, by rw [countIn_is]; exact h⟩
end
end Lg

/-! [list(x) for x in rows]: owned lists in a row -/
namespace Lg
open PySem PySem.Spec PyProof.Rows L2
section
variable {K : PySem.W.Frag} {L L' : List Ent} {σ : L2.St} {H : Hp} {Q : VK} {a : Addr} {ds : List PyData} {g : TG} {te : TE} {vs : List Nat}
theorem LsIn.appL (h : LsIn K L a ds) : ∀ A : List Ent, LsIn K (A ++ L) a ds
  | [] => h
  | _ :: A => (LsIn.appL h A).cons
theorem Is.appL {v : V} {d : PyData} (h : Is L v d) : ∀ A : List Ent, Is (A ++ L) v d
  | [] => h
  | _ :: A => (Is.appL h A).cons
theorem St.toLs {xs : List V} (h : St K (Lg.own a (.lst xs) :: L) H) (hv : IsAll L xs ds) : St K (Lg.ls K a ds :: L) H := h.data .here fun F x _ q _ hφ => by
  have e : x = .lst xs := hφ
  exact ⟨xs, e, hv.dv fun e he => q e (.tail _ he)⟩
theorem w_lcO {dss : List (List Int)} (hS : St K L H) (hl : LsIn K L a (dss.map fun b => PyData.list (b.map PyData.int))) (hn : dss.length ≤ 100000)
    (hs : ∀ (b : List Int) (v : V) (H : Hp) (L' : List Ent), St K (.dat v (.list (b.map PyData.int)) :: L') H → ∀ Z : VK, (∀ p H3, St K (Lg.ls K p (b.map PyData.int) :: L') H3 → Z (.ref p) H3) → g v (wipe σ vs) H fun σ2 H2 => wipe σ2 vs = wipe σ vs ∧ te σ2 H2 Z)
    (h : ∀ q bs H', bs.length = dss.length → St K (Lg.own q (.lst (bs.map V.ref)) :: (lsL K bs dss ++ L)) H' → Q (.ref q) H') : LcW (Itl K a) g tYes te vs σ H Q := by
  intro q hq
  refine ⟨fun i m H => m = dss.length - i ∧ i ≤ dss.length ∧ ∃ bs : List Addr, bs.length = i ∧ St K (Lg.own q (.lst (bs.map V.ref)) :: (lsL K bs (dss.take i) ++ L)) H, ⟨dss.length, by simp, Nat.zero_le _, [], rfl, hS.alloc hq fun F _ _ => rfl⟩, ?_⟩
  rintro i m H ⟨rfl, hi, bs, hbl, hS1⟩
  by_cases hlt : i < dss.length
  · obtain ⟨xs, v, h3, h5, _, h6⟩ := hS1.item (hl.appL _).cons (k := i) (d := .list (dss[i].map PyData.int)) (by simp [hlt])
    refine .inr ⟨⟨xs, v, SqL.of h3, h5⟩, fun H' => i + 1 ≤ dss.length ∧ ∃ bs : List Addr, bs.length = i + 1 ∧ St K (Lg.own q (.lst (bs.map V.ref)) :: (lsL K bs (dss.take (i + 1)) ++ L)) H', fun H' w => ⟨dss.length - (i + 1), by omega, rfl, w⟩, fun x H' y => ?_⟩
    obtain ⟨rfl, y⟩ := y
    have hx := y xs (SqL.of h3)
    rw [h5] at hx
    have hvx := Option.some.inj hx
    subst hvx
    refine hs dss[i] v H' _ h6 _ fun p H3 hS3 => ?_
    have e : dss.take (i + 1) = dss.take i ++ [dss[i]] := by rw [List.take_add_one]; simp [hlt]
    refine ⟨bs.map V.ref, hS3.own (.tail _ (.head _)), ?_, by omega, bs ++ [p], by simp [hbl], ?_⟩
    · rw [List.length_map, hbl]
      exact Nat.lt_of_lt_of_le (Nat.lt_of_lt_of_le hlt hn) (by decide)
    · have h7 := hS3.writeP (o := .lst (bs.map V.ref ++ [V.ref p])) (ψ := .eq (.lst ((bs ++ [p]).map V.ref))) (.there .here) fun _ _ _ _ _ _ => by
        show HO.lst _ = HO.lst _
        simp
      rw [e, lsL_snoc (by rw [List.length_take]; omega)]
      refine h7.perm ?_
      refine (List.Perm.swap _ _ _).trans (.cons _ ?_)
      rw [List.append_assoc]
      exact List.perm_middle.symm
  · have e : i = dss.length := by omega
    subst e
    rw [List.take_length] at hS1
    obtain ⟨xs, h3, h4⟩ := hS1.lenl (hl.appL _).cons
    exact .inl ⟨⟨xs, SqL.of h3, by rw [h4]; simp⟩, h q bs H hbl hS1⟩
end
end Lg

/-! for over range with a step -/
namespace Lg
open PySem PySem.Spec PyProof.Rows L2
section
variable {K : PySem.W.Frag} {L : List Ent} {σ : L2.St} {H : Hp} {g : TG} {tbody : TS} {D : Ends}
theorem w_forR3 {lo c : Int} {n : Nat} (I : Nat → L2.St → Hp → Prop) (h0 : I 0 σ H)
    (hs : ∀ i σ H, i < n → I i σ H → g (.int (lo + (i : Nat) * c)) σ H fun σ2 H2 => tbody { D with nx := I (i + 1), ct := I (i + 1), bk := D.nx } σ2 H2) (hd : ∀ σ H, I n σ H → D.nx σ H) : ForW (Itc lo c n) g tbody D σ H := by
  refine ⟨fun i m σ H => m = n - i ∧ i ≤ n ∧ I i σ H, ⟨n, by simp, Nat.zero_le _, h0⟩, ?_⟩
  rintro i m σ H ⟨rfl, hi, p⟩
  by_cases hlt : i < n
  · refine .inr ⟨hlt, I (i + 1), fun σ' H' p' => ⟨n - (i + 1), by omega, rfl, hlt, p'⟩, fun x H' y => ?_⟩
    obtain ⟨rfl, rfl⟩ := y
    exact hs i σ _ hlt p
  · have e : i = n := by omega
    subst e
    exact .inl ⟨Nat.le_refl _, hd σ H p⟩
end
section
variable {K : PySem.W.Frag} {L : List Ent} {σ : L2.St} {H : Hp} {Q : VK} {a : Addr} {ds : List PyData} {g : TG} {tt : TT} {te : TE} {vs : List Nat}
theorem w_lcFE (p : PyData → Bool) (hS : St K L H) (hl : LsIn K L a ds) (hn : ds.length ≤ 100000)
    (hs : ∀ (v : V) (d : PyData) (H : Hp) (q : Addr) (es : List PyData) (Z1 : VK) (Z2 : Hp → Prop), d ∈ ds → St K (.dat v d :: .cell q (.ls K es) :: L) H → (p d = true → Z1 v H) → (p d = false → Z2 H) → g v (wipe σ vs) H fun σ2 H2 => wipe σ2 vs = wipe σ vs ∧ tt σ2 H2 fun b H3 => if b = true then te σ2 H3 Z1 else Z2 H3)
    (h : ∀ q H', St K (.cell q (.ls K (ds.filter p)) :: L) H' → Q (.ref q) H') : LcW (Itl K a) g tt te vs σ H Q := by
  intro q hq
  refine ⟨fun i m H => m = ds.length - i ∧ i ≤ ds.length ∧ St K (.cell q (.ls K ((ds.take i).filter p)) :: L) H, ⟨ds.length, by simp, Nat.zero_le _, hS.alloc hq fun F _ _ => ⟨[], rfl, .nil⟩⟩, ?_⟩
  rintro i m H ⟨rfl, hi, hS1⟩
  by_cases hlt : i < ds.length
  · obtain ⟨xs, v, h3, h5, _, h6⟩ := hS1.item hl.cons (k := i) (d := ds[i]) (by simp [hlt])
    refine .inr ⟨⟨xs, v, SqL.of h3, h5⟩, fun H' => i + 1 ≤ ds.length ∧ St K (.cell q (.ls K ((ds.take (i + 1)).filter p)) :: L) H', fun H' w => ⟨ds.length - (i + 1), by omega, rfl, w⟩, fun x H' y => ?_⟩
    obtain ⟨rfl, y⟩ := y
    have hx := y xs (SqL.of h3)
    rw [h5] at hx
    have hvx := Option.some.inj hx
    subst hvx
    have e : ds.take (i + 1) = ds.take i ++ [ds[i]] := by rw [List.take_add_one]; simp [hlt]
    refine hs v ds[i] H' _ _ _ _ (List.getElem_mem hlt) h6 (fun hp => ?_) fun hp => ?_
    · obtain ⟨F, ys, h1, h2, h7, h8⟩ := hS1.lsin (.own (.head _))
      refine ⟨ys, h7, ?_, by omega, ?_⟩
      · rw [h8.len]
        refine Nat.lt_of_le_of_lt ?_ (show 100000 < sizeLine by decide)
        exact Nat.le_trans (List.length_filter_le _ _) (by simp; omega)
      · rw [e, List.filter_append]
        have : [ds[i]].filter p = [ds[i]] := by simp [hp]
        rw [this]
        have h9 := h6.writeP (o := .lst (ys ++ [v])) (ψ := .ls K ((ds.take i).filter p ++ [ds[i]])) (.there .here) fun F' x e2 q2 hx hφ => ?_
        · exact h9.tail
        · obtain ⟨zs, rfl, hzs⟩ := hφ
          rw [h7] at hx
          cases hx
          exact ⟨_, rfl, hzs.app (.cons (q2 _ (.head _)) .nil)⟩
    · refine ⟨by omega, ?_⟩
      rw [e, List.filter_append]
      have : [ds[i]].filter p = [] := by simp [hp]
      rw [this, List.append_nil]
      exact hS1
  · have e : i = ds.length := by omega
    subst e
    rw [List.take_length] at hS1
    obtain ⟨xs, h3, h4⟩ := hS1.lenl hl.cons
    exact .inl ⟨⟨xs, SqL.of h3, by rw [h4]; simp⟩, h q H hS1⟩
end
end Lg

/-! Tables of the module with text keys; xs[-2::-1]; max of a list; the head with tables and one more Bool. -/
namespace Lg
open PySem PySem.Spec PyProof.Rows L2
abbrev AlTB : Type := He.AlT × Bool
def obsTB (n : Nat) (fa : List He.Fa) (fn : List He.DefD) (ts : List He.Tab) (ex : PySem.W.Frag → Bool) (g : Addr → Option Obj) : AlTB := (He.obsTG n fa fn ts g, ex (He.frG g (He.asD g n)))
def hookTB (n : Nat) (fa : List He.Fa) (fn : List He.DefD) (ts : List He.Tab) (ex : PySem.W.Frag → Bool) : PySem.W.Hook where
  α := AlTB
  obs := fun s => obsTB n fa fn ts ex s.heap.get?
  val := fun w => (He.valT fn ts w, true)
  says := fun w h => ∃ K : PySem.W.Frag, K.In h ∧ He.SaysT fa fn ts w K ∧ ex K = true
  of := fun _ _ e => ⟨_, He.frG_in, congrArg (fun z : AlTB => z.1) e, congrArg (fun z : AlTB => z.2) e⟩
  keeps := fun _ _ _ ⟨K, hK, c⟩ k => ⟨K, PySem.W.Frag.In.keeps hK k, c⟩
theorem obsTB_eq {n : Nat} {fa : List He.Fa} {fn : List He.DefD} {ts : List He.Tab} {ex : PySem.W.Frag → Bool} {g : Addr → Option Obj} {s : Shared} (h : ∀ a, g a = s.heap.get? a) : obsTB n fa fn ts ex g = (hookTB n fa fn ts ex).obs s := by
  have e : g = s.heap.get? := funext h
  rw [e] <;> rfl
/-! ### a table: its ints by key; what is no key -/
def kdB (K : PySem.W.Frag) (a : Addr) (kvs : List (Str × Int)) (no : List Str) : Bool := (kvs.all fun q => match PySem.W.nsIn K a q.1 with
  | some (some (.int j _)) => decide (j = q.2)
  | _ => false) && no.all fun z => decide (PySem.W.nsIn K a z = some none)
theorem kdB_get {K : PySem.W.Frag} {a : Addr} {kvs : List (Str × Int)} {no : List Str} (h : kdB K a kvs no = true) {q : Str × Int} (hq : q ∈ kvs) : ∃ u, PySem.W.nsIn K a q.1 = some (some u) ∧ RelV (.int q.2) u := by
  have h2 := List.all_eq_true.mp (Bool.and_eq_true_iff.mp h).1 q hq
  cases e : PySem.W.nsIn K a q.1 with
  | none =>
    rw [e] at h2
    cases h2
  | some r =>
    rw [e] at h2
    cases r with
    | none => cases h2
    | some u =>
      cases u with
      | int j t =>
        have : j = q.2 := of_decide_eq_true h2
        exact ⟨_, rfl, t, by rw [this]⟩
      | _ => cases h2
theorem kdB_no {K : PySem.W.Frag} {a : Addr} {kvs : List (Str × Int)} {no : List Str} (h : kdB K a kvs no = true) {z : Str} (hz : z ∈ no) : PySem.W.nsIn K a z = some none :=
  of_decide_eq_true (List.all_eq_true.mp (Bool.and_eq_true_iff.mp h).2 z hz)
def rKdIn (K : PySem.W.Frag) (a : Addr) : R2 := fun x y H Q => ∃ (z : Str) (r : Option Value), x = .str z ∧ y = .ref a ∧ PySem.W.nsIn K a z = some r ∧ Q (.bl r.isSome) H
def rKdIx (K : PySem.W.Frag) (a : Addr) : R2 := fun x y H Q => ∃ (z : Str) (u0 : Value) (v0 : V), x = .ref a ∧ y = .str z ∧ PySem.W.nsIn K a z = some (some u0) ∧ RelV v0 u0 ∧ Q v0 H
section
variable {X : Cx} {a : Addr}
theorem o_inkd (D : ∃ es n, KDict X.K X.w a es n) : OpR X (compareOp .In) (rKdIn X.K a) := by
  obtain ⟨es, n, D⟩ := D
  exact op_in_kd D
theorem ix_kd (D : ∃ es n, KDict X.K X.w a es n) : IxR X (rKdIx X.K a) := by
  obtain ⟨es, n, D⟩ := D
  intro value slice pins s σ H x y v u Q I rx ry h hs
  obtain ⟨z, u0, v0, rfl, rfl, e, r, q⟩ := h
  obtain rfl : v = Value.ref a := rx
  obtain ⟨t, rfl⟩ := ry
  have hm := PySem.W.mapOf_K (prog := X.prog) (w := X.w) I.kIn D.at_ D.lit
  exact tail_any hm.typeIs slot_dict_getitem.lookup (wpAny_getItem_of (strKind_is X.prog X.w z t) hm (PySem.W.find_K D.at_ e) ⟨v0, H, I.tok _, r, q⟩) hs
theorem c_maxL (hc : X.calm = true) : CallR X (.builtin "max") (rMax X.K) := cr_max hc
end
/-! ### a call without arguments -/
theorem pe_c0 {X : Cx} {k j : Nat} {x : Str} {sp : Sp} {dvs : List V} {p pos : Pos} (c : C8.Cal X.prog X.w X.K X.mg X.base k x sp dvs) (hr : Room j X.A) (hk : k ≤ j) (hg : Gl X x)
    (hdb : (x == ("__debug__" : Str)) = false := by decide) : PE X (.Call (.Name x p) [] [] pos) (tCall sp dvs C8.E0 tNil) := by
  obtain ⟨f, fd, ps, ds, F, hm, kp, b, d⟩ := c.ex
  exact pe_call0 F (hr.mono hk) hg hm kp b d C8.pass0 hdb
/-! ### xs[-2::-1] -/
theorem sl2_bounds (n : Nat) : sliceBounds (some (-2)) none (some (-1)) n = (max (-1) (min (-2 + (n : Int)) ((n : Int) - 1)), -1, -1) := by
  first
  | rfl
  | simp [sliceBounds]
theorem sl2_pick (items : Array Value) : slicePick items (some (-2)) none (some (-1)) = items.toList.dropLast.reverse.toArray := by
  unfold slicePick
  rw [sl2_bounds]
  show ((sliceRange (max (-1) (min (-2 + (items.size : Int)) ((items.size : Int) - 1))) (-1) (-1)).filterMap (items[·]?)).toArray = _
  by_cases h0 : items.size = 0
  · rw [h0]
    have : items = #[] := Array.eq_empty_of_size_eq_zero h0
    subst this
    rfl
  · have e : max (-1) (min (-2 + (items.size : Int)) ((items.size : Int) - 1)) = ((items.size - 1 : Nat) : Int) - 1 := by omega
    rw [e, PySem.W.krv_sliceRange, PySem.W.krv_range, List.filterMap_reverse]
    congr 2
    have hd : items.toList.dropLast = items.toList.take (items.size - 1) := by
      rw [List.dropLast_eq_take, Array.length_toList]
    rw [hd]
    have h := pick_run items 0 (items.size - 1)
    have e2 : (List.range (items.size - 1)).map (0 + ·) = List.range (items.size - 1) := by
      rw [show ((0 + ·) : Nat → Nat) = id from funext fun k => Nat.zero_add k, List.map_id]
    rw [e2, List.drop_zero] at h
    exact h
def tRev2 (K : PySem.W.Frag) (te : TE) : TE := fun σ H Q => te σ H fun x H1 => ∃ a xs, x = .ref a ∧ SqL K H1 a xs ∧ ∀ p, H1 p = none → Q (.ref p) (upd H1 p (.lst xs.dropLast.reverse))
theorem pe_rev2 {X : Cx} {e : Expr} {te : TE} {k j : Nat} {p0 p4 p1 p2 p3 pos : Pos} (he : PE X e te) : PE X (.Subscript e (.Slice (some (.UnaryOp .USub (.Constant (.int 2) j p0) p4)) none (some (.UnaryOp .USub (.Constant (.int 1) k p1) p2)) p3) pos) (tRev2 X.K te) := by
  refine ⟨fun pins s σ H Q I h => ?_⟩
  refine Subscript_ (thn (he.run pins s σ H _ I h) fun v s1 ⟨x, H1, I1, r1, q1⟩ => ?_)
  obtain ⟨a, xs, ex, hx, q⟩ := q1
  subst ex
  cases r1
  have hst : PO X (some (.UnaryOp .USub (.Constant (.int 1) k p1) p2)) (tPart (tUn (rU fun i => .int (-i)) (tC (.int 1)))) := po_some (pe_un un_neg pe_int)
  have hlo : PO X (some (.UnaryOp .USub (.Constant (.int 2) j p0) p4)) (tPart (tUn (rU fun i => .int (-i)) (tC (.int 2)))) := po_some (pe_un un_neg pe_int)
  refine wpAny_Slice (thn (hlo.run pins s1 σ H1 (fun o H2 => o = some (-2) ∧ H2 = H1) I1 ⟨2, rfl, -2, rfl, rfl, rfl⟩) fun vl s2 ⟨l, H2, I2, pl, el, e2⟩ => ?_)
  subst el e2
  refine thn (po_none.run pins s2 σ H2 (fun o H3 => o = none ∧ H3 = H2) I2 ⟨rfl, rfl⟩) fun vu s3 ⟨u, H3, I3, pu, eu, e3⟩ => ?_
  subst eu e3
  refine thn (hst.run pins s3 σ H3 (fun o H4 => o = some (-1) ∧ H4 = H3) I3 ⟨1, rfl, -1, rfl, rfl, rfl⟩) fun vs s4 ⟨o, H4, I4, ps, eo, e4⟩ => ?_
  subst eo e4
  have I5 : Inv X pins σ H4 { s4 with heap := s4.heap.push { cls := .type "slice", data := .fields #[vl, vu, vs] } } := I4.kept (t' := s4.toks) fun b ob q => Heap.get?_push_of_some _ q
  obtain ⟨its, r, ht, hz⟩ := I5.list hx
  have hlen := r.length
  refine (show wpAny (model X.prog X.w) X.A (subscriptTail e (.Slice (some (.UnaryOp .USub (.Constant (.int 2) j p0) p4)) none (some (.UnaryOp .USub (.Constant (.int 1) k p1) p2)) p3) (.ref a) (.ref s4.heap.objs.size)) (EP X pins σ Q) X.xe { s4 with heap := s4.heap.push { cls := .type "slice", data := .fields #[vl, vu, vs] } } from ?_)
  refine tail_any (ops := [.ref a, .ref s4.heap.objs.size]) ht.isList.typeIs (PySem.slot_list_getitem.lookup) ?_ (by with_unfolding_all rfl)
  refine wpAny_getItem_list_slice ht.isList (Heap.IsSliceOf.new _ vl vu vs) pl pu ps (by decide) ?_ (by rw [List.size_toArray]; omega)
  rw [sl2_pick]
  refine ⟨.ref _, _, I5.laid (t' := s4.toks) (o := .lst xs.dropLast.reverse) (fun b ob q => Heap.get?_push_of_some _ q) (Nat.le_refl _) ?_, rfl, q _ (I5.hok.fresh (Nat.le_refl _))⟩
  have hd : Vals xs.dropLast its.dropLast := by
    have e1 : xs.dropLast = xs.take (xs.length - 1) := List.dropLast_eq_take
    have e2 : its.dropLast = its.take (its.length - 1) := List.dropLast_eq_take
    rw [e1, e2, hlen]
    exact r.take _
  exact ⟨by rw [List.length_reverse, List.length_dropLast]; omega, _, 0, hd.reverse, Heap.get?_push_size _ rfl⟩
section
variable {K : PySem.W.Frag} {L L' : List Ent} {H : Hp} {σ : L2.St} {Q : VK} {a : Addr} {ds : List PyData} {te : TE}
theorem DvAll.rev {F : Hp} : ∀ {xs : List V} {ds : List PyData}, DvAll K F xs ds → DvAll K F xs.reverse ds.reverse
  | [], [], _ => .nil
  | x :: xs, d :: ds, .cons h r => by
    rw [List.reverse_cons, List.reverse_cons]
    exact (DvAll.rev r).app (.cons h .nil)
theorem w_rev2L (hS : St K L H) (h1 : LsIn K L a ds) (h : ∀ q H', St K (Lg.ls K q ds.dropLast.reverse :: L) H' → Q (.ref q) H') : ∃ a' xs, (V.ref a) = .ref a' ∧ SqL K H a' xs ∧ ∀ p, H p = none → Q (.ref p) (upd H p (.lst xs.dropLast.reverse)) := by
  obtain ⟨F, xs, g1, g2, g3, g4⟩ := hS.lsin h1
  refine ⟨a, xs, rfl, SqL.of g3, fun q hq => h q _ (hS.alloc hq fun F' e w => ?_)⟩
  obtain ⟨xs', k1, k2⟩ := h1.ok e w
  rw [g3] at k1; cases k1
  refine ⟨_, rfl, DvAll.rev ?_⟩
  have e1 : xs.dropLast = xs.take (xs.length - 1) := List.dropLast_eq_take
  have e2 : ds.dropLast = ds.take (ds.length - 1) := List.dropLast_eq_take
  rw [e1, e2, g4.len]
  exact k2.take _
theorem w_rev2 (h : te σ H fun x H1 => ∃ a xs, x = .ref a ∧ SqL K H1 a xs ∧ ∀ p, H1 p = none → Q (.ref p) (upd H1 p (.lst xs.dropLast.reverse))) : tRev2 K te σ H Q := h
theorem w_maxL {ns : List Int} (hS : St K L H) (hl : LsIn K L a (ns.map PyData.int)) (hn : 0 < ns.length) (h : ∀ m, m ∈ ns → (∀ y, y ∈ ns → y ≤ m) → Q (.int m) H) : rMax K [.ref a] H Q := by
  obtain ⟨F, xs, h1, h2, h3, h4⟩ := hS.lsin hl
  refine ⟨a, ns, rfl, ?_, hn, h⟩
  have := h4.ints_inv
  subst this
  exact SqL.of h3
end
theorem map_at {α β : Type} {l : List α} {f : α → β} {i : Nat} {d : β} (h : (l.map f)[i]? = some d) : ∃ x, l[i]? = some x ∧ d = f x := by
  rw [List.getElem?_map] at h
  cases hx : l[i]? with
  | none => rw [hx] at h; cases h
  | some x => rw [hx] at h; exact ⟨x, rfl, (Option.some.inj h).symm⟩
end Lg

/-! [f(x) for x in xs if test], where test and f make new things; what follows a test, told once; promises of defs that call themselves. -/
namespace Lg
open PySem PySem.Spec PyProof.Rows L2
section
variable {K : PySem.W.Frag} {L : List Ent} {σ : L2.St} {H : Hp} {Q : VK} {a : Addr} {ds : List PyData} {g : TG} {tt tu : TT} {ta tb te : TE} {vs : List Nat}
theorem LsIn.see (h : LsIn K L a ds) : See K L (.ref a) (.list ds) := by
  cases h with
  | own m => exact .own m
  | dat m => exact .is (.dat m)
theorem eqv_nil (ds : List PyData) : PyData.eqv (.list ds) (.list []) = ds.isEmpty := by
  cases ds <;> simp [PyData.eqv, PyData.eqvAll]
theorem w_and3 {R : Bool → Hp → Prop} (P : Hp → Prop) (hf : ∀ H2, P H2 → R false H2) (h : (∀ H2, P H2 → R false H2) → tt σ H fun c H1 => if c = true then tu σ H1 R else R false H1) : tAnd tt tu σ H R := h hf
theorem w_or3 {R : Bool → Hp → Prop} (P : Hp → Prop) (hf : ∀ H2, P H2 → R true H2) (h : (∀ H2, P H2 → R true H2) → tt σ H fun c H1 => if c = true then R true H1 else tu σ H1 R) : tOr tt tu σ H R := h hf
theorem w_ifz {b : Bool} {z : V} (h1 : b = true → ∀ R : VK, R z H → ta σ H R) (h2 : b = false → ∀ R : VK, R z H → tb σ H R) (h : Q z H) : if b = true then ta σ H Q else tb σ H Q := by
  cases b with
  | true => rw [if_pos rfl]; exact h1 rfl _ h
  | false => rw [if_neg (by simp)]; exact h2 rfl _ h
theorem w_lcG (f : PyData → Option PyData) (hS : St K L H) (hl : LsIn K L a ds) (hn : ds.length ≤ 100000)
    (hs : ∀ (v : V) (d : PyData) (H : Hp) (q : Addr) (es : List PyData) (Z1 : VK) (Z2 : Hp → Prop), d ∈ ds → St K (.dat v d :: .cell q (.ls K es) :: L) H → (∀ e, f d = some e → ∀ y H3, St K (.dat y e :: .cell q (.ls K es) :: L) H3 → Z1 y H3) →
      (f d = none → ∀ H3, St K (.cell q (.ls K es) :: L) H3 → Z2 H3) → g v (wipe σ vs) H fun σ2 H2 => wipe σ2 vs = wipe σ vs ∧ tt σ2 H2 fun b H3 => if b = true then te σ2 H3 Z1 else Z2 H3)
    (h : ∀ q H', St K (.cell q (.ls K (ds.filterMap f)) :: L) H' → Q (.ref q) H') : LcW (Itl K a) g tt te vs σ H Q := by
  intro q hq
  refine ⟨fun i m H => m = ds.length - i ∧ i ≤ ds.length ∧ St K (.cell q (.ls K ((ds.take i).filterMap f)) :: L) H, ⟨ds.length, by simp, Nat.zero_le _, hS.alloc hq fun F _ _ => ⟨[], rfl, .nil⟩⟩, ?_⟩
  rintro i m H ⟨rfl, hi, hS1⟩
  by_cases hlt : i < ds.length
  · obtain ⟨xs, v, h3, h5, _, h6⟩ := hS1.item hl.cons (k := i) (d := ds[i]) (by simp [hlt])
    refine .inr ⟨⟨xs, v, SqL.of h3, h5⟩, fun H' => i + 1 ≤ ds.length ∧ St K (.cell q (.ls K ((ds.take (i + 1)).filterMap f)) :: L) H', fun H' w => ⟨ds.length - (i + 1), by omega, rfl, w⟩, fun x H' y => ?_⟩
    obtain ⟨rfl, y⟩ := y
    have hx := y xs (SqL.of h3)
    rw [h5] at hx
    have hvx := Option.some.inj hx
    subst hvx
    have e : ds.take (i + 1) = ds.take i ++ [ds[i]] := by rw [List.take_add_one]; simp [hlt]
    refine hs v ds[i] H' _ _ _ _ (List.getElem_mem hlt) h6 (fun e1 hp y H3 hS3 => ?_) fun hp H3 hS3 => ?_
    · obtain ⟨F, ys, h1, h2, h7, h8⟩ := hS3.lsin (.own (.tail _ (.head _)))
      refine ⟨ys, h7, ?_, by omega, ?_⟩
      · rw [h8.len]
        refine Nat.lt_of_le_of_lt ?_ (show 100000 < sizeLine by decide)
        exact Nat.le_trans (List.length_filterMap_le _ _) (by simp; omega)
      · rw [e, List.filterMap_append]
        have : [ds[i]].filterMap f = [e1] := by simp [hp]
        rw [this]
        have h9 := hS3.writeP (o := .lst (ys ++ [y])) (ψ := .ls K ((ds.take i).filterMap f ++ [e1])) (.there .here) fun F' x e2 q2 hx hφ => ?_
        · exact h9.tail
        · obtain ⟨zs, rfl, hzs⟩ := hφ
          rw [h7] at hx
          cases hx
          exact ⟨_, rfl, hzs.app (.cons (q2 _ (.head _)) .nil)⟩
    · refine ⟨by omega, ?_⟩
      rw [e, List.filterMap_append]
      have : [ds[i]].filterMap f = [] := by simp [hp]
      rw [this, List.append_nil]
      exact hS3
  · have e : i = ds.length := by omega
    subst e
    rw [List.take_length] at hS1
    obtain ⟨xs, h3, h4⟩ := hS1.lenl hl.cons
    exact .inl ⟨⟨xs, SqL.of h3, by rw [h4]; simp⟩, h q H hS1⟩
/-- .. over a tuple -/
theorem w_lcGT {xs : List V} (f : PyData → Option PyData) (hS : St K L H) (hm : Ent.fact (Fr.tupf K a xs ds) ∈ L) (hn : ds.length ≤ 100000)
    (hs : ∀ (v : V) (d : PyData) (H : Hp) (q : Addr) (es : List PyData) (Z1 : VK) (Z2 : Hp → Prop), d ∈ ds → St K (.dat v d :: .cell q (.ls K es) :: L) H → (∀ e, f d = some e → ∀ y H3, St K (.dat y e :: .cell q (.ls K es) :: L) H3 → Z1 y H3) →
      (f d = none → ∀ H3, St K (.cell q (.ls K es) :: L) H3 → Z2 H3) → g v (wipe σ vs) H fun σ2 H2 => wipe σ2 vs = wipe σ vs ∧ tt σ2 H2 fun b H3 => if b = true then te σ2 H3 Z1 else Z2 H3)
    (h : ∀ q H', St K (.cell q (.ls K (ds.filterMap f)) :: L) H' → Q (.ref q) H') : LcW (Itt K a) g tt te vs σ H Q := by
  intro q hq
  refine ⟨fun i m H => m = ds.length - i ∧ i ≤ ds.length ∧ St K (.cell q (.ls K ((ds.take i).filterMap f)) :: L) H, ⟨ds.length, by simp, Nat.zero_le _, hS.alloc hq fun F _ _ => ⟨[], rfl, .nil⟩⟩, ?_⟩
  rintro i m H ⟨rfl, hi, hS1⟩
  obtain ⟨hT, hlen, hget⟩ := hS1.tf (a := a) (ds := ds) (xs := xs) (.tail _ hm)
  by_cases hlt : i < ds.length
  · have hxi : xs[i]? = some xs[i] := List.getElem?_eq_getElem (by omega)
    have h6 := hget i ds[i] xs[i] (by simp [hlt]) hxi
    refine .inr ⟨⟨xs, xs[i], hT, hxi⟩, fun H' => i + 1 ≤ ds.length ∧ St K (.cell q (.ls K ((ds.take (i + 1)).filterMap f)) :: L) H', fun H' w => ⟨ds.length - (i + 1), by omega, rfl, w⟩, fun x H' y => ?_⟩
    obtain ⟨rfl, y⟩ := y
    have hx := y xs hT
    rw [hxi] at hx
    have hvx := Option.some.inj hx
    subst hvx
    have e : ds.take (i + 1) = ds.take i ++ [ds[i]] := by rw [List.take_add_one]; simp [hlt]
    refine hs _ ds[i] H' _ _ _ _ (List.getElem_mem hlt) h6 (fun e1 hp y H3 hS3 => ?_) fun hp H3 hS3 => ?_
    · obtain ⟨F, ys, h1, h2, h7, h8⟩ := hS3.lsin (.own (.tail _ (.head _)))
      refine ⟨ys, h7, ?_, by omega, ?_⟩
      · rw [h8.len]
        refine Nat.lt_of_le_of_lt ?_ (show 100000 < sizeLine by decide)
        exact Nat.le_trans (List.length_filterMap_le _ _) (by simp; omega)
      · rw [e, List.filterMap_append]
        have : [ds[i]].filterMap f = [e1] := by simp [hp]
        rw [this]
        have h9 := hS3.writeP (o := .lst (ys ++ [y])) (ψ := .ls K ((ds.take i).filterMap f ++ [e1])) (.there .here) fun F' x e2 q2 hx hφ => ?_
        · exact h9.tail
        · obtain ⟨zs, rfl, hzs⟩ := hφ
          rw [h7] at hx
          cases hx
          exact ⟨_, rfl, hzs.app (.cons (q2 _ (.head _)) .nil)⟩
    · refine ⟨by omega, ?_⟩
      rw [e, List.filterMap_append]
      have : [ds[i]].filterMap f = [] := by simp [hp]
      rw [this, List.append_nil]
      exact hS3
  · have e : i = ds.length := by omega
    subst e
    rw [List.take_length] at hS1
    exact .inl ⟨⟨xs, hT, by rw [hlen]; exact Nat.le_refl _⟩, h q H hS1⟩
end
/-! ### a promise told otherwise -/
section
variable {P : Program} {w : World} {K : PySem.W.Frag} {mg : Str → Option Value} {base : Heap} {k : Nat} {x : Str} {C : Addr} {sp sp' : Sp} {dvs : List V}
theorem cal_imp (c : C8.Cal P w K mg base k x sp dvs) (h : ∀ vs H Q E, sp' vs H Q E → sp vs H Q E) : C8.Cal P w K mg base k x sp' dvs := by
  obtain ⟨f, fd, ps, ds, F, r⟩ := c.ex
  exact ⟨f, fd, ps, ds, F.imp h, r⟩
theorem met_imp (c : C8.Met P w K mg base k C x sp dvs) (h : ∀ vs H Q E, sp' vs H Q E → sp vs H Q E) : C8.Met P w K mg base k C x sp' dvs := by
  obtain ⟨f, fd, ps, ds, c1, c2, F, r⟩ := c.ex
  exact ⟨f, fd, ps, ds, c1, c2, F.imp h, r⟩
theorem calX_imp (c : CalX P w K mg base k x sp) (h : ∀ vs H Q E, sp' vs H Q E → sp vs H Q E) : CalX P w K mg base k x sp' := by
  obtain ⟨f, fd, ps, F, r⟩ := c.ex
  exact ⟨f, fd, ps, F.imp h, r⟩
theorem metX_imp (c : MetX P w K mg base k C x sp) (h : ∀ vs H Q E, sp' vs H Q E → sp vs H Q E) : MetX P w K mg base k C x sp' := by
  obtain ⟨f, fd, ps, c1, c2, F, r⟩ := c.ex
  exact ⟨f, fd, ps, c1, c2, F.imp h, r⟩
end
end Lg

/-! ### the head's run (printed by tools/split.py) -/
namespace K02
open PySem PySem.Spec PyProof.Rows L2 Lg
def top (i : Nat) : Stmt := PySem.Challenge.pw_sameasnew_k02_expressions_read_and_writt.main.body.getD i (.Pass ⟨0, 0, 0, 0⟩)
def mth (i j : Nat) : Stmt := match top i with
  | .ClassDef (body := b) .. => b.getD j (.Pass ⟨0, 0, 0, 0⟩)
  | _ => .Pass ⟨0, 0, 0, 0⟩
def tab_RESERVED : List Str := ["import", "export", "let", "keep", "fn", "do", "hold", "if", "then", "else", "set", "from", "as"]
def kvs_STRENGTHS : List (Str × Int) := [("=", 1), ("<", 1), ("+", 2), ("-", 2), ("*", 3)]
def nok_STRENGTHS : List Str := ["call", "if", "name", "number", "set", "sign", "string", "then", "word"]
def hts : List He.Tab := [(fun K => He.ga K "STRENGTHS", ["=", "<", "+", "-", "*"])]
abbrev s_is_name : Stmt := top 13
abbrev s_run_of : Stmt := top 14
abbrev s_token : Stmt := top 15
abbrev s_split : Stmt := top 16
abbrev s_branches : Stmt := top 31
abbrev s_height : Stmt := top 32
abbrev s_parse : Stmt := top 33
abbrev s_sequence_text : Stmt := top 34
abbrev s_atom_text : Stmt := top 35
abbrev s_written : Stmt := top 36
abbrev s_write : Stmt := top 37
abbrev s_l_cell : Stmt := top 39
abbrev s_l_digits : Stmt := top 40
abbrev s_l_draw : Stmt := top 41
abbrev s_l_atom : Stmt := top 42
abbrev s_l_tree : Stmt := top 43
abbrev s_l_level : Stmt := top 44
abbrev s_l_rest : Stmt := top 45
abbrev s_l_write : Stmt := top 46
abbrev s_l_pairs : Stmt := top 47
abbrev s_l_line : Stmt := top 48
abbrev s_l_text : Stmt := top 49
abbrev s_l_alike : Stmt := top 50
abbrev s_l_height : Stmt := top 51
abbrev s_l_loose : Stmt := top 52
abbrev s_l_bounds : Stmt := top 53
abbrev s_law : Stmt := top 54
abbrev s_Reader_init : Stmt := mth 30 0
abbrev s_Reader_at_end : Stmt := mth 30 1
abbrev s_Reader_is : Stmt := mth 30 2
abbrev s_Reader_skips : Stmt := mth 30 3
abbrev s_Reader_name : Stmt := mth 30 4
abbrev s_Reader_whole : Stmt := mth 30 5
abbrev s_Reader_choice : Stmt := mth 30 6
abbrev s_Reader_sign : Stmt := mth 30 7
abbrev s_Reader_compared : Stmt := mth 30 8
abbrev s_Reader_sum : Stmt := mth 30 9
abbrev s_Reader_product : Stmt := mth 30 10
abbrev s_Reader_atom : Stmt := mth 30 11
abbrev s_Reader_parts : Stmt := mth 30 12
abbrev s_Reader_call : Stmt := mth 30 13
abbrev s_Reader_sequence : Stmt := mth 30 14
def hd_is_name : He.DefD := ⟨("is_name", none), "is_name", "is_name", defArgs s_is_name, defBody s_is_name, defScope s_is_name, [], []⟩
def hd_run_of : He.DefD := ⟨("_run_of", none), "_run_of", "_run_of", defArgs s_run_of, defBody s_run_of, defScope s_run_of, [], []⟩
def hd_token : He.DefD := ⟨("_token", none), "_token", "_token", defArgs s_token, defBody s_token, defScope s_token, [], []⟩
def hd_split : He.DefD := ⟨("split", none), "split", "split", defArgs s_split, defBody s_split, defScope s_split, [], []⟩
def hd_branches : He.DefD := ⟨("_branches", none), "_branches", "_branches", defArgs s_branches, defBody s_branches, defScope s_branches, [], []⟩
def hd_height : He.DefD := ⟨("height", none), "height", "height", defArgs s_height, defBody s_height, defScope s_height, [], []⟩
def hd_parse : He.DefD := ⟨("parse", none), "parse", "parse", defArgs s_parse, defBody s_parse, defScope s_parse, [], []⟩
def hd_sequence_text : He.DefD := ⟨("_sequence_text", none), "_sequence_text", "_sequence_text", defArgs s_sequence_text, defBody s_sequence_text, defScope s_sequence_text, [], []⟩
def hd_atom_text : He.DefD := ⟨("_atom_text", none), "_atom_text", "_atom_text", defArgs s_atom_text, defBody s_atom_text, defScope s_atom_text, [], []⟩
def hd_written : He.DefD := ⟨("_written", none), "_written", "_written", defArgs s_written, defBody s_written, defScope s_written, [], []⟩
def hd_write : He.DefD := ⟨("write", none), "write", "write", defArgs s_write, defBody s_write, defScope s_write, [], []⟩
def hd_l_cell : He.DefD := ⟨("_law_cell", none), "_law_cell", "_law_cell", defArgs s_l_cell, defBody s_l_cell, defScope s_l_cell, [], []⟩
def hd_l_digits : He.DefD := ⟨("_law_digits", none), "_law_digits", "_law_digits", defArgs s_l_digits, defBody s_l_digits, defScope s_l_digits, [], []⟩
def hd_l_draw : He.DefD := ⟨("_law_draw", none), "_law_draw", "_law_draw", defArgs s_l_draw, defBody s_l_draw, defScope s_l_draw, [], []⟩
def hd_l_atom : He.DefD := ⟨("_law_atom", none), "_law_atom", "_law_atom", defArgs s_l_atom, defBody s_l_atom, defScope s_l_atom, [], []⟩
def hd_l_tree : He.DefD := ⟨("_law_tree", none), "_law_tree", "_law_tree", defArgs s_l_tree, defBody s_l_tree, defScope s_l_tree, [], []⟩
def hd_l_level : He.DefD := ⟨("_law_level", none), "_law_level", "_law_level", defArgs s_l_level, defBody s_l_level, defScope s_l_level, [], []⟩
def hd_l_rest : He.DefD := ⟨("_law_rest", none), "_law_rest", "_law_rest", defArgs s_l_rest, defBody s_l_rest, defScope s_l_rest, [], []⟩
def hd_l_write : He.DefD := ⟨("_law_write", none), "_law_write", "_law_write", defArgs s_l_write, defBody s_l_write, defScope s_l_write, [], []⟩
def hd_l_pairs : He.DefD := ⟨("_law_pairs", none), "_law_pairs", "_law_pairs", defArgs s_l_pairs, defBody s_l_pairs, defScope s_l_pairs, [], []⟩
def hd_l_line : He.DefD := ⟨("_law_line", none), "_law_line", "_law_line", defArgs s_l_line, defBody s_l_line, defScope s_l_line, [], []⟩
def hd_l_text : He.DefD := ⟨("_law_text", none), "_law_text", "_law_text", defArgs s_l_text, defBody s_l_text, defScope s_l_text, [], []⟩
def hd_l_alike : He.DefD := ⟨("_law_alike", none), "_law_alike", "_law_alike", defArgs s_l_alike, defBody s_l_alike, defScope s_l_alike, [], []⟩
def hd_l_height : He.DefD := ⟨("_law_height", none), "_law_height", "_law_height", defArgs s_l_height, defBody s_l_height, defScope s_l_height, [], []⟩
def hd_l_loose : He.DefD := ⟨("_law_loose", none), "_law_loose", "_law_loose", defArgs s_l_loose, defBody s_l_loose, defScope s_l_loose, [], []⟩
def hd_l_bounds : He.DefD := ⟨("_law_bounds", none), "_law_bounds", "_law_bounds", defArgs s_l_bounds, defBody s_l_bounds, defScope s_l_bounds, [], []⟩
def hd_law : He.DefD := ⟨("law", none), "law", "law", defArgs s_law, defBody s_law, defScope s_law, [], []⟩
def hd_Reader_init : He.DefD := ⟨("Reader", some "__init__"), "__init__", "Reader.__init__", defArgs s_Reader_init, defBody s_Reader_init, defScope s_Reader_init, [], []⟩
def hd_Reader_at_end : He.DefD := ⟨("Reader", some "at_end"), "at_end", "Reader.at_end", defArgs s_Reader_at_end, defBody s_Reader_at_end, defScope s_Reader_at_end, [], []⟩
def hd_Reader_is : He.DefD := ⟨("Reader", some "_is"), "_is", "Reader._is", defArgs s_Reader_is, defBody s_Reader_is, defScope s_Reader_is, [], []⟩
def hd_Reader_skips : He.DefD := ⟨("Reader", some "_skips"), "_skips", "Reader._skips", defArgs s_Reader_skips, defBody s_Reader_skips, defScope s_Reader_skips, [], []⟩
def hd_Reader_name : He.DefD := ⟨("Reader", some "_name"), "_name", "Reader._name", defArgs s_Reader_name, defBody s_Reader_name, defScope s_Reader_name, [], []⟩
def hd_Reader_whole : He.DefD := ⟨("Reader", some "whole"), "whole", "Reader.whole", defArgs s_Reader_whole, defBody s_Reader_whole, defScope s_Reader_whole, [], []⟩
def hd_Reader_choice : He.DefD := ⟨("Reader", some "_choice"), "_choice", "Reader._choice", defArgs s_Reader_choice, defBody s_Reader_choice, defScope s_Reader_choice, [], []⟩
def hd_Reader_sign : He.DefD := ⟨("Reader", some "_sign"), "_sign", "Reader._sign", defArgs s_Reader_sign, defBody s_Reader_sign, defScope s_Reader_sign, [], []⟩
def hd_Reader_compared : He.DefD := ⟨("Reader", some "_compared"), "_compared", "Reader._compared", defArgs s_Reader_compared, defBody s_Reader_compared, defScope s_Reader_compared, [], []⟩
def hd_Reader_sum : He.DefD := ⟨("Reader", some "_sum"), "_sum", "Reader._sum", defArgs s_Reader_sum, defBody s_Reader_sum, defScope s_Reader_sum, [], []⟩
def hd_Reader_product : He.DefD := ⟨("Reader", some "_product"), "_product", "Reader._product", defArgs s_Reader_product, defBody s_Reader_product, defScope s_Reader_product, [], []⟩
def hd_Reader_atom : He.DefD := ⟨("Reader", some "_atom"), "_atom", "Reader._atom", defArgs s_Reader_atom, defBody s_Reader_atom, defScope s_Reader_atom, [], []⟩
def hd_Reader_parts : He.DefD := ⟨("Reader", some "_parts"), "_parts", "Reader._parts", defArgs s_Reader_parts, defBody s_Reader_parts, defScope s_Reader_parts, [], []⟩
def hd_Reader_call : He.DefD := ⟨("Reader", some "_call"), "_call", "Reader._call", defArgs s_Reader_call, defBody s_Reader_call, defScope s_Reader_call, [], []⟩
def hd_Reader_sequence : He.DefD := ⟨("Reader", some "_sequence"), "_sequence", "Reader._sequence", defArgs s_Reader_sequence, defBody s_Reader_sequence, defScope s_Reader_sequence, [], []⟩
def hfn : List He.DefD := [hd_is_name, hd_run_of, hd_token, hd_split, hd_branches, hd_height, hd_parse, hd_sequence_text, hd_atom_text, hd_written, hd_write, hd_l_cell, hd_l_digits, hd_l_draw, hd_l_atom, hd_l_tree, hd_l_level, hd_l_rest, hd_l_write, hd_l_pairs, hd_l_line, hd_l_text, hd_l_alike, hd_l_height, hd_l_loose, hd_l_bounds, hd_law, hd_Reader_init, hd_Reader_at_end, hd_Reader_is, hd_Reader_skips, hd_Reader_name, hd_Reader_whole, hd_Reader_choice, hd_Reader_sign, hd_Reader_compared, hd_Reader_sum, hd_Reader_product, hd_Reader_atom, hd_Reader_parts, hd_Reader_call, hd_Reader_sequence]
def hfa : List He.Fa := [.free "len", .int "NAME_MOST" 6, .free "all", .str "LETTERS" "abcdefghijklmnopqrstuvwxyz", .glo "RESERVED", .str "STRING" "string", .str "QUOTE" "\"", .int "STRING_MOST" 20, .str "DIGITS" "0123456789", .free "int", .str "NUMBER" "number", .free "str", .int "NUMBER_MOST" 99999, .str "WORD" "word", .str "SIGNS" "(),;+-*<=", .str "SIGN" "sign", .free "list", .str "NAME" "name", .str "SET" "set", .str "CALL" "call", .free "max", .int "HEIGHT_MOST" 12, .glo "Reader", .str "THEN" "then", .str "IF" "if", .glo "STRENGTHS", .int "COMPARED" 1, .int "SUM" 2, .int "ATOM" 4, .free "range", .free "tuple", .free "repr", .int "NESTED_MOST" 10, .cls "Reader", .mkr "Reader", .meth "Reader" "at_end", .meth "Reader" "_is", .meth "Reader" "_skips", .meth "Reader" "_name", .meth "Reader" "whole", .meth "Reader" "_choice", .meth "Reader" "_sign", .meth "Reader" "_compared", .meth "Reader" "_sum", .meth "Reader" "_product", .meth "Reader" "_atom", .meth "Reader" "_parts", .meth "Reader" "_call", .meth "Reader" "_sequence", .noat "Reader" "_nested", .noat "Reader" "_at", .noat "Reader" "_tokens", .glo "is_name", .glo "_run_of", .glo "_token", .glo "split", .glo "_branches", .glo "height", .glo "parse", .glo "_sequence_text", .glo "_atom_text", .glo "_written", .glo "write", .glo "_law_cell", .glo "_law_digits", .glo "_law_draw", .glo "_law_atom", .glo "_law_tree", .glo "_law_level", .glo "_law_rest", .glo "_law_write", .glo "_law_pairs", .glo "_law_line", .glo "_law_text", .glo "_law_alike", .glo "_law_height", .glo "_law_loose", .glo "_law_bounds", .glo "law"]
def tabl (K : PySem.W.Frag) : List Bool := [He.tupB K "RESERVED" (tab_RESERVED.map He.Dv.str), kdB K (He.ga K "STRENGTHS") kvs_STRENGTHS nok_STRENGTHS]
def tabs (K : PySem.W.Frag) : Bool := (tabl K).all id
abbrev R : PySem.W.OpenRow := PySem.W.OpenLaw.row PySem.Challenge.rw_sameasnew_k02_expressions_read_and_writt
abbrev hk : PySem.W.Hook := hookTB 4 hfa hfn hts tabs
def ob (s : PySem.W.SharedT) : AlTB := obsTB 4 hfa hfn hts tabs (HandSHeadRun.getT s)
theorem ob_eq (s : PySem.W.SharedT) : ob s = hk.obs s.abs := obsTB_eq (HandSHeadRun.getT_eq s)
def loose0 : List Str := ["NAME_MOST", "NUMBER_MOST", "STRING_MOST", "RESERVED", "LETTERS", "DIGITS", "SIGNS", "QUOTE", "WORD", "NUMBER", "STRING", "SIGN", "is_name", "_run_of", "_token", "split", "NESTED_MOST", "HEIGHT_MOST", "NAME", "CALL"]
def loose1 : List Str := ["IF", "SET", "THEN", "COMPARED", "SUM", "PRODUCT", "ATOM", "STRENGTHS", "Reader", "_branches", "height", "parse", "_sequence_text", "_atom_text", "_written", "write", "_law_cell", "_law_digits", "_law_draw", "_law_atom"]
def loose2 : List Str := ["_law_tree", "_law_level", "_law_rest", "_law_write", "_law_pairs", "_law_line", "_law_text", "_law_alike", "_law_height", "_law_loose", "_law_bounds"]
def loose : List Str := loose0 ++ loose1 ++ loose2
theorem run_false (w : World) : HandSHeadRun.RunEq R (PySem.W.view R.prog [54]) hk ob 6000 loose (w.withFollow "special-get-raises" false) := by
  intro os
  kernel_rfl
theorem run_true (w : World) : HandSHeadRun.RunEq R (PySem.W.view R.prog [54]) hk ob 6000 loose (w.withFollow "special-get-raises" true) := by
  intro os
  kernel_rfl
theorem run (w : World) : HandSHeadRun.RunEq R (PySem.W.view R.prog [54]) hk ob 6000 loose w := PySem.W.byRow2 "special-get-raises" (P := fun w => HandSHeadRun.RunEq R (PySem.W.view R.prog [54]) hk ob 6000 loose w) run_false run_true w
end K02
section
open PySem PySem.W PySem.Calls PyProof.Rows
set_option maxRecDepth 100000 in
set_option maxHeartbeats 0 in
theorem PySem.Challenge.early_sameasnew_k02_expressions_read_and_writt (h : WalkO (view (OpenLaw.row PySem.Challenge.rw_sameasnew_k02_expressions_read_and_writt).prog [54]) K02.loose (XL (view (OpenLaw.row PySem.Challenge.rw_sameasnew_k02_expressions_read_and_writt).prog [54]) []) K02.hk.says (OpenLaw.row PySem.Challenge.rw_sameasnew_k02_expressions_read_and_writt).toRowW (HandSHeadRun.topDef (OpenLaw.row PySem.Challenge.rw_sameasnew_k02_expressions_read_and_writt).prog 54) [] fun f vs => PySem.call f vs) : PySem.Challenge.rw_sameasnew_k02_expressions_read_and_writt.Holds := by
  w_on; o_law
  refine HandSHeadRun.head_any (r := OpenLaw.row PySem.Challenge.rw_sameasnew_k02_expressions_read_and_writt) (q := view (OpenLaw.row PySem.Challenge.rw_sameasnew_k02_expressions_read_and_writt).prog [54]) (H := K02.hk) (ob := K02.ob) (M := 6000) (loose := K02.loose) (d := HandSHeadRun.topDef (OpenLaw.row PySem.Challenge.rw_sameasnew_k02_expressions_read_and_writt).prog 54) (kwd := []) K02.ob_eq
    (by kernel_rfl) (fun s => by kernel_rfl) K02.run (by kernel_rfl) (by kernel_rfl) (by kernel_rfl) (by rfl) (by first | assumption | decide +kernel) (by decide +kernel) ⟨rfl, rfl, rfl, rfl, rfl, by decide +kernel⟩ ?hw h
  case hw => w_witness2
theorem PySem.Challenge.defname_sameasnew_k02_expressions_read_and_writt : (HandSHeadRun.topDef (OpenLaw.row PySem.Challenge.rw_sameasnew_k02_expressions_read_and_writt).prog 54).name = ("law" : PySem.Str) := by kernel_rfl
end

/-! k01, the plain law: tokens of lines -/
namespace Tok
open PySem PySem.NumText Lg
def letters : List Nat := List.range' 97 26
def figs : List Nat := List.range' 48 10
def sgns : List Nat := [40, 41, 44, 59, 43, 45, 42, 60, 61]
inductive Tk where
  | w (l : List Nat) | n (k : Nat) | s (l : List Nat) | g (c : Nat)
  deriving DecidableEq
abbrev zword : List Nat := [119, 111, 114, 100]
abbrev znumber : List Nat := [110, 117, 109, 98, 101, 114]
abbrev zstring : List Nat := [115, 116, 114, 105, 110, 103]
abbrev zsign : List Nat := [115, 105, 103, 110]
def Tk.d : Tk → PyData
  | .w l => .tuple [.str (S zword), .str (S l)]
  | .n k => .tuple [.str (S znumber), .int (k : Int)]
  | .s l => .tuple [.str (S zstring), .str (S l)]
  | .g c => .tuple [.str (S zsign), .str (S [c])]
def Tk.sp : Tk → List Nat
  | .w l => l
  | .n k => dg k
  | .s l => 34 :: l ++ [34]
  | .g c => [c]
def Tk.ok : Tk → Prop
  | .w l => l ≠ [] ∧ l.length ≤ 6 ∧ ∀ c ∈ l, c ∈ letters
  | .n k => k < 100000
  | .s l => l.length ≤ 20 ∧ 34 ∉ l ∧ Asc l
  | .g c => c ∈ sgns
def Tk.kz : Tk → List Nat
  | .w _ => zword
  | .n _ => znumber
  | .s _ => zstring
  | .g _ => zsign
def Tk.vd : Tk → PyData
  | .w l => .str (S l)
  | .n k => .int (k : Int)
  | .s l => .str (S l)
  | .g c => .str (S [c])
theorem Tk.d_eq (t : Tk) : t.d = .tuple [.str (S t.kz), t.vd] := by cases t <;> rfl
/-- the sign that begins such a token -/
def Tk.kd : Tk → Nat
  | .w _ => 0
  | .n _ => 1
  | .s _ => 2
  | .g _ => 3
theorem kz_kd (t u : Tk) : t.kz = u.kz ↔ t.kd = u.kd := by cases t <;> cases u <;> simp [Tk.kz, Tk.kd]
theorem kz_lt (t : Tk) : t.kz ∈ [zword, znumber] ↔ t.kd < 2 := by cases t <;> simp [Tk.kz, Tk.kd]
theorem sp_len {t : Tk} (h : t.ok) : t.sp.length ≤ 22 := by
  cases t with
  | w l => have := h.2.1; show l.length ≤ 22; omega
  | n k => have := dg_len (n := k) (k := 5) (by decide) h; show (dg k).length ≤ 22; omega
  | s l => have := h.1; show (34 :: l ++ [34]).length ≤ 22; simp; omega
  | g c => show 1 ≤ 22; omega
def tokc (c : Nat) (r : List Nat) : Option (Tk × Nat) :=
    if c ∈ sgns then some (.g c, 1)
    else if c ∈ letters then
      if ((c :: r).takeWhile (· ∈ letters)).length ≤ 6 then some (.w ((c :: r).takeWhile (· ∈ letters)), ((c :: r).takeWhile (· ∈ letters)).length) else none
    else if c ∈ figs then
      if 5 < ((c :: r).takeWhile (· ∈ figs)).length ∨ (c = 48 ∧ 1 < ((c :: r).takeWhile (· ∈ figs)).length) then none
      else some (.n (digitsVal ((c :: r).takeWhile (· ∈ figs))), ((c :: r).takeWhile (· ∈ figs)).length)
    else if c = 34 ∧ (r.takeWhile (· ≠ 34)).length < r.length ∧ (r.takeWhile (· ≠ 34)).length ≤ 20 then some (.s (r.takeWhile (· ≠ 34)), (r.takeWhile (· ≠ 34)).length + 2)
    else none
def tok : List Nat → Option (Tk × Nat)
  | [] => none
  | c :: r => tokc c r
theorem tok_cons (c : Nat) (r : List Nat) : tok (c :: r) = tokc c r := rfl
theorem tok_pos {l : List Nat} {t : Tk} {k : Nat} (h : tok l = some (t, k)) : 1 ≤ k ∧ k ≤ l.length := by
  cases l with
  | nil => cases h
  | cons c r =>
    have tw : ∀ p : Nat → Bool, ((c :: r).takeWhile p).length ≤ (c :: r).length := fun p => (List.takeWhile_sublist _).length_le
    have tp : ∀ p : Nat → Bool, p c = true → 1 ≤ ((c :: r).takeWhile p).length := fun p hp => by rw [List.takeWhile_cons, if_pos hp]; simp
    rw [tok_cons] at h
    unfold tokc at h
    split at h
    · cases h; simp
    split at h
    · rename_i hc
      split at h
      · cases h; exact ⟨tp _ (by simpa using hc), tw _⟩
      · cases h
    split at h
    · rename_i hc
      split at h
      · cases h
      · cases h; exact ⟨tp _ (by simpa using hc), tw _⟩
    split at h
    · rename_i hc
      cases h
      simp only [List.length_cons]
      omega
    · cases h
def spl' : Nat → List Nat → Option (List Tk)
  | _, [] => some []
  | 0, _ :: _ => none
  | n + 1, c :: r => if c = 32 then spl' n r else match tok (c :: r) with
    | none => none
    | some (t, k) => (spl' n ((c :: r).drop k)).map (t :: ·)
theorem spl'_fuel : ∀ (n m : Nat) (l : List Nat), l.length ≤ n → l.length ≤ m → spl' n l = spl' m l
  | n, m, [], _, _ => by cases n <;> cases m <;> rfl
  | 0, _, c :: r, h, _ => by simp at h
  | _, 0, c :: r, _, h => by simp at h
  | n + 1, m + 1, c :: r, h1, h2 => by
    simp only [List.length_cons] at h1 h2
    unfold spl'
    split
    · exact spl'_fuel n m r (by omega) (by omega)
    · cases ht : tok (c :: r) with
      | none => rfl
      | some q =>
        obtain ⟨t, k⟩ := q
        have hk := tok_pos ht
        have hl : ((c :: r).drop k).length ≤ r.length := by rw [List.length_drop, List.length_cons]; omega
        show ((spl' n ((c :: r).drop k)).map (t :: ·)) = ((spl' m ((c :: r).drop k)).map (t :: ·))
        rw [spl'_fuel n m _ (by omega) (by omega)]
def spl (l : List Nat) : Option (List Tk) := spl' l.length l
theorem spl_nil : spl [] = some [] := rfl
theorem spl_blank (r : List Nat) : spl (32 :: r) = spl r := by
  unfold spl
  rw [List.length_cons]
  show (if 32 = 32 then _ else _) = _
  rw [if_pos rfl]
theorem spl_tok {c : Nat} {r : List Nat} (hc : c ≠ 32) : spl (c :: r) = match tok (c :: r) with
    | none => none
    | some (t, k) => (spl ((c :: r).drop k)).map (t :: ·) := by
  show (if c = 32 then _ else _) = _
  rw [if_neg hc]
  cases ht : tok (c :: r) with
  | none => rfl
  | some q =>
    obtain ⟨t, k⟩ := q
    have hk := tok_pos ht
    show (spl' r.length ((c :: r).drop k)).map (t :: ·) = (spl ((c :: r).drop k)).map (t :: ·)
    unfold spl
    rw [spl'_fuel r.length _ _ (by rw [List.length_drop, List.length_cons]; omega) (Nat.le_refl _)]
/-! ### quotes come in pairs -/
theorem cnt_tw (p : Nat → Bool) (h : p 34 = false) (l : List Nat) : (l.takeWhile p).count 34 = 0 := by
  rw [List.count_eq_zero]
  intro q
  have := List.all_eq_true.mp (List.all_takeWhile (p := p) (l := l)) 34 q
  rw [h] at this
  cases this
theorem take_tw (p : Nat → Bool) (l : List Nat) : l.take (l.takeWhile p).length = l.takeWhile p := by
  have h := List.takeWhile_append_dropWhile (p := p) (l := l)
  conv => lhs; arg 2; rw [← h]
  rw [List.take_left]
theorem tok_cnt {l : List Nat} {t : Tk} {k : Nat} (h : tok l = some (t, k)) : (l.take k).count 34 % 2 = 0 := by
  cases l with
  | nil => cases h
  | cons c r =>
    rw [tok_cons] at h
    unfold tokc at h
    split at h
    · rename_i hc
      cases h
      have : c ≠ 34 := fun z => by rw [z] at hc; revert hc; decide
      simp [this]
    split at h
    · split at h
      · cases h; rw [take_tw, cnt_tw _ (by decide)]
      · cases h
    split at h
    · split at h
      · cases h
      · cases h; rw [take_tw, cnt_tw _ (by decide)]
    split at h
    · rename_i hc
      cases h
      obtain ⟨rfl, h1, h2⟩ := hc
      have e : (34 :: r).take ((r.takeWhile (· ≠ 34)).length + 2) = 34 :: (r.takeWhile (· ≠ 34) ++ [34]) := by
        rw [show (r.takeWhile (· ≠ 34)).length + 2 = ((r.takeWhile (· ≠ 34)).length + 1) + 1 by omega, List.take_succ_cons, List.take_add_one, take_tw]
        congr 2
        have hd := List.takeWhile_append_dropWhile (p := fun x : Nat => decide (x ≠ 34)) (l := r)
        have hne : r.dropWhile (fun x : Nat => decide (x ≠ 34)) ≠ [] := fun z => by
          rw [z, List.append_nil] at hd
          rw [hd] at h1
          omega
        have hh := List.head_dropWhile_not (fun x : Nat => decide (x ≠ 34)) hne
        cases hx : r.dropWhile (fun x : Nat => decide (x ≠ 34)) with
        | nil => exact absurd hx hne
        | cons y ys =>
          have hy : y = 34 := by
            have hz : ∀ (z : List Nat) (hz : z ≠ []), z = y :: ys → z.head hz = y := by rintro z hz rfl; rfl
            have := hz _ hne hx
            rw [this] at hh
            simpa using hh
          have e2 : r[(r.takeWhile (fun x : Nat => decide (x ≠ 34))).length]? = some y := by
            conv => lhs; arg 1; rw [← hd]
            rw [List.getElem?_append_right (Nat.le_refl _), Nat.sub_self, hx]
            rfl
          rw [e2, hy]
          rfl
      rw [e, List.count_cons, List.count_append, cnt_tw _ (by decide)]
      decide
    · cases h
theorem spl'_cnt : ∀ (n : Nat) (l : List Nat) (ts : List Tk), spl' n l = some ts → l.count 34 % 2 = 0
  | n, [], _, _ => by simp
  | 0, c :: r, _, h => by cases h
  | n + 1, c :: r, ts, h => by
    unfold spl' at h
    split at h
    · rename_i hc
      subst hc
      have := spl'_cnt n r ts h
      rw [List.count_cons]
      simpa using this
    · cases ht : tok (c :: r) with
      | none => rw [ht] at h; cases h
      | some q =>
        obtain ⟨t, k⟩ := q
        rw [ht] at h
        cases hs : spl' n ((c :: r).drop k) with
        | none => simp only [hs] at h; cases h
        | some us =>
          have h1 := spl'_cnt n _ us hs
          have h2 := tok_cnt ht
          have e : (c :: r).count 34 = ((c :: r).take k).count 34 + ((c :: r).drop k).count 34 := by
            rw [← List.count_append, List.take_append_drop]
          omega
theorem spl_cnt {l : List Nat} {ts : List Tk} (h : spl l = some ts) : l.count 34 % 2 = 0 := spl'_cnt _ _ _ h
theorem tw_in : ∀ {r : List Nat}, 34 ∈ r → (r.takeWhile (fun x => decide (x ≠ 34))).length < r.length ∧ r[(r.takeWhile (fun x => decide (x ≠ 34))).length]? = some 34 ∧ 34 ∉ r.take (r.takeWhile (fun x => decide (x ≠ 34))).length
  | [], h => by cases h
  | x :: r, h => by
    by_cases hx : x = 34
    · subst hx
      rw [List.takeWhile_cons, if_neg (by decide)]
      exact ⟨by simp, rfl, by simp⟩
    · have h' : 34 ∈ r := by
        rcases List.mem_cons.mp h with h | h
        · exact absurd h.symm hx
        · exact h
      obtain ⟨h1, h2, h3⟩ := tw_in h'
      rw [List.takeWhile_cons, if_pos (decide_eq_true hx)]
      refine ⟨by simp only [List.length_cons]; omega, by simpa using h2, fun z => ?_⟩
      rw [List.length_cons, List.take_succ_cons] at z
      rcases List.mem_cons.mp z with z | z
      · exact hx z.symm
      · exact h3 z
theorem tw_out {r : List Nat} (h : 34 ∉ r) : r.takeWhile (fun x => decide (x ≠ 34)) = r := by
  have := takeWhile_take (p := fun x => decide (x ≠ 34)) (r := r) (m := r.length) (fun x hx => decide_eq_true fun z => h (by rw [List.take_length] at hx; exact z ▸ hx)) (fun x hx => by simp at hx)
  rw [this, List.take_length]
theorem toks_of : ∀ {es : List PyData}, (∀ e ∈ es, ∃ t, Tk.ok t ∧ e = t.d) → ∃ ts : List Tk, es = ts.map Tk.d ∧ ts.length = es.length ∧ ∀ t ∈ ts, t.ok
  | [], _ => ⟨[], rfl, rfl, by simp⟩
  | e :: es, h => by
    obtain ⟨t, ht, rfl⟩ := h e (.head _)
    obtain ⟨ts, rfl, h2, h3⟩ := toks_of (es := es) fun e he => h e (.tail _ he)
    exact ⟨t :: ts, rfl, by simp, fun u hu => by
      rcases List.mem_cons.mp hu with rfl | hu
      · exact ht
      · exact h3 u hu⟩
theorem asc_letters {l : List Nat} (h : ∀ c ∈ l, c ∈ letters) : Asc l := fun c hc => by
  have := h c hc
  unfold letters at this
  rw [List.mem_range'_1] at this
  omega
theorem sh_tk {t : Tk} (h : t.ok) : Shw 1 86 t.d := by
  rw [Tk.d_eq]
  refine sh_tuple (n := 0) (w := 42) (fun d hd => ?_) (by show 2 * 43 ≤ 86; decide)
  simp only [List.mem_cons, List.mem_nil_iff, or_false] at hd
  have hk : Shw 0 42 (.str (S t.kz)) := sh_str 0 (by cases t <;> simp [Asc, Tk.kz]) (by cases t <;> simp [Tk.kz])
  rcases hd with rfl | rfl
  · exact hk
  · cases t with
    | w l => exact sh_str 0 (asc_letters h.2.2) (by have := h.2.1; omega)
    | n k => exact sh_int 0 (by have : k < 100000 := h; omega) (by decide)
    | s l => exact sh_str 0 h.2.2 (by have := h.1; omega)
    | g c => exact sh_str 0 (fun x hx => by
        have : x = c := by simpa using hx
        rw [this]
        have h' : c ∈ sgns := h
        have : ∀ c ∈ sgns, c < 1114112 := by decide
        exact this c h') (by show 1 ≤ 42; decide)
theorem sh_tks {ts : List Tk} (h : ∀ t ∈ ts, t.ok) (hn : ts.length ≤ 14) : Shw 2 1218 (.list (ts.map Tk.d)) := by
  refine sh_list (n := 1) (w := 86) (fun d hd => ?_) (by rw [List.length_map]; omega)
  obtain ⟨t, ht, rfl⟩ := List.mem_map.mp hd
  exact sh_tk (h t ht)
/-! ### texts put together -/
theorem mem_letters {c : Nat} : c ∈ letters ↔ 97 ≤ c ∧ c ≤ 122 := by
  unfold letters
  rw [List.mem_range'_1]
  omega
theorem mem_figs {c : Nat} : c ∈ figs ↔ 48 ≤ c ∧ c ≤ 57 := by
  unfold figs
  rw [List.mem_range'_1]
  omega
theorem sgn_out : ∀ c ∈ sgns, c ∉ letters ∧ c ∉ figs ∧ c ≠ 34 ∧ c ≠ 32 := by decide
/-- X may stand behind the token t -/
def Del (t : Tk) (X : List Nat) : Prop := (t.kd = 0 → ∀ c, X.head? = some c → c ∉ letters) ∧ (t.kd = 1 → ∀ c, X.head? = some c → c ∉ figs)
theorem tok_sp {t : Tk} {X : List Nat} (ht : t.ok) (hd : Del t X) : tok (t.sp ++ X) = some (t, t.sp.length) ∧ ∃ c r, t.sp = c :: r ∧ c ≠ 32 := by
  cases t with
  | w l =>
    obtain ⟨h1, h2, h3⟩ := ht
    have tw : (l ++ X).takeWhile (fun x => decide (x ∈ letters)) = l := takeWhile_app (fun c hc => decide_eq_true (h3 c hc)) fun c hc => decide_eq_false (hd.1 rfl c hc)
    cases l with
    | nil => exact absurd rfl h1
    | cons c r =>
      have hc := h3 c (.head _)
      have hs : c ∉ sgns := fun z => (sgn_out c z).1 hc
      refine ⟨?_, c, r, rfl, fun z => by rw [z] at hc; revert hc; decide⟩
      show tok (c :: (r ++ X)) = _
      rw [tok_cons]
      unfold tokc
      rw [if_neg hs, if_pos hc, show c :: (r ++ X) = c :: r ++ X from rfl, tw, if_pos h2]
      rfl
  | n k =>
    have ha : ∀ c ∈ dg k, c ∈ figs := fun c hc => mem_figs.mpr (dg_digits k c hc)
    have tw : (dg k ++ X).takeWhile (fun x => decide (x ∈ figs)) = dg k := takeWhile_app (fun c hc => decide_eq_true (ha c hc)) fun c hc => decide_eq_false (hd.2 rfl c hc)
    have h5 := dg_len (n := k) (k := 5) (by decide) ht
    have hp := dg_pos k
    have hv := dg_val k
    have hz := dg_head (n := k)
    show tok (dg k ++ X) = some (.n k, (dg k).length) ∧ ∃ c r, dg k = c :: r ∧ c ≠ 32
    cases hl : dg k with
    | nil => rw [hl] at hp; cases hp
    | cons c r =>
      rw [hl] at ha tw h5 hp hv hz
      have hc := ha c (.head _)
      have hs : c ∉ sgns := fun z => (sgn_out c z).2.1 hc
      have hn : c ∉ letters := fun z => by rw [mem_letters] at z; rw [mem_figs] at hc; omega
      refine ⟨?_, c, r, rfl, fun z => by rw [z] at hc; revert hc; decide⟩
      show tok (c :: (r ++ X)) = _
      rw [tok_cons]
      unfold tokc
      rw [if_neg hs, if_neg hn, if_pos hc, show c :: (r ++ X) = c :: r ++ X from rfl, tw, if_neg, hv]
      rintro (q | ⟨q1, q2⟩)
      · omega
      · have := hz (by rw [q1]; rfl)
        omega
  | s l =>
    obtain ⟨h1, h2, _⟩ := ht
    have tw : (l ++ 34 :: X).takeWhile (fun x => decide (x ≠ 34)) = l := takeWhile_app (fun c hc => decide_eq_true fun z => h2 (z ▸ hc)) fun c hc => by
      have : c = 34 := (Option.some.inj hc).symm
      rw [this]; rfl
    refine ⟨?_, 34, l ++ [34], rfl, by decide⟩
    show tok (34 :: (l ++ [34]) ++ X) = _
    rw [List.cons_append, List.append_assoc]
    show tok (34 :: (l ++ 34 :: X)) = _
    rw [tok_cons]
    unfold tokc
    rw [if_neg (by decide), if_neg (by decide), if_neg (by decide), tw, if_pos ⟨rfl, by simp, h1⟩]
    simp [Tk.sp]
  | g c =>
    have h : c ∈ sgns := ht
    refine ⟨?_, c, [], rfl, (sgn_out c h).2.2.2⟩
    show tok (c :: X) = _
    rw [tok_cons]
    unfold tokc
    rw [if_pos h]
    rfl
theorem spl_sp {t : Tk} {X : List Nat} (ht : t.ok) (hd : Del t X) : spl (t.sp ++ X) = (spl X).map (t :: ·) := by
  obtain ⟨h1, c, r, e, hc⟩ := tok_sp ht hd
  rw [e] at h1
  rw [e]
  show spl (c :: (r ++ X)) = _
  rw [spl_tok hc]
  have h1' : tok (c :: (r ++ X)) = some (t, (c :: r).length) := h1
  rw [h1']
  show (spl ((c :: r ++ X).drop (c :: r).length)).map (t :: ·) = _
  rw [List.drop_left]
def Bl (g : List Nat) : Prop := ∀ c ∈ g, c = 32
theorem spl_bl : ∀ {g X : List Nat}, Bl g → spl (g ++ X) = spl X
  | [], X, _ => rfl
  | c :: g, X, h => by
    rw [h c (.head _)]
    show spl (32 :: (g ++ X)) = _
    rw [spl_blank, spl_bl fun d hd => h d (.tail _ hd)]
/-- tokens, each with the blanks behind it -/
abbrev TRow := List (Tk × List Nat)
def jn (ps : TRow) : List Nat := ps.flatMap fun p => p.1.sp ++ p.2
def TRow.ok (ps : TRow) : Prop := (∀ p ∈ ps, p.1.ok ∧ Bl p.2) ∧ ∀ (i : Nat) (p q : Tk × List Nat), ps[i]? = some p → ps[i + 1]? = some q → p.1.kd = q.1.kd → p.1.kd < 2 → p.2 ≠ []
theorem head_sp {t : Tk} (h : t.ok) (X : List Nat) : ∃ c, (t.sp ++ X).head? = some c ∧ (c ∈ letters → t.kd = 0) ∧ (c ∈ figs → t.kd = 1) := by
  cases t with
  | w l =>
    cases l with
    | nil => exact absurd rfl h.1
    | cons c r =>
      have hc := h.2.2 c (.head _)
      refine ⟨c, rfl, fun _ => rfl, fun z => ?_⟩
      rw [mem_letters] at hc
      rw [mem_figs] at z
      omega
  | n k =>
    have hp := dg_pos k
    have hd := dg_digits k
    show ∃ c, (dg k ++ X).head? = some c ∧ _
    cases hl : dg k with
    | nil => rw [hl] at hp; cases hp
    | cons c r =>
      rw [hl] at hd
      have hc := hd c (.head _)
      refine ⟨c, rfl, fun z => ?_, fun _ => rfl⟩
      rw [mem_letters] at z
      omega
  | s l => exact ⟨34, rfl, fun z => absurd z (by decide), fun z => absurd z (by decide)⟩
  | g c =>
    have h' : c ∈ sgns := h
    exact ⟨c, rfl, fun z => absurd z (sgn_out c h').1, fun z => absurd z (sgn_out c h').2.1⟩
theorem spl_jn : ∀ (ps : TRow) (Y : List Nat), TRow.ok ps → (∀ c, Y.head? = some c → c = 32) → spl (jn ps ++ Y) = (spl Y).map (ps.map (·.1) ++ ·)
  | [], Y, _, _ => by
    show spl Y = _
    cases spl Y <;> rfl
  | (t, g) :: ps, Y, h, hY => by
    have hps : TRow.ok ps := ⟨fun p hp => h.1 p (.tail _ hp), fun i p q hp hq => h.2 (i + 1) p q (by simpa using hp) (by simpa using hq)⟩
    obtain ⟨ht, hg⟩ := h.1 (t, g) (.head _)
    have e : jn ((t, g) :: ps) ++ Y = t.sp ++ (g ++ (jn ps ++ Y)) := by simp [jn]
    have n32 : (32 : Nat) ∉ letters ∧ (32 : Nat) ∉ figs := by decide
    have hdel : Del t (g ++ (jn ps ++ Y)) := by
      cases hgg : g with
      | cons b g2 =>
        have hb : b = 32 := hg b (by rw [hgg]; exact .head _)
        refine ⟨fun _ c hc => ?_, fun _ c hc => ?_⟩
        · rw [← (Option.some.inj hc : b = c), hb]; exact n32.1
        · rw [← (Option.some.inj hc : b = c), hb]; exact n32.2
      | nil =>
        cases hpp : ps with
        | nil =>
          refine ⟨fun _ c hc => ?_, fun _ c hc => ?_⟩
          · rw [hY c hc]; exact n32.1
          · rw [hY c hc]; exact n32.2
        | cons q qs =>
          obtain ⟨u, gu⟩ := q
          have hu := (h.1 (u, gu) (by rw [hpp]; exact .tail _ (.head _))).1
          have hcond := h.2 0 (t, g) (u, gu) rfl (by rw [hpp]; rfl)
          obtain ⟨c0, hc0, hl, hf⟩ := head_sp hu (gu ++ (jn qs ++ Y))
          have e2 : [] ++ (jn ((u, gu) :: qs) ++ Y) = u.sp ++ (gu ++ (jn qs ++ Y)) := by simp [jn]
          rw [e2]
          refine ⟨fun hk c hc => ?_, fun hk c hc => ?_⟩
          · rw [hc0] at hc
            cases hc
            intro z
            exact hcond (by show t.kd = u.kd; rw [hk, hl z]) (by show t.kd < 2; omega) hgg
          · rw [hc0] at hc
            cases hc
            intro z
            exact hcond (by show t.kd = u.kd; rw [hk, hf z]) (by show t.kd < 2; omega) hgg
    rw [e, spl_sp ht hdel, spl_bl hg, spl_jn ps Y hps hY]
    cases spl Y <;> rfl
theorem spl_row {g : List Nat} {ps : TRow} (hg : Bl g) (h : TRow.ok ps) : spl (g ++ jn ps) = some (ps.map (·.1)) := by
  rw [spl_bl hg]
  have := spl_jn ps [] h (fun c hc => by cases hc)
  rw [List.append_nil] at this
  rw [this, spl_nil]
  simp
/-- a line that is none, behind one that is -/
theorem spl_bad1 {g : List Nat} {ps : TRow} {b : List Nat} (hg : Bl g) (h : TRow.ok ps) (hb : spl b = none) : spl (g ++ jn ps ++ [32] ++ b) = none := by
  rw [List.append_assoc, List.append_assoc, spl_bl hg, spl_jn ps ([32] ++ b) h (fun c hc => by simp at hc; exact hc.symm)]
  show (spl (32 :: b)).map _ = none
  rw [spl_blank, hb]
  rfl
def bads : List (List Nat) := [[97, 98, 99, 100, 101, 102, 103], [49, 48, 48, 48, 48, 48], [48, 48, 55], [34], 34 :: List.replicate 21 120 ++ [34], [65], [95], [39], [123], [97, 46, 98], [91], [62], [48, 48]]
theorem bads_len : ∀ b ∈ bads, b.length ≤ 23 := by decide +kernel
theorem bads_none : ∀ b ∈ bads, spl b = none := by decide +kernel
theorem spl_bad2 {b Y : List Nat} {ts : List Tk} (hb : b ∈ bads) (hY : spl Y = some ts) : spl (b ++ [32] ++ Y) = none := by
  have tw1 : ∀ (p : Nat → Bool) (l : List Nat), (∀ c ∈ l, p c = true) → p 32 = false → (l ++ [32] ++ Y).takeWhile p = l := fun p l h1 h2 => by
    rw [List.append_assoc]
    exact takeWhile_app h1 fun c hc => by rw [← (Option.some.inj hc : 32 = c)]; exact h2
  have one : ∀ c : Nat, c ≠ 32 → c ∉ sgns → c ∉ letters → c ∉ figs → c ≠ 34 → spl ([c] ++ [32] ++ Y) = none := fun c h1 h2 h3 h4 h5 => by
    show spl (c :: (32 :: Y)) = none
    rw [spl_tok h1]
    rw [tok_cons]
    unfold tokc
    rw [if_neg h2, if_neg h3, if_neg h4, if_neg fun q => h5 q.1]
  have num : ∀ (c : Nat) (r : List Nat), (∀ x ∈ c :: r, x ∈ figs) → (5 < (c :: r).length ∨ (c = 48 ∧ 1 < (c :: r).length)) → spl (c :: r ++ [32] ++ Y) = none := fun c r h1 h2 => by
    have hc := h1 c (.head _)
    show spl (c :: (r ++ [32] ++ Y)) = none
    rw [spl_tok (fun z => by rw [z] at hc; revert hc; decide)]
    rw [tok_cons]
    unfold tokc
    rw [if_neg (fun z => (sgn_out c z).2.1 hc), if_neg (fun z => by rw [mem_letters] at z; rw [mem_figs] at hc; omega), if_pos hc]
    rw [show c :: (r ++ [32] ++ Y) = c :: r ++ [32] ++ Y from rfl, tw1 _ _ (fun x hx => decide_eq_true (h1 x hx)) (by decide), if_pos h2]
  unfold bads at hb
  simp only [List.mem_cons, List.mem_nil_iff, or_false] at hb
  rcases hb with rfl | rfl | rfl | rfl | rfl | rfl | rfl | rfl | rfl | rfl | rfl | rfl | rfl
  · show spl (97 :: ([98, 99, 100, 101, 102, 103] ++ [32] ++ Y)) = none
    rw [spl_tok (by decide)]
    rw [tok_cons]
    unfold tokc
    rw [if_neg (by decide), if_pos (by decide), show 97 :: ([98, 99, 100, 101, 102, 103] ++ [32] ++ Y) = [97, 98, 99, 100, 101, 102, 103] ++ [32] ++ Y from rfl, tw1 _ _ (by decide) (by decide), if_neg (by decide)]
  · exact num _ _ (by decide) (by decide)
  · exact num _ _ (by decide) (by decide)
  · cases hz : spl ([34] ++ [32] ++ Y) with
    | none => rfl
    | some us =>
      have h1 := spl_cnt hz
      have h2 := spl_cnt hY
      have e : ([34] ++ [32] ++ Y).count 34 = 1 + Y.count 34 := by
        rw [List.count_append]
        rfl
      omega
  · show spl (34 :: (List.replicate 21 120 ++ [34] ++ [32] ++ Y)) = none
    rw [spl_tok (by decide)]
    rw [tok_cons]
    unfold tokc
    have tw : (List.replicate 21 120 ++ [34] ++ [32] ++ Y).takeWhile (fun x => decide (x ≠ 34)) = List.replicate 21 120 := by
      rw [List.append_assoc, List.append_assoc]
      exact takeWhile_app (by decide) fun c hc => by rw [← (Option.some.inj hc : 34 = c)]; rfl
    rw [if_neg (by decide), if_neg (by decide), if_neg (by decide), tw, if_neg (by rintro ⟨_, _, q⟩; revert q; decide)]
  · exact one _ (by decide) (by decide) (by decide) (by decide) (by decide)
  · exact one _ (by decide) (by decide) (by decide) (by decide) (by decide)
  · exact one _ (by decide) (by decide) (by decide) (by decide) (by decide)
  · exact one _ (by decide) (by decide) (by decide) (by decide) (by decide)
  · show spl (97 :: ([46, 98] ++ [32] ++ Y)) = none
    rw [spl_tok (by decide)]
    have e : tok (97 :: ([46, 98] ++ [32] ++ Y)) = some (.w [97], 1) := by
      rw [tok_cons]
      unfold tokc
      rw [if_neg (by decide), if_pos (by decide)]
      have tw : (97 :: ([46, 98] ++ [32] ++ Y)).takeWhile (fun x => decide (x ∈ letters)) = [97] := takeWhile_app (l := [97]) (x := 46 :: 98 :: 32 :: Y) (by decide) fun c hc => by rw [← (Option.some.inj hc : 46 = c)]; decide
      rw [tw]
      rfl
    rw [e]
    show (spl (46 :: 98 :: 32 :: Y)).map _ = none
    rw [spl_tok (by decide)]
    rw [tok_cons]
    unfold tokc
    rw [if_neg (by decide), if_neg (by decide), if_neg (by decide), if_neg (by rintro ⟨q, _⟩; revert q; decide)]
    rfl
  · exact one _ (by decide) (by decide) (by decide) (by decide) (by decide)
  · exact one _ (by decide) (by decide) (by decide) (by decide) (by decide)
  · exact num _ _ (by decide) (by decide)
end Tok

/-! k02, the plain law: trees, their texts, what reads them -/
namespace Xp
open PySem PySem.NumText Lg Tok
/-! ### trees -/
inductive Tr where
  | num (k : Nat) | str (z : List Nat) | nam (z : List Nat)
  | op (c : Nat) (l r : Tr) | ite (a b c : Tr) | set (z : List Nat) (e : Tr) | thn (a b : Tr) | call (z : List Nat) (ts : List Tr)
abbrev zname : List Nat := [110, 97, 109, 101]
abbrev zcall : List Nat := [99, 97, 108, 108]
abbrev zif : List Nat := [105, 102]
abbrev zset : List Nat := [115, 101, 116]
abbrev zthen : List Nat := [116, 104, 101, 110]
abbrev zelse : List Nat := [101, 108, 115, 101]
mutual
def Tr.d : Tr → PyData
  | .num k => .tuple [.str (S znumber), .int (k : Int)]
  | .str z => .tuple [.str (S zstring), .str (S z)]
  | .nam z => .tuple [.str (S zname), .str (S z)]
  | .op c l r => .tuple [.str (S [c]), l.d, r.d]
  | .ite a b c => .tuple [.str (S zif), a.d, b.d, c.d]
  | .set z e => .tuple [.str (S zset), .str (S z), e.d]
  | .thn a b => .tuple [.str (S zthen), a.d, b.d]
  | .call z ts => .tuple [.str (S zcall), .str (S z), .tuple (Tr.ds ts)]
def Tr.ds : List Tr → List PyData
  | [] => []
  | t :: r => t.d :: Tr.ds r
end
theorem ds_eq : ∀ ts : List Tr, Tr.ds ts = ts.map Tr.d
  | [] => by simp [Tr.ds]
  | t :: r => by simp [Tr.ds, ds_eq r]
mutual
def Tr.ht : Tr → Nat
  | .num _ => 1
  | .str _ => 1
  | .nam _ => 1
  | .op _ l r => 1 + max l.ht r.ht
  | .ite a b c => 1 + max a.ht (max b.ht c.ht)
  | .set _ e => 1 + e.ht
  | .thn a b => 1 + max a.ht b.ht
  | .call _ ts => 1 + Tr.hts ts
def Tr.hts : List Tr → Nat
  | [] => 0
  | t :: r => max t.ht (Tr.hts r)
end
theorem ht_le_hts : ∀ {ts : List Tr} {t : Tr}, t ∈ ts → t.ht ≤ Tr.hts ts
  | u :: r, t, h => by
    rw [Tr.hts]
    rcases List.mem_cons.mp h with rfl | h
    · omega
    · have := ht_le_hts h
      omega
theorem ht_pos : ∀ t : Tr, 1 ≤ t.ht := by intro t; cases t <;> simp [Tr.ht] <;> omega
def opl (c : Nat) : Nat := if c = 60 ∨ c = 61 then 1 else if c = 43 ∨ c = 45 then 2 else 3
def Tr.lvl : Tr → Nat
  | .op c _ _ => opl c
  | .ite .. => 0
  | .set .. => 0
  | _ => 4
def par (b : Bool) (x : List Nat) : List Nat := if b then 40 :: x ++ [41] else x
def lef (c : Nat) : Nat := if opl c = 1 then 2 else opl c
def joinW (s : List Nat) : List (List Nat) → List Nat
  | [] => []
  | [x] => x
  | x :: y :: r => x ++ s ++ joinW s (y :: r)
mutual
/-- the canonical text; the flag: without the parentheses of a sequence -/
def Tr.tx : Bool → Tr → List Nat
  | _, .num k => dg k
  | _, .str z => 34 :: z ++ [34]
  | _, .nam z => z
  | _, .op c l r => par (decide (l.lvl < lef c)) (Tr.tx false l) ++ [32, c, 32] ++ par (decide (r.lvl < opl c + 1)) (Tr.tx false r)
  | _, .ite a b c => [105, 102, 32] ++ Tr.tx false a ++ [32, 116, 104, 101, 110, 32] ++ Tr.tx false b ++ [32, 101, 108, 115, 101, 32] ++ Tr.tx false c
  | _, .set z e => [115, 101, 116, 32] ++ z ++ [32, 61, 32] ++ Tr.tx false e
  | m, .thn a b => par (!m) (Tr.tx false a ++ [59, 32] ++ Tr.tx true b)
  | _, .call z ts => z ++ [40] ++ joinW [44, 32] (Tr.txs ts) ++ [41]
def Tr.txs : List Tr → List (List Nat)
  | [] => []
  | t :: r => Tr.tx false t :: Tr.txs r
end
theorem txs_eq : ∀ ts : List Tr, Tr.txs ts = ts.map (Tr.tx false)
  | [] => by simp [Tr.txs]
  | t :: r => by simp [Tr.txs, txs_eq r]
def Tr.wr (t : Tr) (l : Nat) : List Nat := par (decide (t.lvl < l)) (t.tx false)
theorem wr0 (t : Tr) : t.wr 0 = t.tx false := by simp [Tr.wr, par]
/-! ### names -/
def resL : List (List Nat) := [[105, 109, 112, 111, 114, 116], [101, 120, 112, 111, 114, 116], [108, 101, 116], [107, 101, 101, 112], [102, 110], [100, 111], [104, 111, 108, 100], [105, 102], [116, 104, 101, 110], [101, 108, 115, 101], [115, 101, 116], [102, 114, 111, 109], [97, 115]]
def isName (l : List Nat) : Bool := (decide ((1 : Int) ≤ (l.length : Int)) && decide ((l.length : Int) ≤ 6)) && (l.all (fun c => decide (c ∈ letters)) && !decide (l ∈ resL))
/-! ### reading -/
abbrev Re (α : Type) := Option (Option (α × List Tk))
def bindR {α β : Type} (x : Re α) (f : α → List Tk → Re β) : Re β := match x with
  | none => none
  | some none => some none
  | some (some (a, q)) => f a q
abbrev PF := Nat → List Tk → Re Tr
structure Ps where
  whole : PF
  choice : PF
  comp : PF
  sum : PF
  prod : PF
  atom : PF
  parts : Nat → Nat → List Tk → Re (List Tr)
  call : List Nat → PF
  seq : PF
def word (z : List Nat) (q : List Tk) (f : List Tk → Re Tr) : Re Tr := match q with
  | .w y :: q' => if y = z then f q' else some none
  | _ => some none
def wholeF (p : Ps) : PF := fun k r => match r with
  | .w z :: r' => if z = zif then p.choice k r' else if z = zset then (match r' with
      | .w y :: q => if isName y then (match q with
          | .g 61 :: q' => bindR (p.whole k q') fun t q2 => some (some (.set y t, q2))
          | _ => some none) else some none
      | _ => some none) else p.comp k r
  | _ => p.comp k r
def choiceF (p : Ps) : PF := fun k r => bindR (p.whole k r) fun a q => word zthen q fun q => bindR (p.whole k q) fun b q => word zelse q fun q => bindR (p.whole k q) fun c q => some (some (.ite a b c, q))
/-- the sign that stands ahead, if it is one of some -/
def sgnOf (cs : List Nat) (q : List Tk) : Option (Nat × List Tk) := match q with
  | .g c :: q' => if c ∈ cs then some (c, q') else none
  | _ => none
def compF (p : Ps) : PF := fun k r => bindR (p.sum k r) fun l q => match sgnOf [61, 60] q with
  | some (c, q') => bindR (p.sum k q') fun t q2 => some (some (.op c l t, q2))
  | none => some (some (l, q))
def loop (f : PF) (cs : List Nat) (k : Nat) : Nat → Tr → List Tk → Re Tr
  | 0, _, _ => none
  | n + 1, l, q => match sgnOf cs q with
    | some (c, q') => bindR (f k q') fun t q2 => loop f cs k n (.op c l t) q2
    | none => some (some (l, q))
def sumF (p : Ps) : PF := fun k r => bindR (p.prod k r) fun l q => loop p.prod [43, 45] k (q.length + 1) l q
def prodF (p : Ps) : PF := fun k r => bindR (p.atom k r) fun l q => loop p.atom [42] k (q.length + 1) l q
def atomF (p : Ps) : PF := fun k r => match r with
  | [] => some none
  | .n i :: q => some (some (.num i, q))
  | .s z :: q => some (some (.str z, q))
  | .g c :: q => if c = 40 then p.seq k (.g c :: q) else some none
  | .w z :: q => if isName z then (match q with
      | .g 40 :: _ => p.call z k q
      | _ => some (some (.nam z, q))) else some none
def partsL (f : PF) (s k : Nat) : Nat → List Tr → List Tk → Re (List Tr)
  | 0, _, _ => none
  | n + 1, acc, q => bindR (f k q) fun t q2 => match q2 with
    | .g c :: q3 => if c = s then partsL f s k n (acc ++ [t]) q3 else if c = 41 then some (some (acc ++ [t], q3)) else some none
    | _ => some none
def partsF (p : Ps) : Nat → Nat → List Tk → Re (List Tr) := fun s k r =>
  if 10 < k + 1 then some none else
  if s = 44 ∧ r.tail.head? = some (.g 41) then some (some ([], r.tail.tail)) else partsL p.whole s (k + 1) (r.length + 1) [] r.tail
def callF (p : Ps) : List Nat → PF := fun z k r => bindR (p.parts 44 k r) fun ts q => some (some (.call z ts, q))
def seqT (ts : List Tr) : Tr := match ts.getLast? with
  | none => .num 0
  | some t => ts.dropLast.foldr .thn t
def seqF (p : Ps) : PF := fun k r => bindR (p.parts 59 k r) fun ts q => some (some (seqT ts, q))
def noP : Ps := ⟨fun _ _ => none, fun _ _ => none, fun _ _ => none, fun _ _ => none, fun _ _ => none, fun _ _ => none, fun _ _ _ => none, fun _ _ _ => none, fun _ _ => none⟩
def lev : Nat → Ps
  | 0 => noP
  | n + 1 => ⟨wholeF (lev n), choiceF (lev n), compF (lev n), sumF (lev n), prodF (lev n), atomF (lev n), partsF (lev n), callF (lev n), seqF (lev n)⟩
/-! ### what is read, by tokens -/
def sepT (c : Nat) : List (List Tk) → List Tk
  | [] => []
  | [x] => x
  | x :: y :: r => x ++ .g c :: sepT c (y :: r)
/-- s are the tokens of t where something as strong as l may stand; n: so deep -/
inductive Tx : Nat → Nat → Tr → List Tk → Prop
  | num {n k : Nat} : Tx n 4 (.num k) [.n k]
  | str {n : Nat} {z : List Nat} : Tx n 4 (.str z) [.s z]
  | nam {n : Nat} {z : List Nat} (h : isName z = true) : Tx n 4 (.nam z) [.w z]
  | call {n : Nat} {z : List Nat} {ps : List (Tr × List Tk)} (h : isName z = true) (hp : ∀ p ∈ ps, Tx n 0 p.1 p.2) : Tx (n + 1) 4 (.call z (ps.map (·.1))) (.w z :: .g 40 :: sepT 44 (ps.map (·.2)) ++ [.g 41])
  | seq {n : Nat} {ps : List (Tr × List Tk)} (h : ps ≠ []) (hp : ∀ p ∈ ps, Tx n 0 p.1 p.2) : Tx (n + 1) 4 (seqT (ps.map (·.1))) (.g 40 :: sepT 59 (ps.map (·.2)) ++ [.g 41])
  | mul {n : Nat} {a b : Tr} {s u : List Tk} (ha : Tx n 3 a s) (hb : Tx n 4 b u) : Tx (n + 1) 3 (.op 42 a b) (s ++ .g 42 :: u)
  | add {n c : Nat} {a b : Tr} {s u : List Tk} (h : c ∈ [43, 45]) (ha : Tx n 2 a s) (hb : Tx n 3 b u) : Tx (n + 1) 2 (.op c a b) (s ++ .g c :: u)
  | cmp {n c : Nat} {a b : Tr} {s u : List Tk} (h : c ∈ [61, 60]) (ha : Tx n 2 a s) (hb : Tx n 2 b u) : Tx (n + 1) 1 (.op c a b) (s ++ .g c :: u)
  | ite {n : Nat} {a b c : Tr} {s u v : List Tk} (ha : Tx n 0 a s) (hb : Tx n 0 b u) (hc : Tx n 0 c v) : Tx (n + 1) 0 (.ite a b c) (.w zif :: (s ++ .w zthen :: (u ++ .w zelse :: v)))
  | set {n : Nat} {z : List Nat} {e : Tr} {s : List Tk} (h : isName z = true) (he : Tx n 0 e s) : Tx (n + 1) 0 (.set z e) (.w zset :: .w z :: .g 61 :: s)
  | up {n l : Nat} {t : Tr} {s : List Tk} (h : Tx n (l + 1) t s) : Tx n l t s
  | wk {n l : Nat} {t : Tr} {s : List Tk} (h : Tx n l t s) : Tx (n + 1) l t s
theorem Tx.ups {n l l' : Nat} {t : Tr} {s : List Tk} (h : Tx n l' t s) (hl : l ≤ l') : Tx n l t s := by
  induction l' generalizing l with
  | zero => have : l = 0 := by omega
            subst this; exact h
  | succ m ih =>
    by_cases e : l = m + 1
    · subst e; exact h
    · exact ih h.up (by omega)
theorem Tx.wks {n n' l : Nat} {t : Tr} {s : List Tk} (h : Tx n l t s) (hn : n ≤ n') : Tx n' l t s := by
  induction n' with
  | zero => have : n = 0 := by omega
            subst this; exact h
  | succ m ih =>
    by_cases e : n = m + 1
    · subst e; exact h
    · exact (ih (by omega)).wk
/-- what may not follow -/
def nohd (cs : List Nat) (q : List Tk) : Prop := ∀ c, q.head? = some (.g c) → c ∉ cs
theorem nohd.sub {cs ds : List Nat} {q : List Tk} (h : nohd cs q) (s : ∀ c ∈ ds, c ∈ cs) : nohd ds q := fun c e m => h c e (s c m)
theorem sgnOf_no {cs : List Nat} {q : List Tk} (h : nohd cs q) : sgnOf cs q = none := by
  unfold sgnOf
  split
  · rename_i c q'
    rw [if_neg (h c rfl)]
  · rfl
theorem sgnOf_yes {cs : List Nat} {c : Nat} {q : List Tk} (h : c ∈ cs) : sgnOf cs (.g c :: q) = some (c, q) := by
  show (if c ∈ cs then some (c, q) else none) = _
  rw [if_pos h]
def fin1 (l : Nat) : List Nat := if l ≤ 1 then [40, 42, 43, 45, 61, 60] else if l = 2 then [40, 42] else [40]
/-- what is read at a level -/
def Rd1 (d l k : Nat) (t : Tr) (s q : List Tk) : Prop := match l with
  | 0 => (lev d).whole k (s ++ q) = some (some (t, q))
  | 1 => (lev d).comp k (s ++ q) = some (some (t, q))
  | 2 => ∃ m, q.length < m ∧ (lev d).sum k (s ++ q) = loop (lev (d - 1)).prod [43, 45] k m t q
  | 3 => ∃ m, q.length < m ∧ (lev d).prod k (s ++ q) = loop (lev (d - 1)).atom [42] k m t q
  | _ => (lev d).atom k (s ++ q) = some (some (t, q))
theorem loop_end {f : PF} {cs : List Nat} {k m : Nat} {t : Tr} {q : List Tk} (hm : 0 < m) (h : nohd cs q) : loop f cs k m t q = some (some (t, q)) := by
  cases m with
  | zero => omega
  | succ m => rw [loop, sgnOf_no h]
theorem head_no {z : List Nat} (h : isName z = true) : z ≠ zif ∧ z ≠ zset ∧ z ≠ zthen ∧ z ≠ zelse := by
  have h2 : ¬ z ∈ resL := by
    unfold isName at h
    rw [Bool.and_eq_true, Bool.and_eq_true, Bool.and_eq_true] at h
    have := h.2.2
    simpa using this
  refine ⟨?_, ?_, ?_, ?_⟩ <;> (rintro rfl; exact h2 (by decide))
/-- the head of an expression's tokens is not a word of choices, unless it is whole -/
theorem Tx.hd {n l : Nat} {t : Tr} {s : List Tk} (h : Tx n l t s) : 1 ≤ l → ∃ x r, s = x :: r ∧ (∀ z, x = .w z → isName z = true) := by
  induction h with
  | num => exact fun _ => ⟨_, _, rfl, fun z e => by cases e⟩
  | str => exact fun _ => ⟨_, _, rfl, fun z e => by cases e⟩
  | nam h => exact fun _ => ⟨_, _, rfl, fun z e => by cases e; exact h⟩
  | call h _ _ => exact fun _ => ⟨_, _, rfl, fun z e => by cases e; exact h⟩
  | seq h _ _ => exact fun _ => ⟨_, _, rfl, fun z e => by cases e⟩
  | mul ha hb i1 i2 => obtain ⟨x, r, rfl, hx⟩ := i1 (by omega); exact fun _ => ⟨x, _, rfl, hx⟩
  | add h ha hb i1 i2 => obtain ⟨x, r, rfl, hx⟩ := i1 (by omega); exact fun _ => ⟨x, _, rfl, hx⟩
  | cmp h ha hb i1 i2 => obtain ⟨x, r, rfl, hx⟩ := i1 (by omega); exact fun _ => ⟨x, _, rfl, hx⟩
  | ite => intro h; omega
  | set => intro h; omega
  | up h i => exact fun _ => i (by omega)
  | wk h i => exact i
theorem whole_comp {d k : Nat} {s : List Tk} (h : ∃ x r, s = x :: r ∧ (∀ z, x = .w z → isName z = true)) : (lev (d + 1)).whole k s = (lev d).comp k s := by
  obtain ⟨x, r, rfl, hx⟩ := h
  show wholeF (lev d) k (x :: r) = _
  unfold wholeF
  cases x with
  | w z =>
    obtain ⟨h1, h2, _, _⟩ := head_no (hx z rfl)
    simp only [h1, h2, if_false]
  | _ => rfl
theorem Rd1.down {d l k : Nat} {t : Tr} {s q : List Tk} (h : Rd1 d (l + 1) k t s q) (hs : ∃ x r, s = x :: r ∧ (∀ z, x = .w z → isName z = true)) (hq : nohd (fin1 l) q) (hl : l ≤ 3) : Rd1 (d + 1) l k t s q := by
  match l, hl with
  | 0, _ =>
    show (lev (d + 1)).whole k (s ++ q) = _
    rw [whole_comp (by obtain ⟨x, r, rfl, hx⟩ := hs; exact ⟨x, r ++ q, rfl, hx⟩)]
    exact h
  | 1, _ =>
    obtain ⟨m, hm, e⟩ := h
    show compF (lev d) k (s ++ q) = _
    unfold compF
    rw [e, loop_end (by omega) (hq.sub (by decide))]
    show (match sgnOf [61, 60] q with | some (c, q') => _ | none => _) = _
    rw [sgnOf_no (hq.sub (by decide))]
  | 2, _ =>
    obtain ⟨m, hm, e⟩ := h
    refine ⟨q.length + 1, by omega, ?_⟩
    show sumF (lev d) k (s ++ q) = _
    unfold sumF
    rw [e, loop_end (by omega) (hq.sub (by decide))]
    rfl
  | 3, _ =>
    refine ⟨q.length + 1, by omega, ?_⟩
    show prodF (lev d) k (s ++ q) = _
    unfold prodF
    rw [show (lev d).atom k (s ++ q) = _ from h]
    rfl
theorem Tx.hd0 {n l : Nat} {t : Tr} {s : List Tk} (h : Tx n l t s) : ∃ x r, s = x :: r ∧ x ≠ .g 41 := by
  induction h with
  | num => exact ⟨_, _, rfl, by simp⟩
  | str => exact ⟨_, _, rfl, by simp⟩
  | nam h => exact ⟨_, _, rfl, by simp⟩
  | call h _ _ => exact ⟨_, _, rfl, by simp⟩
  | seq h _ _ => exact ⟨_, _, rfl, by simp⟩
  | mul ha hb i1 i2 => obtain ⟨x, r, rfl, hx⟩ := i1; exact ⟨x, _, rfl, hx⟩
  | add h ha hb i1 i2 => obtain ⟨x, r, rfl, hx⟩ := i1; exact ⟨x, _, rfl, hx⟩
  | cmp h ha hb i1 i2 => obtain ⟨x, r, rfl, hx⟩ := i1; exact ⟨x, _, rfl, hx⟩
  | ite => exact ⟨_, _, rfl, by simp⟩
  | set => exact ⟨_, _, rfl, by simp⟩
  | up h i => exact i
  | wk h i => exact i
theorem partsL_ok {d k s n : Nat} (hs : s = 44 ∨ s = 59) : ∀ (ps : List (Tr × List Tk)) (m : Nat) (acc : List Tr) (q : List Tk), ps ≠ [] → ps.length ≤ m →
    (∀ p ∈ ps, ∀ q, nohd (fin1 0) q → (lev d).whole k (p.2 ++ q) = some (some (p.1, q))) →
    partsL (lev d).whole s k m acc (sepT s (ps.map (·.2)) ++ .g 41 :: q) = some (some (acc ++ ps.map (·.1), q))
  | [], _, _, _, h, _, _ => absurd rfl h
  | [p], m, acc, q, _, hm, hp => by
    cases m with
    | zero => simp at hm
    | succ m =>
      show partsL _ _ _ (m + 1) acc (p.2 ++ .g 41 :: q) = _
      rw [partsL, hp p (.head _) _ (fun c e => by cases e; decide)]
      show (if 41 = s then _ else if 41 = 41 then _ else _) = _
      rw [if_neg (by rcases hs with rfl | rfl <;> decide), if_pos rfl]
      rfl
  | p :: p2 :: ps, m, acc, q, _, hm, hp => by
    cases m with
    | zero => simp at hm
    | succ m =>
      have e : sepT s ((p :: p2 :: ps).map (·.2)) ++ .g 41 :: q = p.2 ++ .g s :: (sepT s ((p2 :: ps).map (·.2)) ++ .g 41 :: q) := by
        show (p.2 ++ .g s :: sepT s (p2.2 :: ps.map (·.2))) ++ _ = _
        simp [sepT]
      rw [e, partsL, hp p (.head _) _ (fun c e => by cases e; rcases hs with rfl | rfl <;> decide)]
      show (if s = s then _ else _) = _
      rw [if_pos rfl, partsL_ok (n := n) hs (p2 :: ps) m (acc ++ [p.1]) q (by simp) (by simp at hm ⊢; omega) fun p hp' => hp p (.tail _ hp')]
      simp
theorem sepT_len {s : Nat} : ∀ (ps : List (List Tk)), (∀ p ∈ ps, 1 ≤ p.length) → ps.length ≤ (sepT s ps).length
  | [], _ => by simp [sepT]
  | [x], h => by have := h x (.head _); simpa [sepT] using this
  | x :: y :: r, h => by
    have h1 := h x (.head _)
    have h2 := sepT_len (s := s) (y :: r) fun p hp => h p (.tail _ hp)
    simp [sepT] at h2 ⊢
    omega
theorem parts_ok {d k s n : Nat} {ps : List (Tr × List Tk)} {q : List Tk} (hs : s = 44 ∨ s = 59) (h59 : s = 59 → ps ≠ []) (hk : k + 1 ≤ 10) (hd : ∀ p ∈ ps, ∃ x r, p.2 = x :: r ∧ x ≠ .g 41)
    (hp : ∀ p ∈ ps, ∀ q, nohd (fin1 0) q → (lev d).whole (k + 1) (p.2 ++ q) = some (some (p.1, q))) :
    (lev (d + 1)).parts s k (.g 40 :: (sepT s (ps.map (·.2)) ++ .g 41 :: q)) = some (some (ps.map (·.1), q)) := by
  show partsF (lev d) s k _ = _
  unfold partsF
  rw [if_neg (by omega)]
  match ps, hd, hp, h59 with
  | [], _, _, h59 =>
    have : s = 44 := by rcases hs with h | h; exact h; exact absurd rfl (h59 h)
    rw [if_pos ⟨this, by simp [sepT]⟩]
    simp [sepT]
  | p :: ps, hd, hp, _ =>
    rw [if_neg]
    · show partsL _ _ _ _ _ (sepT s ((p :: ps).map (·.2)) ++ .g 41 :: q) = _
      refine partsL_ok (n := n) hs (p :: ps) _ [] q (by simp) ?_ hp
      have := sepT_len (s := s) ((p :: ps).map (·.2)) fun x hx => by
        obtain ⟨y, hy, rfl⟩ := List.mem_map.mp hx
        obtain ⟨a, r, e, _⟩ := hd y hy
        rw [e]
        simp
      simp at this ⊢
      omega
    · rintro ⟨_, h⟩
      obtain ⟨x, r, e, hx⟩ := hd p (.head _)
      have e2 : (Tk.g 40 :: (sepT s ((p :: ps).map (·.2)) ++ .g 41 :: q)).tail.head? = some x := by
        cases ps with
        | nil => simp [sepT, e]
        | cons p2 ps => simp [sepT, e]
      rw [e2] at h
      exact hx (Option.some.inj h)
theorem Tx.rd {n l : Nat} {t : Tr} {s : List Tk} (h : Tx n l t s) : l ≤ 4 ∧ ∀ (k d : Nat) (q : List Tk), k + n ≤ 10 → 8 * n + 6 ≤ d + l → nohd (fin1 l) q → Rd1 d l k t s q := by
  induction h with
  | num =>
    refine ⟨Nat.le_refl _, fun k d q hk hd hq => ?_⟩
    obtain ⟨d, rfl⟩ : ∃ e, d = e + 1 := ⟨d - 1, by omega⟩
    rfl
  | str =>
    refine ⟨Nat.le_refl _, fun k d q hk hd hq => ?_⟩
    obtain ⟨d, rfl⟩ : ∃ e, d = e + 1 := ⟨d - 1, by omega⟩
    rfl
  | @nam n z h =>
    refine ⟨Nat.le_refl _, fun k d q hk hd hq => ?_⟩
    obtain ⟨d, rfl⟩ : ∃ e, d = e + 1 := ⟨d - 1, by omega⟩
    show atomF (lev d) k (.w z :: q) = _
    unfold atomF
    simp only [h, if_true]
    split
    · rename_i q' 
      exact absurd (by decide) (hq 40 rfl)
    · rfl
  | @call n z ps h hp ih =>
    refine ⟨Nat.le_refl _, fun k d q hk hd hq => ?_⟩
    obtain ⟨d, rfl⟩ : ∃ e, d = e + 3 := ⟨d - 3, by omega⟩
    have e := parts_ok (n := n) (d := d) (k := k) (s := 44) (ps := ps) (q := q) (.inl rfl) (by simp) (by omega) (fun p m => (hp p m).hd0) fun p m q hq => (ih p m).2 (k + 1) d q (by omega) (by omega) hq
    show atomF (lev (d + 2)) k (.w z :: .g 40 :: sepT 44 (ps.map (·.2)) ++ [.g 41] ++ q) = _
    have e2 : (Tk.w z :: .g 40 :: sepT 44 (ps.map (·.2)) ++ [.g 41] ++ q) = .w z :: .g 40 :: (sepT 44 (ps.map (·.2)) ++ .g 41 :: q) := by simp
    rw [e2]
    unfold atomF
    simp only [h, if_true]
    show callF (lev (d + 1)) z k _ = _
    unfold callF
    rw [e]
    rfl
  | @seq n ps h hp ih =>
    refine ⟨Nat.le_refl _, fun k d q hk hd hq => ?_⟩
    obtain ⟨d, rfl⟩ : ∃ e, d = e + 3 := ⟨d - 3, by omega⟩
    have e := parts_ok (n := n) (d := d) (k := k) (s := 59) (ps := ps) (q := q) (.inr rfl) (fun _ => h) (by omega) (fun p m => (hp p m).hd0) fun p m q hq => (ih p m).2 (k + 1) d q (by omega) (by omega) hq
    show atomF (lev (d + 2)) k (.g 40 :: sepT 59 (ps.map (·.2)) ++ [.g 41] ++ q) = _
    have e2 : (Tk.g 40 :: sepT 59 (ps.map (·.2)) ++ [.g 41] ++ q) = .g 40 :: (sepT 59 (ps.map (·.2)) ++ .g 41 :: q) := by simp
    rw [e2]
    show seqF (lev (d + 1)) k _ = _
    unfold seqF
    rw [e]
    rfl
  | @mul n a b s u ha hb ia ib =>
    refine ⟨by omega, fun k d q hk hd hq => ?_⟩
    obtain ⟨d, rfl⟩ : ∃ e, d = e + 1 := ⟨d - 1, by omega⟩
    obtain ⟨m, hm, e⟩ := ia.2 k (d + 1) (.g 42 :: (u ++ q)) (by omega) (by omega) (fun c e => by cases e; decide)
    have eb : (lev d).atom k (u ++ q) = _ := ib.2 k d q (by omega) (by omega) hq
    obtain ⟨m, rfl⟩ : ∃ j, m = j + 1 := ⟨m - 1, by omega⟩
    refine ⟨m, by simp at hm; omega, ?_⟩
    rw [List.append_assoc, List.cons_append, e, loop, sgnOf_yes (by decide)]
    show bindR ((lev d).atom k (u ++ q)) _ = _
    rw [eb]
    rfl
  | @add n c a b s u h ha hb ia ib =>
    refine ⟨by omega, fun k d q hk hd hq => ?_⟩
    obtain ⟨d, rfl⟩ : ∃ e, d = e + 1 := ⟨d - 1, by omega⟩
    obtain ⟨m, hm, e⟩ := ia.2 k (d + 1) (.g c :: (u ++ q)) (by omega) (by omega) (fun c' e => by cases e; revert h; simp; rintro (rfl | rfl) <;> decide)
    obtain ⟨m', hm', eb⟩ := ib.2 k d q (by omega) (by omega) (hq.sub (by decide))
    obtain ⟨m, rfl⟩ : ∃ j, m = j + 1 := ⟨m - 1, by omega⟩
    refine ⟨m, by simp at hm; omega, ?_⟩
    rw [List.append_assoc, List.cons_append, e, loop, sgnOf_yes h]
    show bindR ((lev d).prod k (u ++ q)) _ = _
    rw [eb, loop_end (by omega) (hq.sub (by decide))]
    rfl
  | @cmp n c a b s u h ha hb ia ib =>
    refine ⟨by omega, fun k d q hk hd hq => ?_⟩
    obtain ⟨d, rfl⟩ : ∃ e, d = e + 1 := ⟨d - 1, by omega⟩
    have hc : c = 61 ∨ c = 60 := by simpa using h
    obtain ⟨m, hm, e⟩ := ia.2 k d (.g c :: (u ++ q)) (by omega) (by omega) (fun c' e => by cases e; rcases hc with rfl | rfl <;> decide)
    obtain ⟨m', hm', eb⟩ := ib.2 k d q (by omega) (by omega) (hq.sub (by decide))
    show compF (lev d) k _ = _
    unfold compF
    rw [List.append_assoc, List.cons_append, e, loop_end (by omega) (fun c' e => by cases e; rcases hc with rfl | rfl <;> decide)]
    show (match sgnOf [61, 60] (.g c :: (u ++ q)) with | some (c, q') => bindR ((lev d).sum k q') _ | none => _) = _
    rw [sgnOf_yes h]
    show bindR ((lev d).sum k (u ++ q)) _ = _
    rw [eb, loop_end (by omega) (hq.sub (by decide))]
    rfl
  | @ite n a b c s u v ha hb hc ia ib ic =>
    refine ⟨by omega, fun k d q hk hd hq => ?_⟩
    obtain ⟨d, rfl⟩ : ∃ e, d = e + 2 := ⟨d - 2, by omega⟩
    have ea : (lev d).whole k (s ++ .w zthen :: (u ++ .w zelse :: (v ++ q))) = _ := ia.2 k d _ (by omega) (by omega) (fun c e => by cases e)
    have eb : (lev d).whole k (u ++ .w zelse :: (v ++ q)) = _ := ib.2 k d _ (by omega) (by omega) (fun c e => by cases e)
    have ec : (lev d).whole k (v ++ q) = _ := ic.2 k d _ (by omega) (by omega) hq
    show wholeF (lev (d + 1)) k (.w zif :: (s ++ .w zthen :: (u ++ .w zelse :: v)) ++ q) = _
    have e2 : (Tk.w zif :: (s ++ .w zthen :: (u ++ .w zelse :: v)) ++ q) = .w zif :: (s ++ .w zthen :: (u ++ .w zelse :: (v ++ q))) := by simp
    rw [e2]
    show choiceF (lev d) k _ = _
    unfold choiceF
    rw [ea]
    show bindR ((lev d).whole k (u ++ .w zelse :: (v ++ q))) _ = _
    rw [eb]
    show bindR ((lev d).whole k (v ++ q)) _ = _
    rw [ec]
    rfl
  | @set n z e s h he ih =>
    refine ⟨by omega, fun k d q hk hd hq => ?_⟩
    obtain ⟨d, rfl⟩ : ∃ e, d = e + 1 := ⟨d - 1, by omega⟩
    have ea : (lev d).whole k (s ++ q) = some (some (e, q)) := ih.2 k d _ (by omega) (by omega) hq
    show (if zset = zif then (lev d).choice k (.w z :: .g 61 :: (s ++ q)) else if zset = zset then (if isName z = true then bindR ((lev d).whole k (s ++ q)) (fun t q2 => some (some (.set z t, q2))) else some none) else (lev d).comp k (.w zset :: .w z :: .g 61 :: (s ++ q))) = _
    rw [if_neg (by decide), if_pos rfl, if_pos h, ea]
    rfl
  | @up n l t s h ih =>
    refine ⟨by omega, fun k d q hk hd hq => ?_⟩
    obtain ⟨d, rfl⟩ : ∃ e, d = e + 1 := ⟨d - 1, by omega⟩
    have hl : l ≤ 3 := by omega
    refine Rd1.down (ih.2 k d q hk (by omega) (hq.sub ?_)) (h.hd (by omega)) hq hl
    match l, hl with
    | 0, _ => decide
    | 1, _ => decide
    | 2, _ => decide
    | 3, _ => decide
  | wk h ih => exact ⟨ih.1, fun k d q hk hd hq => ih.2 k d q (by omega) (by omega) hq⟩
/-- an expression's tokens lead to its tree -/
theorem Tx.whole {n l : Nat} {t : Tr} {s : List Tk} (h : Tx n l t s) (hn : n ≤ 10) {d : Nat} (hd : 8 * n + 6 ≤ d) : (lev d).whole 0 s = some (some (t, [])) := by
  have := (h.ups (Nat.zero_le l)).rd.2 0 d [] (by omega) (by omega) (fun c e => by cases e)
  rwa [Rd1, List.append_nil] at this
end Xp

/-! k02, the plain law: what is read is well formed; reading ends -/
namespace Xp
open PySem PySem.NumText Lg Tok
def operand : Tk → Bool
  | .n _ => true
  | .s _ => true
  | .w z => isName z
  | .g _ => false
def ender : Tk → Bool
  | .g c => decide (c = 41)
  | x => operand x
def chk : List Tk → Bool
  | a :: b :: r => !(ender a && operand b) && chk (b :: r)
  | _ => true
theorem chk_head {a : Tk} {v : List Tk} (h : ender a = false) : chk (a :: v) = chk v := by
  cases v with
  | nil => rfl
  | cons b r => simp [chk, h]
theorem chk_mid : ∀ {u v : List Tk} {a : Tk}, operand a = false → ender a = false → chk (u ++ a :: v) = (chk u && chk v)
  | [], v, a, _, h2 => by simp [chk, chk_head h2]
  | [x], v, a, h1, h2 => by simp [chk, h1, chk_head h2]
  | x :: y :: u, v, a, h1, h2 => by
    have ih := chk_mid (u := y :: u) (v := v) (a := a) h1 h2
    simp only [List.cons_append] at ih
    simp only [List.cons_append, chk, ih, Bool.and_assoc]
theorem chk_end : ∀ {u : List Tk} {a : Tk}, operand a = false → chk (u ++ [a]) = chk u
  | [], a, _ => rfl
  | [x], a, h => by simp [chk, h]
  | x :: y :: u, a, h => by
    have ih := chk_end (u := y :: u) (a := a) h
    simp only [List.cons_append] at ih
    simp only [List.cons_append, chk, ih]
theorem chk_pair : ∀ {u : List Tk} {a b : Tk}, u.getLast? = some a → ender a = true → operand b = true → chk (u ++ [b]) = false
  | [], a, b, h, _, _ => by cases h
  | [x], a, b, h, h1, h2 => by
    have : x = a := by simpa using h
    subst this
    simp [chk, h1, h2]
  | x :: y :: u, a, b, h, h1, h2 => by
    have ih := chk_pair (u := y :: u) (a := a) (b := b) (by simpa using h) h1 h2
    simp only [List.cons_append] at ih
    simp only [List.cons_append, chk, ih, Bool.and_false]
/-- what an expression's tokens are like -/
structure Wf (u : List Tk) : Prop where
  last : ∃ a, u.getLast? = some a ∧ ender a = true
  chk : chk u = true
  bal : u.count (.g 40) = u.count (.g 41)
def Sn (f : PF) : Prop := ∀ k r t q, f k r = some (some (t, q)) → ∃ u, r = u ++ q ∧ Wf u
theorem bindR_some {α β : Type} {x : Re α} {f : α → List Tk → Re β} {y : β × List Tk} (h : bindR x f = some (some y)) : ∃ a q, x = some (some (a, q)) ∧ f a q = some (some y) := by
  match x with
  | none => cases h
  | some none => cases h
  | some (some (a, q)) => exact ⟨a, q, rfl, h⟩
theorem word_some {z : List Nat} {q : List Tk} {f : List Tk → Re Tr} {y : Tr × List Tk} (h : word z q f = some (some y)) : ∃ q', q = .w z :: q' ∧ f q' = some (some y) := by
  unfold word at h
  split at h
  · rename_i w q'
    by_cases e : w = z
    · subst e
      rw [if_pos rfl] at h
      exact ⟨q', rfl, h⟩
    · rw [if_neg e] at h
      cases h
  · cases h
theorem sgnOf_some {cs : List Nat} {q q' : List Tk} {c : Nat} (h : sgnOf cs q = some (c, q')) : q = .g c :: q' ∧ c ∈ cs := by
  unfold sgnOf at h
  split at h
  · rename_i c1 q1
    by_cases e : c1 ∈ cs
    · rw [if_pos e] at h
      cases h
      exact ⟨rfl, e⟩
    · rw [if_neg e] at h
      cases h
  · cases h
theorem last_app {u v : List Tk} {a : Tk} (h : v.getLast? = some a) : (u ++ v).getLast? = some a := by
  rw [List.getLast?_append, h]
  rfl
theorem last_cons {x : Tk} {v : List Tk} {a : Tk} (h : v.getLast? = some a) : (x :: v).getLast? = some a := last_app (u := [x]) h
/-- a neutral token between two expressions -/
theorem Wf.mid {u v : List Tk} {a : Tk} (hu : Wf u) (hv : Wf v) (h1 : operand a = false) (h2 : ender a = false) (h40 : a ≠ .g 40) : Wf (u ++ a :: v) := by
  have h41 : a ≠ .g 41 := by rintro rfl; cases h2
  obtain ⟨b, hb, eb⟩ := hv.last
  refine ⟨⟨b, last_app (last_cons hb), eb⟩, by rw [chk_mid h1 h2, hu.chk, hv.chk]; rfl, ?_⟩
  simp only [List.count_append, List.count_cons]
  have e1 : (a == Tk.g 40) = false := by simpa using h40
  have e2 : (a == Tk.g 41) = false := by simpa using h41
  rw [hu.bal, hv.bal]
  simp [e1, e2]
theorem Wf.pre {v : List Tk} {a : Tk} (hv : Wf v) (h2 : ender a = false) (h40 : a ≠ .g 40) : Wf (a :: v) := by
  have h41 : a ≠ .g 41 := by rintro rfl; cases h2
  obtain ⟨b, hb, eb⟩ := hv.last
  refine ⟨⟨b, last_cons hb, eb⟩, by rw [chk_head h2, hv.chk], ?_⟩
  simp only [List.count_cons]
  have e1 : (a == Tk.g 40) = false := by simpa using h40
  have e2 : (a == Tk.g 41) = false := by simpa using h41
  rw [hv.bal]
  simp [e1, e2]
theorem Wf.one {a : Tk} (h : operand a = true) : Wf [a] := by
  refine ⟨⟨a, rfl, ?_⟩, rfl, ?_⟩
  · cases a with
    | g c => cases h
    | _ => exact h
  · cases a with
    | g c => cases h
    | _ => rfl
theorem op_neutral {c : Nat} {cs : List Nat} (h : c ∈ cs) (hcs : ∀ c ∈ cs, c ≠ 40 ∧ c ≠ 41) : operand (.g c) = false ∧ ender (.g c) = false ∧ (Tk.g c) ≠ .g 40 := by
  obtain ⟨h1, h2⟩ := hcs c h
  exact ⟨rfl, by simp [ender, h2], by simpa using h1⟩
theorem loop_sn {f : PF} {cs : List Nat} (hf : Sn f) (hcs : ∀ c ∈ cs, c ≠ 40 ∧ c ≠ 41) {k : Nat} : ∀ (m : Nat) (l t : Tr) (q q2 : List Tk), loop f cs k m l q = some (some (t, q2)) → ∃ v, q = v ++ q2 ∧ ∀ u, Wf u → Wf (u ++ v)
  | 0, _, _, _, _, h => by cases h
  | m + 1, l, t, q, q2, h => by
    rw [loop] at h
    split at h
    · rename_i c q' e
      obtain ⟨rfl, hc⟩ := sgnOf_some e
      obtain ⟨a, q3, h1, h2⟩ := bindR_some h
      obtain ⟨u1, rfl, w1⟩ := hf _ _ _ _ h1
      obtain ⟨v, rfl, w2⟩ := loop_sn hf hcs m _ _ _ _ h2
      obtain ⟨n1, n2, n3⟩ := op_neutral hc hcs
      refine ⟨.g c :: (u1 ++ v), by simp, fun u wu => ?_⟩
      have := w2 _ (wu.mid w1 n1 n2 n3)
      simpa using this
    · cases h
      exact ⟨[], rfl, fun u wu => by simpa using wu⟩
/-- the end of parentheses -/
structure Wc (u : List Tk) : Prop where
  last : u.getLast? = some (.g 41)
  chk : chk u = true
  bal : u.count (.g 40) + 1 = u.count (.g 41)
theorem Wf.close {u : List Tk} (h : Wf u) : Wc (u ++ [.g 41]) :=
  ⟨last_app rfl, by rw [chk_end rfl, h.chk], by rw [List.count_append, List.count_append, h.bal]; simp⟩
theorem Wf.sep {u v : List Tk} {c : Nat} (h : Wf u) (hv : Wc v) (h40 : c ≠ 40) (h41 : c ≠ 41) : Wc (u ++ .g c :: v) := by
  refine ⟨last_app (last_cons hv.last), by rw [chk_mid rfl (by simp [ender, h41]), h.chk, hv.chk]; rfl, ?_⟩
  have e1 : (Tk.g c == Tk.g 40) = false := by simpa using h40
  have e2 : (Tk.g c == Tk.g 41) = false := by simpa using h41
  have := hv.bal
  simp only [List.count_append, List.count_cons, e1, e2, h.bal]
  simp
  omega
theorem Wc.opn {v : List Tk} (hv : Wc v) : Wf (.g 40 :: v) := by
  refine ⟨⟨.g 41, last_cons hv.last, rfl⟩, by rw [chk_head rfl, hv.chk], ?_⟩
  have := hv.bal
  simp only [List.count_cons]
  simp
  omega
theorem partsL_sn {f : PF} {s : Nat} (hf : Sn f) (hs : s ≠ 40 ∧ s ≠ 41) {k : Nat} : ∀ (m : Nat) (acc ts : List Tr) (q q2 : List Tk), partsL f s k m acc q = some (some (ts, q2)) → ∃ v, q = v ++ q2 ∧ Wc v
  | 0, _, _, _, _, h => by cases h
  | m + 1, acc, ts, q, q2, h => by
    rw [partsL] at h
    obtain ⟨a, q3, h1, h2⟩ := bindR_some h
    obtain ⟨u1, rfl, w1⟩ := hf _ _ _ _ h1
    split at h2
    · rename_i c q4
      by_cases e : c = s
      · subst e
        rw [if_pos rfl] at h2
        obtain ⟨v, rfl, w2⟩ := partsL_sn hf hs m _ _ _ _ h2
        exact ⟨u1 ++ .g c :: v, by simp, w1.sep w2 hs.1 hs.2⟩
      · rw [if_neg e] at h2
        by_cases e2 : c = 41
        · subst e2
          rw [if_pos rfl] at h2
          cases h2
          exact ⟨u1 ++ [.g 41], by simp, w1.close⟩
        · rw [if_neg e2] at h2
          cases h2
    · cases h2
/-- of all that reads: what is read is well formed -/
structure Snd (p : Ps) : Prop where
  whole : Sn p.whole
  choice : ∀ k r t q, p.choice k r = some (some (t, q)) → ∃ u, r = u ++ q ∧ Wf (.w zif :: u)
  comp : Sn p.comp
  sum : Sn p.sum
  prod : Sn p.prod
  atom : Sn p.atom
  parts : ∀ s k r ts q, s = 44 ∨ s = 59 → p.parts s k (.g 40 :: r) = some (some (ts, q)) → ∃ u, r = u ++ q ∧ Wf (.g 40 :: u)
  call : ∀ z k r t q, p.call z k (.g 40 :: r) = some (some (t, q)) → ∃ u, r = u ++ q ∧ Wf (.g 40 :: u)
  seq : ∀ k r t q, p.seq k (.g 40 :: r) = some (some (t, q)) → ∃ u, r = u ++ q ∧ Wf (.g 40 :: u)
theorem head_wd {z : List Nat} (h : z ∈ resL) : operand (.w z) = false ∧ ender (.w z) = false ∧ Tk.w z ≠ .g 40 := by
  have e : isName z = false := by
    unfold isName
    have : decide (z ∈ resL) = true := decide_eq_true h
    rw [this]
    simp
  exact ⟨e, e, by simp⟩
theorem lev_snd : ∀ d, Snd (lev d)
  | 0 => by
    refine ⟨?_, ?_, ?_, ?_, ?_, ?_, ?_, ?_, ?_⟩ <;> (try unfold Sn) <;> intros <;> rename_i h <;> exact absurd h (fun e => nomatch e)
  | d + 1 => by
    have P := lev_snd d
    have cs2 : ∀ c ∈ [43, 45], c ≠ 40 ∧ c ≠ 41 := by decide
    have cs1 : ∀ c ∈ [42], c ≠ 40 ∧ c ≠ 41 := by decide
    have cs3 : ∀ c ∈ [61, 60], c ≠ 40 ∧ c ≠ 41 := by decide
    refine ⟨?_, ?_, ?_, ?_, ?_, ?_, ?_, ?_, ?_⟩
    · intro k r t q h
      replace h : wholeF (lev d) k r = _ := h
      unfold wholeF at h
      split at h
      · rename_i z r'
        by_cases e1 : z = zif
        · subst e1
          rw [if_pos rfl] at h
          obtain ⟨u, rfl, w⟩ := P.choice _ _ _ _ h
          exact ⟨_, rfl, w⟩
        · rw [if_neg e1] at h
          by_cases e2 : z = zset
          · subst e2
            rw [if_pos rfl] at h
            split at h
            · rename_i y q1
              by_cases e3 : isName y = true
              · rw [if_pos e3] at h
                split at h
                · obtain ⟨a, q3, h1, h2⟩ := bindR_some h
                  cases h2
                  obtain ⟨u, rfl, w⟩ := P.whole _ _ _ _ h1
                  refine ⟨.w zset :: .w y :: .g 61 :: u, rfl, ?_⟩
                  obtain ⟨n1, n2, n3⟩ := head_wd (z := zset) (by decide)
                  refine Wf.pre ?_ n2 n3
                  exact (Wf.one (a := .w y) e3).mid w rfl rfl (by decide)
                · cases h
              · rw [if_neg e3] at h
                cases h
            · cases h
          · rw [if_neg e2] at h
            exact P.comp _ _ _ _ h
      · exact P.comp _ _ _ _ h
    · intro k r t q h
      replace h : choiceF (lev d) k r = _ := h
      unfold choiceF at h
      obtain ⟨a, q1, h1, h⟩ := bindR_some h
      obtain ⟨q2, rfl, h⟩ := word_some h
      obtain ⟨b, q3, h2, h⟩ := bindR_some h
      obtain ⟨q4, rfl, h⟩ := word_some h
      obtain ⟨c, q5, h3, h⟩ := bindR_some h
      cases h
      obtain ⟨u1, rfl, w1⟩ := P.whole _ _ _ _ h1
      obtain ⟨u2, rfl, w2⟩ := P.whole _ _ _ _ h2
      obtain ⟨u3, rfl, w3⟩ := P.whole _ _ _ _ h3
      refine ⟨u1 ++ .w zthen :: (u2 ++ .w zelse :: u3), by simp, ?_⟩
      obtain ⟨n1, n2, n3⟩ := head_wd (z := zif) (by decide)
      obtain ⟨n4, n5, n6⟩ := head_wd (z := zthen) (by decide)
      obtain ⟨n7, n8, n9⟩ := head_wd (z := zelse) (by decide)
      exact (w1.mid (w2.mid w3 n7 n8 n9) n4 n5 n6).pre n2 n3
    · intro k r t q h
      replace h : compF (lev d) k r = _ := h
      unfold compF at h
      obtain ⟨a, q1, h1, h'⟩ := bindR_some h
      clear h
      obtain ⟨u1, rfl, w1⟩ := P.sum _ _ _ _ h1
      have h := h'
      clear h'
      split at h
      · rename_i c q2 e
        obtain ⟨rfl, hc⟩ := sgnOf_some e
        obtain ⟨b, q3, h2, h⟩ := bindR_some h
        cases h
        obtain ⟨u2, rfl, w2⟩ := P.sum _ _ _ _ h2
        obtain ⟨n1, n2, n3⟩ := op_neutral hc cs3
        exact ⟨u1 ++ .g c :: u2, by simp, w1.mid w2 n1 n2 n3⟩
      · cases h
        exact ⟨u1, rfl, w1⟩
    · intro k r t q h
      replace h : sumF (lev d) k r = _ := h
      unfold sumF at h
      obtain ⟨a, q1, h1, h'⟩ := bindR_some h
      clear h
      obtain ⟨u1, rfl, w1⟩ := P.prod _ _ _ _ h1
      have h := h'
      clear h'
      obtain ⟨v, rfl, w2⟩ := loop_sn P.prod cs2 _ _ _ _ _ h
      exact ⟨u1 ++ v, by simp, w2 _ w1⟩
    · intro k r t q h
      replace h : prodF (lev d) k r = _ := h
      unfold prodF at h
      obtain ⟨a, q1, h1, h'⟩ := bindR_some h
      clear h
      obtain ⟨u1, rfl, w1⟩ := P.atom _ _ _ _ h1
      have h := h'
      clear h'
      obtain ⟨v, rfl, w2⟩ := loop_sn P.atom cs1 _ _ _ _ _ h
      exact ⟨u1 ++ v, by simp, w2 _ w1⟩
    · intro k r t q h
      replace h : atomF (lev d) k r = _ := h
      unfold atomF at h
      split at h
      · cases h
      · cases h; exact ⟨[_], rfl, .one rfl⟩
      · cases h; exact ⟨[_], rfl, .one rfl⟩
      · rename_i c q1
        by_cases e : c = 40
        · subst e
          rw [if_pos rfl] at h
          obtain ⟨u, rfl, w⟩ := P.seq _ _ _ _ h
          exact ⟨_, rfl, w⟩
        · rw [if_neg e] at h
          cases h
      · rename_i z q1
        by_cases e : isName z = true
        · rw [if_pos e] at h
          split at h
          · rename_i q2
            obtain ⟨u, rfl, w⟩ := P.call _ _ _ _ _ h
            refine ⟨.w z :: .g 40 :: u, rfl, ?_⟩
            obtain ⟨b, hb, eb⟩ := w.last
            refine ⟨⟨b, last_cons hb, eb⟩, ?_, ?_⟩
            · have := w.chk
              simp [chk, this, operand]
            · have := w.bal
              simp only [List.count_cons] at this ⊢
              simpa using this
          · cases h
            exact ⟨[_], rfl, .one e⟩
        · rw [if_neg e] at h
          cases h
    · intro s k r ts q hs h
      replace h : partsF (lev d) s k (.g 40 :: r) = _ := h
      unfold partsF at h
      by_cases e1 : 10 < k + 1
      · rw [if_pos e1] at h
        cases h
      · rw [if_neg e1] at h
        by_cases e2 : s = 44 ∧ (Tk.g 40 :: r).tail.head? = some (.g 41)
        · rw [if_pos e2] at h
          cases h
          obtain ⟨_, e2⟩ := e2
          cases r with
          | nil => cases e2
          | cons x r =>
            have : x = .g 41 := by simpa using e2
            subst this
            exact ⟨[.g 41], rfl, ⟨⟨.g 41, rfl, rfl⟩, rfl, by decide⟩⟩
        · rw [if_neg e2] at h
          obtain ⟨v, e, w⟩ := partsL_sn P.whole (by rcases hs with rfl | rfl <;> decide) _ _ _ _ _ h
          exact ⟨v, e, w.opn⟩
    · intro z k r t q h
      replace h : callF (lev d) z k (.g 40 :: r) = _ := h
      unfold callF at h
      obtain ⟨a, q1, h1, h⟩ := bindR_some h
      cases h
      exact P.parts _ _ _ _ _ (.inl rfl) h1
    · intro k r t q h
      replace h : seqF (lev d) k (.g 40 :: r) = _ := h
      unfold seqF at h
      obtain ⟨a, q1, h1, h⟩ := bindR_some h
      cases h
      exact P.parts _ _ _ _ _ (.inr rfl) h1
/-! ### reading ends -/
def isIf : Tk → Bool
  | .w z => decide (z = zif) || decide (z = zset)
  | _ => false
def ifs (q : List Tk) : Nat := q.countP isIf
theorem ifs_app {u q : List Tk} : ifs q ≤ ifs (u ++ q) := by unfold ifs; rw [List.countP_append]; omega
theorem ifs_cons {x : Tk} {q : List Tk} : ifs q ≤ ifs (x :: q) := ifs_app (u := [x])
theorem Wf.pos {u : List Tk} (h : Wf u) : 1 ≤ u.length := by
  obtain ⟨a, e, _⟩ := h.last
  cases u with
  | nil => cases e
  | cons x u => simp
theorem bindR_nf {α β : Type} {x : Re α} {f : α → List Tk → Re β} (h : x ≠ none) (hf : ∀ a q, x = some (some (a, q)) → f a q ≠ none) : bindR x f ≠ none := by
  match x, h with
  | some none, _ => simp [bindR]
  | some (some (a, q)), _ => exact hf a q rfl
theorem word_nf {z : List Nat} {q : List Tk} {f : List Tk → Re Tr} (h : ∀ q', q = .w z :: q' → f q' ≠ none) : word z q f ≠ none := by
  unfold word
  split
  · rename_i y q'
    by_cases e : y = z
    · subst e
      rw [if_pos rfl]
      exact h q' rfl
    · rw [if_neg e]
      simp
  · simp
theorem loop_nf {f : PF} {cs : List Nat} (hf : Sn f) {k i : Nat} (hn : ∀ q, ifs q ≤ i → f k q ≠ none) : ∀ (m : Nat) (l : Tr) (q : List Tk), ifs q ≤ i → q.length < m → loop f cs k m l q ≠ none
  | 0, _, _, _, h => by omega
  | m + 1, l, q, hi, hm => by
    rw [loop]
    split
    · rename_i c q' e
      obtain ⟨rfl, hc⟩ := sgnOf_some e
      have hi' : ifs q' ≤ i := Nat.le_trans ifs_cons hi
      refine bindR_nf (hn _ hi') fun a q2 h => ?_
      obtain ⟨u, rfl, w⟩ := hf _ _ _ _ h
      exact loop_nf hf hn m _ _ (Nat.le_trans ifs_app hi') (by simp at hm; omega)
    · simp
theorem partsL_nf {f : PF} {s : Nat} (hf : Sn f) {k i : Nat} (hn : ∀ q, ifs q ≤ i → f k q ≠ none) : ∀ (m : Nat) (acc : List Tr) (q : List Tk), ifs q ≤ i → q.length < m → partsL f s k m acc q ≠ none
  | 0, _, _, _, h => by omega
  | m + 1, acc, q, hi, hm => by
    rw [partsL]
    refine bindR_nf (hn _ hi) fun a q2 h => ?_
    obtain ⟨u, rfl, w⟩ := hf _ _ _ _ h
    have := w.pos
    split
    · rename_i c q3
      split
      · exact partsL_nf hf hn m _ _ (Nat.le_trans ifs_cons (Nat.le_trans ifs_app hi)) (by simp at hm; omega)
      · split <;> simp
    · simp
structure Ter (d : Nat) : Prop where
  whole : ∀ k r, k ≤ 10 → 8 * (10 - k) + 2 * ifs r + 9 ≤ d → (lev d).whole k r ≠ none
  choice : ∀ k r, k ≤ 10 → 8 * (10 - k) + 2 * ifs r + 10 ≤ d → (lev d).choice k r ≠ none
  comp : ∀ k r, k ≤ 10 → 8 * (10 - k) + 2 * ifs r + 8 ≤ d → (lev d).comp k r ≠ none
  sum : ∀ k r, k ≤ 10 → 8 * (10 - k) + 2 * ifs r + 7 ≤ d → (lev d).sum k r ≠ none
  prod : ∀ k r, k ≤ 10 → 8 * (10 - k) + 2 * ifs r + 6 ≤ d → (lev d).prod k r ≠ none
  atom : ∀ k r, k ≤ 10 → 8 * (10 - k) + 2 * ifs r + 5 ≤ d → (lev d).atom k r ≠ none
  call : ∀ z k r, k ≤ 10 → 8 * (10 - k) + 2 * ifs r + 4 ≤ d → (lev d).call z k r ≠ none
  seq : ∀ k r, k ≤ 10 → 8 * (10 - k) + 2 * ifs r + 4 ≤ d → (lev d).seq k r ≠ none
  parts : ∀ s k r, k ≤ 10 → 8 * (10 - k) + 2 * ifs r + 3 ≤ d → (lev d).parts s k r ≠ none
theorem lev_ter : ∀ d, Ter d
  | 0 => ⟨fun _ _ _ h => by omega, fun _ _ _ h => by omega, fun _ _ _ h => by omega, fun _ _ _ h => by omega, fun _ _ _ h => by omega, fun _ _ _ h => by omega, fun _ _ _ _ h => by omega, fun _ _ _ h => by omega, fun _ _ _ _ h => by omega⟩
  | d + 1 => by
    have T := lev_ter d
    have P := lev_snd d
    refine ⟨?_, ?_, ?_, ?_, ?_, ?_, ?_, ?_, ?_⟩
    · intro k r hk h
      show wholeF (lev d) k r ≠ none
      unfold wholeF
      split
      · rename_i z r'
        by_cases e1 : z = zif
        · subst e1
          rw [if_pos rfl]
          refine T.choice _ _ hk ?_
          have : ifs (.w zif :: r') = ifs r' + 1 := by unfold ifs; rw [List.countP_cons]; simp [isIf]
          omega
        · rw [if_neg e1]
          by_cases e2 : z = zset
          · subst e2
            rw [if_pos rfl]
            have : ifs (.w zset :: r') = ifs r' + 1 := by unfold ifs; rw [List.countP_cons]; simp [isIf]
            split
            · rename_i y q1
              split
              · split
                · rename_i q2
                  refine bindR_nf (T.whole _ _ hk ?_) fun a q h => by simp
                  have h1 : ifs q2 ≤ ifs (.w y :: .g 61 :: q2) := ifs_app (u := [.w y, .g 61])
                  omega
                · simp
              · simp
            · simp
          · rw [if_neg e2]
            exact T.comp _ _ hk (by omega)
      · exact T.comp _ _ hk (by omega)
    · intro k r hk h
      show choiceF (lev d) k r ≠ none
      unfold choiceF
      refine bindR_nf (T.whole _ _ hk (by omega)) fun a q h1 => word_nf fun q' e => ?_
      subst e
      obtain ⟨u1, rfl, w1⟩ := P.whole _ _ _ _ h1
      have i1 : ifs q' ≤ ifs (u1 ++ .w zthen :: q') := Nat.le_trans ifs_cons ifs_app
      refine bindR_nf (T.whole _ _ hk (by omega)) fun b q h2 => word_nf fun q2 e => ?_
      subst e
      obtain ⟨u2, rfl, w2⟩ := P.whole _ _ _ _ h2
      have i2 : ifs q2 ≤ ifs (u2 ++ .w zelse :: q2) := Nat.le_trans ifs_cons ifs_app
      exact bindR_nf (T.whole _ _ hk (by omega)) fun c q h3 => by simp
    · intro k r hk h
      show compF (lev d) k r ≠ none
      unfold compF
      refine bindR_nf (T.sum _ _ hk (by omega)) fun a q h1 => ?_
      obtain ⟨u1, rfl, w1⟩ := P.sum _ _ _ _ h1
      split
      · rename_i c q2 e
        obtain ⟨rfl, hc⟩ := sgnOf_some e
        have i1 : ifs q2 ≤ ifs (u1 ++ .g c :: q2) := Nat.le_trans ifs_cons ifs_app
        exact bindR_nf (T.sum _ _ hk (by omega)) fun c q h3 => by simp
      · simp
    · intro k r hk h
      show sumF (lev d) k r ≠ none
      unfold sumF
      refine bindR_nf (T.prod _ _ hk (by omega)) fun a q h1 => ?_
      obtain ⟨u1, rfl, w1⟩ := P.prod _ _ _ _ h1
      exact loop_nf (i := ifs (u1 ++ q)) P.prod (fun q2 h2 => T.prod _ _ hk (by omega)) _ _ _ ifs_app (by omega)
    · intro k r hk h
      show prodF (lev d) k r ≠ none
      unfold prodF
      refine bindR_nf (T.atom _ _ hk (by omega)) fun a q h1 => ?_
      obtain ⟨u1, rfl, w1⟩ := P.atom _ _ _ _ h1
      exact loop_nf (i := ifs (u1 ++ q)) P.atom (fun q2 h2 => T.atom _ _ hk (by omega)) _ _ _ ifs_app (by omega)
    · intro k r hk h
      show atomF (lev d) k r ≠ none
      unfold atomF
      split
      · simp
      · simp
      · simp
      · split
        · exact T.seq _ _ hk (by omega)
        · simp
      · split
        · split
          · rename_i z q1 _ q2
            refine T.call _ _ _ hk ?_
            have : ifs (.g 40 :: q2) ≤ ifs (.w z :: .g 40 :: q2) := ifs_cons
            omega
          · simp
        · simp
    · intro z k r hk h
      show callF (lev d) z k r ≠ none
      unfold callF
      exact bindR_nf (T.parts _ _ _ hk (by omega)) fun a q h1 => by simp
    · intro k r hk h
      show seqF (lev d) k r ≠ none
      unfold seqF
      exact bindR_nf (T.parts _ _ _ hk (by omega)) fun a q h1 => by simp
    · intro s k r hk h
      show partsF (lev d) s k r ≠ none
      unfold partsF
      by_cases e1 : 10 < k + 1
      · rw [if_pos e1]; simp
      · rw [if_neg e1]
        split
        · simp
        · have it : ifs r.tail ≤ ifs r := by cases r with
            | nil => exact Nat.le_refl _
            | cons x r => exact ifs_cons
          exact partsL_nf (i := ifs r) P.whole (fun q2 h2 => T.whole _ _ (by omega) (by omega)) _ _ _ it (by simp; omega)
end Xp

/-! k02, the plain law: texts of trees, and the tokens that they are split into -/
namespace Xp
open PySem PySem.NumText Lg Tok
def Sep (Y : List Nat) : Prop := ∀ c, Y.head? = some c → c ∉ letters ∧ c ∉ figs
/-- z is split into s, whatever follows -/
def LexF (z : List Nat) (s : List Tk) : Prop := ∀ Y, spl (z ++ Y) = (spl Y).map (s ++ ·)
/-- .. where no letter and no figure follows -/
def LexD (z : List Nat) (s : List Tk) : Prop := ∀ Y, Sep Y → spl (z ++ Y) = (spl Y).map (s ++ ·)
theorem LexF.d {z : List Nat} {s : List Tk} (h : LexF z s) : LexD z s := fun Y _ => h Y
theorem omap_app (o : Option (List Tk)) (s u : List Tk) : (o.map (u ++ ·)).map (s ++ ·) = o.map ((s ++ u) ++ ·) := by
  cases o <;> simp
theorem LexF.app {a b : List Nat} {s u : List Tk} (h : LexF a s) (k : LexF b u) : LexF (a ++ b) (s ++ u) := fun Y => by
  rw [List.append_assoc, h, k, omap_app]
theorem LexF.appD {a b : List Nat} {s u : List Tk} (h : LexF a s) (k : LexD b u) : LexD (a ++ b) (s ++ u) := fun Y hY => by
  rw [List.append_assoc, h, k Y hY, omap_app]
theorem LexD.appF {a b : List Nat} {s u : List Tk} (h : LexD a s) (k : LexF b u) (hb : b ≠ []) (hs : Sep b) : LexF (a ++ b) (s ++ u) := fun Y => by
  rw [List.append_assoc, h, k, omap_app]
  intro c e
  refine hs c ?_
  cases b with
  | nil => exact absurd rfl hb
  | cons x b => exact e
theorem LexF.bl : LexF [32] [] := fun Y => by
  show spl (32 :: Y) = _
  rw [spl_blank]
  cases spl Y <;> simp
theorem LexD.tok {t : Tk} (ht : t.ok) : LexD t.sp [t] := fun Y hY => by
  rw [spl_sp ht ⟨fun _ c e => (hY c e).1, fun _ c e => (hY c e).2⟩]
  rfl
theorem LexF.tok {t : Tk} (ht : t.ok) (hk : 2 ≤ t.kd) : LexF t.sp [t] := fun Y => by
  rw [spl_sp ht ⟨fun e => by omega, fun e => by omega⟩]
  rfl
theorem LexF.sgn {c : Nat} (h : c ∈ sgns) : LexF [c] [.g c] := LexF.tok (t := .g c) h (show 2 ≤ 3 by decide)
theorem LexF.word {z : List Nat} (h : Tk.ok (.w z)) : LexF (z ++ [32]) [.w z] := by
  have := (LexD.tok h).appF LexF.bl (by simp) (fun c e => by cases e; decide)
  exact this
theorem LexD.spl {z : List Nat} {s : List Tk} (h : LexD z s) : spl z = some s := by
  have := h [] (fun c e => by cases e)
  rw [List.append_nil, spl_nil] at this
  rw [this]
  simp
/-- what stands between two expressions: the sign c, perhaps blanks -/
structure Glue (c : Nat) (x : List Nat) : Prop where
  lex : LexF x [.g c]
  ne : x ≠ []
  sep : Sep x
theorem Glue.sgn {c : Nat} (h : c ∈ sgns) : Glue c [c] := ⟨.sgn h, by simp, fun d e => by cases e; exact ⟨(sgn_out c h).1, (sgn_out c h).2.1⟩⟩
theorem Glue.after {c : Nat} (h : c ∈ sgns) : Glue c [c, 32] := ⟨(LexF.sgn h).app .bl, by simp, fun d e => by cases e; exact ⟨(sgn_out c h).1, (sgn_out c h).2.1⟩⟩
theorem Glue.both {c : Nat} (h : c ∈ sgns) : Glue c [32, c, 32] := ⟨LexF.bl.app ((LexF.sgn h).app .bl), by simp, fun d e => by cases e; decide⟩
theorem name_ok {z : List Nat} (h : isName z = true) : Tk.ok (.w z) := by
  unfold isName at h
  simp only [Bool.and_eq_true, decide_eq_true_eq, List.all_eq_true] at h
  obtain ⟨⟨h1, h2⟩, h3, _⟩ := h
  refine ⟨fun e => ?_, by omega, h3⟩
  rw [e] at h1
  simp at h1
/-- z is a text of t where something as strong as l may stand -/
def Wt (n l : Nat) (t : Tr) (z : List Nat) : Prop := ∃ s, LexD z s ∧ Tx n l t s
theorem Wt.ups {n l l' : Nat} {t : Tr} {z : List Nat} (h : Wt n l' t z) (hl : l ≤ l') : Wt n l t z := by obtain ⟨s, a, b⟩ := h; exact ⟨s, a, b.ups hl⟩
theorem Wt.wks {n n' l : Nat} {t : Tr} {z : List Nat} (h : Wt n l t z) (hn : n ≤ n') : Wt n' l t z := by obtain ⟨s, a, b⟩ := h; exact ⟨s, a, b.wks hn⟩
theorem wt_num {n k : Nat} (h : k < 100000) : Wt n 4 (.num k) (dg k) := ⟨_, LexD.tok (t := .n k) h, .num⟩
theorem wt_str {n : Nat} {z : List Nat} (h : Tk.ok (.s z)) : Wt n 4 (.str z) (34 :: z ++ [34]) := ⟨_, LexD.tok (t := .s z) h, .str⟩
theorem wt_nam {n : Nat} {z : List Nat} (h : isName z = true) : Wt n 4 (.nam z) z := ⟨_, LexD.tok (t := .w z) (name_ok h), .nam h⟩
/-- texts with a sign between them -/
theorem wt_list {n c : Nat} {x : List Nat} (G : Glue c x) : ∀ ps : List (Tr × List Nat), (∀ p ∈ ps, Wt n 0 p.1 p.2) →
    ∃ qs : List (Tr × List Tk), qs.map (·.1) = ps.map (·.1) ∧ (∀ q ∈ qs, Tx n 0 q.1 q.2) ∧ LexD (joinW x (ps.map (·.2))) (sepT c (qs.map (·.2)))
  | [], _ => ⟨[], rfl, by simp, fun Y _ => by cases h : spl Y <;> simp [joinW, sepT, h]⟩
  | [p], h => by
    obtain ⟨s, a, b⟩ := h p (.head _)
    exact ⟨[(p.1, s)], rfl, by simpa using b, a⟩
  | p :: p2 :: ps, h => by
    obtain ⟨s, a, b⟩ := h p (.head _)
    obtain ⟨qs, e1, h2, h3⟩ := wt_list G (p2 :: ps) fun q hq => h q (.tail _ hq)
    cases qs with
    | nil => cases e1
    | cons q qs =>
      refine ⟨(p.1, s) :: q :: qs, by simp at e1 ⊢; exact e1, fun r hr => ?_, ?_⟩
      · rcases List.mem_cons.mp hr with rfl | hr
        · exact b
        · exact h2 r hr
      · have := (a.appF G.lex G.ne G.sep).appD h3
        simpa [joinW, sepT] using this
theorem seqT_one (t : Tr) : seqT [t] = t := rfl
theorem seqT_cons (t : Tr) {ts : List Tr} (h : ts ≠ []) : seqT (t :: ts) = .thn t (seqT ts) := by
  cases ts with
  | nil => exact absurd rfl h
  | cons u r =>
    unfold seqT
    rw [List.getLast?_cons_cons]
    cases e : (u :: r).getLast? with
    | none => simp at e
    | some x => rfl
theorem wt_seq {n : Nat} {x b : List Nat} {ps : List (Tr × List Nat)} (G : Glue 59 x) (hb : b = [] ∨ b = [32]) (h : ps ≠ []) (hp : ∀ p ∈ ps, Wt n 0 p.1 p.2) : Wt (n + 1) 4 (seqT (ps.map (·.1))) (40 :: b ++ joinW x (ps.map (·.2)) ++ [41]) := by
  obtain ⟨qs, e, h2, h3⟩ := wt_list G ps hp
  have hne : qs ≠ [] := by rintro rfl; cases ps with
    | nil => exact h rfl
    | cons p ps => cases e
  refine ⟨_, ?_, e ▸ Tx.seq hne h2⟩
  have h40 : LexF (40 :: b) [.g 40] := by
    rcases hb with rfl | rfl
    · exact .sgn (by decide)
    · exact (LexF.sgn (c := 40) (by decide)).app .bl
  have := (((h40.appD h3).appF (LexF.sgn (c := 41) (by decide)) (by simp) (fun d e => by cases e; decide))).d
  simpa using this
theorem wt_par {n : Nat} {t : Tr} {z b : List Nat} (hb : b = [] ∨ b = [32]) (h : Wt n 0 t z) : Wt (n + 1) 4 t (40 :: b ++ z ++ [41]) := by
  have := wt_seq (x := [59]) (ps := [(t, z)]) (Glue.sgn (by decide)) hb (by simp) (by simpa using h)
  simpa [joinW, seqT_one] using this
theorem wt_call {n : Nat} {z x o : List Nat} {ps : List (Tr × List Nat)} (hz : isName z = true) (G : Glue 44 x) (O : Glue 40 o) (hp : ∀ p ∈ ps, Wt n 0 p.1 p.2) : Wt (n + 1) 4 (.call z (ps.map (·.1))) (z ++ o ++ joinW x (ps.map (·.2)) ++ [41]) := by
  obtain ⟨qs, e, h2, h3⟩ := wt_list G ps hp
  refine ⟨_, ?_, e ▸ Tx.call hz h2⟩
  have := ((((LexD.tok (name_ok hz)).appF O.lex O.ne O.sep).appD h3).appF (LexF.sgn (c := 41) (by decide)) (by simp) (fun d e => by cases e; decide)).d
  simpa [Tk.sp] using this
theorem wt_mul {n : Nat} {a b : Tr} {s u x : List Nat} (G : Glue 42 x) (ha : Wt n 3 a s) (hb : Wt n 4 b u) : Wt (n + 1) 3 (.op 42 a b) (s ++ x ++ u) := by
  obtain ⟨p, l1, t1⟩ := ha
  obtain ⟨q, l2, t2⟩ := hb
  exact ⟨_, by simpa using (l1.appF G.lex G.ne G.sep).appD l2, t1.mul t2⟩
theorem wt_add {n c : Nat} {a b : Tr} {s u x : List Nat} (h : c ∈ [43, 45]) (G : Glue c x) (ha : Wt n 2 a s) (hb : Wt n 3 b u) : Wt (n + 1) 2 (.op c a b) (s ++ x ++ u) := by
  obtain ⟨p, l1, t1⟩ := ha
  obtain ⟨q, l2, t2⟩ := hb
  exact ⟨_, by simpa using (l1.appF G.lex G.ne G.sep).appD l2, t1.add h t2⟩
theorem wt_cmp {n c : Nat} {a b : Tr} {s u x : List Nat} (h : c ∈ [61, 60]) (G : Glue c x) (ha : Wt n 2 a s) (hb : Wt n 2 b u) : Wt (n + 1) 1 (.op c a b) (s ++ x ++ u) := by
  obtain ⟨p, l1, t1⟩ := ha
  obtain ⟨q, l2, t2⟩ := hb
  exact ⟨_, by simpa using (l1.appF G.lex G.ne G.sep).appD l2, t1.cmp h t2⟩
/-- an operation's text, by its strength -/
theorem wt_op {n c : Nat} {a b : Tr} {s u x : List Nat} (h : c ∈ [43, 45, 42, 60, 61]) (G : Glue c x) (ha : Wt n (lef c) a s) (hb : Wt n (opl c + 1) b u) : Wt (n + 1) (opl c) (.op c a b) (s ++ x ++ u) := by
  simp only [List.mem_cons, List.not_mem_nil, or_false] at h
  rcases h with rfl | rfl | rfl | rfl | rfl
  · exact wt_add (by decide) G ha hb
  · exact wt_add (by decide) G ha hb
  · exact wt_mul G ha hb
  · exact wt_cmp (by decide) G ha hb
  · exact wt_cmp (by decide) G ha hb
theorem lex_if : LexF [105, 102, 32] [.w zif] := LexF.word (z := zif) ⟨by decide, by decide, by decide⟩
theorem lex_set : LexF [115, 101, 116, 32] [.w zset] := LexF.word (z := zset) ⟨by decide, by decide, by decide⟩
theorem lex_then : LexF [32, 116, 104, 101, 110, 32] [.w zthen] := LexF.bl.app (LexF.word (z := zthen) ⟨by decide, by decide, by decide⟩)
theorem lex_else : LexF [32, 101, 108, 115, 101, 32] [.w zelse] := LexF.bl.app (LexF.word (z := zelse) ⟨by decide, by decide, by decide⟩)
theorem wt_ite {n : Nat} {a b c : Tr} {s u v : List Nat} (ha : Wt n 0 a s) (hb : Wt n 0 b u) (hc : Wt n 0 c v) :
    Wt (n + 1) 0 (.ite a b c) ([105, 102, 32] ++ s ++ [32, 116, 104, 101, 110, 32] ++ u ++ [32, 101, 108, 115, 101, 32] ++ v) := by
  obtain ⟨p, l1, t1⟩ := ha
  obtain ⟨q, l2, t2⟩ := hb
  obtain ⟨r, l3, t3⟩ := hc
  refine ⟨_, ?_, t1.ite t2 t3⟩
  have := (((((lex_if.appD l1).appF lex_then (by simp) (fun c e => by cases e; decide)).appD l2).appF lex_else (by simp) (fun c e => by cases e; decide))).appD l3
  simpa using this
theorem wt_set {n : Nat} {e : Tr} {z s x : List Nat} (hz : isName z = true) (G : Glue 61 x) (he : Wt n 0 e s) : Wt (n + 1) 0 (.set z e) ([115, 101, 116, 32] ++ z ++ x ++ s) := by
  obtain ⟨p, l1, t1⟩ := he
  refine ⟨_, ?_, t1.set hz⟩
  have := ((lex_set.appD (LexD.tok (name_ok hz))).appF G.lex G.ne G.sep).appD l1
  simpa [Tk.sp] using this
/-! ### the trees that are drawn -/
inductive TO : Nat → Tr → Prop
  | num {n k : Nat} (h : k < 100000) : TO (n + 1) (.num k)
  | str {n : Nat} {z : List Nat} (h : Tk.ok (.s z)) : TO (n + 1) (.str z)
  | nam {n : Nat} {z : List Nat} (h : isName z = true) : TO (n + 1) (.nam z)
  | op {n c : Nat} {l r : Tr} (h : c ∈ [43, 45, 42, 60, 61]) (hl : TO n l) (hr : TO n r) : TO (n + 1) (.op c l r)
  | ite {n : Nat} {a b c : Tr} (ha : TO n a) (hb : TO n b) (hc : TO n c) : TO (n + 1) (.ite a b c)
  | set {n : Nat} {z : List Nat} {e : Tr} (h : isName z = true) (he : TO n e) : TO (n + 1) (.set z e)
  | thn {n : Nat} {a b : Tr} (ha : TO n a) (hb : TO n b) : TO (n + 1) (.thn a b)
  | call {n : Nat} {z : List Nat} {ts : List Tr} (h : isName z = true) (hn : ts.length ≤ 3) (ht : ∀ t ∈ ts, TO n t) : TO (n + 1) (.call z ts)
theorem TO.up {n : Nat} {t : Tr} (h : TO n t) : TO (n + 1) t := by
  induction h with
  | num h => exact .num h
  | str h => exact .str h
  | nam h => exact .nam h
  | op h _ _ i1 i2 => exact .op h i1 i2
  | ite _ _ _ i1 i2 i3 => exact .ite i1 i2 i3
  | set h _ i => exact .set h i
  | thn _ _ i1 i2 => exact .thn i1 i2
  | call h hn _ i => exact .call h hn i
theorem TO.le {n m : Nat} {t : Tr} (h : TO n t) (hm : n ≤ m) : TO m t := by
  induction m with
  | zero => have : n = 0 := by omega
            subst this; exact h
  | succ m ih =>
    by_cases e : n = m + 1
    · subst e; exact h
    · exact (ih (by omega)).up
theorem hts_le {n : Nat} : ∀ {ts : List Tr}, (∀ t ∈ ts, t.ht ≤ n) → Tr.hts ts ≤ n
  | [], _ => by simp [Tr.hts]
  | t :: r, h => by
    have h1 := h t (.head _)
    have h2 := hts_le fun t ht => h t (.tail _ ht)
    rw [Tr.hts]
    omega
theorem TO.ht {n : Nat} {t : Tr} (h : TO n t) : t.ht ≤ n := by
  induction h with
  | num h => simp [Tr.ht]
  | str h => simp [Tr.ht]
  | nam h => simp [Tr.ht]
  | op h _ _ i1 i2 => simp only [Tr.ht]; omega
  | ite _ _ _ i1 i2 i3 => simp only [Tr.ht]; omega
  | set h _ i => simp only [Tr.ht]; omega
  | thn _ _ i1 i2 => simp only [Tr.ht]; omega
  | call h hn _ i => have := hts_le i; simp only [Tr.ht]; omega
theorem par_len (b : Bool) (z : List Nat) : (par b z).length ≤ z.length + 2 := by unfold par; split <;> simp
theorem joinW_len (x : List Nat) {B : Nat} : ∀ {zs : List (List Nat)}, (∀ z ∈ zs, z.length ≤ B) → (joinW x zs).length ≤ zs.length * (B + x.length)
  | [], _ => by simp [joinW]
  | [z], h => by have := h z (.head _); simp [joinW]; omega
  | z :: y :: r, h => by
    have h1 := h z (.head _)
    have h2 := joinW_len x (B := B) (zs := y :: r) fun z hz => h z (.tail _ hz)
    simp only [joinW, List.length_append]
    have : (z :: y :: r).length * (B + x.length) = (y :: r).length * (B + x.length) + (B + x.length) := by
      rw [show (z :: y :: r).length = (y :: r).length + 1 from rfl, Nat.succ_mul]
    omega
theorem lvl_le (t : Tr) : t.lvl ≤ 4 := by cases t <;> simp [Tr.lvl, opl] <;> (try split) <;> (try split) <;> omega
theorem wt_lvl {n l : Nat} {t : Tr} {z : List Nat} (h : Wt n t.lvl t z) (hl : l ≤ 4) : Wt (n + 1) l t (par (decide (t.lvl < l)) z) := by
  unfold par
  by_cases e : t.lvl < l
  · rw [if_pos (decide_eq_true e)]
    have := wt_par (b := []) (.inl rfl) (h.ups (Nat.zero_le _))
    exact this.ups hl
  · rw [if_neg (by simpa using e)]
    exact (h.ups (by omega)).wks (by omega)
theorem opl_le (c : Nat) : opl c ≤ 3 := by unfold opl; split; omega; split <;> omega
theorem lef_le (c : Nat) : lef c ≤ 3 := by have := opl_le c; unfold lef; split <;> omega
/-- the canonical texts -/
theorem TO.can {n : Nat} {t : Tr} (h : TO n t) : (Wt (2 * n) t.lvl t (t.tx false) ∧ (t.tx false).length ≤ 40 * 4 ^ n) ∧
    ∃ ps : List (Tr × List Nat), ps ≠ [] ∧ seqT (ps.map (·.1)) = t ∧ t.tx true = joinW [59, 32] (ps.map (·.2)) ∧ (∀ p ∈ ps, Wt (2 * n) 0 p.1 p.2) ∧ (t.tx true).length ≤ 40 * 4 ^ n := by
  induction h with
  | @num n k h =>
    have hd : (dg k).length ≤ 5 := dg_len (by decide) h
    have : 1 ≤ 4 ^ (n + 1) := Nat.pow_pos (by decide)
    refine ⟨⟨by rw [Tr.tx]; exact wt_num h, by rw [Tr.tx]; omega⟩, [(.num k, dg k)], by simp, rfl, by simp [Tr.tx, joinW], ?_, by rw [Tr.tx]; omega⟩
    intro p hp
    rcases List.mem_singleton.mp hp with rfl
    exact (wt_num h).ups (by omega)
  | @str n z h =>
    have hd : z.length ≤ 20 := h.1
    have : 1 ≤ 4 ^ (n + 1) := Nat.pow_pos (by decide)
    refine ⟨⟨by rw [Tr.tx]; exact wt_str h, by rw [Tr.tx]; simp; omega⟩, [(.str z, 34 :: z ++ [34])], by simp, rfl, by simp [Tr.tx, joinW], ?_, by rw [Tr.tx]; simp; omega⟩
    intro p hp
    rcases List.mem_singleton.mp hp with rfl
    exact (wt_str h).ups (by omega)
  | @nam n z h =>
    have hd : z.length ≤ 6 := (name_ok h).2.1
    have : 1 ≤ 4 ^ (n + 1) := Nat.pow_pos (by decide)
    refine ⟨⟨by rw [Tr.tx]; exact wt_nam h, by rw [Tr.tx]; omega⟩, [(.nam z, z)], by simp, rfl, by simp [Tr.tx, joinW], ?_, by rw [Tr.tx]; omega⟩
    intro p hp
    rcases List.mem_singleton.mp hp with rfl
    exact (wt_nam h).ups (by omega)
  | @op n c l r h hl hr il ir =>
    have e4 : 4 ^ (n + 1) = 4 * 4 ^ n := by rw [Nat.pow_succ]; omega
    have hc : c ∈ sgns := by revert h; simp [sgns]; rintro (rfl | rfl | rfl | rfl | rfl) <;> simp
    have w : Wt (2 * (n + 1)) (opl c) (.op c l r) (Tr.tx false (.op c l r)) := by
      rw [Tr.tx]
      refine (wt_op h (Glue.both hc) (wt_lvl il.1.1 (by have := lef_le c; omega)) (wt_lvl ir.1.1 (by have := opl_le c; omega))).wks (by omega)
    have hlen : ∀ m, (Tr.tx m (.op c l r)).length ≤ 40 * 4 ^ (n + 1) := by
      intro m
      rw [Tr.tx]
      have a1 := par_len (decide (l.lvl < lef c)) (l.tx false)
      have a2 := par_len (decide (r.lvl < opl c + 1)) (r.tx false)
      have := il.1.2
      have := ir.1.2
      have : 1 ≤ 4 ^ n := Nat.pow_pos (by decide)
      simp only [List.length_append, List.length_cons, List.length_nil]
      omega
    refine ⟨⟨w, hlen _⟩, [(_, Tr.tx false (.op c l r))], by simp, rfl, by simp [Tr.tx, joinW], ?_, hlen _⟩
    intro p hp
    rcases List.mem_singleton.mp hp with rfl
    exact w.ups (by omega)
  | @ite n a b c ha hb hc ia ib ic =>
    have e4 : 4 ^ (n + 1) = 4 * 4 ^ n := by rw [Nat.pow_succ]; omega
    have w : Wt (2 * (n + 1)) 0 (.ite a b c) (Tr.tx false (.ite a b c)) := by
      rw [Tr.tx]
      exact (wt_ite (ia.1.1.ups (by omega)) (ib.1.1.ups (by omega)) (ic.1.1.ups (by omega))).wks (by omega)
    have hlen : ∀ m, (Tr.tx m (.ite a b c)).length ≤ 40 * 4 ^ (n + 1) := by
      intro m
      rw [Tr.tx]
      have := ia.1.2
      have := ib.1.2
      have := ic.1.2
      have : 1 ≤ 4 ^ n := Nat.pow_pos (by decide)
      simp only [List.length_append, List.length_cons, List.length_nil]
      omega
    refine ⟨⟨w, hlen _⟩, [(_, Tr.tx false (.ite a b c))], by simp, rfl, by simp [Tr.tx, joinW], ?_, hlen _⟩
    intro p hp
    rcases List.mem_singleton.mp hp with rfl
    exact w.ups (by omega)
  | @set n z e h he ih =>
    have e4 : 4 ^ (n + 1) = 4 * 4 ^ n := by rw [Nat.pow_succ]; omega
    have hd : z.length ≤ 6 := (name_ok h).2.1
    have w : Wt (2 * (n + 1)) 0 (.set z e) (Tr.tx false (.set z e)) := by
      rw [Tr.tx]
      exact (wt_set h (Glue.both (by decide)) (ih.1.1.ups (by omega))).wks (by omega)
    have hlen : ∀ m, (Tr.tx m (.set z e)).length ≤ 40 * 4 ^ (n + 1) := by
      intro m
      rw [Tr.tx]
      have := ih.1.2
      have : 1 ≤ 4 ^ n := Nat.pow_pos (by decide)
      simp only [List.length_append, List.length_cons, List.length_nil]
      omega
    refine ⟨⟨w, hlen _⟩, [(_, Tr.tx false (.set z e))], by simp, rfl, by simp [Tr.tx, joinW], ?_, hlen _⟩
    intro p hp
    rcases List.mem_singleton.mp hp with rfl
    exact w.ups (by omega)
  | @thn n a b ha hb ia ib =>
    have e4 : 4 ^ (n + 1) = 4 * 4 ^ n := by rw [Nat.pow_succ]; omega
    obtain ⟨ps, p1, p2, p3, p4, p5⟩ := ib.2
    have hp : ∀ p ∈ (a, a.tx false) :: ps, Wt (2 * n) 0 p.1 p.2 := fun p hp => by
      rcases List.mem_cons.mp hp with rfl | hp
      · exact ia.1.1.ups (by omega)
      · exact p4 p hp
    have ej : Tr.tx true (.thn a b) = joinW [59, 32] (((a, a.tx false) :: ps).map (·.2)) := by
      rw [Tr.tx, p3]
      cases ps with
      | nil => exact absurd rfl p1
      | cons p ps => simp [par, joinW]
    have ef : Tr.tx false (.thn a b) = 40 :: [] ++ joinW [59, 32] (((a, a.tx false) :: ps).map (·.2)) ++ [41] := by
      rw [← ej, Tr.tx, Tr.tx]
      simp [par]
    have es : seqT (((a, a.tx false) :: ps).map (·.1)) = .thn a b := by
      rw [List.map_cons, seqT_cons _ (by simpa using p1), p2]
    have w : Wt (2 * n + 1) 4 (.thn a b) (Tr.tx false (.thn a b)) := by
      rw [ef]
      have := wt_seq (b := []) (Glue.after (by decide)) (.inl rfl) (ps := (a, a.tx false) :: ps) (by simp) hp
      rw [es] at this
      exact this
    have hlen : ∀ m, (Tr.tx m (.thn a b)).length ≤ 40 * 4 ^ (n + 1) := by
      intro m
      rw [Tr.tx]
      have := par_len (!m) (a.tx false ++ [59, 32] ++ b.tx true)
      have := ia.1.2
      have : 1 ≤ 4 ^ n := Nat.pow_pos (by decide)
      simp only [List.length_append, List.length_cons, List.length_nil] at *
      omega
    refine ⟨⟨w.wks (by omega), hlen _⟩, (a, a.tx false) :: ps, by simp, es, ej, fun p m => (hp p m).wks (by omega), hlen _⟩
  | @call n z ts h hn ht ih =>
    have e4 : 4 ^ (n + 1) = 4 * 4 ^ n := by rw [Nat.pow_succ]; omega
    have hd : z.length ≤ 6 := (name_ok h).2.1
    have ej : Tr.txs ts = (ts.map fun t => (t, t.tx false)).map (·.2) := by rw [txs_eq]; simp
    have e1 : (ts.map fun t => (t, t.tx false)).map (·.1) = ts := by rw [List.map_map]; exact List.map_id' ts
    have w : Wt (2 * (n + 1)) 4 (.call z ts) (Tr.tx false (.call z ts)) := by
      rw [Tr.tx, ej]
      have := wt_call h (Glue.after (c := 44) (by decide)) (Glue.sgn (c := 40) (by decide)) (ps := ts.map fun t => (t, t.tx false)) (n := 2 * n) fun p hp => by
        obtain ⟨t, m, rfl⟩ := List.mem_map.mp hp
        exact (ih t m).1.1.ups (by omega)
      rw [e1] at this
      exact this.wks (by omega)
    have hlen : ∀ m, (Tr.tx m (.call z ts)).length ≤ 40 * 4 ^ (n + 1) := by
      intro m
      rw [Tr.tx, txs_eq]
      have hj : (joinW [44, 32] (ts.map (Tr.tx false))).length ≤ (ts.map (Tr.tx false)).length * (40 * 4 ^ n + 2) := joinW_len [44, 32] (B := 40 * 4 ^ n) (zs := ts.map (Tr.tx false)) fun z hz => by
        obtain ⟨t, m, rfl⟩ := List.mem_map.mp hz
        exact (ih t m).1.2
      rw [List.length_map] at hj
      have : ts.length * (40 * 4 ^ n + 2) ≤ 3 * (40 * 4 ^ n + 2) := Nat.mul_le_mul_right _ hn
      have : 1 ≤ 4 ^ n := Nat.pow_pos (by decide)
      simp only [List.length_append, List.length_cons, List.length_nil] at *
      omega
    refine ⟨⟨w, hlen _⟩, [(_, Tr.tx false (.call z ts))], by simp, rfl, by simp [Tr.tx, joinW], ?_, hlen _⟩
    intro p hp
    rcases List.mem_singleton.mp hp with rfl
    exact w.ups (by omega)
/-! ### choices and sets -/
mutual
def Tr.nIf : Tr → Nat
  | .num _ => 0
  | .str _ => 0
  | .nam _ => 0
  | .op _ l r => l.nIf + r.nIf
  | .ite a b c => 1 + (a.nIf + (b.nIf + c.nIf))
  | .set _ e => 1 + e.nIf
  | .thn a b => a.nIf + b.nIf
  | .call _ ts => Tr.nIfs ts
def Tr.nIfs : List Tr → Nat
  | [] => 0
  | t :: r => t.nIf + Tr.nIfs r
end
theorem nIf_seq : ∀ ts : List Tr, ts ≠ [] → (seqT ts).nIf = Tr.nIfs ts
  | [], h => absurd rfl h
  | [t], _ => by simp [seqT_one, Tr.nIfs]
  | t :: u :: r, _ => by
    rw [seqT_cons _ (by simp), Tr.nIf, nIf_seq (u :: r) (by simp)]
    simp only [Tr.nIfs]
theorem ifs_nil : ifs [] = 0 := rfl
theorem ifs_append (u v : List Tk) : ifs (u ++ v) = ifs u + ifs v := by unfold ifs; rw [List.countP_append]
theorem ifs_cons' (x : Tk) (v : List Tk) : ifs (x :: v) = (if isIf x then 1 else 0) + ifs v := by
  unfold ifs
  rw [List.countP_cons]
  omega
theorem isIf_g (c : Nat) : isIf (.g c) = false := rfl
theorem isIf_nam {z : List Nat} (h : isName z = true) : isIf (.w z) = false := by
  obtain ⟨h1, h2, _, _⟩ := head_no h
  simp [isIf, h1, h2]
theorem ifs_sep {c : Nat} : ∀ ps : List (Tr × List Tk), (∀ p ∈ ps, ifs p.2 = p.1.nIf) → ifs (sepT c (ps.map (·.2))) = Tr.nIfs (ps.map (·.1))
  | [], _ => by simp [sepT, Tr.nIfs, ifs_nil]
  | [p], h => by simp [sepT, Tr.nIfs, h p (.head _)]
  | p :: p2 :: ps, h => by
    have ih := ifs_sep (c := c) (p2 :: ps) fun q hq => h q (.tail _ hq)
    have h1 := h p (.head _)
    simp only [List.map_cons, sepT, Tr.nIfs, ifs_append, ifs_cons', isIf_g] at ih ⊢
    rw [ih, h1]
    simp
theorem Tx.ifs {n l : Nat} {t : Tr} {s : List Tk} (h : Tx n l t s) : ifs s = t.nIf := by
  induction h with
  | num => rfl
  | str => rfl
  | nam h => simp [ifs_cons', isIf_nam h, ifs_nil, Tr.nIf]
  | call h hp ih =>
    have := ifs_sep (c := 44) _ ih
    simp [ifs_append, ifs_cons', isIf_nam h, isIf_g, ifs_nil, this, Tr.nIf]
  | @seq n ps h hp ih =>
    have := ifs_sep (c := 59) _ ih
    rw [nIf_seq _ (by simpa using h)]
    simp [ifs_append, ifs_cons', isIf_g, ifs_nil, this]
  | mul ha hb ia ib => simp [ifs_append, ifs_cons', isIf_g, ia, ib, Tr.nIf]
  | add h ha hb ia ib => simp [ifs_append, ifs_cons', isIf_g, ia, ib, Tr.nIf]
  | cmp h ha hb ia ib => simp [ifs_append, ifs_cons', isIf_g, ia, ib, Tr.nIf]
  | ite ha hb hc ia ib ic =>
    have e1 : isIf (.w zif) = true := rfl
    have e2 : isIf (.w zthen) = false := rfl
    have e3 : isIf (.w zelse) = false := rfl
    simp [ifs_append, ifs_cons', e1, e2, e3, ia, ib, ic, Tr.nIf]
  | set h he ih =>
    have e1 : isIf (.w zset) = true := rfl
    simp [ifs_cons', e1, isIf_nam h, isIf_g, ih, Tr.nIf]
  | up h i => exact i
  | wk h i => exact i
theorem nIfs_le {B : Nat} : ∀ {ts : List Tr}, (∀ t ∈ ts, t.nIf ≤ B) → Tr.nIfs ts ≤ ts.length * B
  | [], _ => by simp [Tr.nIfs]
  | t :: r, h => by
    have h1 := h t (.head _)
    have h2 := nIfs_le fun t ht => h t (.tail _ ht)
    rw [Tr.nIfs, List.length_cons, Nat.succ_mul]
    omega
theorem TO.nIf {n : Nat} {t : Tr} (h : TO n t) : 6 * t.nIf + 3 ≤ 3 ^ n := by
  have pw : ∀ n, 3 ^ (n + 1) = 3 * 3 ^ n := fun n => by rw [Nat.pow_succ]; omega
  have one : ∀ n, 1 ≤ 3 ^ n := fun n => Nat.pow_pos (by decide)
  induction h with
  | @num n k h => have := pw n; have := one n; simp only [Tr.nIf]; omega
  | @str n z h => have := pw n; have := one n; simp only [Tr.nIf]; omega
  | @nam n z h => have := pw n; have := one n; simp only [Tr.nIf]; omega
  | @op n _ _ _ h _ _ i1 i2 => have := pw n; simp only [Tr.nIf]; omega
  | @ite n _ _ _ _ _ _ i1 i2 i3 => have := pw n; simp only [Tr.nIf]; omega
  | @set n _ _ h _ i => have := pw n; simp only [Tr.nIf]; omega
  | @thn n _ _ _ _ i1 i2 => have := pw n; simp only [Tr.nIf]; omega
  | @call n z ts h hn _ i =>
    have := pw n
    have b : ∀ t ∈ ts, t.nIf ≤ (3 ^ n - 3) / 6 := fun t m => by have := i t m; omega
    have := nIfs_le b
    have : ts.length * ((3 ^ n - 3) / 6) ≤ 3 * ((3 ^ n - 3) / 6) := Nat.mul_le_mul_right _ hn
    simp only [Tr.nIf]
    by_cases e : ts = []
    · subst e
      have := one n
      simp [Tr.nIfs] at *
      omega
    · obtain ⟨t, m⟩ := List.exists_mem_of_ne_nil _ e
      have := i t m
      omega
/-! ### what parse tells -/
mutual
/-- the most arguments of a call -/
def Tr.wd : Tr → Nat
  | .num _ => 0
  | .str _ => 0
  | .nam _ => 0
  | .op _ l r => max l.wd r.wd
  | .ite a b c => max a.wd (max b.wd c.wd)
  | .set _ e => e.wd
  | .thn a b => max a.wd b.wd
  | .call _ ts => max ts.length (Tr.wds ts)
def Tr.wds : List Tr → Nat
  | [] => 0
  | t :: r => max t.wd (Tr.wds r)
end
theorem wds_le {n : Nat} : ∀ {ts : List Tr}, (∀ t ∈ ts, t.wd ≤ n) → Tr.wds ts ≤ n
  | [], _ => by simp [Tr.wds]
  | t :: r, h => by
    have h1 := h t (.head _)
    have h2 := wds_le fun t ht => h t (.tail _ ht)
    rw [Tr.wds]
    omega
theorem TO.wd {n : Nat} {t : Tr} (h : TO n t) : t.wd ≤ 3 := by
  induction h with
  | num h => simp [Tr.wd]
  | str h => simp [Tr.wd]
  | nam h => simp [Tr.wd]
  | op h _ _ i1 i2 => simp only [Tr.wd]; omega
  | ite _ _ _ i1 i2 i3 => simp only [Tr.wd]; omega
  | set h _ i => simp only [Tr.wd]; omega
  | thn _ _ i1 i2 => simp only [Tr.wd]; omega
  | call h hn _ i => have := wds_le i; simp only [Tr.wd]; omega
def pars (ts : List Tk) : Option (Option Tr) := match (lev 190).whole 0 ts with
  | none => none
  | some none => some none
  | some (some (t, [])) => if t.ht ≤ 45 ∧ t.wd ≤ 1000 then some (if t.ht ≤ 12 then some t else none) else none
  | some (some (_, _ :: _)) => some none
theorem pars_tree {n : Nat} {t : Tr} {s : List Tk} (h : Tx n 0 t s) (hn : n ≤ 10) (ht : t.ht ≤ 12) (hw : t.wd ≤ 1000) : pars s = some (some t) := by
  unfold pars
  rw [h.whole hn (by omega)]
  show (if t.ht ≤ 45 ∧ t.wd ≤ 1000 then some (if t.ht ≤ 12 then some t else none) else none) = _
  rw [if_pos ⟨by omega, hw⟩, if_pos ht]
/-- no tree -/
theorem pars_none {s : List Tk} (hi : ifs s ≤ 50) (h : ∀ t, (lev 190).whole 0 s ≠ some (some (t, []))) : pars s = some none := by
  unfold pars
  have := (lev_ter 190).whole 0 s (by omega) (by omega)
  split
  · rename_i e; exact absurd e this
  · rfl
  · rename_i t e; exact absurd e (h t)
  · rfl
theorem Tx.wf {n : Nat} {t : Tr} {s : List Tk} (h : Tx n 0 t s) (hn : n ≤ 10) : Wf s := by
  obtain ⟨u, e, w⟩ := (lev_snd 190).whole _ _ _ _ (h.whole hn (d := 190) (by omega))
  rw [List.append_nil] at e
  rw [e]
  exact w
theorem read_wf {s : List Tk} {t : Tr} (h : (lev 190).whole 0 s = some (some (t, []))) : Wf s := by
  obtain ⟨u, e, w⟩ := (lev_snd 190).whole _ _ _ _ h
  rw [List.append_nil] at e
  rw [e]
  exact w
/-- a token less -/
theorem pars_less {s : List Tk} (h : Wf s) (hi : ifs s ≤ 50) : pars s.dropLast = some none := by
  obtain ⟨a, e, ha⟩ := h.last
  obtain ⟨ys, rfl⟩ := List.getLast?_eq_some_iff.mp e
  rw [List.dropLast_concat]
  refine pars_none (Nat.le_trans ?_ hi) fun t ht => ?_
  · rw [ifs_append]
    omega
  have w := read_wf ht
  have hb := h.bal
  have hc := h.chk
  rw [List.count_append, List.count_append, w.bal] at hb
  obtain ⟨b, eb, hb2⟩ := w.last
  by_cases ho : operand a = true
  · rw [chk_pair eb hb2 ho] at hc
    cases hc
  · have : a = .g 41 := by
      cases a with
      | g c => have : c = 41 := by simpa [ender] using ha
               rw [this]
      | _ => exact absurd ha ho
    subst this
    simp at hb
/-- a token more -/
theorem pars_more {s : List Tk} {m : Tk} (h : Wf s) (hi : ifs s ≤ 50) (hm : m ∈ [.n 1, .g 41, .g 43, .g 40, .w zthen, .g 59]) : pars (s ++ [m]) = some none := by
  refine pars_none ?_ fun t ht => ?_
  · rw [ifs_append]
    have : ifs [m] = 0 := by
      simp only [List.mem_cons, List.not_mem_nil, or_false] at hm
      rcases hm with rfl | rfl | rfl | rfl | rfl | rfl <;> rfl
    omega
  have w := read_wf ht
  obtain ⟨a, e, ha⟩ := w.last
  have : a = m := by simpa using e.symm
  subst this
  have hb := w.bal
  rw [List.count_append, List.count_append, h.bal] at hb
  simp only [List.mem_cons, List.not_mem_nil, or_false] at hm
  rcases hm with rfl | rfl | rfl | rfl | rfl | rfl
  · obtain ⟨b, eb, hb2⟩ := h.last
    have := w.chk
    rw [chk_pair eb hb2 rfl] at this
    cases this
  · simp at hb
  · cases ha
  · cases ha
  · exact absurd ha (by decide)
  · cases ha
/-- a sign ahead -/
theorem pars_star (s : List Tk) : pars (.g 42 :: s) = some none := rfl
end Xp

/-! k02, the plain law: parts of trees, trees as data, loose texts -/
namespace Xp
open PySem PySem.NumText Lg Tok
def Tr.br : Tr → List Tr
  | .op _ l r => [l, r]
  | .ite a b c => [a, b, c]
  | .set _ e => [e]
  | .thn a b => [a, b]
  | .call _ ts => ts
  | .num _ => []
  | .str _ => []
  | .nam _ => []
theorem ht_br (t : Tr) : t.ht = 1 + Tr.hts t.br := by
  cases t <;> simp [Tr.ht, Tr.br, Tr.hts]
theorem wd_br {t u : Tr} (h : u ∈ t.br) : u.wd ≤ t.wd := by
  have all : ∀ {ts : List Tr}, u ∈ ts → u.wd ≤ Tr.wds ts := by
    intro ts
    induction ts with
    | nil => intro h; cases h
    | cons x r ih =>
      intro h
      rw [Tr.wds]
      rcases List.mem_cons.mp h with rfl | h
      · omega
      · have := ih h; omega
  have := all h
  cases t <;> simp [Tr.br, Tr.wds, Tr.wd] at * <;> omega
theorem br_len (t : Tr) : t.br.length ≤ max 3 t.wd := by
  cases t <;> simp [Tr.br, Tr.wd] <;> omega
theorem ht_lt {t u : Tr} (h : u ∈ t.br) : u.ht < t.ht := by
  have := ht_le_hts h
  rw [ht_br t]
  omega
/-- the greatest of numbers -/
theorem hts_max {ts : List Tr} {m : Int} (h0 : m ∈ ts.map fun u => (u.ht : Int)) (h1 : ∀ y ∈ ts.map fun u => (u.ht : Int), y ≤ m) : m = (Tr.hts ts : Int) := by
  have up : ∀ {ts : List Tr} {m : Int}, 0 ≤ m → (∀ y ∈ ts.map fun u => (u.ht : Int), y ≤ m) → (Tr.hts ts : Int) ≤ m := by
    intro ts
    induction ts with
    | nil => intro m h0 _; simpa [Tr.hts] using h0
    | cons t r ih =>
      intro m h0 h
      have a := h _ (.head _)
      have b := ih h0 fun y hy => h y (.tail _ hy)
      have a : (t.ht : Int) ≤ m := a
      rw [Tr.hts]
      omega
  obtain ⟨u, hu, rfl⟩ := List.mem_map.mp h0
  have a := ht_le_hts hu
  have b := up (ts := ts) (m := (u.ht : Int)) (by omega) h1
  omega
def Tr.kz : Tr → List Nat
  | .num _ => znumber
  | .str _ => zstring
  | .nam _ => zname
  | .op c _ _ => [c]
  | .ite _ _ _ => zif
  | .set _ _ => zset
  | .thn _ _ => zthen
  | .call _ _ => zcall
mutual
/-- what a text can be written of -/
def Tr.ok : Tr → Prop
  | .num k => k < 100000
  | .str z => Tk.ok (.s z)
  | .nam z => isName z = true
  | .op c l r => c ∈ [43, 45, 42, 60, 61] ∧ l.ok ∧ r.ok
  | .ite a b c => a.ok ∧ b.ok ∧ c.ok
  | .set z e => isName z = true ∧ e.ok
  | .thn a b => a.ok ∧ b.ok
  | .call z ts => isName z = true ∧ Tr.oks ts
def Tr.oks : List Tr → Prop
  | [] => True
  | t :: r => t.ok ∧ Tr.oks r
end
theorem oks_all : ∀ {ts : List Tr}, Tr.oks ts ↔ ∀ t ∈ ts, t.ok
  | [] => by simp [Tr.oks]
  | t :: r => by simp [Tr.oks, oks_all (ts := r)]
theorem TO.okT {n : Nat} {t : Tr} (h : TO n t) : t.ok := by
  induction h with
  | num h => simpa [Tr.ok] using h
  | str h => rw [Tr.ok]; exact h
  | nam h => rw [Tr.ok]; exact h
  | op h _ _ i1 i2 => rw [Tr.ok]; exact ⟨h, i1, i2⟩
  | ite _ _ _ i1 i2 i3 => rw [Tr.ok]; exact ⟨i1, i2, i3⟩
  | set h _ i => rw [Tr.ok]; exact ⟨h, i⟩
  | thn _ _ i1 i2 => rw [Tr.ok]; exact ⟨i1, i2⟩
  | call h hn _ i => rw [Tr.ok]; exact ⟨h, oks_all.mpr i⟩
theorem ok_seq : ∀ {ts : List Tr}, ts ≠ [] → (seqT ts).ok → ∀ t ∈ ts, t.ok
  | [], h, _, _, _ => absurd rfl h
  | [t], _, ok, u, hu => by rw [List.mem_singleton.mp hu]; exact ok
  | t :: v :: r, _, ok, u, hu => by
    rw [seqT_cons _ (by simp), Tr.ok] at ok
    rcases List.mem_cons.mp hu with rfl | hu
    · exact ok.1
    · exact ok_seq (by simp) ok.2 u hu
theorem sep_ok {c : Nat} (hc : c ∈ sgns) : ∀ {ps : List (List Tk)}, (∀ p ∈ ps, ∀ u ∈ p, u.ok) → ∀ u ∈ sepT c ps, u.ok
  | [], _, u, hu => by cases hu
  | [x], h, u, hu => h x (.head _) u hu
  | x :: y :: r, h, u, hu => by
    rcases List.mem_append.mp hu with hu | hu
    · exact h x (.head _) u hu
    · rcases List.mem_cons.mp hu with rfl | hu
      · exact hc
      · exact sep_ok hc (fun p hp => h p (.tail _ hp)) u hu
theorem kw_ok {z : List Nat} (h : z ∈ [zif, zset, zthen, zelse]) : Tk.ok (.w z) := by
  simp only [List.mem_cons, List.not_mem_nil, or_false] at h
  rcases h with rfl | rfl | rfl | rfl <;> exact ⟨by decide, by decide, by decide⟩
/-- the tokens of a good tree are good -/
theorem Tx.tok {n l : Nat} {t : Tr} {s : List Tk} (h : Tx n l t s) : t.ok → ∀ u ∈ s, u.ok := by
  have g40 : Tk.ok (.g 40) := by show 40 ∈ sgns; decide
  have g41 : Tk.ok (.g 41) := by show 41 ∈ sgns; decide
  have g61 : Tk.ok (.g 61) := by show 61 ∈ sgns; decide
  have g42 : Tk.ok (.g 42) := by show 42 ∈ sgns; decide
  induction h with
  | num => intro ok u hu; rw [List.mem_singleton.mp hu]; rw [Tr.ok] at ok; exact ok
  | str => intro ok u hu; rw [List.mem_singleton.mp hu]; rw [Tr.ok] at ok; exact ok
  | nam h => intro ok u hu; rw [List.mem_singleton.mp hu]; exact name_ok h
  | @call n z ps h hp ih =>
    intro ok u hu
    rw [Tr.ok] at ok
    have oks := oks_all.mp ok.2
    simp only [List.cons_append, List.mem_cons, List.mem_append, List.not_mem_nil, or_false] at hu
    rcases hu with rfl | rfl | hu | rfl
    · exact name_ok h
    · exact g40
    · refine sep_ok (by decide) (fun p hp' v hv => ?_) u hu
      obtain ⟨q, m, rfl⟩ := List.mem_map.mp hp'
      exact ih q m (oks _ (List.mem_map_of_mem m)) v hv
    · exact g41
  | @seq n ps h hp ih =>
    intro ok u hu
    have oks := ok_seq (by simpa using h) ok
    simp only [List.cons_append, List.mem_cons, List.mem_append, List.not_mem_nil, or_false] at hu
    rcases hu with rfl | hu | rfl
    · exact g40
    · refine sep_ok (by decide) (fun p hp' v hv => ?_) u hu
      obtain ⟨q, m, rfl⟩ := List.mem_map.mp hp'
      exact ih q m (oks _ (List.mem_map_of_mem m)) v hv
    · exact g41
  | mul ha hb ia ib =>
    intro ok u hu
    rw [Tr.ok] at ok
    simp only [List.mem_append, List.mem_cons] at hu
    rcases hu with hu | rfl | hu
    · exact ia ok.2.1 u hu
    · exact g42
    · exact ib ok.2.2 u hu
  | @add n c a b s u h ha hb ia ib =>
    intro ok v hv
    rw [Tr.ok] at ok
    simp only [List.mem_append, List.mem_cons] at hv
    rcases hv with hv | rfl | hv
    · exact ia ok.2.1 v hv
    · show c ∈ sgns
      revert h; simp [sgns]; rintro (rfl | rfl) <;> simp
    · exact ib ok.2.2 v hv
  | @cmp n c a b s u h ha hb ia ib =>
    intro ok v hv
    rw [Tr.ok] at ok
    simp only [List.mem_append, List.mem_cons] at hv
    rcases hv with hv | rfl | hv
    · exact ia ok.2.1 v hv
    · show c ∈ sgns
      revert h; simp [sgns]; rintro (rfl | rfl) <;> simp
    · exact ib ok.2.2 v hv
  | ite ha hb hc ia ib ic =>
    intro ok v hv
    rw [Tr.ok] at ok
    simp only [List.mem_append, List.mem_cons] at hv
    rcases hv with rfl | hv | rfl | hv | rfl | hv
    · exact kw_ok (by simp)
    · exact ia ok.1 v hv
    · exact kw_ok (by simp)
    · exact ib ok.2.1 v hv
    · exact kw_ok (by simp)
    · exact ic ok.2.2 v hv
  | set h he ih =>
    intro ok v hv
    rw [Tr.ok] at ok
    simp only [List.mem_cons] at hv
    rcases hv with rfl | rfl | rfl | hv
    · exact kw_ok (by simp)
    · exact name_ok h
    · exact g61
    · exact ih ok.2 v hv
  | up h i => exact i
  | wk h i => exact i
theorem spl'_len : ∀ (n : Nat) (l : List Nat) (ts : List Tk), spl' n l = some ts → ts.length ≤ l.length
  | n, [], ts, h => by
    have : ts = [] := by cases n <;> (cases h; rfl)
    subst this
    simp
  | 0, c :: r, ts, h => by cases h
  | n + 1, c :: r, ts, h => by
    unfold spl' at h
    split at h
    · have := spl'_len n r ts h
      simp only [List.length_cons]
      omega
    · cases ht : tok (c :: r) with
      | none => rw [ht] at h; cases h
      | some q =>
        obtain ⟨t, k⟩ := q
        rw [ht] at h
        have hk := tok_pos ht
        replace h : (spl' n ((c :: r).drop k)).map (t :: ·) = some ts := h
        cases h2 : spl' n ((c :: r).drop k) with
        | none => rw [h2] at h; cases h
        | some us =>
          rw [h2] at h
          cases h
          have := spl'_len n _ us h2
          rw [List.length_drop] at this
          simp only [List.length_cons] at *
          omega
theorem spl_len {l : List Nat} {ts : List Tk} (h : spl l = some ts) : ts.length ≤ l.length := spl'_len _ _ _ h
theorem tx_flag {t : Tr} (h : ∀ a b, t ≠ .thn a b) (m : Bool) : t.tx m = t.tx false := by
  cases t with
  | thn a b => exact absurd rfl (h a b)
  | _ => simp [Tr.tx]
theorem tx_le (t : Tr) : (t.tx true).length ≤ (t.tx false).length := by
  cases t with
  | thn a b => simp [Tr.tx, par]; omega
  | _ => rw [tx_flag (by simp) true] <;> exact Nat.le_refl _
theorem joinW_ge (x : List Nat) : ∀ {zs : List (List Nat)}, zs.length ≤ 1 + (joinW x zs).length ∨ x = []
  | [] => by simp
  | [z] => by simp
  | z :: y :: r => by
    rcases joinW_ge x (zs := y :: r) with h | h
    · by_cases hx : x = []
      · exact .inr hx
      · left
        have : 1 ≤ x.length := List.length_pos_iff.mpr hx
        simp only [joinW, List.length_append, List.length_cons] at *
        omega
    · exact .inr h
theorem joinW_mem (x : List Nat) : ∀ {zs : List (List Nat)} {z : List Nat}, z ∈ zs → z.length ≤ (joinW x zs).length
  | [y], z, h => by rw [List.mem_singleton.mp h]; simp [joinW]
  | w :: y :: r, z, h => by
    rcases List.mem_cons.mp h with rfl | h
    · simp [joinW]
    · have := joinW_mem x h
      simp only [joinW, List.length_append]
      omega
theorem joinW_sum (x : List Nat) : ∀ {zs : List (List Nat)}, (zs.map (·.length)).sum + zs.length * x.length ≤ (joinW x zs).length + x.length
  | [] => by simp [joinW]
  | [z] => by simp [joinW]
  | z :: y :: r => by
    have := joinW_sum x (zs := y :: r)
    simp only [joinW, List.length_append, List.map_cons, List.sum_cons, List.length_cons, Nat.succ_mul] at *
    omega
/-! ### trees as data -/
theorem shw_tuple {n m : Nat} {ds : List PyData} (h : ∀ d ∈ ds, ∃ w, Shw n w d) (hm : PyData.weightAll ds + 1 ≤ m) : Shw (n + 1) m (.tuple ds) := by
  have all : PyData.canLayAll0 ds = true ∧ PyData.depthAll ds ≤ n ∧ PyData.intsShortAll 13 ds = true ∧ PyData.showableAll ds = true := by
    clear hm
    induction ds with
    | nil => simp [PyData.canLayAll0, PyData.depthAll, PyData.intsShortAll, PyData.showableAll]
    | cons d ds ih =>
      obtain ⟨h1, h2, h4, h5⟩ := ih fun e he => h e (.tail _ he)
      obtain ⟨w, g1, g2, g3, g4, g5⟩ := h d (.head _)
      simp only [PyData.canLayAll0, PyData.depthAll, PyData.intsShortAll, PyData.showableAll, g1, h1, g4, h4, g5, h5, Bool.and_self]
      refine ⟨trivial, by omega, trivial, trivial⟩
  obtain ⟨h1, h2, h4, h5⟩ := all
  exact ⟨by simpa [PyData.canLay0] using h1, by simp only [PyData.depth]; omega, by simp only [PyData.weight]; omega, by simpa [PyData.intsShort] using h4, by simpa [PyData.showable] using h5⟩
theorem wt_str' (z : List Nat) : (PyData.str (S z)).weight = z.length := by simp [PyData.weight, S]
theorem wt_le {n w : Nat} {d : PyData} (h : Shw n w d) : d.weight ≤ w := h.wgt
theorem asc_word {z : List Nat} (h : isName z = true) : Asc z ∧ z.length ≤ 6 := by
  obtain ⟨_, h2, h3⟩ := name_ok h
  refine ⟨fun c hc => ?_, h2⟩
  have := h3 c hc
  simp [letters] at this
  omega
theorem wAll_cons (d : PyData) (ds : List PyData) : PyData.weightAll (d :: ds) = d.weight + 1 + PyData.weightAll ds := by
  simp only [PyData.weightAll]
  try omega
theorem wAll_nil : PyData.weightAll [] = 0 := by simp [PyData.weightAll]
theorem wAll_le {w : Nat} : ∀ {ds : List PyData}, (∀ d ∈ ds, d.weight ≤ w) → PyData.weightAll ds ≤ ds.length * (w + 1)
  | [], _ => by simp [wAll_nil]
  | d :: r, h => by
    have h1 := h d (.head _)
    have h2 := wAll_le fun d hd => h d (.tail _ hd)
    rw [wAll_cons, List.length_cons, Nat.succ_mul]
    omega
theorem asc_of {z : List Nat} (h : z.all (fun c => decide (c < 1114112)) = true) : Asc z := fun c hc => by
  simpa using List.all_eq_true.mp h c hc
/-- drawn trees may be shown -/
theorem TO.shw {n : Nat} {t : Tr} (h : TO n t) : Shw (2 * n) (60 * 4 ^ n) t.d := by
  have pw : ∀ n, 4 ^ (n + 1) = 4 * 4 ^ n := fun n => by rw [Nat.pow_succ]; omega
  have one : ∀ n, 1 ≤ 4 ^ n := fun n => Nat.pow_pos (by decide)
  induction h with
  | @num n k h =>
    have := pw n; have := one n
    rw [Tr.d, show 2 * (n + 1) = (2 * n + 1) + 1 by omega]
    have hk : Shw (2 * n + 1) 42 (.int (k : Int)) := sh_int _ (by omega) (by omega)
    have := hk.wgt
    refine shw_tuple (fun d hd => ?_) (by rw [wAll_cons, wAll_cons, wAll_nil, wt_str']; simp; omega)
    simp only [List.mem_cons, List.not_mem_nil, or_false] at hd
    rcases hd with rfl | rfl
    · exact ⟨_, sh_str _ (asc_of (by decide)) (Nat.le_refl _)⟩
    · exact ⟨_, hk⟩
  | @str n z h =>
    have := pw n; have := one n
    rw [Tr.d, show 2 * (n + 1) = (2 * n + 1) + 1 by omega]
    have := h.1
    refine shw_tuple (fun d hd => ?_) (by rw [wAll_cons, wAll_cons, wAll_nil, wt_str', wt_str']; simp; omega)
    simp only [List.mem_cons, List.not_mem_nil, or_false] at hd
    rcases hd with rfl | rfl
    · exact ⟨_, sh_str _ (asc_of (by decide)) (Nat.le_refl _)⟩
    · exact ⟨_, sh_str _ h.2.2 (Nat.le_refl _)⟩
  | @nam n z h =>
    have := pw n; have := one n
    rw [Tr.d, show 2 * (n + 1) = (2 * n + 1) + 1 by omega]
    obtain ⟨ha, hl⟩ := asc_word h
    refine shw_tuple (fun d hd => ?_) (by rw [wAll_cons, wAll_cons, wAll_nil, wt_str', wt_str']; simp; omega)
    simp only [List.mem_cons, List.not_mem_nil, or_false] at hd
    rcases hd with rfl | rfl
    · exact ⟨_, sh_str _ (asc_of (by decide)) (Nat.le_refl _)⟩
    · exact ⟨_, sh_str _ ha (Nat.le_refl _)⟩
  | @op n c l r h _ _ i1 i2 =>
    have := pw n; have := one n
    rw [Tr.d, show 2 * (n + 1) = (2 * n + 1) + 1 by omega]
    have a1 := i1.wgt; have a2 := i2.wgt
    refine shw_tuple (fun d hd => ?_) (by rw [wAll_cons, wAll_cons, wAll_cons, wAll_nil, wt_str']; simp; omega)
    simp only [List.mem_cons, List.not_mem_nil, or_false] at hd
    rcases hd with rfl | rfl | rfl
    · refine ⟨_, sh_str _ (fun x hx => ?_) (Nat.le_refl _)⟩
      rcases List.mem_singleton.mp hx with rfl
      simp at h
      omega
    · exact ⟨_, i1.mono (by omega) (Nat.le_refl _)⟩
    · exact ⟨_, i2.mono (by omega) (Nat.le_refl _)⟩
  | @ite n a b c _ _ _ i1 i2 i3 =>
    have := pw n; have := one n
    rw [Tr.d, show 2 * (n + 1) = (2 * n + 1) + 1 by omega]
    have a1 := i1.wgt; have a2 := i2.wgt; have a3 := i3.wgt
    refine shw_tuple (fun d hd => ?_) (by rw [wAll_cons, wAll_cons, wAll_cons, wAll_cons, wAll_nil, wt_str']; simp; omega)
    simp only [List.mem_cons, List.not_mem_nil, or_false] at hd
    rcases hd with rfl | rfl | rfl | rfl
    · exact ⟨_, sh_str _ (asc_of (by decide)) (Nat.le_refl _)⟩
    · exact ⟨_, i1.mono (by omega) (Nat.le_refl _)⟩
    · exact ⟨_, i2.mono (by omega) (Nat.le_refl _)⟩
    · exact ⟨_, i3.mono (by omega) (Nat.le_refl _)⟩
  | @set n z e h _ i =>
    have := pw n; have := one n
    rw [Tr.d, show 2 * (n + 1) = (2 * n + 1) + 1 by omega]
    have a1 := i.wgt
    obtain ⟨ha, hl⟩ := asc_word h
    refine shw_tuple (fun d hd => ?_) (by rw [wAll_cons, wAll_cons, wAll_cons, wAll_nil, wt_str', wt_str']; simp; omega)
    simp only [List.mem_cons, List.not_mem_nil, or_false] at hd
    rcases hd with rfl | rfl | rfl
    · exact ⟨_, sh_str _ (asc_of (by decide)) (Nat.le_refl _)⟩
    · exact ⟨_, sh_str _ ha (Nat.le_refl _)⟩
    · exact ⟨_, i.mono (by omega) (Nat.le_refl _)⟩
  | @thn n a b _ _ i1 i2 =>
    have := pw n; have := one n
    rw [Tr.d, show 2 * (n + 1) = (2 * n + 1) + 1 by omega]
    have a1 := i1.wgt; have a2 := i2.wgt
    refine shw_tuple (fun d hd => ?_) (by rw [wAll_cons, wAll_cons, wAll_cons, wAll_nil, wt_str']; simp; omega)
    simp only [List.mem_cons, List.not_mem_nil, or_false] at hd
    rcases hd with rfl | rfl | rfl
    · exact ⟨_, sh_str _ (asc_of (by decide)) (Nat.le_refl _)⟩
    · exact ⟨_, i1.mono (by omega) (Nat.le_refl _)⟩
    · exact ⟨_, i2.mono (by omega) (Nat.le_refl _)⟩
  | @call n z ts h hn ht i =>
    have := pw n; have := one n
    rw [Tr.d, show 2 * (n + 1) = (2 * n + 1) + 1 by omega, ds_eq]
    obtain ⟨ha, hl⟩ := asc_word h
    have hw : PyData.weightAll (ts.map Tr.d) ≤ 3 * (60 * 4 ^ n + 1) := by
      refine Nat.le_trans (wAll_le (w := 60 * 4 ^ n) fun d hd => ?_) (Nat.mul_le_mul_right _ (by rw [List.length_map]; exact hn))
      obtain ⟨t, m, rfl⟩ := List.mem_map.mp hd
      exact (i t m).wgt
    have hT : Shw (2 * n + 1) (PyData.weightAll (ts.map Tr.d) + 1) (.tuple (ts.map Tr.d)) := shw_tuple (fun d hd => by
      obtain ⟨t, m, rfl⟩ := List.mem_map.mp hd
      exact ⟨_, i t m⟩) (Nat.le_refl _)
    have a1 := hT.wgt
    refine shw_tuple (fun d hd => ?_) (by rw [wAll_cons, wAll_cons, wAll_cons, wAll_nil, wt_str', wt_str']; simp; omega)
    simp only [List.mem_cons, List.not_mem_nil, or_false] at hd
    rcases hd with rfl | rfl | rfl
    · exact ⟨_, sh_str _ (asc_of (by decide)) (Nat.le_refl _)⟩
    · exact ⟨_, sh_str _ ha (Nat.le_refl _)⟩
    · exact ⟨_, hT⟩
/-! ### loose texts -/
/-- z may stand for t where something as strong as l stands -/
structure Lo (n l : Nat) (t : Tr) (z : List Nat) : Prop where
  wt : Wt (2 * n) l t z
  len : z.length ≤ 40 * 4 ^ n
/-- what stands inside, and its parentheses -/
theorem Lo.mk' {n l : Nat} {t : Tr} {z : List Nat} (h : Wt (2 * n + 1) t.lvl t z) (hl : l ≤ 4) (hz : z.length + 3 ≤ 40 * 4 ^ (n + 1)) :
    Lo (n + 1) l t (40 :: 32 :: (z ++ [41])) ∧ (l ≤ t.lvl → Lo (n + 1) l t z) := by
  refine ⟨⟨?_, by simp; omega⟩, fun hle => ⟨(h.ups hle).wks (by omega), by omega⟩⟩
  have := wt_par (b := [32]) (.inr rfl) (h.ups (Nat.zero_le _))
  exact this.ups hl
theorem lo_leaf {n : Nat} {t : Tr} (h : TO (n + 1) t) (hb : t.br = []) (hc : ∀ z ts, t ≠ .call z ts) : Wt (2 * n + 1) t.lvl t (t.tx false) ∧ (t.tx false).length + 3 ≤ 40 * 4 ^ (n + 1) := by
  have pw : 4 ^ (n + 1) = 4 * 4 ^ n := by rw [Nat.pow_succ]; omega
  have one : 1 ≤ 4 ^ n := Nat.pow_pos (by decide)
  cases h with
  | @num _ k h => exact ⟨by rw [Tr.tx]; exact wt_num h, by have : (dg k).length ≤ 5 := dg_len (by decide) h; rw [Tr.tx]; omega⟩
  | str h => exact ⟨by rw [Tr.tx]; exact wt_str h, by have := h.1; rw [Tr.tx]; simp; omega⟩
  | nam h => exact ⟨by rw [Tr.tx]; exact wt_nam h, by have := (name_ok h).2.1; rw [Tr.tx]; omega⟩
  | call => exact absurd rfl (hc _ _)
  | op => simp [Tr.br] at hb
  | ite => simp [Tr.br] at hb
  | set => simp [Tr.br] at hb
  | thn => simp [Tr.br] at hb
theorem lo_op {n c : Nat} {a b : Tr} {x y : List Nat} (h : c ∈ [43, 45, 42, 60, 61]) (ha : Lo n (lef c) a x) (hb : Lo n (opl c + 1) b y) : Wt (2 * n + 1) (opl c) (.op c a b) (x ++ [c, 32] ++ y) ∧ (x ++ [c, 32] ++ y).length + 3 ≤ 40 * 4 ^ (n + 1) := by
  have pw : 4 ^ (n + 1) = 4 * 4 ^ n := by rw [Nat.pow_succ]; omega
  have one : 1 ≤ 4 ^ n := Nat.pow_pos (by decide)
  have hc : c ∈ sgns := by revert h; simp [sgns]; rintro (rfl | rfl | rfl | rfl | rfl) <;> simp
  have := ha.len; have := hb.len
  exact ⟨wt_op h (Glue.after hc) ha.wt hb.wt, by simp; omega⟩
theorem lo_ite {n : Nat} {a b c : Tr} {x y z : List Nat} (ha : Lo n 0 a x) (hb : Lo n 0 b y) (hc : Lo n 0 c z) : Wt (2 * n + 1) 0 (.ite a b c) ([105, 102, 32] ++ x ++ [32, 116, 104, 101, 110, 32] ++ y ++ [32, 101, 108, 115, 101, 32] ++ z) ∧ ([105, 102, 32] ++ x ++ [32, 116, 104, 101, 110, 32] ++ y ++ [32, 101, 108, 115, 101, 32] ++ z).length + 3 ≤ 40 * 4 ^ (n + 1) := by
  have pw : 4 ^ (n + 1) = 4 * 4 ^ n := by rw [Nat.pow_succ]; omega
  have one : 1 ≤ 4 ^ n := Nat.pow_pos (by decide)
  have := ha.len; have := hb.len; have := hc.len
  exact ⟨wt_ite ha.wt hb.wt hc.wt, by simp; omega⟩
theorem lo_set {n : Nat} {e : Tr} {w x : List Nat} (hw : isName w = true) (he : Lo n 0 e x) : Wt (2 * n + 1) 0 (.set w e) ([115, 101, 116, 32] ++ w ++ [61] ++ x) ∧ ([115, 101, 116, 32] ++ w ++ [61] ++ x).length + 3 ≤ 40 * 4 ^ (n + 1) := by
  have pw : 4 ^ (n + 1) = 4 * 4 ^ n := by rw [Nat.pow_succ]; omega
  have one : 1 ≤ 4 ^ n := Nat.pow_pos (by decide)
  have := he.len
  have : w.length ≤ 6 := (name_ok hw).2.1
  exact ⟨wt_set hw (Glue.sgn (by decide)) he.wt, by simp; omega⟩
theorem lo_thn {n : Nat} {a b : Tr} {x y : List Nat} (ha : Lo n 0 a x) (hb : Lo n 0 b y) : Wt (2 * n + 1) 4 (.thn a b) ([40] ++ x ++ [59] ++ y ++ [41]) ∧ ([40] ++ x ++ [59] ++ y ++ [41]).length + 3 ≤ 40 * 4 ^ (n + 1) := by
  have pw : 4 ^ (n + 1) = 4 * 4 ^ n := by rw [Nat.pow_succ]; omega
  have one : 1 ≤ 4 ^ n := Nat.pow_pos (by decide)
  have := ha.len; have := hb.len
  refine ⟨?_, by simp; omega⟩
  have := wt_seq (x := [59]) (b := []) (ps := [(a, x), (b, y)]) (Glue.sgn (by decide)) (.inl rfl) (by simp) (by
    intro p hp
    simp only [List.mem_cons, List.not_mem_nil, or_false] at hp
    rcases hp with rfl | rfl
    · exact ha.wt
    · exact hb.wt)
  simpa [joinW, seqT] using this
theorem lo_call {n : Nat} {w : List Nat} {ps : List (Tr × List Nat)} (hw : isName w = true) (hn : ps.length ≤ 3) (hp : ∀ p ∈ ps, Lo n 0 p.1 p.2) :
    Wt (2 * n + 1) 4 (.call w (ps.map (·.1))) (w ++ [32, 40, 32] ++ joinW [44] (ps.map (·.2)) ++ [41]) ∧ (w ++ [32, 40, 32] ++ joinW [44] (ps.map Prod.snd) ++ [41]).length + 3 ≤ 40 * 4 ^ (n + 1) := by
  have pw : 4 ^ (n + 1) = 4 * 4 ^ n := by rw [Nat.pow_succ]; omega
  have one : 1 ≤ 4 ^ n := Nat.pow_pos (by decide)
  have : w.length ≤ 6 := (name_ok hw).2.1
  refine ⟨wt_call hw (Glue.sgn (by decide)) (Glue.both (by decide)) fun p hp' => (hp p hp').wt, ?_⟩
  have hj := joinW_len [44] (B := 40 * 4 ^ n) (zs := ps.map (·.2)) fun z hz => by
    obtain ⟨p, m, rfl⟩ := List.mem_map.mp hz
    exact (hp p m).len
  rw [List.length_map] at hj
  have : ps.length * (40 * 4 ^ n + 1) ≤ 3 * (40 * 4 ^ n + 1) := Nat.mul_le_mul_right _ hn
  have hj2 : (joinW [44] (ps.map Prod.snd)).length ≤ ps.length * (40 * 4 ^ n + 1) := hj
  simp only [List.length_append, List.length_cons, List.length_nil]
  omega
/-- a text leads to its tree -/
theorem Wt.parse {n m : Nat} {t : Tr} {z : List Nat} (h : Wt m 0 t z) (hn : m ≤ 10) (hT : TO n t) (h12 : n ≤ 12) : ∃ s, spl z = some s ∧ Tx m 0 t s ∧ pars s = some (some t) ∧ (∀ u ∈ s, u.ok) := by
  obtain ⟨s, l, x⟩ := h
  have := hT.ht
  have := hT.wd
  exact ⟨s, l.spl, x, pars_tree x (by omega) (by omega) (by omega), x.tok hT.okT⟩
end Xp

/-! k02, the plain law: fixed texts -/
namespace Xp
open PySem PySem.NumText Lg Tok
def okTB : Tk → Bool
  | .w l => !l.isEmpty && (decide (l.length ≤ 6) && l.all fun c => decide (c ∈ letters))
  | .n k => decide (k < 100000)
  | .s l => decide (l.length ≤ 20) && (!decide (34 ∈ l) && l.all fun c => decide (c < 1114112))
  | .g c => decide (c ∈ sgns)
theorem okTB_ok {t : Tk} (h : okTB t = true) : t.ok := by
  cases t with
  | w l =>
    simp only [okTB, Bool.and_eq_true, decide_eq_true_eq, Bool.not_eq_true', List.all_eq_true] at h
    exact ⟨fun z => by rw [z] at h; exact absurd h.1 (by decide), h.2.1, h.2.2⟩
  | n k => have h2 : k < 100000 := of_decide_eq_true h; exact h2
  | s l =>
    simp only [okTB, Bool.and_eq_true, decide_eq_true_eq, Bool.not_eq_true', decide_eq_false_iff_not, List.all_eq_true] at h
    exact ⟨h.1, h.2.1, h.2.2⟩
  | g c => have h2 : c ∈ sgns := of_decide_eq_true h; exact h2
/-- split, and then: no tree, or a tree of this height -/
def fixB (x : List Nat) (p : Option Nat) : Bool := match spl x with
  | none => false
  | some ts => ts.all okTB && decide ((pars ts).map (Option.map Tr.ht) = some p)
structure Fix (x : List Nat) (ts : List Tk) : Prop where
  spl : spl x = some ts
  ok : ∀ u ∈ ts, u.ok
theorem fix_no {x : List Nat} (h : fixB x none = true) : ∃ ts, Fix x ts ∧ pars ts = some none := by
  unfold fixB at h
  split at h
  · cases h
  · rename_i ts e
    rw [Bool.and_eq_true, decide_eq_true_eq, List.all_eq_true] at h
    refine ⟨ts, ⟨e, fun u hu => okTB_ok (h.1 u hu)⟩, ?_⟩
    have h2 := h.2
    cases hp : pars ts with
    | none => rw [hp] at h2; cases h2
    | some o =>
      cases o with
      | none => first | rfl | exact hp
      | some t => rw [hp] at h2; cases h2
theorem fix_ht {x : List Nat} {n : Nat} (h : fixB x (some n) = true) : ∃ ts t, Fix x ts ∧ pars ts = some (some t) ∧ t.ht = n := by
  unfold fixB at h
  split at h
  · cases h
  · rename_i ts e
    rw [Bool.and_eq_true, decide_eq_true_eq, List.all_eq_true] at h
    have h2 := h.2
    cases hp : pars ts with
    | none => rw [hp] at h2; cases h2
    | some o =>
      cases o with
      | none => rw [hp] at h2; cases h2
      | some t =>
        rw [hp] at h2
        refine ⟨ts, t, ⟨e, fun u hu => okTB_ok (h.1 u hu)⟩, hp, ?_⟩
        simpa using h2
def badT : List (List Nat) := [[115, 101, 116, 32, 108, 101, 116, 32, 61, 32, 49], [40, 97, 59, 41], [40, 59, 97, 41], [102, 40, 59, 41], [102, 40, 97, 59, 98], [105, 102, 32, 97, 32, 116, 104, 101, 110, 32, 98], [115, 101, 116, 32, 97], [97, 32, 98],
  [108, 101, 116, 40, 49, 41], [115, 101, 116, 32, 49, 32, 61, 32, 97], [102, 40, 49, 44, 44, 50, 41], [115, 101, 116, 32, 102, 40, 49, 41, 32, 61, 32, 50], [97, 32, 61, 32, 98, 32, 61, 32, 99], [108, 101, 116], [102, 40, 97, 44, 41], [40, 41]]
theorem badT_no : ∀ x ∈ badT, fixB x none = true ∧ x.length ≤ 100 := by decide +kernel
def deepX : List Nat := repL [40] 10 ++ [97] ++ repL [41] 10
theorem deepX_is : fixB deepX (some 1) = true := by decide +kernel
theorem deeper_no : fixB ([40] ++ deepX ++ [41]) none = true := by decide +kernel
theorem calls_is : fixB (repL [102, 40] 10 ++ repL [41] 10) (some 10) = true := by decide +kernel
theorem calls_no : fixB (repL [102, 40] 11 ++ repL [41] 11) none = true := by decide +kernel
def rowX : List Nat := [49] ++ repL [32, 43, 32, 49] 11
theorem rowX_is : fixB rowX (some 12) = true := by decide +kernel
theorem rowX_no : fixB (rowX ++ [32, 43, 32, 49]) none = true := by decide +kernel
theorem pars_nil : pars [] = some none := by rfl
def hiT : Nat → Tr
  | 0 => .nam [97]
  | n + 1 => .op 43 (.num 1) (hiT n)
theorem hiT_ht : ∀ n, (hiT n).ht = n + 1
  | 0 => rfl
  | n + 1 => by rw [hiT, Tr.ht, hiT_ht n]; simp [Tr.ht]; omega
theorem hiT_wd : ∀ n, (hiT n).wd = 0
  | 0 => rfl
  | n + 1 => by rw [hiT, Tr.wd, hiT_wd n]; simp [Tr.wd]
theorem deep_tree : ∃ ts, Fix deepX ts ∧ pars ts = some (some (.nam [97])) := by
  have ht : deepX = [40, 40, 40, 40, 40, 40, 40, 40, 40, 40, 97, 41, 41, 41, 41, 41, 41, 41, 41, 41, 41] := by decide
  have w0 : Wt 0 4 (.nam [97]) [97] := wt_nam (by decide)
  have up : ∀ (n : Nat) (z : List Nat), Wt n 4 (.nam [97]) z → Wt (n + 1) 4 (.nam [97]) (40 :: [] ++ z ++ [41]) := fun n z h => wt_par (b := []) (.inl rfl) (h.ups (by omega))
  have w10 := up _ _ (up _ _ (up _ _ (up _ _ (up _ _ (up _ _ (up _ _ (up _ _ (up _ _ (up _ _ w0)))))))))
  obtain ⟨s, h1, h2, h3, h4⟩ := (w10.ups (Nat.zero_le 4)).parse (n := 1) (by decide) (.nam (by decide)) (by decide)
  exact ⟨s, ⟨by rw [ht]; exact h1, h4⟩, h3⟩
theorem asc_nil : Asc [] := fun c h => by cases h
theorem asc_cons {c : Nat} {l : List Nat} (h : c < 1114112) (hl : Asc l) : Asc (c :: l) := fun x hx => by
  rcases List.mem_cons.mp hx with rfl | hx
  · exact h
  · exact hl x hx
theorem asc_app {l m : List Nat} (hl : Asc l) (hm : Asc m) : Asc (l ++ m) := fun x hx => (List.mem_append.mp hx).elim (hl x) (hm x)
theorem asc_par {b : Bool} {l : List Nat} (hl : Asc l) : Asc (par b l) := by
  unfold par
  split
  · exact asc_app (asc_cons (by decide) hl) (asc_of (by decide))
  · exact hl
theorem asc_join {x : List Nat} (hx : Asc x) : ∀ {zs : List (List Nat)}, (∀ z ∈ zs, Asc z) → Asc (joinW x zs)
  | [], _ => asc_nil
  | [z], h => h z (.head _)
  | z :: y :: r, h => asc_app (asc_app (h z (.head _)) hx) (asc_join hx fun w hw => h w (.tail _ hw))
theorem asc_dg (n : Nat) : Asc (dg n) := fun c hc => by
  have := dg_digits n c hc
  omega
theorem TO.asc {n : Nat} {t : Tr} (h : TO n t) : ∀ m, Asc (t.tx m) := by
  induction h with
  | num h => intro m; rw [Tr.tx]; exact asc_dg _
  | str h => intro m; rw [Tr.tx]; exact asc_app (asc_cons (by decide) h.2.2) (asc_of (by decide))
  | nam h => intro m; rw [Tr.tx]; exact (asc_word h).1
  | @op n c l r h _ _ i1 i2 =>
    intro m
    rw [Tr.tx]
    refine asc_app (asc_app (asc_par (i1 false)) (asc_cons (by decide) (asc_cons ?_ (asc_of (by decide))))) (asc_par (i2 false))
    simp at h
    omega
  | ite _ _ _ i1 i2 i3 => intro m; rw [Tr.tx]; exact asc_app (asc_app (asc_app (asc_app (asc_app (asc_of (by decide)) (i1 false)) (asc_of (by decide))) (i2 false)) (asc_of (by decide))) (i3 false)
  | set h _ i => intro m; rw [Tr.tx]; exact asc_app (asc_app (asc_app (asc_of (by decide)) (asc_word h).1) (asc_of (by decide))) (i false)
  | thn _ _ i1 i2 => intro m; rw [Tr.tx]; exact asc_par (asc_app (asc_app (i1 false) (asc_of (by decide))) (i2 true))
  | call h hn _ i =>
    intro m
    rw [Tr.tx, txs_eq]
    refine asc_app (asc_app (asc_app (asc_word h).1 (asc_of (by decide))) (asc_join (asc_of (by decide)) fun z hz => ?_)) (asc_of (by decide))
    obtain ⟨t, ht, rfl⟩ := List.mem_map.mp hz
    exact i t ht false
end Xp

/-! ### the text by places, names by slots, readings, derivations (printed by tools/gen2.py) -/
namespace K02
open PySem PySem.Spec PyProof.Rows L2 Lg
structure G (w : World) (K : PySem.W.Frag) (mg : Str → Option Value) : Prop where
  b_len : mg "len" = none
  c_NAME_MOST : ∃ u, mg "NAME_MOST" = some u ∧ RelV (.int 6) u
  b_all : mg "all" = none
  c_LETTERS : ∃ u, mg "LETTERS" = some u ∧ RelV (.str "abcdefghijklmnopqrstuvwxyz") u
  c_RESERVED : ∃ u, mg "RESERVED" = some u ∧ RelV (.ref (He.ga K "RESERVED")) u
  c_STRING : ∃ u, mg "STRING" = some u ∧ RelV (.str "string") u
  c_QUOTE : ∃ u, mg "QUOTE" = some u ∧ RelV (.str "\"") u
  c_STRING_MOST : ∃ u, mg "STRING_MOST" = some u ∧ RelV (.int 20) u
  c_DIGITS : ∃ u, mg "DIGITS" = some u ∧ RelV (.str "0123456789") u
  b_int : mg "int" = none
  c_NUMBER : ∃ u, mg "NUMBER" = some u ∧ RelV (.str "number") u
  b_str : mg "str" = none
  c_NUMBER_MOST : ∃ u, mg "NUMBER_MOST" = some u ∧ RelV (.int 99999) u
  c_WORD : ∃ u, mg "WORD" = some u ∧ RelV (.str "word") u
  c_SIGNS : ∃ u, mg "SIGNS" = some u ∧ RelV (.str "(),;+-*<=") u
  c_SIGN : ∃ u, mg "SIGN" = some u ∧ RelV (.str "sign") u
  b_list : mg "list" = none
  c_NAME : ∃ u, mg "NAME" = some u ∧ RelV (.str "name") u
  c_SET : ∃ u, mg "SET" = some u ∧ RelV (.str "set") u
  c_CALL : ∃ u, mg "CALL" = some u ∧ RelV (.str "call") u
  b_max : mg "max" = none
  c_HEIGHT_MOST : ∃ u, mg "HEIGHT_MOST" = some u ∧ RelV (.int 12) u
  k_Reader : mg "Reader" = some (.ref (He.ga K "Reader"))
  c_THEN : ∃ u, mg "THEN" = some u ∧ RelV (.str "then") u
  c_IF : ∃ u, mg "IF" = some u ∧ RelV (.str "if") u
  kd_STRENGTHS : ∃ es n, KDict K w (He.ga K "STRENGTHS") es n
  c_STRENGTHS : ∃ u, mg "STRENGTHS" = some u ∧ RelV (.ref (He.ga K "STRENGTHS")) u
  c_COMPARED : ∃ u, mg "COMPARED" = some u ∧ RelV (.int 1) u
  c_SUM : ∃ u, mg "SUM" = some u ∧ RelV (.int 2) u
  c_ATOM : ∃ u, mg "ATOM" = some u ∧ RelV (.int 4) u
  b_range : mg "range" = none
  b_tuple : mg "tuple" = none
  b_repr : mg "repr" = none
  c_NESTED_MOST : ∃ u, mg "NESTED_MOST" = some u ∧ RelV (.int 10) u
  cls_Reader : Cls K (He.ga K "Reader")
  mkr_Reader : Mk K (He.ga K "Reader") (He.ma K (He.ga K "Reader") "__init__")
  me_Reader_at_end : Meth K (He.ga K "Reader") "at_end" (He.ma K (He.ga K "Reader") "at_end")
  me_Reader_is : Meth K (He.ga K "Reader") "_is" (He.ma K (He.ga K "Reader") "_is")
  me_Reader_skips : Meth K (He.ga K "Reader") "_skips" (He.ma K (He.ga K "Reader") "_skips")
  me_Reader_name : Meth K (He.ga K "Reader") "_name" (He.ma K (He.ga K "Reader") "_name")
  me_Reader_whole : Meth K (He.ga K "Reader") "whole" (He.ma K (He.ga K "Reader") "whole")
  me_Reader_choice : Meth K (He.ga K "Reader") "_choice" (He.ma K (He.ga K "Reader") "_choice")
  me_Reader_sign : Meth K (He.ga K "Reader") "_sign" (He.ma K (He.ga K "Reader") "_sign")
  me_Reader_compared : Meth K (He.ga K "Reader") "_compared" (He.ma K (He.ga K "Reader") "_compared")
  me_Reader_sum : Meth K (He.ga K "Reader") "_sum" (He.ma K (He.ga K "Reader") "_sum")
  me_Reader_product : Meth K (He.ga K "Reader") "_product" (He.ma K (He.ga K "Reader") "_product")
  me_Reader_atom : Meth K (He.ga K "Reader") "_atom" (He.ma K (He.ga K "Reader") "_atom")
  me_Reader_parts : Meth K (He.ga K "Reader") "_parts" (He.ma K (He.ga K "Reader") "_parts")
  me_Reader_call : Meth K (He.ga K "Reader") "_call" (He.ma K (He.ga K "Reader") "_call")
  me_Reader_sequence : Meth K (He.ga K "Reader") "_sequence" (He.ma K (He.ga K "Reader") "_sequence")
  dummy : True
/-- what is written of the classes -/
structure CF (K : PySem.W.Frag) : Prop where
  t_RESERVED : He.tupB K "RESERVED" (tab_RESERVED.map He.Dv.str) = true
  kd_STRENGTHS : kdB K (He.ga K "STRENGTHS") kvs_STRENGTHS nok_STRENGTHS = true
  cls_Reader : Cls K (He.ga K "Reader")
  na_Reader_nested : NoAttr K (He.ga K "Reader") "_nested"
  na_Reader_at : NoAttr K (He.ga K "Reader") "_at"
  na_Reader_tokens : NoAttr K (He.ga K "Reader") "_tokens"
  dummy : True
section
variable {P : Program} {w : World} {K : PySem.W.Frag} {mg : Str → Option Value} {base : Heap}
abbrev N_is_name : List Str := ["text", "sign"]
theorem sc_is_name : FnScope N_is_name ["text"] (defScope s_is_name) := ⟨rfl, rfl, rfl, by decide +kernel, rfl, by decide +kernel, by decide +kernel⟩
def t_is_name (K : PySem.W.Frag) : TS :=
    (tRet (tAndV (tChain rLe rLe (tC (.int 1)) (tCB (rLenX K) (tCons (tVar 0) tNil)) (tC (.int 6))) (tAndV (tCB (rAllX K) (tCons (tLc (iAny K (tVar 0)) (gName 1) tYes (tOp (rInX K false) (tVar 1) (tC (.str "abcdefghijklmnopqrstuvwxyz"))) [1]) tNil)) (tOp (rInX K true) (tVar 0) (tC (.ref (He.ga K "RESERVED")))))))
theorem d_is_name (g : G w K mg) {f : Addr} {cdv : Value} {A : Around} {outer : List Env} {s : Shared} {H : Hp} {E : XK} (hr : Room 0 (A.deeper (envOfC "is_name" (defScope s_is_name) s.heap.objs.size f cdv))) :
    PSs (cxOf CX0 P w K mg base N_is_name "is_name" (defScope s_is_name) f cdv A outer s H E).nox (defBody s_is_name) (t_is_name K) := by
  unfold t_is_name
  exact
    (pss_one (ps_ret (pe_and (pe_chain o_le o_le pe_int (pe_callB c_len (by rfl) g.b_len (by decide +kernel) (pa_cons (pv 0) pa_nil)) (C8.pe_gc rfl g.c_NAME_MOST)) (pe_and (pe_callB (c_all rfl) (by rfl) g.b_all (by decide +kernel) (pa_cons (pe_lc (own := [("sign", 1)]) (tt := tYes) rfl sc_is_name.nd (pi_any (pv 0)) (blkOk_by (N := N_is_name) (sc := defScope s_is_name) (by decide +kernel)) (fun _ _ _ _ _ => (pg_name (i := 1) sc_is_name.nd rfl (by first | exact Or.inl rfl | exact Or.inr rfl))) (fun _ _ _ _ _ => pts_nil) (fun _ _ _ _ _ => (pe_cmpR o_in (pv 1) (C8.pe_gc rfl g.c_LETTERS) (by rfl)))) pa_nil)) (pe_one (pe_cmpR o_notin (pv 0) (C8.pe_gc rfl g.c_RESERVED) (by rfl)))))))
theorem ok_is_name (g : G w K mg) {sp : Sp} (F : ∃ fd, FunD K "is_name" "is_name" (defArgs s_is_name) (defBody s_is_name) (defScope s_is_name) [] [] (He.ga K "is_name") fd) (m : mg "is_name" = some (.ref (He.ga K "is_name")))
    (hsp : ∀ vs H Q E, sp vs H Q E → vs.length = 1 ∧ t_is_name K { nx := fun _ H' => Q .non H', rt := Q } (start N_is_name vs) H) : C8.Cal P w K mg base 1 "is_name" sp [] := by
  obtain ⟨fd, F⟩ := F
  exact ⟨_, fd, ["text"], [], FunD.ok F sc_is_name (fun vs H Q E h => (hsp vs H Q E h).1) (fun cdv A outer s H vs Q E hr h => ⟨_, PSs.nox (d_is_name g hr), (hsp vs H Q E h).2⟩), m, F.kp, (F.bindsN fun _ _ _ _ _ _ us hl => match us, hl with | [_], _ => rfl), .nil⟩
abbrev N_run_of : List Str := ["line", "at", "signs", "end"]
theorem sc_run_of : FnScope N_run_of ["line", "at", "signs"] (defScope s_run_of) := ⟨rfl, rfl, rfl, by decide +kernel, rfl, by decide +kernel, by decide +kernel⟩
def t_run_of (K : PySem.W.Frag) : TS :=
    (tSeq (tAsg (tVar 1) (gName 3))
    (tSeq (tWhile (tAnd (tTest (tOp rLt (tVar 3) (tCB (rLenX K) (tCons (tVar 0) tNil)))) (tTest (tOp (rInX K false) (tOp (rIx K) (tVar 0) (tVar 3)) (tVar 2)))) (tAsg (tOp (rPlus K) (tVar 3) (tC (.int 1))) (gName 3)))
    (tRet (tSl (rSlX K) (tVar 0) (tPart (tVar 1)) (tPart (tVar 3))))))
theorem d_run_of (g : G w K mg) {f : Addr} {cdv : Value} {A : Around} {outer : List Env} {s : Shared} {H : Hp} {E : XK} (hr : Room 0 (A.deeper (envOfC "_run_of" (defScope s_run_of) s.heap.objs.size f cdv))) :
    PSs (cxOf CX0 P w K mg base N_run_of "_run_of" (defScope s_run_of) f cdv A outer s H E).nox (defBody s_run_of) (t_run_of K) := by
  unfold t_run_of
  exact
    (pss_cons (ps_set (i := 3) sc_run_of.nd rfl (by first | exact Or.inl rfl | exact Or.inr rfl) (pv 1))
    (pss_cons (ps_while PassesOwn.never (PW.pt (pw_and (pt_cmpR o_lt (pv 3) (pe_callB c_len (by rfl) g.b_len (by decide +kernel) (pa_cons (pv 0) pa_nil)) (nomark _)) (pw_and1 (pt_cmpR o_in (pe_ix ix_seq (pv 0) (pv 3) (fun _ _ => rfl)) (pv 2) (by rfl))))) (pss_one (ps_set (i := 3) sc_run_of.nd rfl (by first | exact Or.inl rfl | exact Or.inr rfl) (pe_op o_plus (pv 3) pe_int))))
    (pss_one (ps_ret (pe_slice sl_any (pv 0) (po_some (pv 1)) (po_some (pv 3)))))))
theorem ok_run_of (g : G w K mg) {sp : Sp} (F : ∃ fd, FunD K "_run_of" "_run_of" (defArgs s_run_of) (defBody s_run_of) (defScope s_run_of) [] [] (He.ga K "_run_of") fd) (m : mg "_run_of" = some (.ref (He.ga K "_run_of")))
    (hsp : ∀ vs H Q E, sp vs H Q E → vs.length = 3 ∧ t_run_of K { nx := fun _ H' => Q .non H', rt := Q } (start N_run_of vs) H) : C8.Cal P w K mg base 1 "_run_of" sp [] := by
  obtain ⟨fd, F⟩ := F
  exact ⟨_, fd, ["line", "at", "signs"], [], FunD.ok F sc_run_of (fun vs H Q E h => (hsp vs H Q E h).1) (fun cdv A outer s H vs Q E hr h => ⟨_, PSs.nox (d_run_of g hr), (hsp vs H Q E h).2⟩), m, F.kp, (F.bindsN fun _ _ _ _ _ _ us hl => match us, hl with | [_, _, _], _ => rfl), .nil⟩
abbrev N_token : List Str := ["line", "at", "sign", "word", "figures", "end"]
theorem sc_token : FnScope N_token ["line", "at"] (defScope s_token) := ⟨rfl, rfl, rfl, by decide +kernel, rfl, by decide +kernel, by decide +kernel⟩
def t_token (K : PySem.W.Frag) (sp_run_of : Sp) : TS :=
    (tSeq (tAsg (tOp (rIx K) (tVar 0) (tVar 1)) (gName 2))
    (tSeq (tIfS (tTest (tOp (rInX K false) (tVar 2) (tC (.str "(),;+-*<=")))) (tRet (tTup (tCons (tTup (tCons (tC (.str "sign")) (tCons (tVar 2) tNil))) (tCons (tOp (rPlus K) (tVar 1) (tC (.int 1))) tNil)))) tNext)
    (tSeq (tIfS (tTest (tOp (rInX K false) (tVar 2) (tC (.str "abcdefghijklmnopqrstuvwxyz")))) (tSeq (tAsg (tCall sp_run_of [] C8.E0 (tCons (tVar 0) (tCons (tVar 1) (tCons (tC (.str "abcdefghijklmnopqrstuvwxyz")) tNil)))) (gName 3))
    (tRet (tIf (tTest (tOp rLe (tCB (rLenX K) (tCons (tVar 3) tNil)) (tC (.int 6)))) (tTup (tCons (tTup (tCons (tC (.str "word")) (tCons (tVar 3) tNil))) (tCons (tOp (rPlus K) (tVar 1) (tCB (rLenX K) (tCons (tVar 3) tNil))) tNil))) (tC .non)))) tNext)
    (tSeq (tIfS (tTest (tOp (rInX K false) (tVar 2) (tC (.str "0123456789")))) (tSeq (tAsg (tCall sp_run_of [] C8.E0 (tCons (tVar 0) (tCons (tVar 1) (tCons (tC (.str "0123456789")) tNil)))) (gName 4))
    (tSeq (tIfS (tOr (tTest (tOp rGt (tCB (rLenX K) (tCons (tVar 4) tNil)) (tCB (rLenX K) (tCons (tCB (rStrX) (tCons (tC (.int 99999)) tNil)) tNil)))) (tAnd (tTest (tOp (rEqX K) (tOp (rIx K) (tVar 4) (tC (.int 0))) (tC (.str "0")))) (tTest (tOp rGt (tCB (rLenX K) (tCons (tVar 4) tNil)) (tC (.int 1)))))) (tRet (tC .non)) tNext)
    (tRet (tTup (tCons (tTup (tCons (tC (.str "number")) (tCons (tCB (rIntY) (tCons (tVar 4) tNil)) tNil))) (tCons (tOp (rPlus K) (tVar 1) (tCB (rLenX K) (tCons (tVar 4) tNil))) tNil)))))) tNext)
    (tSeq (tAsg (tBM K "str" rFind3 (tVar 0) (tCons (tC (.str "\"")) (tCons (tOp (rPlus K) (tVar 1) (tC (.int 1))) tNil))) (gName 5))
    (tSeq (tIfS (tOr (tTest (tOp (rNeX K) (tVar 2) (tC (.str "\"")))) (tOr (tTest (tOp rLt (tVar 5) (tC (.int 0)))) (tTest (tOp rGt (tOp rMinus (tOp rMinus (tVar 5) (tVar 1)) (tC (.int 1))) (tC (.int 20)))))) (tRet (tC .non)) tNext)
    (tRet (tTup (tCons (tTup (tCons (tC (.str "string")) (tCons (tSl (rSlX K) (tVar 0) (tPart (tOp (rPlus K) (tVar 1) (tC (.int 1)))) (tPart (tVar 5))) tNil))) (tCons (tOp (rPlus K) (tVar 5) (tC (.int 1))) tNil))))))))))
theorem d_token (g : G w K mg) {sp_run_of : Sp} (c_run_of : C8.Cal P w K mg base 1 "_run_of" sp_run_of []) {f : Addr} {cdv : Value} {A : Around} {outer : List Env} {s : Shared} {H : Hp} {E : XK} (hr : Room 1 (A.deeper (envOfC "_token" (defScope s_token) s.heap.objs.size f cdv))) :
    PSs (cxOf CX0 P w K mg base N_token "_token" (defScope s_token) f cdv A outer s H E).nox (defBody s_token) (t_token K sp_run_of) := by
  unfold t_token
  exact
    (pss_cons (ps_set (i := 2) sc_token.nd rfl (by first | exact Or.inl rfl | exact Or.inr rfl) (pe_ix ix_seq (pv 0) (pv 1) (fun _ _ => rfl)))
    (pss_cons (ps_if (pt_cmpR o_in (pv 2) (C8.pe_gc rfl g.c_SIGNS) (by rfl)) (pss_one (ps_ret (pe_tup (pa_cons (pe_tup (pa_cons (C8.pe_gc rfl g.c_SIGN) (pa_cons (pv 2) pa_nil))) (pa_cons (pe_op o_plus (pv 1) pe_int) pa_nil))))) pss_nil)
    (pss_cons (ps_if (pt_cmpR o_in (pv 2) (C8.pe_gc rfl g.c_LETTERS) (by rfl)) (pss_cons (ps_set (i := 3) sc_token.nd rfl (by first | exact Or.inl rfl | exact Or.inr rfl) (C8.pe_c c_run_of hr (by decide) rfl (pa_cons (pv 0) (pa_cons (pv 1) (pa_cons (C8.pe_gc rfl g.c_LETTERS) pa_nil)))))
    (pss_one (ps_ret (pe_ifExp (pt_cmpR o_le (pe_callB c_len (by rfl) g.b_len (by decide +kernel) (pa_cons (pv 3) pa_nil)) (C8.pe_gc rfl g.c_NAME_MOST) (nomark _)) (pe_tup (pa_cons (pe_tup (pa_cons (C8.pe_gc rfl g.c_WORD) (pa_cons (pv 3) pa_nil))) (pa_cons (pe_op o_plus (pv 1) (pe_callB c_len (by rfl) g.b_len (by decide +kernel) (pa_cons (pv 3) pa_nil))) pa_nil))) pe_non)))) pss_nil)
    (pss_cons (ps_if (pt_cmpR o_in (pv 2) (C8.pe_gc rfl g.c_DIGITS) (by rfl)) (pss_cons (ps_set (i := 4) sc_token.nd rfl (by first | exact Or.inl rfl | exact Or.inr rfl) (C8.pe_c c_run_of hr (by decide) rfl (pa_cons (pv 0) (pa_cons (pv 1) (pa_cons (C8.pe_gc rfl g.c_DIGITS) pa_nil)))))
    (pss_cons (ps_if (PW.pt (pw_or (pt_cmpR o_gt (pe_callB c_len (by rfl) g.b_len (by decide +kernel) (pa_cons (pv 4) pa_nil)) (pe_callB c_len (by rfl) g.b_len (by decide +kernel) (pa_cons (pe_callTy c_str (by rfl) g.b_str (by decide +kernel) (pa_cons (C8.pe_gc rfl g.c_NUMBER_MOST) pa_nil)) pa_nil)) (nomark _)) (pw_or1 (PW.pt (pw_and (pt_cmpR (o_eq hr.units) (pe_ix ix_seq (pv 4) pe_int (fun _ _ => rfl)) pe_str (nomark _)) (pw_and1 (pt_cmpR o_gt (pe_callB c_len (by rfl) g.b_len (by decide +kernel) (pa_cons (pv 4) pa_nil)) pe_int (nomark _)))))))) (pss_one (ps_ret pe_non)) pss_nil)
    (pss_one (ps_ret (pe_tup (pa_cons (pe_tup (pa_cons (C8.pe_gc rfl g.c_NUMBER) (pa_cons (pe_callTy c_int2 (by rfl) g.b_int (by decide +kernel) (pa_cons (pv 4) pa_nil)) pa_nil))) (pa_cons (pe_op o_plus (pv 1) (pe_callB c_len (by rfl) g.b_len (by decide +kernel) (pa_cons (pv 4) pa_nil))) pa_nil))))))) pss_nil)
    (pss_cons (ps_set (i := 5) sc_token.nd rfl (by first | exact Or.inl rfl | exact Or.inr rfl) (pe_bm PySem.F.plainAttrs_str PySem.F.slot_str_find PySem.F.type_str_find m_find3 (pv 0) (pa_cons (C8.pe_gc rfl g.c_QUOTE) (pa_cons (pe_op o_plus (pv 1) pe_int) pa_nil))))
    (pss_cons (ps_if (PW.pt (pw_or (pt_cmpR (o_ne hr.units) (pv 2) (C8.pe_gc rfl g.c_QUOTE) (nomark _)) (pw_or (pt_cmpR o_lt (pv 5) pe_int (nomark _)) (pw_or1 (pt_cmpR o_gt (pe_op o_minus (pe_op o_minus (pv 5) (pv 1)) pe_int) (C8.pe_gc rfl g.c_STRING_MOST) (nomark _)))))) (pss_one (ps_ret pe_non)) pss_nil)
    (pss_one (ps_ret (pe_tup (pa_cons (pe_tup (pa_cons (C8.pe_gc rfl g.c_STRING) (pa_cons (pe_slice sl_any (pv 0) (po_some (pe_op o_plus (pv 1) pe_int)) (po_some (pv 5))) pa_nil))) (pa_cons (pe_op o_plus (pv 5) pe_int) pa_nil)))))))))))
theorem ok_token (g : G w K mg) {sp_run_of : Sp} (c_run_of : C8.Cal P w K mg base 1 "_run_of" sp_run_of []) {sp : Sp} (F : ∃ fd, FunD K "_token" "_token" (defArgs s_token) (defBody s_token) (defScope s_token) [] [] (He.ga K "_token") fd) (m : mg "_token" = some (.ref (He.ga K "_token")))
    (hsp : ∀ vs H Q E, sp vs H Q E → vs.length = 2 ∧ t_token K sp_run_of { nx := fun _ H' => Q .non H', rt := Q } (start N_token vs) H) : C8.Cal P w K mg base 2 "_token" sp [] := by
  obtain ⟨fd, F⟩ := F
  exact ⟨_, fd, ["line", "at"], [], FunD.ok F sc_token (fun vs H Q E h => (hsp vs H Q E h).1) (fun cdv A outer s H vs Q E hr h => ⟨_, PSs.nox (d_token g c_run_of hr), (hsp vs H Q E h).2⟩), m, F.kp, (F.bindsN fun _ _ _ _ _ _ us hl => match us, hl with | [_, _], _ => rfl), .nil⟩
abbrev N_split : List Str := ["line", "tokens", "at", "found"]
theorem sc_split : FnScope N_split ["line"] (defScope s_split) := ⟨rfl, rfl, rfl, by decide +kernel, rfl, by decide +kernel, by decide +kernel⟩
def t_split (K : PySem.W.Frag) (sp_token : Sp) : TS :=
    (tSeq (tAsg (tLst tNil) (gName 1))
    (tSeq (tAsg (tC (.int 0)) (gName 2))
    (tSeq (tWhile (tTest (tOp rLt (tVar 2) (tCB (rLenX K) (tCons (tVar 0) tNil)))) (tIfS (tTest (tOp (rEqX K) (tOp (rIx K) (tVar 0) (tVar 2)) (tC (.str " ")))) (tAsg (tOp (rPlus K) (tVar 2) (tC (.int 1))) (gName 2)) (tSeq (tAsg (tCall sp_token [] C8.E0 (tCons (tVar 0) (tCons (tVar 2) tNil))) (gName 3))
    (tSeq (tIfS (tTest (tOp rIsNo (tVar 3) (tC .non))) (tRet (tC .non)) tNext)
    (tSeq (tDrop (tBM K "list" rAppend (tVar 1) (tCons (tOp (rIx K) (tVar 3) (tC (.int 0))) tNil)))
    (tAsg (tOp (rIx K) (tVar 3) (tC (.int 1))) (gName 2)))))))
    (tRet (tVar 1)))))
theorem d_split (g : G w K mg) {sp_token : Sp} (c_token : C8.Cal P w K mg base 2 "_token" sp_token []) {f : Addr} {cdv : Value} {A : Around} {outer : List Env} {s : Shared} {H : Hp} {E : XK} (hr : Room 2 (A.deeper (envOfC "split" (defScope s_split) s.heap.objs.size f cdv))) :
    PSs (cxOf CX0 P w K mg base N_split "split" (defScope s_split) f cdv A outer s H E).nox (defBody s_split) (t_split K sp_token) := by
  unfold t_split
  exact
    (pss_cons (ps_set (i := 1) sc_split.nd rfl (by first | exact Or.inl rfl | exact Or.inr rfl) (pe_lst pa_nil))
    (pss_cons (ps_set (i := 2) sc_split.nd rfl (by first | exact Or.inl rfl | exact Or.inr rfl) pe_int)
    (pss_cons (ps_while PassesOwn.never (pt_cmpR o_lt (pv 2) (pe_callB c_len (by rfl) g.b_len (by decide +kernel) (pa_cons (pv 0) pa_nil)) (nomark _)) (pss_one (ps_if (pt_cmpR (o_eq hr.units) (pe_ix ix_seq (pv 0) (pv 2) (fun _ _ => rfl)) pe_str (nomark _)) (pss_one (ps_set (i := 2) sc_split.nd rfl (by first | exact Or.inl rfl | exact Or.inr rfl) (pe_op o_plus (pv 2) pe_int))) (pss_cons (ps_set (i := 3) sc_split.nd rfl (by first | exact Or.inl rfl | exact Or.inr rfl) (C8.pe_c c_token hr (by decide) rfl (pa_cons (pv 0) (pa_cons (pv 2) pa_nil))))
    (pss_cons (ps_if (pt_cmpR o_is (pv 3) pe_non (nomark _)) (pss_one (ps_ret pe_non)) pss_nil)
    (pss_cons (ps_expr (pe_bm PySem.F.plainAttrs_list PySem.F.slot_list_append PySem.F.type_list_append mt_append (pv 1) (pa_cons (pe_ix ix_seq (pv 3) pe_int (fun _ _ => rfl)) pa_nil)))
    (pss_one (ps_set (i := 2) sc_split.nd rfl (by first | exact Or.inl rfl | exact Or.inr rfl) (pe_ix ix_seq (pv 3) pe_int (fun _ _ => rfl))))))))))
    (pss_one (ps_ret (pv 1))))))
theorem ok_split (g : G w K mg) {sp_token : Sp} (c_token : C8.Cal P w K mg base 2 "_token" sp_token []) {sp : Sp} (F : ∃ fd, FunD K "split" "split" (defArgs s_split) (defBody s_split) (defScope s_split) [] [] (He.ga K "split") fd) (m : mg "split" = some (.ref (He.ga K "split")))
    (hsp : ∀ vs H Q E, sp vs H Q E → vs.length = 1 ∧ t_split K sp_token { nx := fun _ H' => Q .non H', rt := Q } (start N_split vs) H) : C8.Cal P w K mg base 3 "split" sp [] := by
  obtain ⟨fd, F⟩ := F
  exact ⟨_, fd, ["line"], [], FunD.ok F sc_split (fun vs H Q E h => (hsp vs H Q E h).1) (fun cdv A outer s H vs Q E hr h => ⟨_, PSs.nox (d_split g c_token hr), (hsp vs H Q E h).2⟩), m, F.kp, (F.bindsN fun _ _ _ _ _ _ us hl => match us, hl with | [_], _ => rfl), .nil⟩
abbrev N_branches : List Str := ["tree", "kind"]
theorem sc_branches : FnScope N_branches ["tree"] (defScope s_branches) := ⟨rfl, rfl, rfl, by decide +kernel, rfl, by decide +kernel, by decide +kernel⟩
def t_branches (K : PySem.W.Frag) : TS :=
    (tSeq (tAsg (tOp (rIx K) (tVar 0) (tC (.int 0))) (gName 1))
    (tSeq (tIfS (tTest (tOp (rEqX K) (tVar 1) (tC (.str "call")))) (tRet (tCB (rListOf K) (tCons (tOp (rIx K) (tVar 0) (tC (.int 2))) tNil))) tNext)
    (tSeq (tIfS (tTest (tOp (rEqX K) (tVar 1) (tC (.str "set")))) (tRet (tLst (tCons (tOp (rIx K) (tVar 0) (tC (.int 2))) tNil))) tNext)
    (tSeq (tIfS (tOr (tTest (tOp (rEqX K) (tVar 1) (tC (.str "number")))) (tOr (tTest (tOp (rEqX K) (tVar 1) (tC (.str "string")))) (tTest (tOp (rEqX K) (tVar 1) (tC (.str "name")))))) (tRet (tLst tNil)) tNext)
    (tRet (tCB (rListOf K) (tCons (tSl (rSlX K) (tVar 0) (tPart (tC (.int 1))) tNoPart) tNil)))))))
theorem d_branches (g : G w K mg) {f : Addr} {cdv : Value} {A : Around} {outer : List Env} {s : Shared} {H : Hp} {E : XK} (hr : Room 0 (A.deeper (envOfC "_branches" (defScope s_branches) s.heap.objs.size f cdv))) :
    PSs (cxOf CX0 P w K mg base N_branches "_branches" (defScope s_branches) f cdv A outer s H E).nox (defBody s_branches) (t_branches K) := by
  unfold t_branches
  exact
    (pss_cons (ps_set (i := 1) sc_branches.nd rfl (by first | exact Or.inl rfl | exact Or.inr rfl) (pe_ix ix_seq (pv 0) pe_int (fun _ _ => rfl)))
    (pss_cons (ps_if (pt_cmpR (o_eq hr.units) (pv 1) (C8.pe_gc rfl g.c_CALL) (nomark _)) (pss_one (ps_ret (pe_callTy c_list (by rfl) g.b_list (by decide +kernel) (pa_cons (pe_ix ix_seq (pv 0) pe_int (fun _ _ => rfl)) pa_nil)))) pss_nil)
    (pss_cons (ps_if (pt_cmpR (o_eq hr.units) (pv 1) (C8.pe_gc rfl g.c_SET) (nomark _)) (pss_one (ps_ret (pe_lst (pa_cons (pe_ix ix_seq (pv 0) pe_int (fun _ _ => rfl)) pa_nil)))) pss_nil)
    (pss_cons (ps_if (PW.pt (pw_or (pt_cmpR (o_eq hr.units) (pv 1) (C8.pe_gc rfl g.c_NUMBER) (nomark _)) (pw_or (pt_cmpR (o_eq hr.units) (pv 1) (C8.pe_gc rfl g.c_STRING) (nomark _)) (pw_or1 (pt_cmpR (o_eq hr.units) (pv 1) (C8.pe_gc rfl g.c_NAME) (nomark _)))))) (pss_one (ps_ret (pe_lst pa_nil))) pss_nil)
    (pss_one (ps_ret (pe_callTy c_list (by rfl) g.b_list (by decide +kernel) (pa_cons (pe_slice sl_any (pv 0) (po_some pe_int) po_none) pa_nil))))))))
theorem ok_branches (g : G w K mg) {sp : Sp} (F : ∃ fd, FunD K "_branches" "_branches" (defArgs s_branches) (defBody s_branches) (defScope s_branches) [] [] (He.ga K "_branches") fd) (m : mg "_branches" = some (.ref (He.ga K "_branches")))
    (hsp : ∀ vs H Q E, sp vs H Q E → vs.length = 1 ∧ t_branches K { nx := fun _ H' => Q .non H', rt := Q } (start N_branches vs) H) : C8.Cal P w K mg base 1 "_branches" sp [] := by
  obtain ⟨fd, F⟩ := F
  exact ⟨_, fd, ["tree"], [], FunD.ok F sc_branches (fun vs H Q E h => (hsp vs H Q E h).1) (fun cdv A outer s H vs Q E hr h => ⟨_, PSs.nox (d_branches g hr), (hsp vs H Q E h).2⟩), m, F.kp, (F.bindsN fun _ _ _ _ _ _ us hl => match us, hl with | [_], _ => rfl), .nil⟩
abbrev N_height : List Str := ["tree", "heights", "part"]
theorem sc_height : FnScope N_height ["tree"] (defScope s_height) := ⟨rfl, rfl, rfl, by decide +kernel, rfl, by decide +kernel, by decide +kernel⟩
def t_height (K : PySem.W.Frag) (sp_branches : Sp) (sp_height : Sp) : TS :=
    (tSeq (tAsg (tLc (iAny K (tCall sp_branches [] C8.E0 (tCons (tVar 0) tNil))) (gName 2) tYes (tCall sp_height [] C8.E0 (tCons (tVar 2) tNil)) [2]) (gName 1))
    (tRet (tIf (tTruX K (tVar 1)) (tOp (rPlus K) (tC (.int 1)) (tCB (rMax K) (tCons (tVar 1) tNil))) (tC (.int 1)))))
theorem d_height (g : G w K mg) {n : Nat} (hn : 1 ≤ n) {sp_branches : Sp} (c_branches : C8.Cal P w K mg base 1 "_branches" sp_branches []) {sp_height : Sp} (c_height : C8.Cal P w K mg base n "height" sp_height []) {f : Addr} {cdv : Value} {A : Around} {outer : List Env} {s : Shared} {H : Hp} {E : XK} (hr : Room n (A.deeper (envOfC "height" (defScope s_height) s.heap.objs.size f cdv))) :
    PSs (cxOf CX0 P w K mg base N_height "height" (defScope s_height) f cdv A outer s H E).nox (defBody s_height) (t_height K sp_branches sp_height) := by
  unfold t_height
  exact
    (pss_cons (ps_setLc (own := [("part", 2)]) (tt := tYes) (i := 1) rfl sc_height.nd rfl rfl (sw_true rfl rfl rfl (by decide +kernel)) (pi_any (C8.pe_c c_branches hr (by omega) rfl (pa_cons (pv 0) pa_nil))) (blkOk_by (N := N_height) (sc := defScope s_height) (by decide +kernel)) (fun _ _ _ _ _ => (pg_name (i := 2) sc_height.nd rfl (by first | exact Or.inl rfl | exact Or.inr rfl))) (fun _ _ _ _ _ => pts_nil) (fun _ _ _ _ _ => (C8.pe_c c_height hr (by omega) rfl (pa_cons (pv 2) pa_nil))))
    (pss_one (ps_ret (pe_ifExp (pt_tru (pv 1)) (pe_op o_plus pe_int (pe_callB (c_maxL rfl) (by rfl) g.b_max (by decide +kernel) (pa_cons (pv 1) pa_nil))) pe_int))))
theorem zz_height (g : G w K mg) (k : Nat) (F : ∃ fd, FunD K "height" "height" (defArgs s_height) (defBody s_height) (defScope s_height) [] [] (He.ga K "height") fd) (m : mg "height" = some (.ref (He.ga K "height"))) : C8.Cal P w K mg base k "height" (fun _ _ _ _ => False) [] := by
  obtain ⟨fd, F⟩ := F
  exact ⟨_, fd, ["tree"], [], ⟨fun _ _ _ _ h => h.elim, fun _ _ _ _ _ _ _ _ _ _ _ _ _ h => h.elim⟩, m, F.kp, (F.bindsN fun _ _ _ _ _ _ us hl => match us, hl with | [_], _ => rfl), .nil⟩
theorem ok_height (g : G w K mg) {n : Nat} (hn : 1 ≤ n) {sp_branches : Sp} (c_branches : C8.Cal P w K mg base 1 "_branches" sp_branches []) {sp_height : Sp} (c_height : C8.Cal P w K mg base n "height" sp_height []) {sp : Sp} (F : ∃ fd, FunD K "height" "height" (defArgs s_height) (defBody s_height) (defScope s_height) [] [] (He.ga K "height") fd) (m : mg "height" = some (.ref (He.ga K "height")))
    (hsp : ∀ vs H Q E, sp vs H Q E → vs.length = 1 ∧ t_height K sp_branches sp_height { nx := fun _ H' => Q .non H', rt := Q } (start N_height vs) H) : C8.Cal P w K mg base (n + 1) "height" sp [] := by
  obtain ⟨fd, F⟩ := F
  exact ⟨_, fd, ["tree"], [], FunD.ok F sc_height (fun vs H Q E h => (hsp vs H Q E h).1) (fun cdv A outer s H vs Q E hr h => ⟨_, PSs.nox (d_height g hn c_branches c_height hr), (hsp vs H Q E h).2⟩), m, F.kp, (F.bindsN fun _ _ _ _ _ _ us hl => match us, hl with | [_], _ => rfl), .nil⟩
abbrev N_parse : List Str := ["tokens", "reader", "tree"]
theorem sc_parse : FnScope N_parse ["tokens"] (defScope s_parse) := ⟨rfl, rfl, rfl, by decide +kernel, rfl, by decide +kernel, by decide +kernel⟩
def t_parse (K : PySem.W.Frag) (sp_Reader_at_end : Sp) (sp_height : Sp) (sp_Reader_whole : Sp) (sp_Reader_init : Sp) : TS :=
    (tSeq (tAsg (tMake (He.ga K "Reader") sp_Reader_init [] C8.E0 (tCons (tVar 0) tNil)) (gName 1))
    (tSeq (tAsg (tMeth (He.ga K "Reader") "whole" sp_Reader_whole [] C8.E0 (tVar 1) tNil) (gName 2))
    (tSeq (tIfS (tOr (tTest (tOp rIsNo (tVar 2) (tC .non))) (tOr (tNot (tTruX K (tMeth (He.ga K "Reader") "at_end" sp_Reader_at_end [] C8.E0 (tVar 1) tNil))) (tTest (tOp rGt (tCall sp_height [] C8.E0 (tCons (tVar 2) tNil)) (tC (.int 12)))))) (tRet (tC .non)) tNext)
    (tRet (tVar 2)))))
theorem d_parse (g : G w K mg) {sp_Reader_at_end : Sp} (c_Reader_at_end : C8.Met P w K mg base 1 (He.ga K "Reader") "at_end" sp_Reader_at_end []) {sp_height : Sp} (c_height : C8.Cal P w K mg base 47 "height" sp_height []) {sp_Reader_whole : Sp} (c_Reader_whole : C8.Met P w K mg base 195 (He.ga K "Reader") "whole" sp_Reader_whole []) {sp_Reader_init : Sp} (c_Reader_init : C8.Mak P w K mg base 1 "Reader" (He.ga K "Reader") sp_Reader_init []) {f : Addr} {cdv : Value} {A : Around} {outer : List Env} {s : Shared} {H : Hp} {E : XK} (hr : Room 195 (A.deeper (envOfC "parse" (defScope s_parse) s.heap.objs.size f cdv))) :
    PSs (cxOf CX0 P w K mg base N_parse "parse" (defScope s_parse) f cdv A outer s H E).nox (defBody s_parse) (t_parse K sp_Reader_at_end sp_height sp_Reader_whole sp_Reader_init) := by
  unfold t_parse
  exact
    (pss_cons (ps_set (i := 1) sc_parse.nd rfl (by first | exact Or.inl rfl | exact Or.inr rfl) (C8.pe_mk c_Reader_init hr (by decide) rfl (pa_cons (pv 0) pa_nil)))
    (pss_cons (ps_set (i := 2) sc_parse.nd rfl (by first | exact Or.inl rfl | exact Or.inr rfl) (C8.pe_mt0 c_Reader_whole hr (by decide) (pv 1)))
    (pss_cons (ps_if (PW.pt (pw_or (pt_cmpR o_is (pv 2) pe_non (nomark _)) (pw_or (pt_not (pt_tru (C8.pe_mt0 c_Reader_at_end hr (by decide) (pv 1)))) (pw_or1 (pt_cmpR o_gt (C8.pe_c c_height hr (by decide) rfl (pa_cons (pv 2) pa_nil)) (C8.pe_gc rfl g.c_HEIGHT_MOST) (nomark _)))))) (pss_one (ps_ret pe_non)) pss_nil)
    (pss_one (ps_ret (pv 2))))))
theorem ok_parse (g : G w K mg) {sp_Reader_at_end : Sp} (c_Reader_at_end : C8.Met P w K mg base 1 (He.ga K "Reader") "at_end" sp_Reader_at_end []) {sp_height : Sp} (c_height : C8.Cal P w K mg base 47 "height" sp_height []) {sp_Reader_whole : Sp} (c_Reader_whole : C8.Met P w K mg base 195 (He.ga K "Reader") "whole" sp_Reader_whole []) {sp_Reader_init : Sp} (c_Reader_init : C8.Mak P w K mg base 1 "Reader" (He.ga K "Reader") sp_Reader_init []) {sp : Sp} (F : ∃ fd, FunD K "parse" "parse" (defArgs s_parse) (defBody s_parse) (defScope s_parse) [] [] (He.ga K "parse") fd) (m : mg "parse" = some (.ref (He.ga K "parse")))
    (hsp : ∀ vs H Q E, sp vs H Q E → vs.length = 1 ∧ t_parse K sp_Reader_at_end sp_height sp_Reader_whole sp_Reader_init { nx := fun _ H' => Q .non H', rt := Q } (start N_parse vs) H) : C8.Cal P w K mg base 196 "parse" sp [] := by
  obtain ⟨fd, F⟩ := F
  exact ⟨_, fd, ["tokens"], [], FunD.ok F sc_parse (fun vs H Q E h => (hsp vs H Q E h).1) (fun cdv A outer s H vs Q E hr h => ⟨_, PSs.nox (d_parse g c_Reader_at_end c_height c_Reader_whole c_Reader_init hr), (hsp vs H Q E h).2⟩), m, F.kp, (F.bindsN fun _ _ _ _ _ _ us hl => match us, hl with | [_], _ => rfl), .nil⟩
abbrev N_sequence_text : List Str := ["tree"]
theorem sc_sequence_text : FnScope N_sequence_text ["tree"] (defScope s_sequence_text) := ⟨rfl, rfl, rfl, by decide +kernel, rfl, by decide +kernel, by decide +kernel⟩
def t_sequence_text (K : PySem.W.Frag) (sp_write : Sp) (sp_sequence_text : Sp) : TS :=
    (tSeq (tIfS (tTest (tOp (rEqX K) (tOp (rIx K) (tVar 0) (tC (.int 0))) (tC (.str "then")))) (tRet (tOp (rPlus K) (tOp (rPlus K) (tCall sp_write [] C8.E0 (tCons (tOp (rIx K) (tVar 0) (tC (.int 1))) tNil)) (tC (.str "; "))) (tCall sp_sequence_text [] C8.E0 (tCons (tOp (rIx K) (tVar 0) (tC (.int 2))) tNil)))) tNext)
    (tRet (tCall sp_write [] C8.E0 (tCons (tVar 0) tNil))))
theorem d_sequence_text (g : G w K mg) {n : Nat} (hn : 0 ≤ n) {sp_write : Sp} (c_write : C8.Cal P w K mg base n "write" sp_write []) {sp_sequence_text : Sp} (c_sequence_text : C8.Cal P w K mg base n "_sequence_text" sp_sequence_text []) {f : Addr} {cdv : Value} {A : Around} {outer : List Env} {s : Shared} {H : Hp} {E : XK} (hr : Room n (A.deeper (envOfC "_sequence_text" (defScope s_sequence_text) s.heap.objs.size f cdv))) :
    PSs (cxOf CX0 P w K mg base N_sequence_text "_sequence_text" (defScope s_sequence_text) f cdv A outer s H E).nox (defBody s_sequence_text) (t_sequence_text K sp_write sp_sequence_text) := by
  unfold t_sequence_text
  exact
    (pss_cons (ps_if (pt_cmpR (o_eq hr.units) (pe_ix ix_seq (pv 0) pe_int (fun _ _ => rfl)) (C8.pe_gc rfl g.c_THEN) (nomark _)) (pss_one (ps_ret (pe_op o_plus (pe_op o_plus (C8.pe_c c_write hr (by omega) rfl (pa_cons (pe_ix ix_seq (pv 0) pe_int (fun _ _ => rfl)) pa_nil)) pe_str) (C8.pe_c c_sequence_text hr (by omega) rfl (pa_cons (pe_ix ix_seq (pv 0) pe_int (fun _ _ => rfl)) pa_nil))))) pss_nil)
    (pss_one (ps_ret (C8.pe_c c_write hr (by omega) rfl (pa_cons (pv 0) pa_nil)))))
theorem zz_sequence_text (g : G w K mg) (k : Nat) (F : ∃ fd, FunD K "_sequence_text" "_sequence_text" (defArgs s_sequence_text) (defBody s_sequence_text) (defScope s_sequence_text) [] [] (He.ga K "_sequence_text") fd) (m : mg "_sequence_text" = some (.ref (He.ga K "_sequence_text"))) : C8.Cal P w K mg base k "_sequence_text" (fun _ _ _ _ => False) [] := by
  obtain ⟨fd, F⟩ := F
  exact ⟨_, fd, ["tree"], [], ⟨fun _ _ _ _ h => h.elim, fun _ _ _ _ _ _ _ _ _ _ _ _ _ h => h.elim⟩, m, F.kp, (F.bindsN fun _ _ _ _ _ _ us hl => match us, hl with | [_], _ => rfl), .nil⟩
theorem ok_sequence_text (g : G w K mg) {n : Nat} (hn : 0 ≤ n) {sp_write : Sp} (c_write : C8.Cal P w K mg base n "write" sp_write []) {sp_sequence_text : Sp} (c_sequence_text : C8.Cal P w K mg base n "_sequence_text" sp_sequence_text []) {sp : Sp} (F : ∃ fd, FunD K "_sequence_text" "_sequence_text" (defArgs s_sequence_text) (defBody s_sequence_text) (defScope s_sequence_text) [] [] (He.ga K "_sequence_text") fd) (m : mg "_sequence_text" = some (.ref (He.ga K "_sequence_text")))
    (hsp : ∀ vs H Q E, sp vs H Q E → vs.length = 1 ∧ t_sequence_text K sp_write sp_sequence_text { nx := fun _ H' => Q .non H', rt := Q } (start N_sequence_text vs) H) : C8.Cal P w K mg base (n + 1) "_sequence_text" sp [] := by
  obtain ⟨fd, F⟩ := F
  exact ⟨_, fd, ["tree"], [], FunD.ok F sc_sequence_text (fun vs H Q E h => (hsp vs H Q E h).1) (fun cdv A outer s H vs Q E hr h => ⟨_, PSs.nox (d_sequence_text g hn c_write c_sequence_text hr), (hsp vs H Q E h).2⟩), m, F.kp, (F.bindsN fun _ _ _ _ _ _ us hl => match us, hl with | [_], _ => rfl), .nil⟩
abbrev N_atom_text : List Str := ["tree", "kind", "part"]
theorem sc_atom_text : FnScope N_atom_text ["tree"] (defScope s_atom_text) := ⟨rfl, rfl, rfl, by decide +kernel, rfl, by decide +kernel, by decide +kernel⟩
def t_atom_text (K : PySem.W.Frag) (sp_write : Sp) (sp_sequence_text : Sp) : TS :=
    (tSeq (tAsg (tOp (rIx K) (tVar 0) (tC (.int 0))) (gName 1))
    (tSeq (tIfS (tTest (tOp (rEqX K) (tVar 1) (tC (.str "then")))) (tRet (tOp (rPlus K) (tOp (rPlus K) (tC (.str "(")) (tCall sp_sequence_text [] C8.E0 (tCons (tVar 0) tNil))) (tC (.str ")")))) tNext)
    (tSeq (tIfS (tTest (tOp (rEqX K) (tVar 1) (tC (.str "call")))) (tRet (tOp (rPlus K) (tOp (rPlus K) (tOp (rPlus K) (tOp (rIx K) (tVar 0) (tC (.int 1))) (tC (.str "("))) (tBM K "str" (rJoin K) (tC (.str ", ")) (tCons (tLc (iAny K (tOp (rIx K) (tVar 0) (tC (.int 2)))) (gName 2) tYes (tCall sp_write [] C8.E0 (tCons (tVar 2) tNil)) [2]) tNil))) (tC (.str ")")))) tNext)
    (tRet (tIf (tTest (tOp (rEqX K) (tVar 1) (tC (.str "string")))) (tOp (rPlus K) (tOp (rPlus K) (tC (.str "\"")) (tOp (rIx K) (tVar 0) (tC (.int 1)))) (tC (.str "\""))) (tCB (rStrX) (tCons (tOp (rIx K) (tVar 0) (tC (.int 1))) tNil)))))))
theorem d_atom_text (g : G w K mg) {n : Nat} (hn : 0 ≤ n) {sp_write : Sp} (c_write : C8.Cal P w K mg base n "write" sp_write []) {sp_sequence_text : Sp} (c_sequence_text : C8.Cal P w K mg base n "_sequence_text" sp_sequence_text []) {f : Addr} {cdv : Value} {A : Around} {outer : List Env} {s : Shared} {H : Hp} {E : XK} (hr : Room n (A.deeper (envOfC "_atom_text" (defScope s_atom_text) s.heap.objs.size f cdv))) :
    PSs (cxOf CX0 P w K mg base N_atom_text "_atom_text" (defScope s_atom_text) f cdv A outer s H E).nox (defBody s_atom_text) (t_atom_text K sp_write sp_sequence_text) := by
  unfold t_atom_text
  exact
    (pss_cons (ps_set (i := 1) sc_atom_text.nd rfl (by first | exact Or.inl rfl | exact Or.inr rfl) (pe_ix ix_seq (pv 0) pe_int (fun _ _ => rfl)))
    (pss_cons (ps_if (pt_cmpR (o_eq hr.units) (pv 1) (C8.pe_gc rfl g.c_THEN) (nomark _)) (pss_one (ps_ret (pe_op o_plus (pe_op o_plus pe_str (C8.pe_c c_sequence_text hr (by omega) rfl (pa_cons (pv 0) pa_nil))) pe_str))) pss_nil)
    (pss_cons (ps_if (pt_cmpR (o_eq hr.units) (pv 1) (C8.pe_gc rfl g.c_CALL) (nomark _)) (pss_one (ps_ret (pe_op o_plus (pe_op o_plus (pe_op o_plus (pe_ix ix_seq (pv 0) pe_int (fun _ _ => rfl)) pe_str) (pe_bm PySem.F.plainAttrs_str PySem.F.slot_str_join PySem.F.type_str_join m_join pe_str (pa_cons (pe_lc (own := [("part", 2)]) (tt := tYes) rfl sc_atom_text.nd (pi_any (pe_ix ix_seq (pv 0) pe_int (fun _ _ => rfl))) (blkOk_by (N := N_atom_text) (sc := defScope s_atom_text) (by decide +kernel)) (fun _ _ _ _ _ => (pg_name (i := 2) sc_atom_text.nd rfl (by first | exact Or.inl rfl | exact Or.inr rfl))) (fun _ _ _ _ _ => pts_nil) (fun _ _ _ _ _ => (C8.pe_c c_write hr (by omega) rfl (pa_cons (pv 2) pa_nil)))) pa_nil))) pe_str))) pss_nil)
    (pss_one (ps_ret (pe_ifExp (pt_cmpR (o_eq hr.units) (pv 1) (C8.pe_gc rfl g.c_STRING) (nomark _)) (pe_op o_plus (pe_op o_plus pe_str (pe_ix ix_seq (pv 0) pe_int (fun _ _ => rfl))) pe_str) (pe_callTy c_str (by rfl) g.b_str (by decide +kernel) (pa_cons (pe_ix ix_seq (pv 0) pe_int (fun _ _ => rfl)) pa_nil))))))))
theorem zz_atom_text (g : G w K mg) (k : Nat) (F : ∃ fd, FunD K "_atom_text" "_atom_text" (defArgs s_atom_text) (defBody s_atom_text) (defScope s_atom_text) [] [] (He.ga K "_atom_text") fd) (m : mg "_atom_text" = some (.ref (He.ga K "_atom_text"))) : C8.Cal P w K mg base k "_atom_text" (fun _ _ _ _ => False) [] := by
  obtain ⟨fd, F⟩ := F
  exact ⟨_, fd, ["tree"], [], ⟨fun _ _ _ _ h => h.elim, fun _ _ _ _ _ _ _ _ _ _ _ _ _ h => h.elim⟩, m, F.kp, (F.bindsN fun _ _ _ _ _ _ us hl => match us, hl with | [_], _ => rfl), .nil⟩
theorem ok_atom_text (g : G w K mg) {n : Nat} (hn : 0 ≤ n) {sp_write : Sp} (c_write : C8.Cal P w K mg base n "write" sp_write []) {sp_sequence_text : Sp} (c_sequence_text : C8.Cal P w K mg base n "_sequence_text" sp_sequence_text []) {sp : Sp} (F : ∃ fd, FunD K "_atom_text" "_atom_text" (defArgs s_atom_text) (defBody s_atom_text) (defScope s_atom_text) [] [] (He.ga K "_atom_text") fd) (m : mg "_atom_text" = some (.ref (He.ga K "_atom_text")))
    (hsp : ∀ vs H Q E, sp vs H Q E → vs.length = 1 ∧ t_atom_text K sp_write sp_sequence_text { nx := fun _ H' => Q .non H', rt := Q } (start N_atom_text vs) H) : C8.Cal P w K mg base (n + 1) "_atom_text" sp [] := by
  obtain ⟨fd, F⟩ := F
  exact ⟨_, fd, ["tree"], [], FunD.ok F sc_atom_text (fun vs H Q E h => (hsp vs H Q E h).1) (fun cdv A outer s H vs Q E hr h => ⟨_, PSs.nox (d_atom_text g hn c_write c_sequence_text hr), (hsp vs H Q E h).2⟩), m, F.kp, (F.bindsN fun _ _ _ _ _ _ us hl => match us, hl with | [_], _ => rfl), .nil⟩
abbrev N_written : List Str := ["tree", "least", "kind", "strength", "text", "left"]
theorem sc_written : FnScope N_written ["tree", "least"] (defScope s_written) := ⟨rfl, rfl, rfl, by decide +kernel, rfl, by decide +kernel, by decide +kernel⟩
def t_written (K : PySem.W.Frag) (sp_write : Sp) (sp_written : Sp) (sp_atom_text : Sp) : TS :=
    (tSeq (tAsg (tOp (rIx K) (tVar 0) (tC (.int 0))) (gName 2))
    (C8.tCut (tIfS (tTest (tOp (rEqX K) (tVar 2) (tC (.str "if")))) (tSeq (tAsg (tC (.int 0)) (gName 3))
    (tAsg (tOp (rPlus K) (tOp (rPlus K) (tOp (rPlus K) (tOp (rPlus K) (tOp (rPlus K) (tC (.str "if ")) (tCall sp_write [] C8.E0 (tCons (tOp (rIx K) (tVar 0) (tC (.int 1))) tNil))) (tC (.str " then "))) (tCall sp_write [] C8.E0 (tCons (tOp (rIx K) (tVar 0) (tC (.int 2))) tNil))) (tC (.str " else "))) (tCall sp_write [] C8.E0 (tCons (tOp (rIx K) (tVar 0) (tC (.int 3))) tNil))) (gName 4))) (tIfS (tTest (tOp (rEqX K) (tVar 2) (tC (.str "set")))) (tSeq (tAsg (tC (.int 0)) (gName 3))
    (tAsg (tOp (rPlus K) (tOp (rPlus K) (tOp (rPlus K) (tC (.str "set ")) (tOp (rIx K) (tVar 0) (tC (.int 1)))) (tC (.str " = "))) (tCall sp_write [] C8.E0 (tCons (tOp (rIx K) (tVar 0) (tC (.int 2))) tNil))) (gName 4))) (tIfS (tTest (tOp (rKdIn K (He.ga K "STRENGTHS")) (tVar 2) (tC (.ref (He.ga K "STRENGTHS"))))) (tSeq (tAsg (tOp (rKdIx K (He.ga K "STRENGTHS")) (tC (.ref (He.ga K "STRENGTHS"))) (tVar 2)) (gName 3))
    (tSeq (tAsg (tIf (tTest (tOp (rEqX K) (tVar 3) (tC (.int 1)))) (tC (.int 2)) (tVar 3)) (gName 5))
    (tAsg (tOp (rPlus K) (tOp (rPlus K) (tOp (rPlus K) (tOp (rPlus K) (tCall sp_written [] C8.E0 (tCons (tOp (rIx K) (tVar 0) (tC (.int 1))) (tCons (tVar 5) tNil))) (tC (.str " "))) (tVar 2)) (tC (.str " "))) (tCall sp_written [] C8.E0 (tCons (tOp (rIx K) (tVar 0) (tC (.int 2))) (tCons (tOp (rPlus K) (tVar 3) (tC (.int 1))) tNil)))) (gName 4)))) (tSeq (tAsg (tC (.int 4)) (gName 3))
    (tAsg (tCall sp_atom_text [] C8.E0 (tCons (tVar 0) tNil)) (gName 4))))))
    (tRet (tIf (tTest (tOp rLt (tVar 3) (tVar 1))) (tOp (rPlus K) (tOp (rPlus K) (tC (.str "(")) (tVar 4)) (tC (.str ")"))) (tVar 4)))))
theorem d_written (g : G w K mg) {n : Nat} (hn : 0 ≤ n) {sp_write : Sp} (c_write : C8.Cal P w K mg base n "write" sp_write []) {sp_written : Sp} (c_written : C8.Cal P w K mg base n "_written" sp_written []) {sp_atom_text : Sp} (c_atom_text : C8.Cal P w K mg base n "_atom_text" sp_atom_text []) {f : Addr} {cdv : Value} {A : Around} {outer : List Env} {s : Shared} {H : Hp} {E : XK} (hr : Room n (A.deeper (envOfC "_written" (defScope s_written) s.heap.objs.size f cdv))) :
    PSs (cxOf CX0 P w K mg base N_written "_written" (defScope s_written) f cdv A outer s H E).nox (defBody s_written) (t_written K sp_write sp_written sp_atom_text) := by
  unfold t_written
  exact
    (pss_cons (ps_set (i := 2) sc_written.nd rfl (by first | exact Or.inl rfl | exact Or.inr rfl) (pe_ix ix_seq (pv 0) pe_int (fun _ _ => rfl)))
    (C8.pss_cut (ps_if (pt_cmpR (o_eq hr.units) (pv 2) (C8.pe_gc rfl g.c_IF) (nomark _)) (pss_cons (ps_set (i := 3) sc_written.nd rfl (by first | exact Or.inl rfl | exact Or.inr rfl) pe_int)
    (pss_one (ps_set (i := 4) sc_written.nd rfl (by first | exact Or.inl rfl | exact Or.inr rfl) (pe_op o_plus (pe_op o_plus (pe_op o_plus (pe_op o_plus (pe_op o_plus pe_str (C8.pe_c c_write hr (by omega) rfl (pa_cons (pe_ix ix_seq (pv 0) pe_int (fun _ _ => rfl)) pa_nil))) pe_str) (C8.pe_c c_write hr (by omega) rfl (pa_cons (pe_ix ix_seq (pv 0) pe_int (fun _ _ => rfl)) pa_nil))) pe_str) (C8.pe_c c_write hr (by omega) rfl (pa_cons (pe_ix ix_seq (pv 0) pe_int (fun _ _ => rfl)) pa_nil)))))) (pss_one (ps_if (pt_cmpR (o_eq hr.units) (pv 2) (C8.pe_gc rfl g.c_SET) (nomark _)) (pss_cons (ps_set (i := 3) sc_written.nd rfl (by first | exact Or.inl rfl | exact Or.inr rfl) pe_int)
    (pss_one (ps_set (i := 4) sc_written.nd rfl (by first | exact Or.inl rfl | exact Or.inr rfl) (pe_op o_plus (pe_op o_plus (pe_op o_plus pe_str (pe_ix ix_seq (pv 0) pe_int (fun _ _ => rfl))) pe_str) (C8.pe_c c_write hr (by omega) rfl (pa_cons (pe_ix ix_seq (pv 0) pe_int (fun _ _ => rfl)) pa_nil)))))) (pss_one (ps_if (pt_cmpR (o_inkd g.kd_STRENGTHS) (pv 2) (C8.pe_gc rfl g.c_STRENGTHS) (by rfl)) (pss_cons (ps_set (i := 3) sc_written.nd rfl (by first | exact Or.inl rfl | exact Or.inr rfl) (pe_ix (ix_kd g.kd_STRENGTHS) (C8.pe_gc rfl g.c_STRENGTHS) (pv 2) (fun _ _ => rfl)))
    (pss_cons (ps_set (i := 5) sc_written.nd rfl (by first | exact Or.inl rfl | exact Or.inr rfl) (pe_ifExp (pt_cmpR (o_eq hr.units) (pv 3) (C8.pe_gc rfl g.c_COMPARED) (nomark _)) (C8.pe_gc rfl g.c_SUM) (pv 3)))
    (pss_one (ps_set (i := 4) sc_written.nd rfl (by first | exact Or.inl rfl | exact Or.inr rfl) (pe_op o_plus (pe_op o_plus (pe_op o_plus (pe_op o_plus (C8.pe_c c_written hr (by omega) rfl (pa_cons (pe_ix ix_seq (pv 0) pe_int (fun _ _ => rfl)) (pa_cons (pv 5) pa_nil))) pe_str) (pv 2)) pe_str) (C8.pe_c c_written hr (by omega) rfl (pa_cons (pe_ix ix_seq (pv 0) pe_int (fun _ _ => rfl)) (pa_cons (pe_op o_plus (pv 3) pe_int) pa_nil)))))))) (pss_cons (ps_set (i := 3) sc_written.nd rfl (by first | exact Or.inl rfl | exact Or.inr rfl) (C8.pe_gc rfl g.c_ATOM))
    (pss_one (ps_set (i := 4) sc_written.nd rfl (by first | exact Or.inl rfl | exact Or.inr rfl) (C8.pe_c c_atom_text hr (by omega) rfl (pa_cons (pv 0) pa_nil))))))))))
    (pss_one (ps_ret (pe_ifExp (pt_cmpR o_lt (pv 3) (pv 1) (nomark _)) (pe_op o_plus (pe_op o_plus pe_str (pv 4)) pe_str) (pv 4))))))
theorem zz_written (g : G w K mg) (k : Nat) (F : ∃ fd, FunD K "_written" "_written" (defArgs s_written) (defBody s_written) (defScope s_written) [] [] (He.ga K "_written") fd) (m : mg "_written" = some (.ref (He.ga K "_written"))) : C8.Cal P w K mg base k "_written" (fun _ _ _ _ => False) [] := by
  obtain ⟨fd, F⟩ := F
  exact ⟨_, fd, ["tree", "least"], [], ⟨fun _ _ _ _ h => h.elim, fun _ _ _ _ _ _ _ _ _ _ _ _ _ h => h.elim⟩, m, F.kp, (F.bindsN fun _ _ _ _ _ _ us hl => match us, hl with | [_, _], _ => rfl), .nil⟩
theorem ok_written (g : G w K mg) {n : Nat} (hn : 0 ≤ n) {sp_write : Sp} (c_write : C8.Cal P w K mg base n "write" sp_write []) {sp_written : Sp} (c_written : C8.Cal P w K mg base n "_written" sp_written []) {sp_atom_text : Sp} (c_atom_text : C8.Cal P w K mg base n "_atom_text" sp_atom_text []) {sp : Sp} (F : ∃ fd, FunD K "_written" "_written" (defArgs s_written) (defBody s_written) (defScope s_written) [] [] (He.ga K "_written") fd) (m : mg "_written" = some (.ref (He.ga K "_written")))
    (hsp : ∀ vs H Q E, sp vs H Q E → vs.length = 2 ∧ t_written K sp_write sp_written sp_atom_text { nx := fun _ H' => Q .non H', rt := Q } (start N_written vs) H) : C8.Cal P w K mg base (n + 1) "_written" sp [] := by
  obtain ⟨fd, F⟩ := F
  exact ⟨_, fd, ["tree", "least"], [], FunD.ok F sc_written (fun vs H Q E h => (hsp vs H Q E h).1) (fun cdv A outer s H vs Q E hr h => ⟨_, PSs.nox (d_written g hn c_write c_written c_atom_text hr), (hsp vs H Q E h).2⟩), m, F.kp, (F.bindsN fun _ _ _ _ _ _ us hl => match us, hl with | [_, _], _ => rfl), .nil⟩
abbrev N_write : List Str := ["tree"]
theorem sc_write : FnScope N_write ["tree"] (defScope s_write) := ⟨rfl, rfl, rfl, by decide +kernel, rfl, by decide +kernel, by decide +kernel⟩
def t_write (K : PySem.W.Frag) (sp_written : Sp) : TS :=
    (tRet (tCall sp_written [] C8.E0 (tCons (tVar 0) (tCons (tC (.int 0)) tNil))))
theorem d_write (g : G w K mg) {n : Nat} (hn : 0 ≤ n) {sp_written : Sp} (c_written : C8.Cal P w K mg base n "_written" sp_written []) {f : Addr} {cdv : Value} {A : Around} {outer : List Env} {s : Shared} {H : Hp} {E : XK} (hr : Room n (A.deeper (envOfC "write" (defScope s_write) s.heap.objs.size f cdv))) :
    PSs (cxOf CX0 P w K mg base N_write "write" (defScope s_write) f cdv A outer s H E).nox (defBody s_write) (t_write K sp_written) := by
  unfold t_write
  exact
    (pss_one (ps_ret (C8.pe_c c_written hr (by omega) rfl (pa_cons (pv 0) (pa_cons pe_int pa_nil)))))
theorem zz_write (g : G w K mg) (k : Nat) (F : ∃ fd, FunD K "write" "write" (defArgs s_write) (defBody s_write) (defScope s_write) [] [] (He.ga K "write") fd) (m : mg "write" = some (.ref (He.ga K "write"))) : C8.Cal P w K mg base k "write" (fun _ _ _ _ => False) [] := by
  obtain ⟨fd, F⟩ := F
  exact ⟨_, fd, ["tree"], [], ⟨fun _ _ _ _ h => h.elim, fun _ _ _ _ _ _ _ _ _ _ _ _ _ h => h.elim⟩, m, F.kp, (F.bindsN fun _ _ _ _ _ _ us hl => match us, hl with | [_], _ => rfl), .nil⟩
theorem ok_write (g : G w K mg) {n : Nat} (hn : 0 ≤ n) {sp_written : Sp} (c_written : C8.Cal P w K mg base n "_written" sp_written []) {sp : Sp} (F : ∃ fd, FunD K "write" "write" (defArgs s_write) (defBody s_write) (defScope s_write) [] [] (He.ga K "write") fd) (m : mg "write" = some (.ref (He.ga K "write")))
    (hsp : ∀ vs H Q E, sp vs H Q E → vs.length = 1 ∧ t_write K sp_written { nx := fun _ H' => Q .non H', rt := Q } (start N_write vs) H) : C8.Cal P w K mg base (n + 1) "write" sp [] := by
  obtain ⟨fd, F⟩ := F
  exact ⟨_, fd, ["tree"], [], FunD.ok F sc_write (fun vs H Q E h => (hsp vs H Q E h).1) (fun cdv A outer s H vs Q E hr h => ⟨_, PSs.nox (d_write g hn c_written hr), (hsp vs H Q E h).2⟩), m, F.kp, (F.bindsN fun _ _ _ _ _ _ us hl => match us, hl with | [_], _ => rfl), .nil⟩
abbrev N_l_cell : List Str := ["_law_script", "_law_k"]
theorem sc_l_cell : FnScope N_l_cell ["_law_script", "_law_k"] (defScope s_l_cell) := ⟨rfl, rfl, rfl, by decide +kernel, rfl, by decide +kernel, by decide +kernel⟩
def t_l_cell (K : PySem.W.Frag) : TS :=
    (tSeq (tIfS (tTest (tOp rLt (tVar 1) (tCB (rLenX K) (tCons (tVar 0) tNil)))) (tRet (tOp (rIx K) (tVar 0) (tVar 1))) tNext)
    (tRet (tC (.int 0))))
theorem d_l_cell (g : G w K mg) {f : Addr} {cdv : Value} {A : Around} {outer : List Env} {s : Shared} {H : Hp} {E : XK} (hr : Room 0 (A.deeper (envOfC "_law_cell" (defScope s_l_cell) s.heap.objs.size f cdv))) :
    PSs (cxOf CX0 P w K mg base N_l_cell "_law_cell" (defScope s_l_cell) f cdv A outer s H E).nox (defBody s_l_cell) (t_l_cell K) := by
  unfold t_l_cell
  exact
    (pss_cons (ps_if (pt_cmpR o_lt (pv 1) (pe_callB c_len (by rfl) g.b_len (by decide +kernel) (pa_cons (pv 0) pa_nil)) (nomark _)) (pss_one (ps_ret (pe_ix ix_seq (pv 0) (pv 1) (fun _ _ => rfl)))) pss_nil)
    (pss_one (ps_ret pe_int)))
theorem ok_l_cell (g : G w K mg) {sp : Sp} (F : ∃ fd, FunD K "_law_cell" "_law_cell" (defArgs s_l_cell) (defBody s_l_cell) (defScope s_l_cell) [] [] (He.ga K "_law_cell") fd) (m : mg "_law_cell" = some (.ref (He.ga K "_law_cell")))
    (hsp : ∀ vs H Q E, sp vs H Q E → vs.length = 2 ∧ t_l_cell K { nx := fun _ H' => Q .non H', rt := Q } (start N_l_cell vs) H) : C8.Cal P w K mg base 1 "_law_cell" sp [] := by
  obtain ⟨fd, F⟩ := F
  exact ⟨_, fd, ["_law_script", "_law_k"], [], FunD.ok F sc_l_cell (fun vs H Q E h => (hsp vs H Q E h).1) (fun cdv A outer s H vs Q E hr h => ⟨_, PSs.nox (d_l_cell g hr), (hsp vs H Q E h).2⟩), m, F.kp, (F.bindsN fun _ _ _ _ _ _ us hl => match us, hl with | [_, _], _ => rfl), .nil⟩
abbrev N_l_digits : List Str := ["_law_script", "_law_first", "_law_last", "_law_digits_here", "_law_k", "_law_cell_here", "_law_turn", "_law_seed"]
theorem sc_l_digits : FnScope N_l_digits ["_law_script", "_law_first", "_law_last"] (defScope s_l_digits) := ⟨rfl, rfl, rfl, by decide +kernel, rfl, by decide +kernel, by decide +kernel⟩
def t_l_digits (K : PySem.W.Frag) (sp_l_cell : Sp) : TS :=
    (tSeq (tAsg (tLst tNil) (gName 3))
    (tSeq (tFor (iRng2 (tCons (tVar 1) (tCons (tVar 2) tNil))) (gName 4) (tSeq (tAsg (tCall sp_l_cell [] C8.E0 (tCons (tVar 0) (tCons (tVar 4) tNil))) (gName 5))
    (C8.tCut (tIfS (tTest (tOp rLt (tVar 5) (tC (.int 0)))) (tAsg (tOp rMinus (tC (.int 1)) (tOp rTimes (tC (.int 2)) (tVar 5))) (gName 5)) tNext)
    (tIfS (tTest (tOp rGe (tVar 5) (tC (.int 1000000000000000000)))) (tFor (iRng1 (tCons (tC (.int 60)) tNil)) (gName 6) (tIfS (tTest (tOp rGt (tVar 5) (tC (.int 0)))) (tSeq (tDrop (tBM K "list" rAppend (tVar 3) (tCons (tOp rMod (tCB (rIntX) (tCons (tVar 5) tNil)) (tC (.int 1000))) tNil)))
    (tAsg (tOp rFdiv (tVar 5) (tC (.int 1000))) (gName 5))) tNext)) (tSeq (tAsg (tOp rMod (tCB (rIntX) (tCons (tOp (rPlus K) (tOp (rPlus K) (tOp rTimes (tVar 5) (tC (.int 40692))) (tOp rTimes (tVar 4) (tC (.int 52774)))) (tC (.int 17))) tNil)) (tC (.int 2147483399))) (gName 7))
    (tFor (iRng1 (tCons (tC (.int 12)) tNil)) (gName 6) (tSeq (tAsg (tOp rMod (tCB (rIntX) (tCons (tOp (rPlus K) (tOp (rPlus K) (tOp rTimes (tVar 7) (tC (.int 40014))) (tOp rTimes (tC (.int 5)) (tVar 6))) (tC (.int 3))) tNil)) (tC (.int 2147483563))) (gName 7))
    (tDrop (tBM K "list" rAppend (tVar 3) (tCons (tOp rMod (tCB (rIntX) (tCons (tOp rFdiv (tVar 7) (tC (.int 1009))) tNil)) (tC (.int 1000))) tNil))))))))))
    (tRet (tVar 3))))
theorem d_l_digits (g : G w K mg) {sp_l_cell : Sp} (c_l_cell : C8.Cal P w K mg base 1 "_law_cell" sp_l_cell []) {f : Addr} {cdv : Value} {A : Around} {outer : List Env} {s : Shared} {H : Hp} {E : XK} (hr : Room 1 (A.deeper (envOfC "_law_digits" (defScope s_l_digits) s.heap.objs.size f cdv))) :
    PSs (cxOf CX0 P w K mg base N_l_digits "_law_digits" (defScope s_l_digits) f cdv A outer s H E).nox (defBody s_l_digits) (t_l_digits K sp_l_cell) := by
  unfold t_l_digits
  exact
    (pss_cons (ps_set (i := 3) sc_l_digits.nd rfl (by first | exact Or.inl rfl | exact Or.inr rfl) (pe_lst pa_nil))
    (pss_cons (ps_for PassesOwn.never rfl (pi_range2 rfl g.b_range (pa_cons (pv 1) (pa_cons (pv 2) pa_nil))) (pg_name (i := 4) sc_l_digits.nd rfl (by first | exact Or.inl rfl | exact Or.inr rfl)) (pss_cons (ps_set (i := 5) sc_l_digits.nd rfl (by first | exact Or.inl rfl | exact Or.inr rfl) (C8.pe_c c_l_cell hr (by decide) rfl (pa_cons (pv 0) (pa_cons (pv 4) pa_nil))))
    (C8.pss_cut (ps_if (pt_cmpR o_lt (pv 5) pe_int (nomark _)) (pss_one (ps_set (i := 5) sc_l_digits.nd rfl (by first | exact Or.inl rfl | exact Or.inr rfl) (pe_op o_minus pe_int (pe_op o_times pe_int (pv 5))))) pss_nil)
    (pss_one (ps_if (pt_cmpR o_ge (pv 5) pe_int (nomark _)) (pss_one (ps_for PassesOwn.never rfl (pi_range1 rfl g.b_range (pa_cons pe_int pa_nil)) (pg_name (i := 6) sc_l_digits.nd rfl (by first | exact Or.inl rfl | exact Or.inr rfl)) (pss_one (ps_if (pt_cmpR o_gt (pv 5) pe_int (nomark _)) (pss_cons (ps_expr (pe_bm PySem.F.plainAttrs_list PySem.F.slot_list_append PySem.F.type_list_append mt_append (pv 3) (pa_cons (pe_op o_mod (pe_callTy c_int (by rfl) g.b_int (by decide +kernel) (pa_cons (pv 5) pa_nil)) pe_int) pa_nil)))
    (pss_one (ps_set (i := 5) sc_l_digits.nd rfl (by first | exact Or.inl rfl | exact Or.inr rfl) (pe_op o_fdiv (pv 5) pe_int)))) pss_nil)))) (pss_cons (ps_set (i := 7) sc_l_digits.nd rfl (by first | exact Or.inl rfl | exact Or.inr rfl) (pe_op o_mod (pe_callTy c_int (by rfl) g.b_int (by decide +kernel) (pa_cons (pe_op o_plus (pe_op o_plus (pe_op o_times (pv 5) pe_int) (pe_op o_times (pv 4) pe_int)) pe_int) pa_nil)) pe_int))
    (pss_one (ps_for PassesOwn.never rfl (pi_range1 rfl g.b_range (pa_cons pe_int pa_nil)) (pg_name (i := 6) sc_l_digits.nd rfl (by first | exact Or.inl rfl | exact Or.inr rfl)) (pss_cons (ps_set (i := 7) sc_l_digits.nd rfl (by first | exact Or.inl rfl | exact Or.inr rfl) (pe_op o_mod (pe_callTy c_int (by rfl) g.b_int (by decide +kernel) (pa_cons (pe_op o_plus (pe_op o_plus (pe_op o_times (pv 7) pe_int) (pe_op o_times pe_int (pv 6))) pe_int) pa_nil)) pe_int))
    (pss_one (ps_expr (pe_bm PySem.F.plainAttrs_list PySem.F.slot_list_append PySem.F.type_list_append mt_append (pv 3) (pa_cons (pe_op o_mod (pe_callTy c_int (by rfl) g.b_int (by decide +kernel) (pa_cons (pe_op o_fdiv (pv 7) pe_int) pa_nil)) pe_int) pa_nil)))))))))))))
    (pss_one (ps_ret (pv 3)))))
theorem ok_l_digits (g : G w K mg) {sp_l_cell : Sp} (c_l_cell : C8.Cal P w K mg base 1 "_law_cell" sp_l_cell []) {sp : Sp} (F : ∃ fd, FunD K "_law_digits" "_law_digits" (defArgs s_l_digits) (defBody s_l_digits) (defScope s_l_digits) [] [] (He.ga K "_law_digits") fd) (m : mg "_law_digits" = some (.ref (He.ga K "_law_digits")))
    (hsp : ∀ vs H Q E, sp vs H Q E → vs.length = 3 ∧ t_l_digits K sp_l_cell { nx := fun _ H' => Q .non H', rt := Q } (start N_l_digits vs) H) : C8.Cal P w K mg base 2 "_law_digits" sp [] := by
  obtain ⟨fd, F⟩ := F
  exact ⟨_, fd, ["_law_script", "_law_first", "_law_last"], [], FunD.ok F sc_l_digits (fun vs H Q E h => (hsp vs H Q E h).1) (fun cdv A outer s H vs Q E hr h => ⟨_, PSs.nox (d_l_digits g c_l_cell hr), (hsp vs H Q E h).2⟩), m, F.kp, (F.bindsN fun _ _ _ _ _ _ us hl => match us, hl with | [_, _, _], _ => rfl), .nil⟩
abbrev N_l_draw : List Str := ["_law_box", "_law_many", "_law_at"]
theorem sc_l_draw : FnScope N_l_draw ["_law_box", "_law_many"] (defScope s_l_draw) := ⟨rfl, rfl, rfl, by decide +kernel, rfl, by decide +kernel, by decide +kernel⟩
def t_l_draw (K : PySem.W.Frag) : TS :=
    (tSeq (tAsg (tOp (rIx K) (tVar 0) (tC (.int 1))) (gName 2))
    (tSeq (tAsg (tOp (rPlus K) (tVar 2) (tC (.int 1))) (gSub (tVar 0) (tC (.int 1)) rSetL))
    (tSeq (tIfS (tTest (tOp rLt (tVar 2) (tCB (rLenX K) (tCons (tOp (rIx K) (tVar 0) (tC (.int 0))) tNil)))) (tRet (tOp rMod (tCB (rIntX) (tCons (tOp (rIx K) (tOp (rIx K) (tVar 0) (tC (.int 0))) (tVar 2)) tNil)) (tVar 1))) tNext)
    (tRet (tOp rMod (tCB (rIntX) (tCons (tOp (rPlus K) (tOp rTimes (tVar 2) (tC (.int 7))) (tC (.int 3))) tNil)) (tVar 1))))))
theorem d_l_draw (g : G w K mg) {f : Addr} {cdv : Value} {A : Around} {outer : List Env} {s : Shared} {H : Hp} {E : XK} (hr : Room 0 (A.deeper (envOfC "_law_draw" (defScope s_l_draw) s.heap.objs.size f cdv))) :
    PSs (cxOf CX0 P w K mg base N_l_draw "_law_draw" (defScope s_l_draw) f cdv A outer s H E).nox (defBody s_l_draw) (t_l_draw K) := by
  unfold t_l_draw
  exact
    (pss_cons (ps_set (i := 2) sc_l_draw.nd rfl (by first | exact Or.inl rfl | exact Or.inr rfl) (pe_ix ix_seq (pv 0) pe_int (fun _ _ => rfl)))
    (pss_cons (ps_asg (pe_op o_plus (pv 2) pe_int) (pg_sub (pv 0) pe_int set_list))
    (pss_cons (ps_if (pt_cmpR o_lt (pv 2) (pe_callB c_len (by rfl) g.b_len (by decide +kernel) (pa_cons (pe_ix ix_seq (pv 0) pe_int (fun _ _ => rfl)) pa_nil)) (nomark _)) (pss_one (ps_ret (pe_op o_mod (pe_callTy c_int (by rfl) g.b_int (by decide +kernel) (pa_cons (pe_ix ix_seq (pe_ix ix_seq (pv 0) pe_int (fun _ _ => rfl)) (pv 2) (fun _ _ => rfl)) pa_nil)) (pv 1)))) pss_nil)
    (pss_one (ps_ret (pe_op o_mod (pe_callTy c_int (by rfl) g.b_int (by decide +kernel) (pa_cons (pe_op o_plus (pe_op o_times (pv 2) pe_int) pe_int) pa_nil)) (pv 1)))))))
theorem ok_l_draw (g : G w K mg) {sp : Sp} (F : ∃ fd, FunD K "_law_draw" "_law_draw" (defArgs s_l_draw) (defBody s_l_draw) (defScope s_l_draw) [] [] (He.ga K "_law_draw") fd) (m : mg "_law_draw" = some (.ref (He.ga K "_law_draw")))
    (hsp : ∀ vs H Q E, sp vs H Q E → vs.length = 2 ∧ t_l_draw K { nx := fun _ H' => Q .non H', rt := Q } (start N_l_draw vs) H) : C8.Cal P w K mg base 1 "_law_draw" sp [] := by
  obtain ⟨fd, F⟩ := F
  exact ⟨_, fd, ["_law_box", "_law_many"], [], FunD.ok F sc_l_draw (fun vs H Q E h => (hsp vs H Q E h).1) (fun cdv A outer s H vs Q E hr h => ⟨_, PSs.nox (d_l_draw g hr), (hsp vs H Q E h).2⟩), m, F.kp, (F.bindsN fun _ _ _ _ _ _ us hl => match us, hl with | [_, _], _ => rfl), .nil⟩
abbrev N_l_atom : List Str := ["_law_box", "_law_names", "_law_kind"]
theorem sc_l_atom : FnScope N_l_atom ["_law_box", "_law_names"] (defScope s_l_atom) := ⟨rfl, rfl, rfl, by decide +kernel, rfl, by decide +kernel, by decide +kernel⟩
def t_l_atom (K : PySem.W.Frag) (sp_l_draw : Sp) : TS :=
    (tSeq (tAsg (tCall sp_l_draw [] C8.E0 (tCons (tVar 0) (tCons (tC (.int 20)) tNil))) (gName 2))
    (tSeq (tIfS (tAnd (tTest (tOp rLe (tVar 2) (tC (.int 9)))) (tTest (tOp (rNeX K) (tVar 1) (tLst tNil)))) (tRet (tTup (tCons (tC (.str "name")) (tCons (tOp (rIx K) (tVar 1) (tCall sp_l_draw [] C8.E0 (tCons (tVar 0) (tCons (tCB (rLenX K) (tCons (tVar 1) tNil)) tNil)))) tNil)))) tNext)
    (tSeq (tIfS (tTest (tOp (rEqX K) (tVar 2) (tC (.int 10)))) (tRet (tTup (tCons (tC (.str "string")) (tCons (tOp (rIx K) (tLst (tCons (tC (.str "")) (tCons (tC (.str "s")) (tCons (tC (.str "t")) (tCons (tC (.str "ab")) (tCons (tC (.str "x y")) (tCons (tC (.str "twelve signs")) tNil))))))) (tCall sp_l_draw [] C8.E0 (tCons (tVar 0) (tCons (tC (.int 6)) tNil)))) tNil)))) tNext)
    (tRet (tTup (tCons (tC (.str "number")) (tCons (tOp (rIx K) (tLst (tCons (tC (.int 0)) (tCons (tC (.int 1)) (tCons (tC (.int 2)) (tCons (tC (.int 7)) (tCons (tC (.int 12)) (tCons (tC (.int 3)) (tCons (tC (.int 1)) (tCons (tC (.int 0)) (tCons (tC (.int 5)) (tCons (tC (.int 99999)) tNil))))))))))) (tCall sp_l_draw [] C8.E0 (tCons (tVar 0) (tCons (tC (.int 10)) tNil)))) tNil)))))))
theorem d_l_atom (g : G w K mg) {sp_l_draw : Sp} (c_l_draw : C8.Cal P w K mg base 1 "_law_draw" sp_l_draw []) {f : Addr} {cdv : Value} {A : Around} {outer : List Env} {s : Shared} {H : Hp} {E : XK} (hr : Room 1 (A.deeper (envOfC "_law_atom" (defScope s_l_atom) s.heap.objs.size f cdv))) :
    PSs (cxOf CX0 P w K mg base N_l_atom "_law_atom" (defScope s_l_atom) f cdv A outer s H E).nox (defBody s_l_atom) (t_l_atom K sp_l_draw) := by
  unfold t_l_atom
  exact
    (pss_cons (ps_set (i := 2) sc_l_atom.nd rfl (by first | exact Or.inl rfl | exact Or.inr rfl) (C8.pe_c c_l_draw hr (by decide) rfl (pa_cons (pv 0) (pa_cons pe_int pa_nil))))
    (pss_cons (ps_if (PW.pt (pw_and (pt_cmpR o_le (pv 2) pe_int (nomark _)) (pw_and1 (pt_cmpR (o_ne hr.units) (pv 1) (pe_lst pa_nil) (nomark _))))) (pss_one (ps_ret (pe_tup (pa_cons pe_str (pa_cons (pe_ix ix_seq (pv 1) (C8.pe_c c_l_draw hr (by decide) rfl (pa_cons (pv 0) (pa_cons (pe_callB c_len (by rfl) g.b_len (by decide +kernel) (pa_cons (pv 1) pa_nil)) pa_nil))) (fun _ _ => rfl)) pa_nil))))) pss_nil)
    (pss_cons (ps_if (pt_cmpR (o_eq hr.units) (pv 2) pe_int (nomark _)) (pss_one (ps_ret (pe_tup (pa_cons pe_str (pa_cons (pe_ix ix_seq (pe_lst (pa_cons pe_str (pa_cons pe_str (pa_cons pe_str (pa_cons pe_str (pa_cons pe_str (pa_cons pe_str pa_nil))))))) (C8.pe_c c_l_draw hr (by decide) rfl (pa_cons (pv 0) (pa_cons pe_int pa_nil))) (fun _ _ => rfl)) pa_nil))))) pss_nil)
    (pss_one (ps_ret (pe_tup (pa_cons pe_str (pa_cons (pe_ix ix_seq (pe_lst (pa_cons pe_int (pa_cons pe_int (pa_cons pe_int (pa_cons pe_int (pa_cons pe_int (pa_cons pe_int (pa_cons pe_int (pa_cons pe_int (pa_cons pe_int (pa_cons pe_int pa_nil))))))))))) (C8.pe_c c_l_draw hr (by decide) rfl (pa_cons (pv 0) (pa_cons pe_int pa_nil))) (fun _ _ => rfl)) pa_nil))))))))
theorem ok_l_atom (g : G w K mg) {sp_l_draw : Sp} (c_l_draw : C8.Cal P w K mg base 1 "_law_draw" sp_l_draw []) {sp : Sp} (F : ∃ fd, FunD K "_law_atom" "_law_atom" (defArgs s_l_atom) (defBody s_l_atom) (defScope s_l_atom) [] [] (He.ga K "_law_atom") fd) (m : mg "_law_atom" = some (.ref (He.ga K "_law_atom")))
    (hsp : ∀ vs H Q E, sp vs H Q E → vs.length = 2 ∧ t_l_atom K sp_l_draw { nx := fun _ H' => Q .non H', rt := Q } (start N_l_atom vs) H) : C8.Cal P w K mg base 2 "_law_atom" sp [] := by
  obtain ⟨fd, F⟩ := F
  exact ⟨_, fd, ["_law_box", "_law_names"], [], FunD.ok F sc_l_atom (fun vs H Q E h => (hsp vs H Q E h).1) (fun cdv A outer s H vs Q E hr h => ⟨_, PSs.nox (d_l_atom g c_l_draw hr), (hsp vs H Q E h).2⟩), m, F.kp, (F.bindsN fun _ _ _ _ _ _ us hl => match us, hl with | [_, _], _ => rfl), .nil⟩
abbrev N_l_tree : List Str := ["_law_box", "_law_names", "_law_calls", "_law_depth", "_law_kind", "_law_first", "_law_second", "_law_plain", "_law_name", "_law_many", "_law_k"]
theorem sc_l_tree : FnScope N_l_tree ["_law_box", "_law_names", "_law_calls", "_law_depth"] (defScope s_l_tree) := ⟨rfl, rfl, rfl, by decide +kernel, rfl, by decide +kernel, by decide +kernel⟩
def t_l_tree (K : PySem.W.Frag) (sp_l_tree : Sp) (sp_l_draw : Sp) (sp_l_atom : Sp) : TS :=
    (tSeq (tAsg (tCall sp_l_draw [] C8.E0 (tCons (tVar 0) (tCons (tC (.int 14)) tNil))) (gName 4))
    (tSeq (tIfS (tOr (tTest (tOp rLe (tVar 3) (tC (.int 0)))) (tTest (tOp rLe (tVar 4) (tC (.int 4))))) (tRet (tCall sp_l_atom [] C8.E0 (tCons (tVar 0) (tCons (tVar 1) tNil)))) tNext)
    (tSeq (tIfS (tTest (tOp rLe (tVar 4) (tC (.int 8)))) (tSeq (tAsg (tCall sp_l_tree [] C8.E0 (tCons (tVar 0) (tCons (tVar 1) (tCons (tVar 2) (tCons (tOp rMinus (tVar 3) (tC (.int 1))) tNil))))) (gName 5))
    (tRet (tTup (tCons (tOp (rIx K) (tLst (tCons (tC (.str "+")) (tCons (tC (.str "-")) (tCons (tC (.str "*")) (tCons (tC (.str "<")) (tCons (tC (.str "=")) (tCons (tC (.str "+")) tNil))))))) (tCall sp_l_draw [] C8.E0 (tCons (tVar 0) (tCons (tC (.int 6)) tNil)))) (tCons (tVar 5) (tCons (tCall sp_l_tree [] C8.E0 (tCons (tVar 0) (tCons (tVar 1) (tCons (tVar 2) (tCons (tOp rMinus (tVar 3) (tC (.int 1))) tNil))))) tNil)))))) tNext)
    (tSeq (tIfS (tTest (tOp (rEqX K) (tVar 4) (tC (.int 9)))) (tSeq (tAsg (tCall sp_l_tree [] C8.E0 (tCons (tVar 0) (tCons (tVar 1) (tCons (tVar 2) (tCons (tOp rMinus (tVar 3) (tC (.int 1))) tNil))))) (gName 5))
    (tSeq (tAsg (tCall sp_l_tree [] C8.E0 (tCons (tVar 0) (tCons (tVar 1) (tCons (tVar 2) (tCons (tOp rMinus (tVar 3) (tC (.int 1))) tNil))))) (gName 6))
    (tRet (tTup (tCons (tC (.str "if")) (tCons (tVar 5) (tCons (tVar 6) (tCons (tCall sp_l_tree [] C8.E0 (tCons (tVar 0) (tCons (tVar 1) (tCons (tVar 2) (tCons (tOp rMinus (tVar 3) (tC (.int 1))) tNil))))) tNil)))))))) tNext)
    (tSeq (tAsg (tLc (iAny K (tVar 1)) (gName 8) (tTest (tOp (rInX K true) (tVar 8) (tTup (tCons (tC (.str "p")) (tCons (tC (.str "q")) tNil))))) (tVar 8) [8]) (gName 7))
    (tSeq (tIfS (tAnd (tTest (tOp (rEqX K) (tVar 4) (tC (.int 10)))) (tTest (tOp (rNeX K) (tVar 7) (tLst tNil)))) (tRet (tTup (tCons (tC (.str "set")) (tCons (tOp (rIx K) (tVar 7) (tCall sp_l_draw [] C8.E0 (tCons (tVar 0) (tCons (tCB (rLenX K) (tCons (tVar 7) tNil)) tNil)))) (tCons (tCall sp_l_tree [] C8.E0 (tCons (tVar 0) (tCons (tVar 1) (tCons (tVar 2) (tCons (tOp rMinus (tVar 3) (tC (.int 1))) tNil))))) tNil))))) tNext)
    (tSeq (tIfS (tTest (tOp (rEqX K) (tVar 4) (tC (.int 11)))) (tSeq (tAsg (tCall sp_l_tree [] C8.E0 (tCons (tVar 0) (tCons (tVar 1) (tCons (tVar 2) (tCons (tOp rMinus (tVar 3) (tC (.int 1))) tNil))))) (gName 5))
    (tRet (tTup (tCons (tC (.str "then")) (tCons (tVar 5) (tCons (tCall sp_l_tree [] C8.E0 (tCons (tVar 0) (tCons (tVar 1) (tCons (tVar 2) (tCons (tOp rMinus (tVar 3) (tC (.int 1))) tNil))))) tNil)))))) tNext)
    (tSeq (tIfS (tTest (tOp (rEqX K) (tVar 2) (tLst tNil))) (tRet (tCall sp_l_atom [] C8.E0 (tCons (tVar 0) (tCons (tVar 1) tNil)))) tNext)
    (tSeq (tAsg (tOp (rIx K) (tVar 2) (tCall sp_l_draw [] C8.E0 (tCons (tVar 0) (tCons (tCB (rLenX K) (tCons (tVar 2) tNil)) tNil)))) (gUnp K 2 (gCons (gName 8) (gCons (gName 9) gNil))))
    (tRet (tTup (tCons (tC (.str "call")) (tCons (tVar 8) (tCons (tCB (rTupOf K) (tCons (tLc (iRng1 (tCons (tVar 9) tNil)) (gName 10) tYes (tCall sp_l_tree [] C8.E0 (tCons (tVar 0) (tCons (tVar 1) (tCons (tVar 2) (tCons (tOp rMinus (tVar 3) (tC (.int 1))) tNil))))) [10]) tNil)) tNil))))))))))))))
theorem d_l_tree (g : G w K mg) {n : Nat} (hn : 2 ≤ n) {sp_l_tree : Sp} (c_l_tree : C8.Cal P w K mg base n "_law_tree" sp_l_tree []) {sp_l_draw : Sp} (c_l_draw : C8.Cal P w K mg base 1 "_law_draw" sp_l_draw []) {sp_l_atom : Sp} (c_l_atom : C8.Cal P w K mg base 2 "_law_atom" sp_l_atom []) {f : Addr} {cdv : Value} {A : Around} {outer : List Env} {s : Shared} {H : Hp} {E : XK} (hr : Room n (A.deeper (envOfC "_law_tree" (defScope s_l_tree) s.heap.objs.size f cdv))) :
    PSs (cxOf CX0 P w K mg base N_l_tree "_law_tree" (defScope s_l_tree) f cdv A outer s H E).nox (defBody s_l_tree) (t_l_tree K sp_l_tree sp_l_draw sp_l_atom) := by
  unfold t_l_tree
  exact
    (pss_cons (ps_set (i := 4) sc_l_tree.nd rfl (by first | exact Or.inl rfl | exact Or.inr rfl) (C8.pe_c c_l_draw hr (by omega) rfl (pa_cons (pv 0) (pa_cons pe_int pa_nil))))
    (pss_cons (ps_if (PW.pt (pw_or (pt_cmpR o_le (pv 3) pe_int (nomark _)) (pw_or1 (pt_cmpR o_le (pv 4) pe_int (nomark _))))) (pss_one (ps_ret (C8.pe_c c_l_atom hr (by omega) rfl (pa_cons (pv 0) (pa_cons (pv 1) pa_nil))))) pss_nil)
    (pss_cons (ps_if (pt_cmpR o_le (pv 4) pe_int (nomark _)) (pss_cons (ps_set (i := 5) sc_l_tree.nd rfl (by first | exact Or.inl rfl | exact Or.inr rfl) (C8.pe_c c_l_tree hr (by omega) rfl (pa_cons (pv 0) (pa_cons (pv 1) (pa_cons (pv 2) (pa_cons (pe_op o_minus (pv 3) pe_int) pa_nil))))))
    (pss_one (ps_ret (pe_tup (pa_cons (pe_ix ix_seq (pe_lst (pa_cons pe_str (pa_cons pe_str (pa_cons pe_str (pa_cons pe_str (pa_cons pe_str (pa_cons pe_str pa_nil))))))) (C8.pe_c c_l_draw hr (by omega) rfl (pa_cons (pv 0) (pa_cons pe_int pa_nil))) (fun _ _ => rfl)) (pa_cons (pv 5) (pa_cons (C8.pe_c c_l_tree hr (by omega) rfl (pa_cons (pv 0) (pa_cons (pv 1) (pa_cons (pv 2) (pa_cons (pe_op o_minus (pv 3) pe_int) pa_nil))))) pa_nil))))))) pss_nil)
    (pss_cons (ps_if (pt_cmpR (o_eq hr.units) (pv 4) pe_int (nomark _)) (pss_cons (ps_set (i := 5) sc_l_tree.nd rfl (by first | exact Or.inl rfl | exact Or.inr rfl) (C8.pe_c c_l_tree hr (by omega) rfl (pa_cons (pv 0) (pa_cons (pv 1) (pa_cons (pv 2) (pa_cons (pe_op o_minus (pv 3) pe_int) pa_nil))))))
    (pss_cons (ps_set (i := 6) sc_l_tree.nd rfl (by first | exact Or.inl rfl | exact Or.inr rfl) (C8.pe_c c_l_tree hr (by omega) rfl (pa_cons (pv 0) (pa_cons (pv 1) (pa_cons (pv 2) (pa_cons (pe_op o_minus (pv 3) pe_int) pa_nil))))))
    (pss_one (ps_ret (pe_tup (pa_cons pe_str (pa_cons (pv 5) (pa_cons (pv 6) (pa_cons (C8.pe_c c_l_tree hr (by omega) rfl (pa_cons (pv 0) (pa_cons (pv 1) (pa_cons (pv 2) (pa_cons (pe_op o_minus (pv 3) pe_int) pa_nil))))) pa_nil))))))))) pss_nil)
    (pss_cons (ps_setLc (own := [("_law_name", 8)]) (tt := (tTest (tOp (rInX K true) (tVar 8) (tTup (tCons (tC (.str "p")) (tCons (tC (.str "q")) tNil)))))) (i := 7) rfl sc_l_tree.nd rfl rfl (sw_true rfl rfl rfl (by decide +kernel)) (pi_any (pv 1)) (blkOk_by (N := N_l_tree) (sc := defScope s_l_tree) (by decide +kernel)) (fun _ _ _ _ _ => (pg_name (i := 8) sc_l_tree.nd rfl (by first | exact Or.inl rfl | exact Or.inr rfl))) (fun _ _ _ _ _ => (pts_one (pt_cmpR o_notin (pv 8) (pe_tup (pa_cons pe_str (pa_cons pe_str pa_nil))) (by rfl)))) (fun _ _ _ _ _ => (pv 8)))
    (pss_cons (ps_if (PW.pt (pw_and (pt_cmpR (o_eq hr.units) (pv 4) pe_int (nomark _)) (pw_and1 (pt_cmpR (o_ne hr.units) (pv 7) (pe_lst pa_nil) (nomark _))))) (pss_one (ps_ret (pe_tup (pa_cons pe_str (pa_cons (pe_ix ix_seq (pv 7) (C8.pe_c c_l_draw hr (by omega) rfl (pa_cons (pv 0) (pa_cons (pe_callB c_len (by rfl) g.b_len (by decide +kernel) (pa_cons (pv 7) pa_nil)) pa_nil))) (fun _ _ => rfl)) (pa_cons (C8.pe_c c_l_tree hr (by omega) rfl (pa_cons (pv 0) (pa_cons (pv 1) (pa_cons (pv 2) (pa_cons (pe_op o_minus (pv 3) pe_int) pa_nil))))) pa_nil)))))) pss_nil)
    (pss_cons (ps_if (pt_cmpR (o_eq hr.units) (pv 4) pe_int (nomark _)) (pss_cons (ps_set (i := 5) sc_l_tree.nd rfl (by first | exact Or.inl rfl | exact Or.inr rfl) (C8.pe_c c_l_tree hr (by omega) rfl (pa_cons (pv 0) (pa_cons (pv 1) (pa_cons (pv 2) (pa_cons (pe_op o_minus (pv 3) pe_int) pa_nil))))))
    (pss_one (ps_ret (pe_tup (pa_cons pe_str (pa_cons (pv 5) (pa_cons (C8.pe_c c_l_tree hr (by omega) rfl (pa_cons (pv 0) (pa_cons (pv 1) (pa_cons (pv 2) (pa_cons (pe_op o_minus (pv 3) pe_int) pa_nil))))) pa_nil))))))) pss_nil)
    (pss_cons (ps_if (pt_cmpR (o_eq hr.units) (pv 2) (pe_lst pa_nil) (nomark _)) (pss_one (ps_ret (C8.pe_c c_l_atom hr (by omega) rfl (pa_cons (pv 0) (pa_cons (pv 1) pa_nil))))) pss_nil)
    (pss_cons (ps_asg (pe_ix ix_seq (pv 2) (C8.pe_c c_l_draw hr (by omega) rfl (pa_cons (pv 0) (pa_cons (pe_callB c_len (by rfl) g.b_len (by decide +kernel) (pa_cons (pv 2) pa_nil)) pa_nil))) (fun _ _ => rfl)) (pg_unp rfl (pgs_cons (pg_name (i := 8) sc_l_tree.nd rfl (by first | exact Or.inl rfl | exact Or.inr rfl)) (pgs_cons (pg_name (i := 9) sc_l_tree.nd rfl (by first | exact Or.inl rfl | exact Or.inr rfl)) pgs_nil))))
    (pss_one (ps_ret (pe_tup (pa_cons pe_str (pa_cons (pv 8) (pa_cons (pe_callTy c_tuple (by rfl) g.b_tuple (by decide +kernel) (pa_cons (pe_lc (own := [("_law_k", 10)]) (tt := tYes) rfl sc_l_tree.nd (pi_range1 rfl g.b_range (pa_cons (pv 9) pa_nil)) (blkOk_by (N := N_l_tree) (sc := defScope s_l_tree) (by decide +kernel)) (fun _ _ _ _ _ => (pg_name (i := 10) sc_l_tree.nd rfl (by first | exact Or.inl rfl | exact Or.inr rfl))) (fun _ _ _ _ _ => pts_nil) (fun _ _ _ _ _ => (C8.pe_c c_l_tree hr (by omega) rfl (pa_cons (pv 0) (pa_cons (pv 1) (pa_cons (pv 2) (pa_cons (pe_op o_minus (pv 3) pe_int) pa_nil))))))) pa_nil)) pa_nil)))))))))))))))
theorem zz_l_tree (g : G w K mg) (k : Nat) (F : ∃ fd, FunD K "_law_tree" "_law_tree" (defArgs s_l_tree) (defBody s_l_tree) (defScope s_l_tree) [] [] (He.ga K "_law_tree") fd) (m : mg "_law_tree" = some (.ref (He.ga K "_law_tree"))) : C8.Cal P w K mg base k "_law_tree" (fun _ _ _ _ => False) [] := by
  obtain ⟨fd, F⟩ := F
  exact ⟨_, fd, ["_law_box", "_law_names", "_law_calls", "_law_depth"], [], ⟨fun _ _ _ _ h => h.elim, fun _ _ _ _ _ _ _ _ _ _ _ _ _ h => h.elim⟩, m, F.kp, (F.bindsN fun _ _ _ _ _ _ us hl => match us, hl with | [_, _, _, _], _ => rfl), .nil⟩
theorem ok_l_tree (g : G w K mg) {n : Nat} (hn : 2 ≤ n) {sp_l_tree : Sp} (c_l_tree : C8.Cal P w K mg base n "_law_tree" sp_l_tree []) {sp_l_draw : Sp} (c_l_draw : C8.Cal P w K mg base 1 "_law_draw" sp_l_draw []) {sp_l_atom : Sp} (c_l_atom : C8.Cal P w K mg base 2 "_law_atom" sp_l_atom []) {sp : Sp} (F : ∃ fd, FunD K "_law_tree" "_law_tree" (defArgs s_l_tree) (defBody s_l_tree) (defScope s_l_tree) [] [] (He.ga K "_law_tree") fd) (m : mg "_law_tree" = some (.ref (He.ga K "_law_tree")))
    (hsp : ∀ vs H Q E, sp vs H Q E → vs.length = 4 ∧ t_l_tree K sp_l_tree sp_l_draw sp_l_atom { nx := fun _ H' => Q .non H', rt := Q } (start N_l_tree vs) H) : C8.Cal P w K mg base (n + 1) "_law_tree" sp [] := by
  obtain ⟨fd, F⟩ := F
  exact ⟨_, fd, ["_law_box", "_law_names", "_law_calls", "_law_depth"], [], FunD.ok F sc_l_tree (fun vs H Q E h => (hsp vs H Q E h).1) (fun cdv A outer s H vs Q E hr h => ⟨_, PSs.nox (d_l_tree g hn c_l_tree c_l_draw c_l_atom hr), (hsp vs H Q E h).2⟩), m, F.kp, (F.bindsN fun _ _ _ _ _ _ us hl => match us, hl with | [_, _, _, _], _ => rfl), .nil⟩
abbrev N_l_level : List Str := ["_law_tree_here"]
theorem sc_l_level : FnScope N_l_level ["_law_tree_here"] (defScope s_l_level) := ⟨rfl, rfl, rfl, by decide +kernel, rfl, by decide +kernel, by decide +kernel⟩
def t_l_level (K : PySem.W.Frag) : TS :=
    (tSeq (tIfS (tTest (tOp (rInX K false) (tOp (rIx K) (tVar 0) (tC (.int 0))) (tTup (tCons (tC (.str "if")) (tCons (tC (.str "set")) tNil))))) (tRet (tC (.int 0))) tNext)
    (tSeq (tIfS (tTest (tOp (rInX K false) (tOp (rIx K) (tVar 0) (tC (.int 0))) (tTup (tCons (tC (.str "<")) (tCons (tC (.str "=")) tNil))))) (tRet (tC (.int 1))) tNext)
    (tSeq (tIfS (tTest (tOp (rInX K false) (tOp (rIx K) (tVar 0) (tC (.int 0))) (tTup (tCons (tC (.str "+")) (tCons (tC (.str "-")) tNil))))) (tRet (tC (.int 2))) tNext)
    (tRet (tOp (rIx K) (tLst (tCons (tC (.int 4)) (tCons (tC (.int 3)) tNil))) (tCB (rIntY) (tCons (tOp (rEqX K) (tOp (rIx K) (tVar 0) (tC (.int 0))) (tC (.str "*"))) tNil)))))))
theorem d_l_level (g : G w K mg) {f : Addr} {cdv : Value} {A : Around} {outer : List Env} {s : Shared} {H : Hp} {E : XK} (hr : Room 0 (A.deeper (envOfC "_law_level" (defScope s_l_level) s.heap.objs.size f cdv))) :
    PSs (cxOf CX0 P w K mg base N_l_level "_law_level" (defScope s_l_level) f cdv A outer s H E).nox (defBody s_l_level) (t_l_level K) := by
  unfold t_l_level
  exact
    (pss_cons (ps_if (pt_cmpR o_in (pe_ix ix_seq (pv 0) pe_int (fun _ _ => rfl)) (pe_tup (pa_cons pe_str (pa_cons pe_str pa_nil))) (by rfl)) (pss_one (ps_ret pe_int)) pss_nil)
    (pss_cons (ps_if (pt_cmpR o_in (pe_ix ix_seq (pv 0) pe_int (fun _ _ => rfl)) (pe_tup (pa_cons pe_str (pa_cons pe_str pa_nil))) (by rfl)) (pss_one (ps_ret pe_int)) pss_nil)
    (pss_cons (ps_if (pt_cmpR o_in (pe_ix ix_seq (pv 0) pe_int (fun _ _ => rfl)) (pe_tup (pa_cons pe_str (pa_cons pe_str pa_nil))) (by rfl)) (pss_one (ps_ret pe_int)) pss_nil)
    (pss_one (ps_ret (pe_ix ix_seq (pe_lst (pa_cons pe_int (pa_cons pe_int pa_nil))) (pe_callTy c_int2 (by rfl) g.b_int (by decide +kernel) (pa_cons (pe_cmpR (o_eq hr.units) (pe_ix ix_seq (pv 0) pe_int (fun _ _ => rfl)) pe_str (nomark _)) pa_nil)) (fun _ _ => rfl)))))))
theorem ok_l_level (g : G w K mg) {sp : Sp} (F : ∃ fd, FunD K "_law_level" "_law_level" (defArgs s_l_level) (defBody s_l_level) (defScope s_l_level) [] [] (He.ga K "_law_level") fd) (m : mg "_law_level" = some (.ref (He.ga K "_law_level")))
    (hsp : ∀ vs H Q E, sp vs H Q E → vs.length = 1 ∧ t_l_level K { nx := fun _ H' => Q .non H', rt := Q } (start N_l_level vs) H) : C8.Cal P w K mg base 1 "_law_level" sp [] := by
  obtain ⟨fd, F⟩ := F
  exact ⟨_, fd, ["_law_tree_here"], [], FunD.ok F sc_l_level (fun vs H Q E h => (hsp vs H Q E h).1) (fun cdv A outer s H vs Q E hr h => ⟨_, PSs.nox (d_l_level g hr), (hsp vs H Q E h).2⟩), m, F.kp, (F.bindsN fun _ _ _ _ _ _ us hl => match us, hl with | [_], _ => rfl), .nil⟩
abbrev N_l_rest : List Str := ["_law_tree_here"]
theorem sc_l_rest : FnScope N_l_rest ["_law_tree_here"] (defScope s_l_rest) := ⟨rfl, rfl, rfl, by decide +kernel, rfl, by decide +kernel, by decide +kernel⟩
def t_l_rest (K : PySem.W.Frag) (sp_l_write : Sp) (sp_l_rest : Sp) : TS :=
    (tSeq (tIfS (tTest (tOp (rEqX K) (tOp (rIx K) (tVar 0) (tC (.int 0))) (tC (.str "then")))) (tRet (tOp (rPlus K) (tOp (rPlus K) (tCall sp_l_write [] C8.E0 (tCons (tOp (rIx K) (tVar 0) (tC (.int 1))) (tCons (tC (.int 0)) tNil))) (tC (.str "; "))) (tCall sp_l_rest [] C8.E0 (tCons (tOp (rIx K) (tVar 0) (tC (.int 2))) tNil)))) tNext)
    (tRet (tCall sp_l_write [] C8.E0 (tCons (tVar 0) (tCons (tC (.int 0)) tNil)))))
theorem d_l_rest (g : G w K mg) {n : Nat} (hn : 1 ≤ n) {sp_l_write : Sp} (c_l_write : C8.Cal P w K mg base n "_law_write" sp_l_write []) {sp_l_rest : Sp} (c_l_rest : C8.Cal P w K mg base n "_law_rest" sp_l_rest []) {f : Addr} {cdv : Value} {A : Around} {outer : List Env} {s : Shared} {H : Hp} {E : XK} (hr : Room n (A.deeper (envOfC "_law_rest" (defScope s_l_rest) s.heap.objs.size f cdv))) :
    PSs (cxOf CX0 P w K mg base N_l_rest "_law_rest" (defScope s_l_rest) f cdv A outer s H E).nox (defBody s_l_rest) (t_l_rest K sp_l_write sp_l_rest) := by
  unfold t_l_rest
  exact
    (pss_cons (ps_if (pt_cmpR (o_eq hr.units) (pe_ix ix_seq (pv 0) pe_int (fun _ _ => rfl)) pe_str (nomark _)) (pss_one (ps_ret (pe_op o_plus (pe_op o_plus (C8.pe_c c_l_write hr (by omega) rfl (pa_cons (pe_ix ix_seq (pv 0) pe_int (fun _ _ => rfl)) (pa_cons pe_int pa_nil))) pe_str) (C8.pe_c c_l_rest hr (by omega) rfl (pa_cons (pe_ix ix_seq (pv 0) pe_int (fun _ _ => rfl)) pa_nil))))) pss_nil)
    (pss_one (ps_ret (C8.pe_c c_l_write hr (by omega) rfl (pa_cons (pv 0) (pa_cons pe_int pa_nil))))))
theorem zz_l_rest (g : G w K mg) (k : Nat) (F : ∃ fd, FunD K "_law_rest" "_law_rest" (defArgs s_l_rest) (defBody s_l_rest) (defScope s_l_rest) [] [] (He.ga K "_law_rest") fd) (m : mg "_law_rest" = some (.ref (He.ga K "_law_rest"))) : C8.Cal P w K mg base k "_law_rest" (fun _ _ _ _ => False) [] := by
  obtain ⟨fd, F⟩ := F
  exact ⟨_, fd, ["_law_tree_here"], [], ⟨fun _ _ _ _ h => h.elim, fun _ _ _ _ _ _ _ _ _ _ _ _ _ h => h.elim⟩, m, F.kp, (F.bindsN fun _ _ _ _ _ _ us hl => match us, hl with | [_], _ => rfl), .nil⟩
theorem ok_l_rest (g : G w K mg) {n : Nat} (hn : 1 ≤ n) {sp_l_write : Sp} (c_l_write : C8.Cal P w K mg base n "_law_write" sp_l_write []) {sp_l_rest : Sp} (c_l_rest : C8.Cal P w K mg base n "_law_rest" sp_l_rest []) {sp : Sp} (F : ∃ fd, FunD K "_law_rest" "_law_rest" (defArgs s_l_rest) (defBody s_l_rest) (defScope s_l_rest) [] [] (He.ga K "_law_rest") fd) (m : mg "_law_rest" = some (.ref (He.ga K "_law_rest")))
    (hsp : ∀ vs H Q E, sp vs H Q E → vs.length = 1 ∧ t_l_rest K sp_l_write sp_l_rest { nx := fun _ H' => Q .non H', rt := Q } (start N_l_rest vs) H) : C8.Cal P w K mg base (n + 1) "_law_rest" sp [] := by
  obtain ⟨fd, F⟩ := F
  exact ⟨_, fd, ["_law_tree_here"], [], FunD.ok F sc_l_rest (fun vs H Q E h => (hsp vs H Q E h).1) (fun cdv A outer s H vs Q E hr h => ⟨_, PSs.nox (d_l_rest g hn c_l_write c_l_rest hr), (hsp vs H Q E h).2⟩), m, F.kp, (F.bindsN fun _ _ _ _ _ _ us hl => match us, hl with | [_], _ => rfl), .nil⟩
abbrev N_l_write : List Str := ["_law_tree_here", "_law_least", "_law_word", "_law_text_here", "_law_level_here", "_law_part"]
theorem sc_l_write : FnScope N_l_write ["_law_tree_here", "_law_least"] (defScope s_l_write) := ⟨rfl, rfl, rfl, by decide +kernel, rfl, by decide +kernel, by decide +kernel⟩
def t_l_write (K : PySem.W.Frag) (sp_l_level : Sp) (sp_l_write : Sp) (sp_l_rest : Sp) : TS :=
    (tSeq (tAsg (tOp (rIx K) (tVar 0) (tC (.int 0))) (gName 2))
    (tSeq (tAsg (tC (.str "")) (gName 3))
    (C8.tCut (tIfS (tTest (tOp (rEqX K) (tVar 2) (tC (.str "number")))) (tAsg (tCB (rStrX) (tCons (tOp (rIx K) (tVar 0) (tC (.int 1))) tNil)) (gName 3)) (tIfS (tTest (tOp (rEqX K) (tVar 2) (tC (.str "string")))) (tAsg (tOp (rPlus K) (tOp (rPlus K) (tC (.str "\"")) (tOp (rIx K) (tVar 0) (tC (.int 1)))) (tC (.str "\""))) (gName 3)) (tIfS (tTest (tOp (rEqX K) (tVar 2) (tC (.str "name")))) (tAsg (tOp (rIx K) (tVar 0) (tC (.int 1))) (gName 3)) (tIfS (tTest (tOp (rEqX K) (tVar 2) (tC (.str "call")))) (tAsg (tOp (rPlus K) (tOp (rPlus K) (tOp (rPlus K) (tOp (rIx K) (tVar 0) (tC (.int 1))) (tC (.str "("))) (tBM K "str" (rJoin K) (tC (.str ", ")) (tCons (tLc (iAny K (tOp (rIx K) (tVar 0) (tC (.int 2)))) (gName 5) tYes (tCall sp_l_write [] C8.E0 (tCons (tVar 5) (tCons (tC (.int 0)) tNil))) [5]) tNil))) (tC (.str ")"))) (gName 3)) (tIfS (tTest (tOp (rEqX K) (tVar 2) (tC (.str "then")))) (tAsg (tOp (rPlus K) (tOp (rPlus K) (tC (.str "(")) (tCall sp_l_rest [] C8.E0 (tCons (tVar 0) tNil))) (tC (.str ")"))) (gName 3)) (tIfS (tTest (tOp (rEqX K) (tVar 2) (tC (.str "if")))) (tAsg (tOp (rPlus K) (tOp (rPlus K) (tOp (rPlus K) (tOp (rPlus K) (tOp (rPlus K) (tC (.str "if ")) (tCall sp_l_write [] C8.E0 (tCons (tOp (rIx K) (tVar 0) (tC (.int 1))) (tCons (tC (.int 0)) tNil)))) (tC (.str " then "))) (tCall sp_l_write [] C8.E0 (tCons (tOp (rIx K) (tVar 0) (tC (.int 2))) (tCons (tC (.int 0)) tNil)))) (tC (.str " else "))) (tCall sp_l_write [] C8.E0 (tCons (tOp (rIx K) (tVar 0) (tC (.int 3))) (tCons (tC (.int 0)) tNil)))) (gName 3)) (tIfS (tTest (tOp (rEqX K) (tVar 2) (tC (.str "set")))) (tAsg (tOp (rPlus K) (tOp (rPlus K) (tOp (rPlus K) (tC (.str "set ")) (tOp (rIx K) (tVar 0) (tC (.int 1)))) (tC (.str " = "))) (tCall sp_l_write [] C8.E0 (tCons (tOp (rIx K) (tVar 0) (tC (.int 2))) (tCons (tC (.int 0)) tNil)))) (gName 3)) (tSeq (tAsg (tCall sp_l_level [] C8.E0 (tCons (tVar 0) tNil)) (gName 4))
    (tAsg (tOp (rPlus K) (tOp (rPlus K) (tOp (rPlus K) (tOp (rPlus K) (tCall sp_l_write [] C8.E0 (tCons (tOp (rIx K) (tVar 0) (tC (.int 1))) (tCons (tOp (rPlus K) (tVar 4) (tCB (rIntY) (tCons (tOp (rEqX K) (tVar 4) (tC (.int 1))) tNil))) tNil))) (tC (.str " "))) (tVar 2)) (tC (.str " "))) (tCall sp_l_write [] C8.E0 (tCons (tOp (rIx K) (tVar 0) (tC (.int 2))) (tCons (tOp (rPlus K) (tVar 4) (tC (.int 1))) tNil)))) (gName 3))))))))))
    (tSeq (tIfS (tTest (tOp rLt (tCall sp_l_level [] C8.E0 (tCons (tVar 0) tNil)) (tVar 1))) (tRet (tOp (rPlus K) (tOp (rPlus K) (tC (.str "(")) (tVar 3)) (tC (.str ")")))) tNext)
    (tRet (tVar 3))))))
theorem d_l_write (g : G w K mg) {n : Nat} (hn : 1 ≤ n) {sp_l_level : Sp} (c_l_level : C8.Cal P w K mg base 1 "_law_level" sp_l_level []) {sp_l_write : Sp} (c_l_write : C8.Cal P w K mg base n "_law_write" sp_l_write []) {sp_l_rest : Sp} (c_l_rest : C8.Cal P w K mg base n "_law_rest" sp_l_rest []) {f : Addr} {cdv : Value} {A : Around} {outer : List Env} {s : Shared} {H : Hp} {E : XK} (hr : Room n (A.deeper (envOfC "_law_write" (defScope s_l_write) s.heap.objs.size f cdv))) :
    PSs (cxOf CX0 P w K mg base N_l_write "_law_write" (defScope s_l_write) f cdv A outer s H E).nox (defBody s_l_write) (t_l_write K sp_l_level sp_l_write sp_l_rest) := by
  unfold t_l_write
  exact
    (pss_cons (ps_set (i := 2) sc_l_write.nd rfl (by first | exact Or.inl rfl | exact Or.inr rfl) (pe_ix ix_seq (pv 0) pe_int (fun _ _ => rfl)))
    (pss_cons (ps_set (i := 3) sc_l_write.nd rfl (by first | exact Or.inl rfl | exact Or.inr rfl) pe_str)
    (C8.pss_cut (ps_if (pt_cmpR (o_eq hr.units) (pv 2) pe_str (nomark _)) (pss_one (ps_set (i := 3) sc_l_write.nd rfl (by first | exact Or.inl rfl | exact Or.inr rfl) (pe_callTy c_str (by rfl) g.b_str (by decide +kernel) (pa_cons (pe_ix ix_seq (pv 0) pe_int (fun _ _ => rfl)) pa_nil)))) (pss_one (ps_if (pt_cmpR (o_eq hr.units) (pv 2) pe_str (nomark _)) (pss_one (ps_set (i := 3) sc_l_write.nd rfl (by first | exact Or.inl rfl | exact Or.inr rfl) (pe_op o_plus (pe_op o_plus pe_str (pe_ix ix_seq (pv 0) pe_int (fun _ _ => rfl))) pe_str))) (pss_one (ps_if (pt_cmpR (o_eq hr.units) (pv 2) pe_str (nomark _)) (pss_one (ps_set (i := 3) sc_l_write.nd rfl (by first | exact Or.inl rfl | exact Or.inr rfl) (pe_ix ix_seq (pv 0) pe_int (fun _ _ => rfl)))) (pss_one (ps_if (pt_cmpR (o_eq hr.units) (pv 2) pe_str (nomark _)) (pss_one (ps_set (i := 3) sc_l_write.nd rfl (by first | exact Or.inl rfl | exact Or.inr rfl) (pe_op o_plus (pe_op o_plus (pe_op o_plus (pe_ix ix_seq (pv 0) pe_int (fun _ _ => rfl)) pe_str) (pe_bm PySem.F.plainAttrs_str PySem.F.slot_str_join PySem.F.type_str_join m_join pe_str (pa_cons (pe_lc (own := [("_law_part", 5)]) (tt := tYes) rfl sc_l_write.nd (pi_any (pe_ix ix_seq (pv 0) pe_int (fun _ _ => rfl))) (blkOk_by (N := N_l_write) (sc := defScope s_l_write) (by decide +kernel)) (fun _ _ _ _ _ => (pg_name (i := 5) sc_l_write.nd rfl (by first | exact Or.inl rfl | exact Or.inr rfl))) (fun _ _ _ _ _ => pts_nil) (fun _ _ _ _ _ => (C8.pe_c c_l_write hr (by omega) rfl (pa_cons (pv 5) (pa_cons pe_int pa_nil))))) pa_nil))) pe_str))) (pss_one (ps_if (pt_cmpR (o_eq hr.units) (pv 2) pe_str (nomark _)) (pss_one (ps_set (i := 3) sc_l_write.nd rfl (by first | exact Or.inl rfl | exact Or.inr rfl) (pe_op o_plus (pe_op o_plus pe_str (C8.pe_c c_l_rest hr (by omega) rfl (pa_cons (pv 0) pa_nil))) pe_str))) (pss_one (ps_if (pt_cmpR (o_eq hr.units) (pv 2) pe_str (nomark _)) (pss_one (ps_set (i := 3) sc_l_write.nd rfl (by first | exact Or.inl rfl | exact Or.inr rfl) (pe_op o_plus (pe_op o_plus (pe_op o_plus (pe_op o_plus (pe_op o_plus pe_str (C8.pe_c c_l_write hr (by omega) rfl (pa_cons (pe_ix ix_seq (pv 0) pe_int (fun _ _ => rfl)) (pa_cons pe_int pa_nil)))) pe_str) (C8.pe_c c_l_write hr (by omega) rfl (pa_cons (pe_ix ix_seq (pv 0) pe_int (fun _ _ => rfl)) (pa_cons pe_int pa_nil)))) pe_str) (C8.pe_c c_l_write hr (by omega) rfl (pa_cons (pe_ix ix_seq (pv 0) pe_int (fun _ _ => rfl)) (pa_cons pe_int pa_nil)))))) (pss_one (ps_if (pt_cmpR (o_eq hr.units) (pv 2) pe_str (nomark _)) (pss_one (ps_set (i := 3) sc_l_write.nd rfl (by first | exact Or.inl rfl | exact Or.inr rfl) (pe_op o_plus (pe_op o_plus (pe_op o_plus pe_str (pe_ix ix_seq (pv 0) pe_int (fun _ _ => rfl))) pe_str) (C8.pe_c c_l_write hr (by omega) rfl (pa_cons (pe_ix ix_seq (pv 0) pe_int (fun _ _ => rfl)) (pa_cons pe_int pa_nil)))))) (pss_cons (ps_set (i := 4) sc_l_write.nd rfl (by first | exact Or.inl rfl | exact Or.inr rfl) (C8.pe_c c_l_level hr (by omega) rfl (pa_cons (pv 0) pa_nil)))
    (pss_one (ps_set (i := 3) sc_l_write.nd rfl (by first | exact Or.inl rfl | exact Or.inr rfl) (pe_op o_plus (pe_op o_plus (pe_op o_plus (pe_op o_plus (C8.pe_c c_l_write hr (by omega) rfl (pa_cons (pe_ix ix_seq (pv 0) pe_int (fun _ _ => rfl)) (pa_cons (pe_op o_plus (pv 4) (pe_callTy c_int2 (by rfl) g.b_int (by decide +kernel) (pa_cons (pe_cmpR (o_eq hr.units) (pv 4) pe_int (nomark _)) pa_nil))) pa_nil))) pe_str) (pv 2)) pe_str) (C8.pe_c c_l_write hr (by omega) rfl (pa_cons (pe_ix ix_seq (pv 0) pe_int (fun _ _ => rfl)) (pa_cons (pe_op o_plus (pv 4) pe_int) pa_nil))))))))))))))))))))
    (pss_cons (ps_if (pt_cmpR o_lt (C8.pe_c c_l_level hr (by omega) rfl (pa_cons (pv 0) pa_nil)) (pv 1) (nomark _)) (pss_one (ps_ret (pe_op o_plus (pe_op o_plus pe_str (pv 3)) pe_str))) pss_nil)
    (pss_one (ps_ret (pv 3)))))))
theorem zz_l_write (g : G w K mg) (k : Nat) (F : ∃ fd, FunD K "_law_write" "_law_write" (defArgs s_l_write) (defBody s_l_write) (defScope s_l_write) [] [] (He.ga K "_law_write") fd) (m : mg "_law_write" = some (.ref (He.ga K "_law_write"))) : C8.Cal P w K mg base k "_law_write" (fun _ _ _ _ => False) [] := by
  obtain ⟨fd, F⟩ := F
  exact ⟨_, fd, ["_law_tree_here", "_law_least"], [], ⟨fun _ _ _ _ h => h.elim, fun _ _ _ _ _ _ _ _ _ _ _ _ _ h => h.elim⟩, m, F.kp, (F.bindsN fun _ _ _ _ _ _ us hl => match us, hl with | [_, _], _ => rfl), .nil⟩
theorem ok_l_write (g : G w K mg) {n : Nat} (hn : 1 ≤ n) {sp_l_level : Sp} (c_l_level : C8.Cal P w K mg base 1 "_law_level" sp_l_level []) {sp_l_write : Sp} (c_l_write : C8.Cal P w K mg base n "_law_write" sp_l_write []) {sp_l_rest : Sp} (c_l_rest : C8.Cal P w K mg base n "_law_rest" sp_l_rest []) {sp : Sp} (F : ∃ fd, FunD K "_law_write" "_law_write" (defArgs s_l_write) (defBody s_l_write) (defScope s_l_write) [] [] (He.ga K "_law_write") fd) (m : mg "_law_write" = some (.ref (He.ga K "_law_write")))
    (hsp : ∀ vs H Q E, sp vs H Q E → vs.length = 2 ∧ t_l_write K sp_l_level sp_l_write sp_l_rest { nx := fun _ H' => Q .non H', rt := Q } (start N_l_write vs) H) : C8.Cal P w K mg base (n + 1) "_law_write" sp [] := by
  obtain ⟨fd, F⟩ := F
  exact ⟨_, fd, ["_law_tree_here", "_law_least"], [], FunD.ok F sc_l_write (fun vs H Q E h => (hsp vs H Q E h).1) (fun cdv A outer s H vs Q E hr h => ⟨_, PSs.nox (d_l_write g hn c_l_level c_l_write c_l_rest hr), (hsp vs H Q E h).2⟩), m, F.kp, (F.bindsN fun _ _ _ _ _ _ us hl => match us, hl with | [_, _], _ => rfl), .nil⟩
abbrev N_l_pairs : List Str := ["_law_pairs_here", "_law_rows", "_law_name", "_law_called"]
theorem sc_l_pairs : FnScope N_l_pairs ["_law_pairs_here"] (defScope s_l_pairs) := ⟨rfl, rfl, rfl, by decide +kernel, rfl, by decide +kernel, by decide +kernel⟩
def t_l_pairs (K : PySem.W.Frag) : TS :=
    (tSeq (tAsg (tLst tNil) (gName 1))
    (tSeq (tFor (iAny K (tVar 0)) (gUnp K 2 (gCons (gName 2) (gCons (gName 3) gNil))) (tDrop (tBM K "list" rAppend (tVar 1) (tCons (tOp (rIx K) (tLst (tCons (tOp (rPlus K) (tOp (rPlus K) (tVar 2) (tC (.str " as "))) (tVar 3)) (tCons (tVar 2) tNil))) (tCB (rIntY) (tCons (tOp (rEqX K) (tVar 2) (tVar 3)) tNil))) tNil))))
    (tRet (tBM K "str" (rJoin K) (tC (.str ", ")) (tCons (tVar 1) tNil)))))
theorem d_l_pairs (g : G w K mg) {f : Addr} {cdv : Value} {A : Around} {outer : List Env} {s : Shared} {H : Hp} {E : XK} (hr : Room 0 (A.deeper (envOfC "_law_pairs" (defScope s_l_pairs) s.heap.objs.size f cdv))) :
    PSs (cxOf CX0 P w K mg base N_l_pairs "_law_pairs" (defScope s_l_pairs) f cdv A outer s H E).nox (defBody s_l_pairs) (t_l_pairs K) := by
  unfold t_l_pairs
  exact
    (pss_cons (ps_set (i := 1) sc_l_pairs.nd rfl (by first | exact Or.inl rfl | exact Or.inr rfl) (pe_lst pa_nil))
    (pss_cons (ps_for PassesOwn.never rfl (pi_any (pv 0)) (pg_unp rfl (pgs_cons (pg_name (i := 2) sc_l_pairs.nd rfl (by first | exact Or.inl rfl | exact Or.inr rfl)) (pgs_cons (pg_name (i := 3) sc_l_pairs.nd rfl (by first | exact Or.inl rfl | exact Or.inr rfl)) pgs_nil))) (pss_one (ps_expr (pe_bm PySem.F.plainAttrs_list PySem.F.slot_list_append PySem.F.type_list_append mt_append (pv 1) (pa_cons (pe_ix ix_seq (pe_lst (pa_cons (pe_op o_plus (pe_op o_plus (pv 2) pe_str) (pv 3)) (pa_cons (pv 2) pa_nil))) (pe_callTy c_int2 (by rfl) g.b_int (by decide +kernel) (pa_cons (pe_cmpR (o_eq hr.units) (pv 2) (pv 3) (nomark _)) pa_nil)) (fun _ _ => rfl)) pa_nil)))))
    (pss_one (ps_ret (pe_bm PySem.F.plainAttrs_str PySem.F.slot_str_join PySem.F.type_str_join m_join pe_str (pa_cons (pv 1) pa_nil))))))
theorem ok_l_pairs (g : G w K mg) {sp : Sp} (F : ∃ fd, FunD K "_law_pairs" "_law_pairs" (defArgs s_l_pairs) (defBody s_l_pairs) (defScope s_l_pairs) [] [] (He.ga K "_law_pairs") fd) (m : mg "_law_pairs" = some (.ref (He.ga K "_law_pairs")))
    (hsp : ∀ vs H Q E, sp vs H Q E → vs.length = 1 ∧ t_l_pairs K { nx := fun _ H' => Q .non H', rt := Q } (start N_l_pairs vs) H) : C8.Cal P w K mg base 1 "_law_pairs" sp [] := by
  obtain ⟨fd, F⟩ := F
  exact ⟨_, fd, ["_law_pairs_here"], [], FunD.ok F sc_l_pairs (fun vs H Q E h => (hsp vs H Q E h).1) (fun cdv A outer s H vs Q E hr h => ⟨_, PSs.nox (d_l_pairs g hr), (hsp vs H Q E h).2⟩), m, F.kp, (F.bindsN fun _ _ _ _ _ _ us hl => match us, hl with | [_], _ => rfl), .nil⟩
abbrev N_l_line : List Str := ["_law_line_here", "_law_word"]
theorem sc_l_line : FnScope N_l_line ["_law_line_here"] (defScope s_l_line) := ⟨rfl, rfl, rfl, by decide +kernel, rfl, by decide +kernel, by decide +kernel⟩
def t_l_line (K : PySem.W.Frag) (sp_l_write : Sp) (sp_l_pairs : Sp) : TS :=
    (tSeq (tAsg (tOp (rIx K) (tVar 0) (tC (.int 0))) (gName 1))
    (tSeq (tIfS (tTest (tOp (rInX K false) (tVar 1) (tTup (tCons (tC (.str "import")) (tCons (tC (.str "export")) tNil))))) (tRet (tOp (rPlus K) (tOp (rPlus K) (tOp (rPlus K) (tOp (rPlus K) (tVar 1) (tC (.str " "))) (tCall sp_l_pairs [] C8.E0 (tCons (tOp (rIx K) (tVar 0) (tC (.int 1))) tNil))) (tC (.str " from "))) (tOp (rIx K) (tVar 0) (tC (.int 2))))) tNext)
    (tSeq (tIfS (tTest (tOp (rInX K false) (tVar 1) (tTup (tCons (tC (.str "let")) (tCons (tC (.str "keep")) tNil))))) (tRet (tOp (rPlus K) (tOp (rPlus K) (tOp (rPlus K) (tOp (rPlus K) (tVar 1) (tC (.str " "))) (tOp (rIx K) (tVar 0) (tC (.int 1)))) (tC (.str " = "))) (tCall sp_l_write [] C8.E0 (tCons (tOp (rIx K) (tVar 0) (tC (.int 2))) (tCons (tC (.int 0)) tNil))))) tNext)
    (tSeq (tIfS (tTest (tOp (rEqX K) (tVar 1) (tC (.str "fn")))) (tRet (tOp (rPlus K) (tOp (rPlus K) (tOp (rPlus K) (tOp (rPlus K) (tOp (rPlus K) (tC (.str "fn ")) (tOp (rIx K) (tVar 0) (tC (.int 1)))) (tC (.str "("))) (tBM K "str" (rJoin K) (tC (.str ", ")) (tCons (tOp (rIx K) (tVar 0) (tC (.int 2))) tNil))) (tC (.str ") = "))) (tCall sp_l_write [] C8.E0 (tCons (tOp (rIx K) (tVar 0) (tC (.int 3))) (tCons (tC (.int 0)) tNil))))) tNext)
    (tRet (tOp (rPlus K) (tOp (rPlus K) (tVar 1) (tC (.str " "))) (tCall sp_l_write [] C8.E0 (tCons (tOp (rIx K) (tVar 0) (tC (.int 1))) (tCons (tC (.int 0)) tNil)))))))))
theorem d_l_line (g : G w K mg) {sp_l_write : Sp} (c_l_write : C8.Cal P w K mg base 77 "_law_write" sp_l_write []) {sp_l_pairs : Sp} (c_l_pairs : C8.Cal P w K mg base 1 "_law_pairs" sp_l_pairs []) {f : Addr} {cdv : Value} {A : Around} {outer : List Env} {s : Shared} {H : Hp} {E : XK} (hr : Room 77 (A.deeper (envOfC "_law_line" (defScope s_l_line) s.heap.objs.size f cdv))) :
    PSs (cxOf CX0 P w K mg base N_l_line "_law_line" (defScope s_l_line) f cdv A outer s H E).nox (defBody s_l_line) (t_l_line K sp_l_write sp_l_pairs) := by
  unfold t_l_line
  exact
    (pss_cons (ps_set (i := 1) sc_l_line.nd rfl (by first | exact Or.inl rfl | exact Or.inr rfl) (pe_ix ix_seq (pv 0) pe_int (fun _ _ => rfl)))
    (pss_cons (ps_if (pt_cmpR o_in (pv 1) (pe_tup (pa_cons pe_str (pa_cons pe_str pa_nil))) (by rfl)) (pss_one (ps_ret (pe_op o_plus (pe_op o_plus (pe_op o_plus (pe_op o_plus (pv 1) pe_str) (C8.pe_c c_l_pairs hr (by decide) rfl (pa_cons (pe_ix ix_seq (pv 0) pe_int (fun _ _ => rfl)) pa_nil))) pe_str) (pe_ix ix_seq (pv 0) pe_int (fun _ _ => rfl))))) pss_nil)
    (pss_cons (ps_if (pt_cmpR o_in (pv 1) (pe_tup (pa_cons pe_str (pa_cons pe_str pa_nil))) (by rfl)) (pss_one (ps_ret (pe_op o_plus (pe_op o_plus (pe_op o_plus (pe_op o_plus (pv 1) pe_str) (pe_ix ix_seq (pv 0) pe_int (fun _ _ => rfl))) pe_str) (C8.pe_c c_l_write hr (by decide) rfl (pa_cons (pe_ix ix_seq (pv 0) pe_int (fun _ _ => rfl)) (pa_cons pe_int pa_nil)))))) pss_nil)
    (pss_cons (ps_if (pt_cmpR (o_eq hr.units) (pv 1) pe_str (nomark _)) (pss_one (ps_ret (pe_op o_plus (pe_op o_plus (pe_op o_plus (pe_op o_plus (pe_op o_plus pe_str (pe_ix ix_seq (pv 0) pe_int (fun _ _ => rfl))) pe_str) (pe_bm PySem.F.plainAttrs_str PySem.F.slot_str_join PySem.F.type_str_join m_join pe_str (pa_cons (pe_ix ix_seq (pv 0) pe_int (fun _ _ => rfl)) pa_nil))) pe_str) (C8.pe_c c_l_write hr (by decide) rfl (pa_cons (pe_ix ix_seq (pv 0) pe_int (fun _ _ => rfl)) (pa_cons pe_int pa_nil)))))) pss_nil)
    (pss_one (ps_ret (pe_op o_plus (pe_op o_plus (pv 1) pe_str) (C8.pe_c c_l_write hr (by decide) rfl (pa_cons (pe_ix ix_seq (pv 0) pe_int (fun _ _ => rfl)) (pa_cons pe_int pa_nil))))))))))
theorem ok_l_line (g : G w K mg) {sp_l_write : Sp} (c_l_write : C8.Cal P w K mg base 77 "_law_write" sp_l_write []) {sp_l_pairs : Sp} (c_l_pairs : C8.Cal P w K mg base 1 "_law_pairs" sp_l_pairs []) {sp : Sp} (F : ∃ fd, FunD K "_law_line" "_law_line" (defArgs s_l_line) (defBody s_l_line) (defScope s_l_line) [] [] (He.ga K "_law_line") fd) (m : mg "_law_line" = some (.ref (He.ga K "_law_line")))
    (hsp : ∀ vs H Q E, sp vs H Q E → vs.length = 1 ∧ t_l_line K sp_l_write sp_l_pairs { nx := fun _ H' => Q .non H', rt := Q } (start N_l_line vs) H) : C8.Cal P w K mg base 78 "_law_line" sp [] := by
  obtain ⟨fd, F⟩ := F
  exact ⟨_, fd, ["_law_line_here"], [], FunD.ok F sc_l_line (fun vs H Q E h => (hsp vs H Q E h).1) (fun cdv A outer s H vs Q E hr h => ⟨_, PSs.nox (d_l_line g c_l_write c_l_pairs hr), (hsp vs H Q E h).2⟩), m, F.kp, (F.bindsN fun _ _ _ _ _ _ us hl => match us, hl with | [_], _ => rfl), .nil⟩
abbrev N_l_text : List Str := ["_law_lines", "_law_line_here"]
theorem sc_l_text : FnScope N_l_text ["_law_lines"] (defScope s_l_text) := ⟨rfl, rfl, rfl, by decide +kernel, rfl, by decide +kernel, by decide +kernel⟩
def t_l_text (K : PySem.W.Frag) (sp_l_line : Sp) : TS :=
    (tRet (tBM K "str" (rJoin K) (tC (.str "\n")) (tCons (tLc (iAny K (tVar 0)) (gName 1) tYes (tCall sp_l_line [] C8.E0 (tCons (tVar 1) tNil)) [1]) tNil)))
theorem d_l_text (g : G w K mg) {sp_l_line : Sp} (c_l_line : C8.Cal P w K mg base 78 "_law_line" sp_l_line []) {f : Addr} {cdv : Value} {A : Around} {outer : List Env} {s : Shared} {H : Hp} {E : XK} (hr : Room 78 (A.deeper (envOfC "_law_text" (defScope s_l_text) s.heap.objs.size f cdv))) :
    PSs (cxOf CX0 P w K mg base N_l_text "_law_text" (defScope s_l_text) f cdv A outer s H E).nox (defBody s_l_text) (t_l_text K sp_l_line) := by
  unfold t_l_text
  exact
    (pss_one (ps_ret (pe_bm PySem.F.plainAttrs_str PySem.F.slot_str_join PySem.F.type_str_join m_join pe_str (pa_cons (pe_lc (own := [("_law_line_here", 1)]) (tt := tYes) rfl sc_l_text.nd (pi_any (pv 0)) (blkOk_by (N := N_l_text) (sc := defScope s_l_text) (by decide +kernel)) (fun _ _ _ _ _ => (pg_name (i := 1) sc_l_text.nd rfl (by first | exact Or.inl rfl | exact Or.inr rfl))) (fun _ _ _ _ _ => pts_nil) (fun _ _ _ _ _ => (C8.pe_c c_l_line hr (by decide) rfl (pa_cons (pv 1) pa_nil)))) pa_nil))))
theorem ok_l_text (g : G w K mg) {sp_l_line : Sp} (c_l_line : C8.Cal P w K mg base 78 "_law_line" sp_l_line []) {sp : Sp} (F : ∃ fd, FunD K "_law_text" "_law_text" (defArgs s_l_text) (defBody s_l_text) (defScope s_l_text) [] [] (He.ga K "_law_text") fd) (m : mg "_law_text" = some (.ref (He.ga K "_law_text")))
    (hsp : ∀ vs H Q E, sp vs H Q E → vs.length = 1 ∧ t_l_text K sp_l_line { nx := fun _ H' => Q .non H', rt := Q } (start N_l_text vs) H) : C8.Cal P w K mg base 79 "_law_text" sp [] := by
  obtain ⟨fd, F⟩ := F
  exact ⟨_, fd, ["_law_lines"], [], FunD.ok F sc_l_text (fun vs H Q E h => (hsp vs H Q E h).1) (fun cdv A outer s H vs Q E hr h => ⟨_, PSs.nox (d_l_text g c_l_line hr), (hsp vs H Q E h).2⟩), m, F.kp, (F.bindsN fun _ _ _ _ _ _ us hl => match us, hl with | [_], _ => rfl), .nil⟩
abbrev N_l_alike : List Str := ["_law_one", "_law_two"]
theorem sc_l_alike : FnScope N_l_alike ["_law_one", "_law_two"] (defScope s_l_alike) := ⟨rfl, rfl, rfl, by decide +kernel, rfl, by decide +kernel, by decide +kernel⟩
def t_l_alike (K : PySem.W.Frag) : TS :=
    (tRet (tOp (rEqX K) (tCB (rReprX K) (tCons (tVar 0) tNil)) (tCB (rReprX K) (tCons (tVar 1) tNil))))
theorem d_l_alike (g : G w K mg) {f : Addr} {cdv : Value} {A : Around} {outer : List Env} {s : Shared} {H : Hp} {E : XK} (hr : Room 0 (A.deeper (envOfC "_law_alike" (defScope s_l_alike) s.heap.objs.size f cdv))) (hgd : (A.deeper (envOfC "_law_alike" (defScope s_l_alike) s.heap.objs.size f cdv)).guards = some []) :
    PSs (cxOf CX0 P w K mg base N_l_alike "_law_alike" (defScope s_l_alike) f cdv A outer s H E).nox (defBody s_l_alike) (t_l_alike K) := by
  unfold t_l_alike
  exact
    (pss_one (ps_ret (pe_cmpR (o_eq hr.units) (pe_callB (c_repr hr.units hgd) (by rfl) g.b_repr (by decide +kernel) (pa_cons (pv 0) pa_nil)) (pe_callB (c_repr hr.units hgd) (by rfl) g.b_repr (by decide +kernel) (pa_cons (pv 1) pa_nil)) (nomark _))))
theorem ok_l_alike (g : G w K mg) {sp : Sp} (F : ∃ fd, FunD K "_law_alike" "_law_alike" (defArgs s_l_alike) (defBody s_l_alike) (defScope s_l_alike) [] [] (He.ga K "_law_alike") fd) (m : mg "_law_alike" = some (.ref (He.ga K "_law_alike")))
    (hsp : ∀ vs H Q E, sp vs H Q E → vs.length = 2 ∧ t_l_alike K { nx := fun _ H' => Q .non H', rt := Q } (start N_l_alike vs) H) : CalG P w K mg base 1 "_law_alike" sp [] := by
  obtain ⟨fd, F⟩ := F
  exact ⟨_, fd, ["_law_one", "_law_two"], [], okG F sc_l_alike (fun vs H Q E h => (hsp vs H Q E h).1) (fun cdv A outer s H vs Q E hr hgd h => ⟨_, PSs.nox (d_l_alike g hr hgd), (hsp vs H Q E h).2⟩), m, F.kp, (F.bindsN fun _ _ _ _ _ _ us hl => match us, hl with | [_, _], _ => rfl), .nil⟩
abbrev N_l_height : List Str := ["_law_tree_here", "_law_parts", "_law_part"]
theorem sc_l_height : FnScope N_l_height ["_law_tree_here"] (defScope s_l_height) := ⟨rfl, rfl, rfl, by decide +kernel, rfl, by decide +kernel, by decide +kernel⟩
def t_l_height (K : PySem.W.Frag) (sp_l_height : Sp) : TS :=
    (tSeq (tIfS (tTest (tOp (rInX K false) (tOp (rIx K) (tVar 0) (tC (.int 0))) (tTup (tCons (tC (.str "number")) (tCons (tC (.str "string")) (tCons (tC (.str "name")) tNil)))))) (tRet (tC (.int 1))) tNext)
    (tSeq (tAsg (tCB (rListOf K) (tCons (tSl (rSlX K) (tVar 0) (tPart (tC (.int 1))) tNoPart) tNil)) (gName 1))
    (C8.tCut (tIfS (tTest (tOp (rEqX K) (tOp (rIx K) (tVar 0) (tC (.int 0))) (tC (.str "call")))) (tAsg (tCB (rListOf K) (tCons (tOp (rIx K) (tVar 0) (tC (.int 2))) tNil)) (gName 1)) tNext)
    (C8.tCut (tIfS (tTest (tOp (rEqX K) (tOp (rIx K) (tVar 0) (tC (.int 0))) (tC (.str "set")))) (tAsg (tLst (tCons (tOp (rIx K) (tVar 0) (tC (.int 2))) tNil)) (gName 1)) tNext)
    (tSeq (tIfS (tTest (tOp (rEqX K) (tVar 1) (tLst tNil))) (tRet (tC (.int 1))) tNext)
    (tRet (tOp (rPlus K) (tC (.int 1)) (tCB (rMax K) (tCons (tLc (iAny K (tVar 1)) (gName 2) tYes (tCall sp_l_height [] C8.E0 (tCons (tVar 2) tNil)) [2]) tNil)))))))))
theorem d_l_height (g : G w K mg) {n : Nat} (hn : 0 ≤ n) {sp_l_height : Sp} (c_l_height : C8.Cal P w K mg base n "_law_height" sp_l_height []) {f : Addr} {cdv : Value} {A : Around} {outer : List Env} {s : Shared} {H : Hp} {E : XK} (hr : Room n (A.deeper (envOfC "_law_height" (defScope s_l_height) s.heap.objs.size f cdv))) :
    PSs (cxOf CX0 P w K mg base N_l_height "_law_height" (defScope s_l_height) f cdv A outer s H E).nox (defBody s_l_height) (t_l_height K sp_l_height) := by
  unfold t_l_height
  exact
    (pss_cons (ps_if (pt_cmpR o_in (pe_ix ix_seq (pv 0) pe_int (fun _ _ => rfl)) (pe_tup (pa_cons pe_str (pa_cons pe_str (pa_cons pe_str pa_nil)))) (by rfl)) (pss_one (ps_ret pe_int)) pss_nil)
    (pss_cons (ps_set (i := 1) sc_l_height.nd rfl (by first | exact Or.inl rfl | exact Or.inr rfl) (pe_callTy c_list (by rfl) g.b_list (by decide +kernel) (pa_cons (pe_slice sl_any (pv 0) (po_some pe_int) po_none) pa_nil)))
    (C8.pss_cut (ps_if (pt_cmpR (o_eq hr.units) (pe_ix ix_seq (pv 0) pe_int (fun _ _ => rfl)) pe_str (nomark _)) (pss_one (ps_set (i := 1) sc_l_height.nd rfl (by first | exact Or.inl rfl | exact Or.inr rfl) (pe_callTy c_list (by rfl) g.b_list (by decide +kernel) (pa_cons (pe_ix ix_seq (pv 0) pe_int (fun _ _ => rfl)) pa_nil)))) pss_nil)
    (C8.pss_cut (ps_if (pt_cmpR (o_eq hr.units) (pe_ix ix_seq (pv 0) pe_int (fun _ _ => rfl)) pe_str (nomark _)) (pss_one (ps_set (i := 1) sc_l_height.nd rfl (by first | exact Or.inl rfl | exact Or.inr rfl) (pe_lst (pa_cons (pe_ix ix_seq (pv 0) pe_int (fun _ _ => rfl)) pa_nil)))) pss_nil)
    (pss_cons (ps_if (pt_cmpR (o_eq hr.units) (pv 1) (pe_lst pa_nil) (nomark _)) (pss_one (ps_ret pe_int)) pss_nil)
    (pss_one (ps_ret (pe_op o_plus pe_int (pe_callB (c_maxL rfl) (by rfl) g.b_max (by decide +kernel) (pa_cons (pe_lc (own := [("_law_part", 2)]) (tt := tYes) rfl sc_l_height.nd (pi_any (pv 1)) (blkOk_by (N := N_l_height) (sc := defScope s_l_height) (by decide +kernel)) (fun _ _ _ _ _ => (pg_name (i := 2) sc_l_height.nd rfl (by first | exact Or.inl rfl | exact Or.inr rfl))) (fun _ _ _ _ _ => pts_nil) (fun _ _ _ _ _ => (C8.pe_c c_l_height hr (by omega) rfl (pa_cons (pv 2) pa_nil)))) pa_nil))))))))))
theorem zz_l_height (g : G w K mg) (k : Nat) (F : ∃ fd, FunD K "_law_height" "_law_height" (defArgs s_l_height) (defBody s_l_height) (defScope s_l_height) [] [] (He.ga K "_law_height") fd) (m : mg "_law_height" = some (.ref (He.ga K "_law_height"))) : C8.Cal P w K mg base k "_law_height" (fun _ _ _ _ => False) [] := by
  obtain ⟨fd, F⟩ := F
  exact ⟨_, fd, ["_law_tree_here"], [], ⟨fun _ _ _ _ h => h.elim, fun _ _ _ _ _ _ _ _ _ _ _ _ _ h => h.elim⟩, m, F.kp, (F.bindsN fun _ _ _ _ _ _ us hl => match us, hl with | [_], _ => rfl), .nil⟩
theorem ok_l_height (g : G w K mg) {n : Nat} (hn : 0 ≤ n) {sp_l_height : Sp} (c_l_height : C8.Cal P w K mg base n "_law_height" sp_l_height []) {sp : Sp} (F : ∃ fd, FunD K "_law_height" "_law_height" (defArgs s_l_height) (defBody s_l_height) (defScope s_l_height) [] [] (He.ga K "_law_height") fd) (m : mg "_law_height" = some (.ref (He.ga K "_law_height")))
    (hsp : ∀ vs H Q E, sp vs H Q E → vs.length = 1 ∧ t_l_height K sp_l_height { nx := fun _ H' => Q .non H', rt := Q } (start N_l_height vs) H) : C8.Cal P w K mg base (n + 1) "_law_height" sp [] := by
  obtain ⟨fd, F⟩ := F
  exact ⟨_, fd, ["_law_tree_here"], [], FunD.ok F sc_l_height (fun vs H Q E h => (hsp vs H Q E h).1) (fun cdv A outer s H vs Q E hr h => ⟨_, PSs.nox (d_l_height g hn c_l_height hr), (hsp vs H Q E h).2⟩), m, F.kp, (F.bindsN fun _ _ _ _ _ _ us hl => match us, hl with | [_], _ => rfl), .nil⟩
abbrev N_l_loose : List Str := ["_law_box", "_law_tree_here", "_law_least", "_law_word", "_law_text_here", "_law_level_here", "_law_part"]
theorem sc_l_loose : FnScope N_l_loose ["_law_box", "_law_tree_here", "_law_least"] (defScope s_l_loose) := ⟨rfl, rfl, rfl, by decide +kernel, rfl, by decide +kernel, by decide +kernel⟩
def t_l_loose (K : PySem.W.Frag) (sp_l_level : Sp) (sp_l_draw : Sp) (sp_l_write : Sp) (sp_l_loose : Sp) : TS :=
    (tSeq (tAsg (tOp (rIx K) (tVar 1) (tC (.int 0))) (gName 3))
    (tSeq (tAsg (tC (.str "")) (gName 4))
    (C8.tCut (tIfS (tTest (tOp (rInX K false) (tVar 3) (tTup (tCons (tC (.str "number")) (tCons (tC (.str "string")) (tCons (tC (.str "name")) tNil)))))) (tAsg (tCall sp_l_write [] C8.E0 (tCons (tVar 1) (tCons (tC (.int 0)) tNil))) (gName 4)) (tIfS (tTest (tOp (rEqX K) (tVar 3) (tC (.str "call")))) (tAsg (tOp (rPlus K) (tOp (rPlus K) (tOp (rPlus K) (tOp (rIx K) (tVar 1) (tC (.int 1))) (tC (.str " ( "))) (tBM K "str" (rJoin K) (tC (.str ",")) (tCons (tLc (iAny K (tOp (rIx K) (tVar 1) (tC (.int 2)))) (gName 6) tYes (tCall sp_l_loose [] C8.E0 (tCons (tVar 0) (tCons (tVar 6) (tCons (tC (.int 0)) tNil)))) [6]) tNil))) (tC (.str ")"))) (gName 4)) (tIfS (tTest (tOp (rEqX K) (tVar 3) (tC (.str "then")))) (tAsg (tOp (rPlus K) (tOp (rPlus K) (tOp (rPlus K) (tOp (rPlus K) (tC (.str "(")) (tCall sp_l_loose [] C8.E0 (tCons (tVar 0) (tCons (tOp (rIx K) (tVar 1) (tC (.int 1))) (tCons (tC (.int 0)) tNil))))) (tC (.str ";"))) (tCall sp_l_loose [] C8.E0 (tCons (tVar 0) (tCons (tOp (rIx K) (tVar 1) (tC (.int 2))) (tCons (tC (.int 0)) tNil))))) (tC (.str ")"))) (gName 4)) (tIfS (tTest (tOp (rEqX K) (tVar 3) (tC (.str "if")))) (tAsg (tOp (rPlus K) (tOp (rPlus K) (tOp (rPlus K) (tOp (rPlus K) (tOp (rPlus K) (tC (.str "if ")) (tCall sp_l_loose [] C8.E0 (tCons (tVar 0) (tCons (tOp (rIx K) (tVar 1) (tC (.int 1))) (tCons (tC (.int 0)) tNil))))) (tC (.str " then "))) (tCall sp_l_loose [] C8.E0 (tCons (tVar 0) (tCons (tOp (rIx K) (tVar 1) (tC (.int 2))) (tCons (tC (.int 0)) tNil))))) (tC (.str " else "))) (tCall sp_l_loose [] C8.E0 (tCons (tVar 0) (tCons (tOp (rIx K) (tVar 1) (tC (.int 3))) (tCons (tC (.int 0)) tNil))))) (gName 4)) (tIfS (tTest (tOp (rEqX K) (tVar 3) (tC (.str "set")))) (tAsg (tOp (rPlus K) (tOp (rPlus K) (tOp (rPlus K) (tC (.str "set ")) (tOp (rIx K) (tVar 1) (tC (.int 1)))) (tC (.str "="))) (tCall sp_l_loose [] C8.E0 (tCons (tVar 0) (tCons (tOp (rIx K) (tVar 1) (tC (.int 2))) (tCons (tC (.int 0)) tNil))))) (gName 4)) (tSeq (tAsg (tCall sp_l_level [] C8.E0 (tCons (tVar 1) tNil)) (gName 5))
    (tAsg (tOp (rPlus K) (tOp (rPlus K) (tOp (rPlus K) (tCall sp_l_loose [] C8.E0 (tCons (tVar 0) (tCons (tOp (rIx K) (tVar 1) (tC (.int 1))) (tCons (tOp (rPlus K) (tVar 5) (tCB (rIntY) (tCons (tOp (rEqX K) (tVar 5) (tC (.int 1))) tNil))) tNil)))) (tVar 3)) (tC (.str " "))) (tCall sp_l_loose [] C8.E0 (tCons (tVar 0) (tCons (tOp (rIx K) (tVar 1) (tC (.int 2))) (tCons (tOp (rPlus K) (tVar 5) (tC (.int 1))) tNil))))) (gName 4))))))))
    (tSeq (tIfS (tOr (tTest (tOp rLt (tCall sp_l_level [] C8.E0 (tCons (tVar 1) tNil)) (tVar 2))) (tTest (tOp (rEqX K) (tCall sp_l_draw [] C8.E0 (tCons (tVar 0) (tCons (tC (.int 8)) tNil))) (tC (.int 0))))) (tRet (tOp (rPlus K) (tOp (rPlus K) (tC (.str "( ")) (tVar 4)) (tC (.str ")")))) tNext)
    (tRet (tVar 4))))))
theorem d_l_loose (g : G w K mg) {n : Nat} (hn : 77 ≤ n) {sp_l_level : Sp} (c_l_level : C8.Cal P w K mg base 1 "_law_level" sp_l_level []) {sp_l_draw : Sp} (c_l_draw : C8.Cal P w K mg base 1 "_law_draw" sp_l_draw []) {sp_l_write : Sp} (c_l_write : C8.Cal P w K mg base 77 "_law_write" sp_l_write []) {sp_l_loose : Sp} (c_l_loose : C8.Cal P w K mg base n "_law_loose" sp_l_loose []) {f : Addr} {cdv : Value} {A : Around} {outer : List Env} {s : Shared} {H : Hp} {E : XK} (hr : Room n (A.deeper (envOfC "_law_loose" (defScope s_l_loose) s.heap.objs.size f cdv))) :
    PSs (cxOf CX0 P w K mg base N_l_loose "_law_loose" (defScope s_l_loose) f cdv A outer s H E).nox (defBody s_l_loose) (t_l_loose K sp_l_level sp_l_draw sp_l_write sp_l_loose) := by
  unfold t_l_loose
  exact
    (pss_cons (ps_set (i := 3) sc_l_loose.nd rfl (by first | exact Or.inl rfl | exact Or.inr rfl) (pe_ix ix_seq (pv 1) pe_int (fun _ _ => rfl)))
    (pss_cons (ps_set (i := 4) sc_l_loose.nd rfl (by first | exact Or.inl rfl | exact Or.inr rfl) pe_str)
    (C8.pss_cut (ps_if (pt_cmpR o_in (pv 3) (pe_tup (pa_cons pe_str (pa_cons pe_str (pa_cons pe_str pa_nil)))) (by rfl)) (pss_one (ps_set (i := 4) sc_l_loose.nd rfl (by first | exact Or.inl rfl | exact Or.inr rfl) (C8.pe_c c_l_write hr (by omega) rfl (pa_cons (pv 1) (pa_cons pe_int pa_nil))))) (pss_one (ps_if (pt_cmpR (o_eq hr.units) (pv 3) pe_str (nomark _)) (pss_one (ps_set (i := 4) sc_l_loose.nd rfl (by first | exact Or.inl rfl | exact Or.inr rfl) (pe_op o_plus (pe_op o_plus (pe_op o_plus (pe_ix ix_seq (pv 1) pe_int (fun _ _ => rfl)) pe_str) (pe_bm PySem.F.plainAttrs_str PySem.F.slot_str_join PySem.F.type_str_join m_join pe_str (pa_cons (pe_lc (own := [("_law_part", 6)]) (tt := tYes) rfl sc_l_loose.nd (pi_any (pe_ix ix_seq (pv 1) pe_int (fun _ _ => rfl))) (blkOk_by (N := N_l_loose) (sc := defScope s_l_loose) (by decide +kernel)) (fun _ _ _ _ _ => (pg_name (i := 6) sc_l_loose.nd rfl (by first | exact Or.inl rfl | exact Or.inr rfl))) (fun _ _ _ _ _ => pts_nil) (fun _ _ _ _ _ => (C8.pe_c c_l_loose hr (by omega) rfl (pa_cons (pv 0) (pa_cons (pv 6) (pa_cons pe_int pa_nil)))))) pa_nil))) pe_str))) (pss_one (ps_if (pt_cmpR (o_eq hr.units) (pv 3) pe_str (nomark _)) (pss_one (ps_set (i := 4) sc_l_loose.nd rfl (by first | exact Or.inl rfl | exact Or.inr rfl) (pe_op o_plus (pe_op o_plus (pe_op o_plus (pe_op o_plus pe_str (C8.pe_c c_l_loose hr (by omega) rfl (pa_cons (pv 0) (pa_cons (pe_ix ix_seq (pv 1) pe_int (fun _ _ => rfl)) (pa_cons pe_int pa_nil))))) pe_str) (C8.pe_c c_l_loose hr (by omega) rfl (pa_cons (pv 0) (pa_cons (pe_ix ix_seq (pv 1) pe_int (fun _ _ => rfl)) (pa_cons pe_int pa_nil))))) pe_str))) (pss_one (ps_if (pt_cmpR (o_eq hr.units) (pv 3) pe_str (nomark _)) (pss_one (ps_set (i := 4) sc_l_loose.nd rfl (by first | exact Or.inl rfl | exact Or.inr rfl) (pe_op o_plus (pe_op o_plus (pe_op o_plus (pe_op o_plus (pe_op o_plus pe_str (C8.pe_c c_l_loose hr (by omega) rfl (pa_cons (pv 0) (pa_cons (pe_ix ix_seq (pv 1) pe_int (fun _ _ => rfl)) (pa_cons pe_int pa_nil))))) pe_str) (C8.pe_c c_l_loose hr (by omega) rfl (pa_cons (pv 0) (pa_cons (pe_ix ix_seq (pv 1) pe_int (fun _ _ => rfl)) (pa_cons pe_int pa_nil))))) pe_str) (C8.pe_c c_l_loose hr (by omega) rfl (pa_cons (pv 0) (pa_cons (pe_ix ix_seq (pv 1) pe_int (fun _ _ => rfl)) (pa_cons pe_int pa_nil))))))) (pss_one (ps_if (pt_cmpR (o_eq hr.units) (pv 3) pe_str (nomark _)) (pss_one (ps_set (i := 4) sc_l_loose.nd rfl (by first | exact Or.inl rfl | exact Or.inr rfl) (pe_op o_plus (pe_op o_plus (pe_op o_plus pe_str (pe_ix ix_seq (pv 1) pe_int (fun _ _ => rfl))) pe_str) (C8.pe_c c_l_loose hr (by omega) rfl (pa_cons (pv 0) (pa_cons (pe_ix ix_seq (pv 1) pe_int (fun _ _ => rfl)) (pa_cons pe_int pa_nil))))))) (pss_cons (ps_set (i := 5) sc_l_loose.nd rfl (by first | exact Or.inl rfl | exact Or.inr rfl) (C8.pe_c c_l_level hr (by omega) rfl (pa_cons (pv 1) pa_nil)))
    (pss_one (ps_set (i := 4) sc_l_loose.nd rfl (by first | exact Or.inl rfl | exact Or.inr rfl) (pe_op o_plus (pe_op o_plus (pe_op o_plus (C8.pe_c c_l_loose hr (by omega) rfl (pa_cons (pv 0) (pa_cons (pe_ix ix_seq (pv 1) pe_int (fun _ _ => rfl)) (pa_cons (pe_op o_plus (pv 5) (pe_callTy c_int2 (by rfl) g.b_int (by decide +kernel) (pa_cons (pe_cmpR (o_eq hr.units) (pv 5) pe_int (nomark _)) pa_nil))) pa_nil)))) (pv 3)) pe_str) (C8.pe_c c_l_loose hr (by omega) rfl (pa_cons (pv 0) (pa_cons (pe_ix ix_seq (pv 1) pe_int (fun _ _ => rfl)) (pa_cons (pe_op o_plus (pv 5) pe_int) pa_nil)))))))))))))))))
    (pss_cons (ps_if (PW.pt (pw_or (pt_cmpR o_lt (C8.pe_c c_l_level hr (by omega) rfl (pa_cons (pv 1) pa_nil)) (pv 2) (nomark _)) (pw_or1 (pt_cmpR (o_eq hr.units) (C8.pe_c c_l_draw hr (by omega) rfl (pa_cons (pv 0) (pa_cons pe_int pa_nil))) pe_int (nomark _))))) (pss_one (ps_ret (pe_op o_plus (pe_op o_plus pe_str (pv 4)) pe_str))) pss_nil)
    (pss_one (ps_ret (pv 4)))))))
theorem zz_l_loose (g : G w K mg) (k : Nat) (F : ∃ fd, FunD K "_law_loose" "_law_loose" (defArgs s_l_loose) (defBody s_l_loose) (defScope s_l_loose) [] [] (He.ga K "_law_loose") fd) (m : mg "_law_loose" = some (.ref (He.ga K "_law_loose"))) : C8.Cal P w K mg base k "_law_loose" (fun _ _ _ _ => False) [] := by
  obtain ⟨fd, F⟩ := F
  exact ⟨_, fd, ["_law_box", "_law_tree_here", "_law_least"], [], ⟨fun _ _ _ _ h => h.elim, fun _ _ _ _ _ _ _ _ _ _ _ _ _ h => h.elim⟩, m, F.kp, (F.bindsN fun _ _ _ _ _ _ us hl => match us, hl with | [_, _, _], _ => rfl), .nil⟩
theorem ok_l_loose (g : G w K mg) {n : Nat} (hn : 77 ≤ n) {sp_l_level : Sp} (c_l_level : C8.Cal P w K mg base 1 "_law_level" sp_l_level []) {sp_l_draw : Sp} (c_l_draw : C8.Cal P w K mg base 1 "_law_draw" sp_l_draw []) {sp_l_write : Sp} (c_l_write : C8.Cal P w K mg base 77 "_law_write" sp_l_write []) {sp_l_loose : Sp} (c_l_loose : C8.Cal P w K mg base n "_law_loose" sp_l_loose []) {sp : Sp} (F : ∃ fd, FunD K "_law_loose" "_law_loose" (defArgs s_l_loose) (defBody s_l_loose) (defScope s_l_loose) [] [] (He.ga K "_law_loose") fd) (m : mg "_law_loose" = some (.ref (He.ga K "_law_loose")))
    (hsp : ∀ vs H Q E, sp vs H Q E → vs.length = 3 ∧ t_l_loose K sp_l_level sp_l_draw sp_l_write sp_l_loose { nx := fun _ H' => Q .non H', rt := Q } (start N_l_loose vs) H) : C8.Cal P w K mg base (n + 1) "_law_loose" sp [] := by
  obtain ⟨fd, F⟩ := F
  exact ⟨_, fd, ["_law_box", "_law_tree_here", "_law_least"], [], FunD.ok F sc_l_loose (fun vs H Q E h => (hsp vs H Q E h).1) (fun cdv A outer s H vs Q E hr h => ⟨_, PSs.nox (d_l_loose g hn c_l_level c_l_draw c_l_write c_l_loose hr), (hsp vs H Q E h).2⟩), m, F.kp, (F.bindsN fun _ _ _ _ _ _ us hl => match us, hl with | [_, _, _], _ => rfl), .nil⟩
abbrev N_l_bounds : List Str := ["_law_deep", "_law_high", "_law_turn", "_law_text_here", "_law_row"]
theorem sc_l_bounds : FnScope N_l_bounds [] (defScope s_l_bounds) := ⟨rfl, rfl, rfl, by decide +kernel, rfl, by decide +kernel, by decide +kernel⟩
def t_l_bounds (K : PySem.W.Frag) (sp_height : Sp) (sp_parse : Sp) (sp_split : Sp) : TS :=
    (tSeq (tAsg (tTup (tCons (tC (.str "name")) (tCons (tC (.str "a")) tNil))) (gName 0))
    (tSeq (tAsg (tTup (tCons (tC (.str "name")) (tCons (tC (.str "a")) tNil))) (gName 1))
    (tSeq (tFor (iRng1 (tCons (tC (.int 11)) tNil)) (gName 2) (tAsg (tTup (tCons (tC (.str "+")) (tCons (tTup (tCons (tC (.str "number")) (tCons (tC (.int 1)) tNil))) (tCons (tVar 1) tNil)))) (gName 1)))
    (tSeq (tAsg (tOp (rPlus K) (tOp (rPlus K) (tOp rTimes (tC (.str "(")) (tC (.int 10))) (tC (.str "a"))) (tOp rTimes (tC (.str ")")) (tC (.int 10)))) (gName 3))
    (tSeq (tIfS (tOr (tTest (tOp (rNeX K) (tCall sp_parse [] C8.E0 (tCons (tCall sp_split [] C8.E0 (tCons (tVar 3) tNil)) tNil)) (tVar 0))) (tOr (tTest (tOp rNotNo (tCall sp_parse [] C8.E0 (tCons (tCall sp_split [] C8.E0 (tCons (tOp (rPlus K) (tOp (rPlus K) (tC (.str "(")) (tVar 3)) (tC (.str ")"))) tNil)) tNil)) (tC .non))) (tTest (tOp rIsNo (tCall sp_parse [] C8.E0 (tCons (tCall sp_split [] C8.E0 (tCons (tOp (rPlus K) (tOp rTimes (tC (.str "f(")) (tC (.int 10))) (tOp rTimes (tC (.str ")")) (tC (.int 10)))) tNil)) tNil)) (tC .non))))) (tRet (tC (.bl false))) tNext)
    (tSeq (tIfS (tOr (tTest (tOp rNotNo (tCall sp_parse [] C8.E0 (tCons (tCall sp_split [] C8.E0 (tCons (tOp (rPlus K) (tOp rTimes (tC (.str "f(")) (tC (.int 11))) (tOp rTimes (tC (.str ")")) (tC (.int 11)))) tNil)) tNil)) (tC .non))) (tTest (tOp (rNeX K) (tCall sp_height [] C8.E0 (tCons (tVar 1) tNil)) (tC (.int 12))))) (tRet (tC (.bl false))) tNext)
    (tSeq (tAsg (tOp (rPlus K) (tC (.str "1")) (tOp rTimes (tC (.str " + 1")) (tC (.int 11)))) (gName 4))
    (tRet (tAndV (tOp (rEqX K) (tCall sp_height [] C8.E0 (tCons (tCall sp_parse [] C8.E0 (tCons (tCall sp_split [] C8.E0 (tCons (tVar 4) tNil)) tNil)) tNil)) (tC (.int 12))) (tOp rIsNo (tCall sp_parse [] C8.E0 (tCons (tCall sp_split [] C8.E0 (tCons (tOp (rPlus K) (tVar 4) (tC (.str " + 1"))) tNil)) tNil)) (tC .non)))))))))))
theorem d_l_bounds (g : G w K mg) {sp_height : Sp} (c_height : C8.Cal P w K mg base 47 "height" sp_height []) {sp_parse : Sp} (c_parse : C8.Cal P w K mg base 196 "parse" sp_parse []) {sp_split : Sp} (c_split : C8.Cal P w K mg base 3 "split" sp_split []) {f : Addr} {cdv : Value} {A : Around} {outer : List Env} {s : Shared} {H : Hp} {E : XK} (hr : Room 196 (A.deeper (envOfC "_law_bounds" (defScope s_l_bounds) s.heap.objs.size f cdv))) :
    PSs (cxOf CX0 P w K mg base N_l_bounds "_law_bounds" (defScope s_l_bounds) f cdv A outer s H E).nox (defBody s_l_bounds) (t_l_bounds K sp_height sp_parse sp_split) := by
  unfold t_l_bounds
  exact
    (pss_cons (ps_set (i := 0) sc_l_bounds.nd rfl (by first | exact Or.inl rfl | exact Or.inr rfl) (pe_tup (pa_cons pe_str (pa_cons pe_str pa_nil))))
    (pss_cons (ps_set (i := 1) sc_l_bounds.nd rfl (by first | exact Or.inl rfl | exact Or.inr rfl) (pe_tup (pa_cons pe_str (pa_cons pe_str pa_nil))))
    (pss_cons (ps_for PassesOwn.never rfl (pi_range1 rfl g.b_range (pa_cons pe_int pa_nil)) (pg_name (i := 2) sc_l_bounds.nd rfl (by first | exact Or.inl rfl | exact Or.inr rfl)) (pss_one (ps_set (i := 1) sc_l_bounds.nd rfl (by first | exact Or.inl rfl | exact Or.inr rfl) (pe_tup (pa_cons pe_str (pa_cons (pe_tup (pa_cons pe_str (pa_cons pe_int pa_nil))) (pa_cons (pv 1) pa_nil)))))))
    (pss_cons (ps_set (i := 3) sc_l_bounds.nd rfl (by first | exact Or.inl rfl | exact Or.inr rfl) (pe_op o_plus (pe_op o_plus (pe_op o_times pe_str pe_int) pe_str) (pe_op o_times pe_str pe_int)))
    (pss_cons (ps_if (PW.pt (pw_or (pt_cmpR (o_ne hr.units) (C8.pe_c c_parse hr (by decide) rfl (pa_cons (C8.pe_c c_split hr (by decide) rfl (pa_cons (pv 3) pa_nil)) pa_nil)) (pv 0) (nomark _)) (pw_or (pt_cmpR o_isnot (C8.pe_c c_parse hr (by decide) rfl (pa_cons (C8.pe_c c_split hr (by decide) rfl (pa_cons (pe_op o_plus (pe_op o_plus pe_str (pv 3)) pe_str) pa_nil)) pa_nil)) pe_non (nomark _)) (pw_or1 (pt_cmpR o_is (C8.pe_c c_parse hr (by decide) rfl (pa_cons (C8.pe_c c_split hr (by decide) rfl (pa_cons (pe_op o_plus (pe_op o_times pe_str pe_int) (pe_op o_times pe_str pe_int)) pa_nil)) pa_nil)) pe_non (nomark _)))))) (pss_one (ps_ret pe_bl)) pss_nil)
    (pss_cons (ps_if (PW.pt (pw_or (pt_cmpR o_isnot (C8.pe_c c_parse hr (by decide) rfl (pa_cons (C8.pe_c c_split hr (by decide) rfl (pa_cons (pe_op o_plus (pe_op o_times pe_str pe_int) (pe_op o_times pe_str pe_int)) pa_nil)) pa_nil)) pe_non (nomark _)) (pw_or1 (pt_cmpR (o_ne hr.units) (C8.pe_c c_height hr (by decide) rfl (pa_cons (pv 1) pa_nil)) pe_int (nomark _))))) (pss_one (ps_ret pe_bl)) pss_nil)
    (pss_cons (ps_set (i := 4) sc_l_bounds.nd rfl (by first | exact Or.inl rfl | exact Or.inr rfl) (pe_op o_plus pe_str (pe_op o_times pe_str pe_int)))
    (pss_one (ps_ret (pe_and (pe_cmpR (o_eq hr.units) (C8.pe_c c_height hr (by decide) rfl (pa_cons (C8.pe_c c_parse hr (by decide) rfl (pa_cons (C8.pe_c c_split hr (by decide) rfl (pa_cons (pv 4) pa_nil)) pa_nil)) pa_nil)) pe_int (nomark _)) (pe_one (pe_cmpR o_is (C8.pe_c c_parse hr (by decide) rfl (pa_cons (C8.pe_c c_split hr (by decide) rfl (pa_cons (pe_op o_plus (pv 4) pe_str) pa_nil)) pa_nil)) pe_non (nomark _)))))))))))))
theorem ok_l_bounds (g : G w K mg) {sp_height : Sp} (c_height : C8.Cal P w K mg base 47 "height" sp_height []) {sp_parse : Sp} (c_parse : C8.Cal P w K mg base 196 "parse" sp_parse []) {sp_split : Sp} (c_split : C8.Cal P w K mg base 3 "split" sp_split []) {sp : Sp} (F : ∃ fd, FunD K "_law_bounds" "_law_bounds" (defArgs s_l_bounds) (defBody s_l_bounds) (defScope s_l_bounds) [] [] (He.ga K "_law_bounds") fd) (m : mg "_law_bounds" = some (.ref (He.ga K "_law_bounds")))
    (hsp : ∀ vs H Q E, sp vs H Q E → vs.length = 0 ∧ t_l_bounds K sp_height sp_parse sp_split { nx := fun _ H' => Q .non H', rt := Q } (start N_l_bounds vs) H) : C8.Cal P w K mg base 197 "_law_bounds" sp [] := by
  obtain ⟨fd, F⟩ := F
  exact ⟨_, fd, [], [], FunD.ok F sc_l_bounds (fun vs H Q E h => (hsp vs H Q E h).1) (fun cdv A outer s H vs Q E hr h => ⟨_, PSs.nox (d_l_bounds g c_height c_parse c_split hr), (hsp vs H Q E h).2⟩), m, F.kp, (F.bindsN fun _ _ _ _ _ _ us hl => match us, hl with | [], _ => rfl), .nil⟩
abbrev N_law : List Str := ["_law_script", "_law_box", "_law_turn", "_law_tree_here", "_law_text_here", "_law_tokens", "_law_loose_here", "_law_more", "_law_bad"]
theorem sc_law : FnScope N_law ["_law_script"] (defScope s_law) := ⟨rfl, rfl, rfl, by decide +kernel, rfl, by decide +kernel, by decide +kernel⟩
def t_law (K : PySem.W.Frag) (sp_parse : Sp) (sp_split : Sp) (sp_l_draw : Sp) (sp_l_alike : Sp) (sp_l_loose : Sp) (sp_l_height : Sp) (sp_height : Sp) (sp_write : Sp) (sp_l_write : Sp) (sp_l_tree : Sp) (sp_l_bounds : Sp) (sp_l_digits : Sp) : TS :=
    (tSeq (tAsg (tLst (tCons (tCall sp_l_digits [] C8.E0 (tCons (tVar 0) (tCons (tC (.int 0)) (tCons (tC (.int 63)) tNil)))) (tCons (tC (.int 0)) tNil))) (gName 1))
    (tSeq (tIfS (tOr (tTest (tOp (rNeX K) (tTup (tCons (tC (.int 10)) (tCons (tC (.int 12)) tNil))) (tTup (tCons (tC (.int 10)) (tCons (tC (.int 12)) tNil))))) (tNot (tTruX K (tCall sp_l_bounds [] C8.E0 tNil)))) (tRet (tC (.bl false))) tNext)
    (tSeq (tFor (iRng1 (tCons (tC (.int 6)) tNil)) (gName 2) (tSeq (tAsg (tCall sp_l_tree [] C8.E0 (tCons (tVar 1) (tCons (tLst (tCons (tC (.str "a")) (tCons (tC (.str "b")) (tCons (tC (.str "xy")) tNil)))) (tCons (tLst (tCons (tTup (tCons (tC (.str "f")) (tCons (tC (.int 0)) tNil))) (tCons (tTup (tCons (tC (.str "g")) (tCons (tC (.int 1)) tNil))) (tCons (tTup (tCons (tC (.str "h")) (tCons (tC (.int 3)) tNil))) tNil)))) (tCons (tC (.int 4)) tNil))))) (gName 3))
    (tSeq (tAsg (tCall sp_l_write [] C8.E0 (tCons (tVar 3) (tCons (tC (.int 0)) tNil))) (gName 4))
    (tSeq (tIfS (tNot (tTruX K (tCall sp_l_alike [] C8.E0 (tCons (tTup (tCons (tCall sp_write [] C8.E0 (tCons (tVar 3) tNil)) (tCons (tCall sp_height [] C8.E0 (tCons (tVar 3) tNil)) tNil))) (tCons (tTup (tCons (tVar 4) (tCons (tCall sp_l_height [] C8.E0 (tCons (tVar 3) tNil)) tNil))) tNil))))) (tRet (tC (.bl false))) tNext)
    (tSeq (tAsg (tCall sp_split [] C8.E0 (tCons (tVar 4) tNil)) (gName 5))
    (tSeq (tIfS (tNot (tTruX K (tCall sp_l_alike [] C8.E0 (tCons (tCall sp_parse [] C8.E0 (tCons (tVar 5) tNil)) (tCons (tVar 3) tNil))))) (tRet (tC (.bl false))) tNext)
    (tSeq (tAsg (tCall sp_split [] C8.E0 (tCons (tCall sp_l_loose [] C8.E0 (tCons (tVar 1) (tCons (tVar 3) (tCons (tC (.int 0)) tNil)))) tNil)) (gName 6))
    (tSeq (tIfS (tNot (tTruX K (tCall sp_l_alike [] C8.E0 (tCons (tCall sp_parse [] C8.E0 (tCons (tVar 6) tNil)) (tCons (tVar 3) tNil))))) (tRet (tC (.bl false))) tNext)
    (tSeq (tAsg (tOp (rIx K) (tLst (tCons (tTup (tCons (tC (.str "number")) (tCons (tC (.int 1)) tNil))) (tCons (tTup (tCons (tC (.str "sign")) (tCons (tC (.str ")")) tNil))) (tCons (tTup (tCons (tC (.str "sign")) (tCons (tC (.str "+")) tNil))) (tCons (tTup (tCons (tC (.str "sign")) (tCons (tC (.str "(")) tNil))) (tCons (tTup (tCons (tC (.str "word")) (tCons (tC (.str "then")) tNil))) (tCons (tTup (tCons (tC (.str "sign")) (tCons (tC (.str ";")) tNil))) tNil))))))) (tCall sp_l_draw [] C8.E0 (tCons (tVar 1) (tCons (tC (.int 6)) tNil)))) (gName 7))
    (tIfS (tOr (tTest (tOp rNotNo (tCall sp_parse [] C8.E0 (tCons (tSl (rSlX K) (tVar 5) tNoPart (tPart (tUn (rU fun i => .int (-i)) (tC (.int 1))))) tNil)) (tC .non))) (tOr (tTest (tOp rNotNo (tCall sp_parse [] C8.E0 (tCons (tOp (rPlus K) (tVar 5) (tLst (tCons (tVar 7) tNil))) tNil)) (tC .non))) (tTest (tOp rNotNo (tCall sp_parse [] C8.E0 (tCons (tOp (rPlus K) (tLst (tCons (tTup (tCons (tC (.str "sign")) (tCons (tC (.str "*")) tNil))) tNil)) (tVar 5)) tNil)) (tC .non))))) (tRet (tC (.bl false))) tNext))))))))))
    (tSeq (tFor (iAny K (tLst (tCons (tC (.str "set let = 1")) (tCons (tC (.str "(a;)")) (tCons (tC (.str "(;a)")) (tCons (tC (.str "f(;)")) (tCons (tC (.str "f(a;b")) (tCons (tC (.str "if a then b")) (tCons (tC (.str "set a")) (tCons (tC (.str "a b")) (tCons (tC (.str "let(1)")) (tCons (tC (.str "set 1 = a")) (tCons (tC (.str "f(1,,2)")) (tCons (tC (.str "set f(1) = 2")) tNil)))))))))))))) (gName 8) (tIfS (tTest (tOp rNotNo (tCall sp_parse [] C8.E0 (tCons (tCall sp_split [] C8.E0 (tCons (tVar 8) tNil)) tNil)) (tC .non))) (tRet (tC (.bl false))) tNext))
    (tRet (tAndV (tOp rIsNo (tCall sp_parse [] C8.E0 (tCons (tLst tNil) tNil)) (tC .non)) (tAndV (tOp rIsNo (tCall sp_parse [] C8.E0 (tCons (tCall sp_split [] C8.E0 (tCons (tC (.str "a = b = c")) tNil)) tNil)) (tC .non)) (tAndV (tOp rIsNo (tCall sp_parse [] C8.E0 (tCons (tCall sp_split [] C8.E0 (tCons (tC (.str "let")) tNil)) tNil)) (tC .non)) (tAndV (tOp rIsNo (tCall sp_parse [] C8.E0 (tCons (tCall sp_split [] C8.E0 (tCons (tC (.str "f(a,)")) tNil)) tNil)) (tC .non)) (tOp rIsNo (tCall sp_parse [] C8.E0 (tCons (tCall sp_split [] C8.E0 (tCons (tC (.str "()")) tNil)) tNil)) (tC .non)))))))))))
theorem d_law (g : G w K mg) {sp_parse : Sp} (c_parse : C8.Cal P w K mg base 196 "parse" sp_parse []) {sp_split : Sp} (c_split : C8.Cal P w K mg base 3 "split" sp_split []) {sp_l_draw : Sp} (c_l_draw : C8.Cal P w K mg base 1 "_law_draw" sp_l_draw []) {sp_l_alike : Sp} (c_l_alike : CalG P w K mg base 1 "_law_alike" sp_l_alike []) {sp_l_loose : Sp} (c_l_loose : C8.Cal P w K mg base 93 "_law_loose" sp_l_loose []) {sp_l_height : Sp} (c_l_height : C8.Cal P w K mg base 16 "_law_height" sp_l_height []) {sp_height : Sp} (c_height : C8.Cal P w K mg base 47 "height" sp_height []) {sp_write : Sp} (c_write : C8.Cal P w K mg base 76 "write" sp_write []) {sp_l_write : Sp} (c_l_write : C8.Cal P w K mg base 77 "_law_write" sp_l_write []) {sp_l_tree : Sp} (c_l_tree : C8.Cal P w K mg base 13 "_law_tree" sp_l_tree []) {sp_l_bounds : Sp} (c_l_bounds : C8.Cal P w K mg base 197 "_law_bounds" sp_l_bounds []) {sp_l_digits : Sp} (c_l_digits : C8.Cal P w K mg base 2 "_law_digits" sp_l_digits []) {f : Addr} {cdv : Value} {A : Around} {outer : List Env} {s : Shared} {H : Hp} {E : XK} (hr : Room 197 (A.deeper (envOfC "law" (defScope s_law) s.heap.objs.size f cdv))) (hgd : (A.deeper (envOfC "law" (defScope s_law) s.heap.objs.size f cdv)).guards = some []) :
    PSs (cxOf CX0 P w K mg base N_law "law" (defScope s_law) f cdv A outer s H E).nox (defBody s_law) (t_law K sp_parse sp_split sp_l_draw sp_l_alike sp_l_loose sp_l_height sp_height sp_write sp_l_write sp_l_tree sp_l_bounds sp_l_digits) := by
  unfold t_law
  exact
    (pss_cons (ps_set (i := 1) sc_law.nd rfl (by first | exact Or.inl rfl | exact Or.inr rfl) (pe_lst (pa_cons (C8.pe_c c_l_digits hr (by decide) rfl (pa_cons (pv 0) (pa_cons pe_int (pa_cons pe_int pa_nil)))) (pa_cons pe_int pa_nil))))
    (pss_cons (ps_if (PW.pt (pw_or (pt_cmpR (o_ne hr.units) (pe_tup (pa_cons (C8.pe_gc rfl g.c_NESTED_MOST) (pa_cons (C8.pe_gc rfl g.c_HEIGHT_MOST) pa_nil))) (pe_tup (pa_cons pe_int (pa_cons pe_int pa_nil))) (nomark _)) (pw_or1 (pt_not (pt_tru (pe_c0 c_l_bounds hr (by decide) rfl)))))) (pss_one (ps_ret pe_bl)) pss_nil)
    (pss_cons (ps_for PassesOwn.never rfl (pi_range1 rfl g.b_range (pa_cons pe_int pa_nil)) (pg_name (i := 2) sc_law.nd rfl (by first | exact Or.inl rfl | exact Or.inr rfl)) (pss_cons (ps_set (i := 3) sc_law.nd rfl (by first | exact Or.inl rfl | exact Or.inr rfl) (C8.pe_c c_l_tree hr (by decide) rfl (pa_cons (pv 1) (pa_cons (pe_lst (pa_cons pe_str (pa_cons pe_str (pa_cons pe_str pa_nil)))) (pa_cons (pe_lst (pa_cons (pe_tup (pa_cons pe_str (pa_cons pe_int pa_nil))) (pa_cons (pe_tup (pa_cons pe_str (pa_cons pe_int pa_nil))) (pa_cons (pe_tup (pa_cons pe_str (pa_cons pe_int pa_nil))) pa_nil)))) (pa_cons pe_int pa_nil))))))
    (pss_cons (ps_set (i := 4) sc_law.nd rfl (by first | exact Or.inl rfl | exact Or.inr rfl) (C8.pe_c c_l_write hr (by decide) rfl (pa_cons (pv 3) (pa_cons pe_int pa_nil))))
    (pss_cons (ps_if (pt_not (pt_tru (pe_cG c_l_alike hr hgd (by decide) rfl (pa_cons (pe_tup (pa_cons (C8.pe_c c_write hr (by decide) rfl (pa_cons (pv 3) pa_nil)) (pa_cons (C8.pe_c c_height hr (by decide) rfl (pa_cons (pv 3) pa_nil)) pa_nil))) (pa_cons (pe_tup (pa_cons (pv 4) (pa_cons (C8.pe_c c_l_height hr (by decide) rfl (pa_cons (pv 3) pa_nil)) pa_nil))) pa_nil))))) (pss_one (ps_ret pe_bl)) pss_nil)
    (pss_cons (ps_set (i := 5) sc_law.nd rfl (by first | exact Or.inl rfl | exact Or.inr rfl) (C8.pe_c c_split hr (by decide) rfl (pa_cons (pv 4) pa_nil)))
    (pss_cons (ps_if (pt_not (pt_tru (pe_cG c_l_alike hr hgd (by decide) rfl (pa_cons (C8.pe_c c_parse hr (by decide) rfl (pa_cons (pv 5) pa_nil)) (pa_cons (pv 3) pa_nil))))) (pss_one (ps_ret pe_bl)) pss_nil)
    (pss_cons (ps_set (i := 6) sc_law.nd rfl (by first | exact Or.inl rfl | exact Or.inr rfl) (C8.pe_c c_split hr (by decide) rfl (pa_cons (C8.pe_c c_l_loose hr (by decide) rfl (pa_cons (pv 1) (pa_cons (pv 3) (pa_cons pe_int pa_nil)))) pa_nil)))
    (pss_cons (ps_if (pt_not (pt_tru (pe_cG c_l_alike hr hgd (by decide) rfl (pa_cons (C8.pe_c c_parse hr (by decide) rfl (pa_cons (pv 6) pa_nil)) (pa_cons (pv 3) pa_nil))))) (pss_one (ps_ret pe_bl)) pss_nil)
    (pss_cons (ps_set (i := 7) sc_law.nd rfl (by first | exact Or.inl rfl | exact Or.inr rfl) (pe_ix ix_seq (pe_lst (pa_cons (pe_tup (pa_cons pe_str (pa_cons pe_int pa_nil))) (pa_cons (pe_tup (pa_cons pe_str (pa_cons pe_str pa_nil))) (pa_cons (pe_tup (pa_cons pe_str (pa_cons pe_str pa_nil))) (pa_cons (pe_tup (pa_cons pe_str (pa_cons pe_str pa_nil))) (pa_cons (pe_tup (pa_cons pe_str (pa_cons pe_str pa_nil))) (pa_cons (pe_tup (pa_cons pe_str (pa_cons pe_str pa_nil))) pa_nil))))))) (C8.pe_c c_l_draw hr (by decide) rfl (pa_cons (pv 1) (pa_cons pe_int pa_nil))) (fun _ _ => rfl)))
    (pss_one (ps_if (PW.pt (pw_or (pt_cmpR o_isnot (C8.pe_c c_parse hr (by decide) rfl (pa_cons (pe_slice sl_any (pv 5) po_none (po_some (pe_un un_neg pe_int))) pa_nil)) pe_non (nomark _)) (pw_or (pt_cmpR o_isnot (C8.pe_c c_parse hr (by decide) rfl (pa_cons (pe_op o_plus (pv 5) (pe_lst (pa_cons (pv 7) pa_nil))) pa_nil)) pe_non (nomark _)) (pw_or1 (pt_cmpR o_isnot (C8.pe_c c_parse hr (by decide) rfl (pa_cons (pe_op o_plus (pe_lst (pa_cons (pe_tup (pa_cons pe_str (pa_cons pe_str pa_nil))) pa_nil)) (pv 5)) pa_nil)) pe_non (nomark _)))))) (pss_one (ps_ret pe_bl)) pss_nil)))))))))))
    (pss_cons (ps_for PassesOwn.never rfl (pi_any (pe_lst (pa_cons pe_str (pa_cons pe_str (pa_cons pe_str (pa_cons pe_str (pa_cons pe_str (pa_cons pe_str (pa_cons pe_str (pa_cons pe_str (pa_cons pe_str (pa_cons pe_str (pa_cons pe_str (pa_cons pe_str pa_nil)))))))))))))) (pg_name (i := 8) sc_law.nd rfl (by first | exact Or.inl rfl | exact Or.inr rfl)) (pss_one (ps_if (pt_cmpR o_isnot (C8.pe_c c_parse hr (by decide) rfl (pa_cons (C8.pe_c c_split hr (by decide) rfl (pa_cons (pv 8) pa_nil)) pa_nil)) pe_non (nomark _)) (pss_one (ps_ret pe_bl)) pss_nil)))
    (pss_one (ps_ret (pe_and (pe_cmpR o_is (C8.pe_c c_parse hr (by decide) rfl (pa_cons (pe_lst pa_nil) pa_nil)) pe_non (nomark _)) (pe_and (pe_cmpR o_is (C8.pe_c c_parse hr (by decide) rfl (pa_cons (C8.pe_c c_split hr (by decide) rfl (pa_cons pe_str pa_nil)) pa_nil)) pe_non (nomark _)) (pe_and (pe_cmpR o_is (C8.pe_c c_parse hr (by decide) rfl (pa_cons (C8.pe_c c_split hr (by decide) rfl (pa_cons pe_str pa_nil)) pa_nil)) pe_non (nomark _)) (pe_and (pe_cmpR o_is (C8.pe_c c_parse hr (by decide) rfl (pa_cons (C8.pe_c c_split hr (by decide) rfl (pa_cons pe_str pa_nil)) pa_nil)) pe_non (nomark _)) (pe_one (pe_cmpR o_is (C8.pe_c c_parse hr (by decide) rfl (pa_cons (C8.pe_c c_split hr (by decide) rfl (pa_cons pe_str pa_nil)) pa_nil)) pe_non (nomark _)))))))))))))
theorem ok_law (g : G w K mg) {sp_parse : Sp} (c_parse : C8.Cal P w K mg base 196 "parse" sp_parse []) {sp_split : Sp} (c_split : C8.Cal P w K mg base 3 "split" sp_split []) {sp_l_draw : Sp} (c_l_draw : C8.Cal P w K mg base 1 "_law_draw" sp_l_draw []) {sp_l_alike : Sp} (c_l_alike : CalG P w K mg base 1 "_law_alike" sp_l_alike []) {sp_l_loose : Sp} (c_l_loose : C8.Cal P w K mg base 93 "_law_loose" sp_l_loose []) {sp_l_height : Sp} (c_l_height : C8.Cal P w K mg base 16 "_law_height" sp_l_height []) {sp_height : Sp} (c_height : C8.Cal P w K mg base 47 "height" sp_height []) {sp_write : Sp} (c_write : C8.Cal P w K mg base 76 "write" sp_write []) {sp_l_write : Sp} (c_l_write : C8.Cal P w K mg base 77 "_law_write" sp_l_write []) {sp_l_tree : Sp} (c_l_tree : C8.Cal P w K mg base 13 "_law_tree" sp_l_tree []) {sp_l_bounds : Sp} (c_l_bounds : C8.Cal P w K mg base 197 "_law_bounds" sp_l_bounds []) {sp_l_digits : Sp} (c_l_digits : C8.Cal P w K mg base 2 "_law_digits" sp_l_digits []) {sp : Sp} (F : ∃ fd, FunD K "law" "law" (defArgs s_law) (defBody s_law) (defScope s_law) [] [] (He.ga K "law") fd) (m : mg "law" = some (.ref (He.ga K "law")))
    (hsp : ∀ vs H Q E, sp vs H Q E → vs.length = 1 ∧ t_law K sp_parse sp_split sp_l_draw sp_l_alike sp_l_loose sp_l_height sp_height sp_write sp_l_write sp_l_tree sp_l_bounds sp_l_digits { nx := fun _ H' => Q .non H', rt := Q } (start N_law vs) H) : CalG P w K mg base 198 "law" sp [] := by
  obtain ⟨fd, F⟩ := F
  exact ⟨_, fd, ["_law_script"], [], okG F sc_law (fun vs H Q E h => (hsp vs H Q E h).1) (fun cdv A outer s H vs Q E hr hgd h => ⟨_, PSs.nox (d_law g c_parse c_split c_l_draw c_l_alike c_l_loose c_l_height c_height c_write c_l_write c_l_tree c_l_bounds c_l_digits hr hgd), (hsp vs H Q E h).2⟩), m, F.kp, (F.bindsN fun _ _ _ _ _ _ us hl => match us, hl with | [_], _ => rfl), .nil⟩
abbrev N_Reader_init : List Str := ["self", "tokens"]
theorem sc_Reader_init : FnScope N_Reader_init ["self", "tokens"] (defScope s_Reader_init) := ⟨rfl, rfl, rfl, by decide +kernel, rfl, by decide +kernel, by decide +kernel⟩
def t_Reader_init (K : PySem.W.Frag) : TS :=
    (tSeq (sFld K (tVar 0) (tVar 1) "_tokens")
    (tSeq (sFld K (tVar 0) (tC (.int 0)) "_at")
    (sFld K (tVar 0) (tC (.int 0)) "_nested")))
theorem d_Reader_init (g : G w K mg) {f : Addr} {cdv : Value} {A : Around} {outer : List Env} {s : Shared} {H : Hp} {E : XK} (hr : Room 0 (A.deeper (envOfC "Reader.__init__" (defScope s_Reader_init) s.heap.objs.size f cdv))) :
    PSs (cxOf CX0 P w K mg base N_Reader_init "Reader.__init__" (defScope s_Reader_init) f cdv A outer s H E).nox (defBody s_Reader_init) (t_Reader_init K) := by
  unfold t_Reader_init
  exact
    (pss_cons (ps_fld (pv 0) (pv 1) (by rfl))
    (pss_cons (ps_fld (pv 0) pe_int (by rfl))
    (pss_one (ps_fld (pv 0) pe_int (by rfl)))))
theorem ok_Reader_init (g : G w K mg) {sp : Sp} (F : ∃ fd, FunD K "__init__" "Reader.__init__" (defArgs s_Reader_init) (defBody s_Reader_init) (defScope s_Reader_init) [] [] (He.ma K (He.ga K "Reader") "__init__") fd)
    (hsp : ∀ vs H Q E, sp vs H Q E → vs.length = 2 ∧ t_Reader_init K { nx := fun _ H' => Q .non H', rt := Q } (start N_Reader_init vs) H) : C8.Mak P w K mg base 1 "Reader" (He.ga K "Reader") sp [] := by
  obtain ⟨fd, F⟩ := F
  exact ⟨_, fd, ["self", "tokens"], [], g.mkr_Reader, FunD.ok F sc_Reader_init (fun vs H Q E h => (hsp vs H Q E h).1) (fun cdv A outer s H vs Q E hr h => ⟨_, PSs.nox (d_Reader_init g hr), (hsp vs H Q E h).2⟩), g.k_Reader, (F.bindsN fun _ _ _ _ _ _ us hl => match us, hl with | [_, _], _ => rfl), .nil⟩
abbrev N_Reader_at_end : List Str := ["self"]
theorem sc_Reader_at_end : FnScope N_Reader_at_end ["self"] (defScope s_Reader_at_end) := ⟨rfl, rfl, rfl, by decide +kernel, rfl, by decide +kernel, by decide +kernel⟩
def t_Reader_at_end (K : PySem.W.Frag) : TS :=
    (tRet (tOp (rEqX K) (tFld K (tVar 0) "_at") (tCB (rLenX K) (tCons (tFld K (tVar 0) "_tokens") tNil))))
theorem d_Reader_at_end (g : G w K mg) {f : Addr} {cdv : Value} {A : Around} {outer : List Env} {s : Shared} {H : Hp} {E : XK} (hr : Room 0 (A.deeper (envOfC "Reader.at_end" (defScope s_Reader_at_end) s.heap.objs.size f cdv))) :
    PSs (cxOf CX0 P w K mg base N_Reader_at_end "Reader.at_end" (defScope s_Reader_at_end) f cdv A outer s H E).nox (defBody s_Reader_at_end) (t_Reader_at_end K) := by
  unfold t_Reader_at_end
  exact
    (pss_one (ps_ret (pe_cmpR (o_eq hr.units) (pe_fld (pv 0) (by rfl)) (pe_callB c_len (by rfl) g.b_len (by decide +kernel) (pa_cons (pe_fld (pv 0) (by rfl)) pa_nil)) (nomark _))))
theorem ok_Reader_at_end (g : G w K mg) {sp : Sp} (F : ∃ fd, FunD K "at_end" "Reader.at_end" (defArgs s_Reader_at_end) (defBody s_Reader_at_end) (defScope s_Reader_at_end) [] [] (He.ma K (He.ga K "Reader") "at_end") fd)
    (hsp : ∀ vs H Q E, sp vs H Q E → vs.length = 1 ∧ t_Reader_at_end K { nx := fun _ H' => Q .non H', rt := Q } (start N_Reader_at_end vs) H) : C8.Met P w K mg base 1 (He.ga K "Reader") "at_end" sp [] := by
  obtain ⟨fd, F⟩ := F
  exact ⟨_, fd, ["self"], [], g.cls_Reader, g.me_Reader_at_end, FunD.ok F sc_Reader_at_end (fun vs H Q E h => (hsp vs H Q E h).1) (fun cdv A outer s H vs Q E hr h => ⟨_, PSs.nox (d_Reader_at_end g hr), (hsp vs H Q E h).2⟩), (F.bindsN fun _ _ _ _ _ _ us hl => match us, hl with | [_], _ => rfl), .nil⟩
abbrev N_Reader_is : List Str := ["self", "kind", "text"]
theorem sc_Reader_is : FnScope N_Reader_is ["self", "kind", "text"] (defScope s_Reader_is) := ⟨rfl, rfl, rfl, by decide +kernel, rfl, by decide +kernel, by decide +kernel⟩
def t_Reader_is (K : PySem.W.Frag) (sp_Reader_at_end : Sp) : TS :=
    (tRet (tAndV (tNotV (tMeth (He.ga K "Reader") "at_end" sp_Reader_at_end [] C8.E0 (tVar 0) tNil)) (tOp (rEqX K) (tOp (rIx K) (tFld K (tVar 0) "_tokens") (tFld K (tVar 0) "_at")) (tTup (tCons (tVar 1) (tCons (tVar 2) tNil))))))
theorem d_Reader_is (g : G w K mg) {sp_Reader_at_end : Sp} (c_Reader_at_end : C8.Met P w K mg base 1 (He.ga K "Reader") "at_end" sp_Reader_at_end []) {f : Addr} {cdv : Value} {A : Around} {outer : List Env} {s : Shared} {H : Hp} {E : XK} (hr : Room 1 (A.deeper (envOfC "Reader._is" (defScope s_Reader_is) s.heap.objs.size f cdv))) :
    PSs (cxOf CX0 P w K mg base N_Reader_is "Reader._is" (defScope s_Reader_is) f cdv A outer s H E).nox (defBody s_Reader_is) (t_Reader_is K sp_Reader_at_end) := by
  unfold t_Reader_is
  exact
    (pss_one (ps_ret (pe_and (pe_not (C8.pe_mt0 c_Reader_at_end hr (by decide) (pv 0))) (pe_one (pe_cmpR (o_eq hr.units) (pe_ix ix_seq (pe_fld (pv 0) (by rfl)) (pe_fld (pv 0) (by rfl)) (fun _ _ => rfl)) (pe_tup (pa_cons (pv 1) (pa_cons (pv 2) pa_nil))) (nomark _))))))
theorem ok_Reader_is (g : G w K mg) {sp_Reader_at_end : Sp} (c_Reader_at_end : C8.Met P w K mg base 1 (He.ga K "Reader") "at_end" sp_Reader_at_end []) {sp : Sp} (F : ∃ fd, FunD K "_is" "Reader._is" (defArgs s_Reader_is) (defBody s_Reader_is) (defScope s_Reader_is) [] [] (He.ma K (He.ga K "Reader") "_is") fd)
    (hsp : ∀ vs H Q E, sp vs H Q E → vs.length = 3 ∧ t_Reader_is K sp_Reader_at_end { nx := fun _ H' => Q .non H', rt := Q } (start N_Reader_is vs) H) : C8.Met P w K mg base 2 (He.ga K "Reader") "_is" sp [] := by
  obtain ⟨fd, F⟩ := F
  exact ⟨_, fd, ["self", "kind", "text"], [], g.cls_Reader, g.me_Reader_is, FunD.ok F sc_Reader_is (fun vs H Q E h => (hsp vs H Q E h).1) (fun cdv A outer s H vs Q E hr h => ⟨_, PSs.nox (d_Reader_is g c_Reader_at_end hr), (hsp vs H Q E h).2⟩), (F.bindsN fun _ _ _ _ _ _ us hl => match us, hl with | [_, _, _], _ => rfl), .nil⟩
abbrev N_Reader_skips : List Str := ["self", "kind", "text", "found"]
theorem sc_Reader_skips : FnScope N_Reader_skips ["self", "kind", "text"] (defScope s_Reader_skips) := ⟨rfl, rfl, rfl, by decide +kernel, rfl, by decide +kernel, by decide +kernel⟩
def t_Reader_skips (K : PySem.W.Frag) (sp_Reader_is : Sp) : TS :=
    (tSeq (tAsg (tMeth (He.ga K "Reader") "_is" sp_Reader_is [] C8.E0 (tVar 0) (tCons (tVar 1) (tCons (tVar 2) tNil))) (gName 3))
    (tSeq (sFld K (tVar 0) (tOp (rPlus K) (tFld K (tVar 0) "_at") (tIf (tTruX K (tVar 3)) (tC (.int 1)) (tC (.int 0)))) "_at")
    (tRet (tVar 3))))
theorem d_Reader_skips (g : G w K mg) {sp_Reader_is : Sp} (c_Reader_is : C8.Met P w K mg base 2 (He.ga K "Reader") "_is" sp_Reader_is []) {f : Addr} {cdv : Value} {A : Around} {outer : List Env} {s : Shared} {H : Hp} {E : XK} (hr : Room 2 (A.deeper (envOfC "Reader._skips" (defScope s_Reader_skips) s.heap.objs.size f cdv))) :
    PSs (cxOf CX0 P w K mg base N_Reader_skips "Reader._skips" (defScope s_Reader_skips) f cdv A outer s H E).nox (defBody s_Reader_skips) (t_Reader_skips K sp_Reader_is) := by
  unfold t_Reader_skips
  exact
    (pss_cons (ps_set (i := 3) sc_Reader_skips.nd rfl (by first | exact Or.inl rfl | exact Or.inr rfl) (C8.pe_mt c_Reader_is hr (by decide) (pv 0) (pa_cons (pv 1) (pa_cons (pv 2) pa_nil))))
    (pss_cons (ps_fld (pv 0) (pe_op o_plus (pe_fld (pv 0) (by rfl)) (pe_ifExp (pt_tru (pv 3)) pe_int pe_int)) (by rfl))
    (pss_one (ps_ret (pv 3)))))
theorem ok_Reader_skips (g : G w K mg) {sp_Reader_is : Sp} (c_Reader_is : C8.Met P w K mg base 2 (He.ga K "Reader") "_is" sp_Reader_is []) {sp : Sp} (F : ∃ fd, FunD K "_skips" "Reader._skips" (defArgs s_Reader_skips) (defBody s_Reader_skips) (defScope s_Reader_skips) [] [] (He.ma K (He.ga K "Reader") "_skips") fd)
    (hsp : ∀ vs H Q E, sp vs H Q E → vs.length = 3 ∧ t_Reader_skips K sp_Reader_is { nx := fun _ H' => Q .non H', rt := Q } (start N_Reader_skips vs) H) : C8.Met P w K mg base 3 (He.ga K "Reader") "_skips" sp [] := by
  obtain ⟨fd, F⟩ := F
  exact ⟨_, fd, ["self", "kind", "text"], [], g.cls_Reader, g.me_Reader_skips, FunD.ok F sc_Reader_skips (fun vs H Q E h => (hsp vs H Q E h).1) (fun cdv A outer s H vs Q E hr h => ⟨_, PSs.nox (d_Reader_skips g c_Reader_is hr), (hsp vs H Q E h).2⟩), (F.bindsN fun _ _ _ _ _ _ us hl => match us, hl with | [_, _, _], _ => rfl), .nil⟩
abbrev N_Reader_name : List Str := ["self"]
theorem sc_Reader_name : FnScope N_Reader_name ["self"] (defScope s_Reader_name) := ⟨rfl, rfl, rfl, by decide +kernel, rfl, by decide +kernel, by decide +kernel⟩
def t_Reader_name (K : PySem.W.Frag) (sp_Reader_at_end : Sp) (sp_is_name : Sp) : TS :=
    (tSeq (tIfS (tOr (tTruX K (tMeth (He.ga K "Reader") "at_end" sp_Reader_at_end [] C8.E0 (tVar 0) tNil)) (tOr (tTest (tOp (rNeX K) (tOp (rIx K) (tOp (rIx K) (tFld K (tVar 0) "_tokens") (tFld K (tVar 0) "_at")) (tC (.int 0))) (tC (.str "word")))) (tNot (tTruX K (tCall sp_is_name [] C8.E0 (tCons (tOp (rIx K) (tOp (rIx K) (tFld K (tVar 0) "_tokens") (tFld K (tVar 0) "_at")) (tC (.int 1))) tNil)))))) (tRet (tC .non)) tNext)
    (tSeq (sFld K (tVar 0) (tOp (rPlus K) (tFld K (tVar 0) "_at") (tC (.int 1))) "_at")
    (tRet (tOp (rIx K) (tOp (rIx K) (tFld K (tVar 0) "_tokens") (tOp rMinus (tFld K (tVar 0) "_at") (tC (.int 1)))) (tC (.int 1))))))
theorem d_Reader_name (g : G w K mg) {sp_Reader_at_end : Sp} (c_Reader_at_end : C8.Met P w K mg base 1 (He.ga K "Reader") "at_end" sp_Reader_at_end []) {sp_is_name : Sp} (c_is_name : C8.Cal P w K mg base 1 "is_name" sp_is_name []) {f : Addr} {cdv : Value} {A : Around} {outer : List Env} {s : Shared} {H : Hp} {E : XK} (hr : Room 1 (A.deeper (envOfC "Reader._name" (defScope s_Reader_name) s.heap.objs.size f cdv))) :
    PSs (cxOf CX0 P w K mg base N_Reader_name "Reader._name" (defScope s_Reader_name) f cdv A outer s H E).nox (defBody s_Reader_name) (t_Reader_name K sp_Reader_at_end sp_is_name) := by
  unfold t_Reader_name
  exact
    (pss_cons (ps_if (PW.pt (pw_or (pt_tru (C8.pe_mt0 c_Reader_at_end hr (by decide) (pv 0))) (pw_or (pt_cmpR (o_ne hr.units) (pe_ix ix_seq (pe_ix ix_seq (pe_fld (pv 0) (by rfl)) (pe_fld (pv 0) (by rfl)) (fun _ _ => rfl)) pe_int (fun _ _ => rfl)) (C8.pe_gc rfl g.c_WORD) (nomark _)) (pw_or1 (pt_not (pt_tru (C8.pe_c c_is_name hr (by decide) rfl (pa_cons (pe_ix ix_seq (pe_ix ix_seq (pe_fld (pv 0) (by rfl)) (pe_fld (pv 0) (by rfl)) (fun _ _ => rfl)) pe_int (fun _ _ => rfl)) pa_nil)))))))) (pss_one (ps_ret pe_non)) pss_nil)
    (pss_cons (ps_fld (pv 0) (pe_op o_plus (pe_fld (pv 0) (by rfl)) pe_int) (by rfl))
    (pss_one (ps_ret (pe_ix ix_seq (pe_ix ix_seq (pe_fld (pv 0) (by rfl)) (pe_op o_minus (pe_fld (pv 0) (by rfl)) pe_int) (fun _ _ => rfl)) pe_int (fun _ _ => rfl))))))
theorem ok_Reader_name (g : G w K mg) {sp_Reader_at_end : Sp} (c_Reader_at_end : C8.Met P w K mg base 1 (He.ga K "Reader") "at_end" sp_Reader_at_end []) {sp_is_name : Sp} (c_is_name : C8.Cal P w K mg base 1 "is_name" sp_is_name []) {sp : Sp} (F : ∃ fd, FunD K "_name" "Reader._name" (defArgs s_Reader_name) (defBody s_Reader_name) (defScope s_Reader_name) [] [] (He.ma K (He.ga K "Reader") "_name") fd)
    (hsp : ∀ vs H Q E, sp vs H Q E → vs.length = 1 ∧ t_Reader_name K sp_Reader_at_end sp_is_name { nx := fun _ H' => Q .non H', rt := Q } (start N_Reader_name vs) H) : C8.Met P w K mg base 2 (He.ga K "Reader") "_name" sp [] := by
  obtain ⟨fd, F⟩ := F
  exact ⟨_, fd, ["self"], [], g.cls_Reader, g.me_Reader_name, FunD.ok F sc_Reader_name (fun vs H Q E h => (hsp vs H Q E h).1) (fun cdv A outer s H vs Q E hr h => ⟨_, PSs.nox (d_Reader_name g c_Reader_at_end c_is_name hr), (hsp vs H Q E h).2⟩), (F.bindsN fun _ _ _ _ _ _ us hl => match us, hl with | [_], _ => rfl), .nil⟩
abbrev N_Reader_whole : List Str := ["self", "name", "tree"]
theorem sc_Reader_whole : FnScope N_Reader_whole ["self"] (defScope s_Reader_whole) := ⟨rfl, rfl, rfl, by decide +kernel, rfl, by decide +kernel, by decide +kernel⟩
def t_Reader_whole (K : PySem.W.Frag) (sp_Reader_compared : Sp) (sp_Reader_skips : Sp) (sp_Reader_whole : Sp) (sp_Reader_name : Sp) (sp_Reader_choice : Sp) : TS :=
    (tSeq (tIfS (tTruX K (tMeth (He.ga K "Reader") "_skips" sp_Reader_skips [] C8.E0 (tVar 0) (tCons (tC (.str "word")) (tCons (tC (.str "if")) tNil)))) (tRet (tMeth (He.ga K "Reader") "_choice" sp_Reader_choice [] C8.E0 (tVar 0) tNil)) tNext)
    (tSeq (tIfS (tTruX K (tMeth (He.ga K "Reader") "_skips" sp_Reader_skips [] C8.E0 (tVar 0) (tCons (tC (.str "word")) (tCons (tC (.str "set")) tNil)))) (tSeq (tAsg (tMeth (He.ga K "Reader") "_name" sp_Reader_name [] C8.E0 (tVar 0) tNil) (gName 1))
    (tSeq (tIfS (tOr (tTest (tOp rIsNo (tVar 1) (tC .non))) (tNot (tTruX K (tMeth (He.ga K "Reader") "_skips" sp_Reader_skips [] C8.E0 (tVar 0) (tCons (tC (.str "sign")) (tCons (tC (.str "=")) tNil)))))) (tRet (tC .non)) tNext)
    (tSeq (tAsg (tMeth (He.ga K "Reader") "whole" sp_Reader_whole [] C8.E0 (tVar 0) tNil) (gName 2))
    (tRet (tIf (tTest (tOp rIsNo (tVar 2) (tC .non))) (tC .non) (tTup (tCons (tC (.str "set")) (tCons (tVar 1) (tCons (tVar 2) tNil))))))))) tNext)
    (tRet (tMeth (He.ga K "Reader") "_compared" sp_Reader_compared [] C8.E0 (tVar 0) tNil))))
theorem d_Reader_whole (g : G w K mg) {n : Nat} (hn : 4 ≤ n) {sp_Reader_compared : Sp} (c_Reader_compared : C8.Met P w K mg base n (He.ga K "Reader") "_compared" sp_Reader_compared []) {sp_Reader_skips : Sp} (c_Reader_skips : C8.Met P w K mg base 3 (He.ga K "Reader") "_skips" sp_Reader_skips []) {sp_Reader_whole : Sp} (c_Reader_whole : C8.Met P w K mg base n (He.ga K "Reader") "whole" sp_Reader_whole []) {sp_Reader_name : Sp} (c_Reader_name : C8.Met P w K mg base 2 (He.ga K "Reader") "_name" sp_Reader_name []) {sp_Reader_choice : Sp} (c_Reader_choice : C8.Met P w K mg base n (He.ga K "Reader") "_choice" sp_Reader_choice []) {f : Addr} {cdv : Value} {A : Around} {outer : List Env} {s : Shared} {H : Hp} {E : XK} (hr : Room n (A.deeper (envOfC "Reader.whole" (defScope s_Reader_whole) s.heap.objs.size f cdv))) :
    PSs (cxOf CX0 P w K mg base N_Reader_whole "Reader.whole" (defScope s_Reader_whole) f cdv A outer s H E).nox (defBody s_Reader_whole) (t_Reader_whole K sp_Reader_compared sp_Reader_skips sp_Reader_whole sp_Reader_name sp_Reader_choice) := by
  unfold t_Reader_whole
  exact
    (pss_cons (ps_if (pt_tru (C8.pe_mt c_Reader_skips hr (by omega) (pv 0) (pa_cons (C8.pe_gc rfl g.c_WORD) (pa_cons (C8.pe_gc rfl g.c_IF) pa_nil)))) (pss_one (ps_ret (C8.pe_mt0 c_Reader_choice hr (by omega) (pv 0)))) pss_nil)
    (pss_cons (ps_if (pt_tru (C8.pe_mt c_Reader_skips hr (by omega) (pv 0) (pa_cons (C8.pe_gc rfl g.c_WORD) (pa_cons (C8.pe_gc rfl g.c_SET) pa_nil)))) (pss_cons (ps_set (i := 1) sc_Reader_whole.nd rfl (by first | exact Or.inl rfl | exact Or.inr rfl) (C8.pe_mt0 c_Reader_name hr (by omega) (pv 0)))
    (pss_cons (ps_if (PW.pt (pw_or (pt_cmpR o_is (pv 1) pe_non (nomark _)) (pw_or1 (pt_not (pt_tru (C8.pe_mt c_Reader_skips hr (by omega) (pv 0) (pa_cons (C8.pe_gc rfl g.c_SIGN) (pa_cons pe_str pa_nil)))))))) (pss_one (ps_ret pe_non)) pss_nil)
    (pss_cons (ps_set (i := 2) sc_Reader_whole.nd rfl (by first | exact Or.inl rfl | exact Or.inr rfl) (C8.pe_mt0 c_Reader_whole hr (by omega) (pv 0)))
    (pss_one (ps_ret (pe_ifExp (pt_cmpR o_is (pv 2) pe_non (nomark _)) pe_non (pe_tup (pa_cons (C8.pe_gc rfl g.c_SET) (pa_cons (pv 1) (pa_cons (pv 2) pa_nil)))))))))) pss_nil)
    (pss_one (ps_ret (C8.pe_mt0 c_Reader_compared hr (by omega) (pv 0))))))
theorem zz_Reader_whole (g : G w K mg) (k : Nat) (F : ∃ fd, FunD K "whole" "Reader.whole" (defArgs s_Reader_whole) (defBody s_Reader_whole) (defScope s_Reader_whole) [] [] (He.ma K (He.ga K "Reader") "whole") fd) : C8.Met P w K mg base k (He.ga K "Reader") "whole" (fun _ _ _ _ => False) [] := by
  obtain ⟨fd, F⟩ := F
  exact ⟨_, fd, ["self"], [], g.cls_Reader, g.me_Reader_whole, ⟨fun _ _ _ _ h => h.elim, fun _ _ _ _ _ _ _ _ _ _ _ _ _ h => h.elim⟩, (F.bindsN fun _ _ _ _ _ _ us hl => match us, hl with | [_], _ => rfl), .nil⟩
theorem ok_Reader_whole (g : G w K mg) {n : Nat} (hn : 4 ≤ n) {sp_Reader_compared : Sp} (c_Reader_compared : C8.Met P w K mg base n (He.ga K "Reader") "_compared" sp_Reader_compared []) {sp_Reader_skips : Sp} (c_Reader_skips : C8.Met P w K mg base 3 (He.ga K "Reader") "_skips" sp_Reader_skips []) {sp_Reader_whole : Sp} (c_Reader_whole : C8.Met P w K mg base n (He.ga K "Reader") "whole" sp_Reader_whole []) {sp_Reader_name : Sp} (c_Reader_name : C8.Met P w K mg base 2 (He.ga K "Reader") "_name" sp_Reader_name []) {sp_Reader_choice : Sp} (c_Reader_choice : C8.Met P w K mg base n (He.ga K "Reader") "_choice" sp_Reader_choice []) {sp : Sp} (F : ∃ fd, FunD K "whole" "Reader.whole" (defArgs s_Reader_whole) (defBody s_Reader_whole) (defScope s_Reader_whole) [] [] (He.ma K (He.ga K "Reader") "whole") fd)
    (hsp : ∀ vs H Q E, sp vs H Q E → vs.length = 1 ∧ t_Reader_whole K sp_Reader_compared sp_Reader_skips sp_Reader_whole sp_Reader_name sp_Reader_choice { nx := fun _ H' => Q .non H', rt := Q } (start N_Reader_whole vs) H) : C8.Met P w K mg base (n + 1) (He.ga K "Reader") "whole" sp [] := by
  obtain ⟨fd, F⟩ := F
  exact ⟨_, fd, ["self"], [], g.cls_Reader, g.me_Reader_whole, FunD.ok F sc_Reader_whole (fun vs H Q E h => (hsp vs H Q E h).1) (fun cdv A outer s H vs Q E hr h => ⟨_, PSs.nox (d_Reader_whole g hn c_Reader_compared c_Reader_skips c_Reader_whole c_Reader_name c_Reader_choice hr), (hsp vs H Q E h).2⟩), (F.bindsN fun _ _ _ _ _ _ us hl => match us, hl with | [_], _ => rfl), .nil⟩
abbrev N_Reader_choice : List Str := ["self", "first", "second", "third"]
theorem sc_Reader_choice : FnScope N_Reader_choice ["self"] (defScope s_Reader_choice) := ⟨rfl, rfl, rfl, by decide +kernel, rfl, by decide +kernel, by decide +kernel⟩
def t_Reader_choice (K : PySem.W.Frag) (sp_Reader_whole : Sp) (sp_Reader_skips : Sp) : TS :=
    (tSeq (tAsg (tMeth (He.ga K "Reader") "whole" sp_Reader_whole [] C8.E0 (tVar 0) tNil) (gName 1))
    (tSeq (tIfS (tOr (tTest (tOp rIsNo (tVar 1) (tC .non))) (tNot (tTruX K (tMeth (He.ga K "Reader") "_skips" sp_Reader_skips [] C8.E0 (tVar 0) (tCons (tC (.str "word")) (tCons (tC (.str "then")) tNil)))))) (tRet (tC .non)) tNext)
    (tSeq (tAsg (tMeth (He.ga K "Reader") "whole" sp_Reader_whole [] C8.E0 (tVar 0) tNil) (gName 2))
    (tSeq (tIfS (tOr (tTest (tOp rIsNo (tVar 2) (tC .non))) (tNot (tTruX K (tMeth (He.ga K "Reader") "_skips" sp_Reader_skips [] C8.E0 (tVar 0) (tCons (tC (.str "word")) (tCons (tC (.str "else")) tNil)))))) (tRet (tC .non)) tNext)
    (tSeq (tAsg (tMeth (He.ga K "Reader") "whole" sp_Reader_whole [] C8.E0 (tVar 0) tNil) (gName 3))
    (tRet (tIf (tTest (tOp rIsNo (tVar 3) (tC .non))) (tC .non) (tTup (tCons (tC (.str "if")) (tCons (tVar 1) (tCons (tVar 2) (tCons (tVar 3) tNil))))))))))))
theorem d_Reader_choice (g : G w K mg) {n : Nat} (hn : 4 ≤ n) {sp_Reader_whole : Sp} (c_Reader_whole : C8.Met P w K mg base n (He.ga K "Reader") "whole" sp_Reader_whole []) {sp_Reader_skips : Sp} (c_Reader_skips : C8.Met P w K mg base 3 (He.ga K "Reader") "_skips" sp_Reader_skips []) {f : Addr} {cdv : Value} {A : Around} {outer : List Env} {s : Shared} {H : Hp} {E : XK} (hr : Room n (A.deeper (envOfC "Reader._choice" (defScope s_Reader_choice) s.heap.objs.size f cdv))) :
    PSs (cxOf CX0 P w K mg base N_Reader_choice "Reader._choice" (defScope s_Reader_choice) f cdv A outer s H E).nox (defBody s_Reader_choice) (t_Reader_choice K sp_Reader_whole sp_Reader_skips) := by
  unfold t_Reader_choice
  exact
    (pss_cons (ps_set (i := 1) sc_Reader_choice.nd rfl (by first | exact Or.inl rfl | exact Or.inr rfl) (C8.pe_mt0 c_Reader_whole hr (by omega) (pv 0)))
    (pss_cons (ps_if (PW.pt (pw_or (pt_cmpR o_is (pv 1) pe_non (nomark _)) (pw_or1 (pt_not (pt_tru (C8.pe_mt c_Reader_skips hr (by omega) (pv 0) (pa_cons (C8.pe_gc rfl g.c_WORD) (pa_cons (C8.pe_gc rfl g.c_THEN) pa_nil)))))))) (pss_one (ps_ret pe_non)) pss_nil)
    (pss_cons (ps_set (i := 2) sc_Reader_choice.nd rfl (by first | exact Or.inl rfl | exact Or.inr rfl) (C8.pe_mt0 c_Reader_whole hr (by omega) (pv 0)))
    (pss_cons (ps_if (PW.pt (pw_or (pt_cmpR o_is (pv 2) pe_non (nomark _)) (pw_or1 (pt_not (pt_tru (C8.pe_mt c_Reader_skips hr (by omega) (pv 0) (pa_cons (C8.pe_gc rfl g.c_WORD) (pa_cons pe_str pa_nil)))))))) (pss_one (ps_ret pe_non)) pss_nil)
    (pss_cons (ps_set (i := 3) sc_Reader_choice.nd rfl (by first | exact Or.inl rfl | exact Or.inr rfl) (C8.pe_mt0 c_Reader_whole hr (by omega) (pv 0)))
    (pss_one (ps_ret (pe_ifExp (pt_cmpR o_is (pv 3) pe_non (nomark _)) pe_non (pe_tup (pa_cons (C8.pe_gc rfl g.c_IF) (pa_cons (pv 1) (pa_cons (pv 2) (pa_cons (pv 3) pa_nil)))))))))))))
theorem zz_Reader_choice (g : G w K mg) (k : Nat) (F : ∃ fd, FunD K "_choice" "Reader._choice" (defArgs s_Reader_choice) (defBody s_Reader_choice) (defScope s_Reader_choice) [] [] (He.ma K (He.ga K "Reader") "_choice") fd) : C8.Met P w K mg base k (He.ga K "Reader") "_choice" (fun _ _ _ _ => False) [] := by
  obtain ⟨fd, F⟩ := F
  exact ⟨_, fd, ["self"], [], g.cls_Reader, g.me_Reader_choice, ⟨fun _ _ _ _ h => h.elim, fun _ _ _ _ _ _ _ _ _ _ _ _ _ h => h.elim⟩, (F.bindsN fun _ _ _ _ _ _ us hl => match us, hl with | [_], _ => rfl), .nil⟩
theorem ok_Reader_choice (g : G w K mg) {n : Nat} (hn : 4 ≤ n) {sp_Reader_whole : Sp} (c_Reader_whole : C8.Met P w K mg base n (He.ga K "Reader") "whole" sp_Reader_whole []) {sp_Reader_skips : Sp} (c_Reader_skips : C8.Met P w K mg base 3 (He.ga K "Reader") "_skips" sp_Reader_skips []) {sp : Sp} (F : ∃ fd, FunD K "_choice" "Reader._choice" (defArgs s_Reader_choice) (defBody s_Reader_choice) (defScope s_Reader_choice) [] [] (He.ma K (He.ga K "Reader") "_choice") fd)
    (hsp : ∀ vs H Q E, sp vs H Q E → vs.length = 1 ∧ t_Reader_choice K sp_Reader_whole sp_Reader_skips { nx := fun _ H' => Q .non H', rt := Q } (start N_Reader_choice vs) H) : C8.Met P w K mg base (n + 1) (He.ga K "Reader") "_choice" sp [] := by
  obtain ⟨fd, F⟩ := F
  exact ⟨_, fd, ["self"], [], g.cls_Reader, g.me_Reader_choice, FunD.ok F sc_Reader_choice (fun vs H Q E h => (hsp vs H Q E h).1) (fun cdv A outer s H vs Q E hr h => ⟨_, PSs.nox (d_Reader_choice g hn c_Reader_whole c_Reader_skips hr), (hsp vs H Q E h).2⟩), (F.bindsN fun _ _ _ _ _ _ us hl => match us, hl with | [_], _ => rfl), .nil⟩
abbrev N_Reader_sign : List Str := ["self", "signs", "sign"]
theorem sc_Reader_sign : FnScope N_Reader_sign ["self", "signs"] (defScope s_Reader_sign) := ⟨rfl, rfl, rfl, by decide +kernel, rfl, by decide +kernel, by decide +kernel⟩
def t_Reader_sign (K : PySem.W.Frag) (sp_Reader_skips : Sp) : TS :=
    (tSeq (tFor (iAny K (tVar 1)) (gName 2) (tIfS (tTruX K (tMeth (He.ga K "Reader") "_skips" sp_Reader_skips [] C8.E0 (tVar 0) (tCons (tC (.str "sign")) (tCons (tVar 2) tNil)))) (tRet (tVar 2)) tNext))
    (tRet (tC .non)))
theorem d_Reader_sign (g : G w K mg) {sp_Reader_skips : Sp} (c_Reader_skips : C8.Met P w K mg base 3 (He.ga K "Reader") "_skips" sp_Reader_skips []) {f : Addr} {cdv : Value} {A : Around} {outer : List Env} {s : Shared} {H : Hp} {E : XK} (hr : Room 3 (A.deeper (envOfC "Reader._sign" (defScope s_Reader_sign) s.heap.objs.size f cdv))) :
    PSs (cxOf CX0 P w K mg base N_Reader_sign "Reader._sign" (defScope s_Reader_sign) f cdv A outer s H E).nox (defBody s_Reader_sign) (t_Reader_sign K sp_Reader_skips) := by
  unfold t_Reader_sign
  exact
    (pss_cons (ps_for PassesOwn.never rfl (pi_any (pv 1)) (pg_name (i := 2) sc_Reader_sign.nd rfl (by first | exact Or.inl rfl | exact Or.inr rfl)) (pss_one (ps_if (pt_tru (C8.pe_mt c_Reader_skips hr (by decide) (pv 0) (pa_cons (C8.pe_gc rfl g.c_SIGN) (pa_cons (pv 2) pa_nil)))) (pss_one (ps_ret (pv 2))) pss_nil)))
    (pss_one (ps_ret pe_non)))
theorem ok_Reader_sign (g : G w K mg) {sp_Reader_skips : Sp} (c_Reader_skips : C8.Met P w K mg base 3 (He.ga K "Reader") "_skips" sp_Reader_skips []) {sp : Sp} (F : ∃ fd, FunD K "_sign" "Reader._sign" (defArgs s_Reader_sign) (defBody s_Reader_sign) (defScope s_Reader_sign) [] [] (He.ma K (He.ga K "Reader") "_sign") fd)
    (hsp : ∀ vs H Q E, sp vs H Q E → vs.length = 2 ∧ t_Reader_sign K sp_Reader_skips { nx := fun _ H' => Q .non H', rt := Q } (start N_Reader_sign vs) H) : C8.Met P w K mg base 4 (He.ga K "Reader") "_sign" sp [] := by
  obtain ⟨fd, F⟩ := F
  exact ⟨_, fd, ["self", "signs"], [], g.cls_Reader, g.me_Reader_sign, FunD.ok F sc_Reader_sign (fun vs H Q E h => (hsp vs H Q E h).1) (fun cdv A outer s H vs Q E hr h => ⟨_, PSs.nox (d_Reader_sign g c_Reader_skips hr), (hsp vs H Q E h).2⟩), (F.bindsN fun _ _ _ _ _ _ us hl => match us, hl with | [_, _], _ => rfl), .nil⟩
abbrev N_Reader_compared : List Str := ["self", "left", "sign", "right"]
theorem sc_Reader_compared : FnScope N_Reader_compared ["self"] (defScope s_Reader_compared) := ⟨rfl, rfl, rfl, by decide +kernel, rfl, by decide +kernel, by decide +kernel⟩
def t_Reader_compared (K : PySem.W.Frag) (sp_Reader_sum : Sp) (sp_Reader_sign : Sp) : TS :=
    (tSeq (tAsg (tMeth (He.ga K "Reader") "_sum" sp_Reader_sum [] C8.E0 (tVar 0) tNil) (gName 1))
    (tSeq (tIfS (tTest (tOp rIsNo (tVar 1) (tC .non))) (tRet (tC .non)) tNext)
    (tSeq (tAsg (tMeth (He.ga K "Reader") "_sign" sp_Reader_sign [] C8.E0 (tVar 0) (tCons (tC (.str "=<")) tNil)) (gName 2))
    (tSeq (tIfS (tTest (tOp rIsNo (tVar 2) (tC .non))) (tRet (tVar 1)) tNext)
    (tSeq (tAsg (tMeth (He.ga K "Reader") "_sum" sp_Reader_sum [] C8.E0 (tVar 0) tNil) (gName 3))
    (tRet (tIf (tTest (tOp rIsNo (tVar 3) (tC .non))) (tC .non) (tTup (tCons (tVar 2) (tCons (tVar 1) (tCons (tVar 3) tNil)))))))))))
theorem d_Reader_compared (g : G w K mg) {n : Nat} (hn : 4 ≤ n) {sp_Reader_sum : Sp} (c_Reader_sum : C8.Met P w K mg base n (He.ga K "Reader") "_sum" sp_Reader_sum []) {sp_Reader_sign : Sp} (c_Reader_sign : C8.Met P w K mg base 4 (He.ga K "Reader") "_sign" sp_Reader_sign []) {f : Addr} {cdv : Value} {A : Around} {outer : List Env} {s : Shared} {H : Hp} {E : XK} (hr : Room n (A.deeper (envOfC "Reader._compared" (defScope s_Reader_compared) s.heap.objs.size f cdv))) :
    PSs (cxOf CX0 P w K mg base N_Reader_compared "Reader._compared" (defScope s_Reader_compared) f cdv A outer s H E).nox (defBody s_Reader_compared) (t_Reader_compared K sp_Reader_sum sp_Reader_sign) := by
  unfold t_Reader_compared
  exact
    (pss_cons (ps_set (i := 1) sc_Reader_compared.nd rfl (by first | exact Or.inl rfl | exact Or.inr rfl) (C8.pe_mt0 c_Reader_sum hr (by omega) (pv 0)))
    (pss_cons (ps_if (pt_cmpR o_is (pv 1) pe_non (nomark _)) (pss_one (ps_ret pe_non)) pss_nil)
    (pss_cons (ps_set (i := 2) sc_Reader_compared.nd rfl (by first | exact Or.inl rfl | exact Or.inr rfl) (C8.pe_mt c_Reader_sign hr (by omega) (pv 0) (pa_cons pe_str pa_nil)))
    (pss_cons (ps_if (pt_cmpR o_is (pv 2) pe_non (nomark _)) (pss_one (ps_ret (pv 1))) pss_nil)
    (pss_cons (ps_set (i := 3) sc_Reader_compared.nd rfl (by first | exact Or.inl rfl | exact Or.inr rfl) (C8.pe_mt0 c_Reader_sum hr (by omega) (pv 0)))
    (pss_one (ps_ret (pe_ifExp (pt_cmpR o_is (pv 3) pe_non (nomark _)) pe_non (pe_tup (pa_cons (pv 2) (pa_cons (pv 1) (pa_cons (pv 3) pa_nil))))))))))))
theorem zz_Reader_compared (g : G w K mg) (k : Nat) (F : ∃ fd, FunD K "_compared" "Reader._compared" (defArgs s_Reader_compared) (defBody s_Reader_compared) (defScope s_Reader_compared) [] [] (He.ma K (He.ga K "Reader") "_compared") fd) : C8.Met P w K mg base k (He.ga K "Reader") "_compared" (fun _ _ _ _ => False) [] := by
  obtain ⟨fd, F⟩ := F
  exact ⟨_, fd, ["self"], [], g.cls_Reader, g.me_Reader_compared, ⟨fun _ _ _ _ h => h.elim, fun _ _ _ _ _ _ _ _ _ _ _ _ _ h => h.elim⟩, (F.bindsN fun _ _ _ _ _ _ us hl => match us, hl with | [_], _ => rfl), .nil⟩
theorem ok_Reader_compared (g : G w K mg) {n : Nat} (hn : 4 ≤ n) {sp_Reader_sum : Sp} (c_Reader_sum : C8.Met P w K mg base n (He.ga K "Reader") "_sum" sp_Reader_sum []) {sp_Reader_sign : Sp} (c_Reader_sign : C8.Met P w K mg base 4 (He.ga K "Reader") "_sign" sp_Reader_sign []) {sp : Sp} (F : ∃ fd, FunD K "_compared" "Reader._compared" (defArgs s_Reader_compared) (defBody s_Reader_compared) (defScope s_Reader_compared) [] [] (He.ma K (He.ga K "Reader") "_compared") fd)
    (hsp : ∀ vs H Q E, sp vs H Q E → vs.length = 1 ∧ t_Reader_compared K sp_Reader_sum sp_Reader_sign { nx := fun _ H' => Q .non H', rt := Q } (start N_Reader_compared vs) H) : C8.Met P w K mg base (n + 1) (He.ga K "Reader") "_compared" sp [] := by
  obtain ⟨fd, F⟩ := F
  exact ⟨_, fd, ["self"], [], g.cls_Reader, g.me_Reader_compared, FunD.ok F sc_Reader_compared (fun vs H Q E h => (hsp vs H Q E h).1) (fun cdv A outer s H vs Q E hr h => ⟨_, PSs.nox (d_Reader_compared g hn c_Reader_sum c_Reader_sign hr), (hsp vs H Q E h).2⟩), (F.bindsN fun _ _ _ _ _ _ us hl => match us, hl with | [_], _ => rfl), .nil⟩
abbrev N_Reader_sum : List Str := ["self", "left", "sign", "right"]
theorem sc_Reader_sum : FnScope N_Reader_sum ["self"] (defScope s_Reader_sum) := ⟨rfl, rfl, rfl, by decide +kernel, rfl, by decide +kernel, by decide +kernel⟩
def t_Reader_sum (K : PySem.W.Frag) (sp_Reader_sign : Sp) (sp_Reader_product : Sp) : TS :=
    (tSeq (tAsg (tMeth (He.ga K "Reader") "_product" sp_Reader_product [] C8.E0 (tVar 0) tNil) (gName 1))
    (tSeq (tAsg (tIf (tTest (tOp rIsNo (tVar 1) (tC .non))) (tC .non) (tMeth (He.ga K "Reader") "_sign" sp_Reader_sign [] C8.E0 (tVar 0) (tCons (tC (.str "+-")) tNil))) (gName 2))
    (tSeq (tWhile (tTest (tOp rNotNo (tVar 2) (tC .non))) (tSeq (tAsg (tMeth (He.ga K "Reader") "_product" sp_Reader_product [] C8.E0 (tVar 0) tNil) (gName 3))
    (tSeq (tIfS (tTest (tOp rIsNo (tVar 3) (tC .non))) (tRet (tC .non)) tNext)
    (tSeq (tAsg (tTup (tCons (tVar 2) (tCons (tVar 1) (tCons (tVar 3) tNil)))) (gName 1))
    (tAsg (tMeth (He.ga K "Reader") "_sign" sp_Reader_sign [] C8.E0 (tVar 0) (tCons (tC (.str "+-")) tNil)) (gName 2))))))
    (tRet (tVar 1)))))
theorem d_Reader_sum (g : G w K mg) {n : Nat} (hn : 4 ≤ n) {sp_Reader_sign : Sp} (c_Reader_sign : C8.Met P w K mg base 4 (He.ga K "Reader") "_sign" sp_Reader_sign []) {sp_Reader_product : Sp} (c_Reader_product : C8.Met P w K mg base n (He.ga K "Reader") "_product" sp_Reader_product []) {f : Addr} {cdv : Value} {A : Around} {outer : List Env} {s : Shared} {H : Hp} {E : XK} (hr : Room n (A.deeper (envOfC "Reader._sum" (defScope s_Reader_sum) s.heap.objs.size f cdv))) :
    PSs (cxOf CX0 P w K mg base N_Reader_sum "Reader._sum" (defScope s_Reader_sum) f cdv A outer s H E).nox (defBody s_Reader_sum) (t_Reader_sum K sp_Reader_sign sp_Reader_product) := by
  unfold t_Reader_sum
  exact
    (pss_cons (ps_set (i := 1) sc_Reader_sum.nd rfl (by first | exact Or.inl rfl | exact Or.inr rfl) (C8.pe_mt0 c_Reader_product hr (by omega) (pv 0)))
    (pss_cons (ps_set (i := 2) sc_Reader_sum.nd rfl (by first | exact Or.inl rfl | exact Or.inr rfl) (pe_ifExp (pt_cmpR o_is (pv 1) pe_non (nomark _)) pe_non (C8.pe_mt c_Reader_sign hr (by omega) (pv 0) (pa_cons pe_str pa_nil))))
    (pss_cons (ps_while PassesOwn.never (pt_cmpR o_isnot (pv 2) pe_non (nomark _)) (pss_cons (ps_set (i := 3) sc_Reader_sum.nd rfl (by first | exact Or.inl rfl | exact Or.inr rfl) (C8.pe_mt0 c_Reader_product hr (by omega) (pv 0)))
    (pss_cons (ps_if (pt_cmpR o_is (pv 3) pe_non (nomark _)) (pss_one (ps_ret pe_non)) pss_nil)
    (pss_cons (ps_set (i := 1) sc_Reader_sum.nd rfl (by first | exact Or.inl rfl | exact Or.inr rfl) (pe_tup (pa_cons (pv 2) (pa_cons (pv 1) (pa_cons (pv 3) pa_nil)))))
    (pss_one (ps_set (i := 2) sc_Reader_sum.nd rfl (by first | exact Or.inl rfl | exact Or.inr rfl) (C8.pe_mt c_Reader_sign hr (by omega) (pv 0) (pa_cons pe_str pa_nil))))))))
    (pss_one (ps_ret (pv 1))))))
theorem zz_Reader_sum (g : G w K mg) (k : Nat) (F : ∃ fd, FunD K "_sum" "Reader._sum" (defArgs s_Reader_sum) (defBody s_Reader_sum) (defScope s_Reader_sum) [] [] (He.ma K (He.ga K "Reader") "_sum") fd) : C8.Met P w K mg base k (He.ga K "Reader") "_sum" (fun _ _ _ _ => False) [] := by
  obtain ⟨fd, F⟩ := F
  exact ⟨_, fd, ["self"], [], g.cls_Reader, g.me_Reader_sum, ⟨fun _ _ _ _ h => h.elim, fun _ _ _ _ _ _ _ _ _ _ _ _ _ h => h.elim⟩, (F.bindsN fun _ _ _ _ _ _ us hl => match us, hl with | [_], _ => rfl), .nil⟩
theorem ok_Reader_sum (g : G w K mg) {n : Nat} (hn : 4 ≤ n) {sp_Reader_sign : Sp} (c_Reader_sign : C8.Met P w K mg base 4 (He.ga K "Reader") "_sign" sp_Reader_sign []) {sp_Reader_product : Sp} (c_Reader_product : C8.Met P w K mg base n (He.ga K "Reader") "_product" sp_Reader_product []) {sp : Sp} (F : ∃ fd, FunD K "_sum" "Reader._sum" (defArgs s_Reader_sum) (defBody s_Reader_sum) (defScope s_Reader_sum) [] [] (He.ma K (He.ga K "Reader") "_sum") fd)
    (hsp : ∀ vs H Q E, sp vs H Q E → vs.length = 1 ∧ t_Reader_sum K sp_Reader_sign sp_Reader_product { nx := fun _ H' => Q .non H', rt := Q } (start N_Reader_sum vs) H) : C8.Met P w K mg base (n + 1) (He.ga K "Reader") "_sum" sp [] := by
  obtain ⟨fd, F⟩ := F
  exact ⟨_, fd, ["self"], [], g.cls_Reader, g.me_Reader_sum, FunD.ok F sc_Reader_sum (fun vs H Q E h => (hsp vs H Q E h).1) (fun cdv A outer s H vs Q E hr h => ⟨_, PSs.nox (d_Reader_sum g hn c_Reader_sign c_Reader_product hr), (hsp vs H Q E h).2⟩), (F.bindsN fun _ _ _ _ _ _ us hl => match us, hl with | [_], _ => rfl), .nil⟩
abbrev N_Reader_product : List Str := ["self", "left", "sign", "right"]
theorem sc_Reader_product : FnScope N_Reader_product ["self"] (defScope s_Reader_product) := ⟨rfl, rfl, rfl, by decide +kernel, rfl, by decide +kernel, by decide +kernel⟩
def t_Reader_product (K : PySem.W.Frag) (sp_Reader_sign : Sp) (sp_Reader_atom : Sp) : TS :=
    (tSeq (tAsg (tMeth (He.ga K "Reader") "_atom" sp_Reader_atom [] C8.E0 (tVar 0) tNil) (gName 1))
    (tSeq (tAsg (tIf (tTest (tOp rIsNo (tVar 1) (tC .non))) (tC .non) (tMeth (He.ga K "Reader") "_sign" sp_Reader_sign [] C8.E0 (tVar 0) (tCons (tC (.str "*")) tNil))) (gName 2))
    (tSeq (tWhile (tTest (tOp rNotNo (tVar 2) (tC .non))) (tSeq (tAsg (tMeth (He.ga K "Reader") "_atom" sp_Reader_atom [] C8.E0 (tVar 0) tNil) (gName 3))
    (tSeq (tIfS (tTest (tOp rIsNo (tVar 3) (tC .non))) (tRet (tC .non)) tNext)
    (tSeq (tAsg (tTup (tCons (tVar 2) (tCons (tVar 1) (tCons (tVar 3) tNil)))) (gName 1))
    (tAsg (tMeth (He.ga K "Reader") "_sign" sp_Reader_sign [] C8.E0 (tVar 0) (tCons (tC (.str "*")) tNil)) (gName 2))))))
    (tRet (tVar 1)))))
theorem d_Reader_product (g : G w K mg) {n : Nat} (hn : 4 ≤ n) {sp_Reader_sign : Sp} (c_Reader_sign : C8.Met P w K mg base 4 (He.ga K "Reader") "_sign" sp_Reader_sign []) {sp_Reader_atom : Sp} (c_Reader_atom : C8.Met P w K mg base n (He.ga K "Reader") "_atom" sp_Reader_atom []) {f : Addr} {cdv : Value} {A : Around} {outer : List Env} {s : Shared} {H : Hp} {E : XK} (hr : Room n (A.deeper (envOfC "Reader._product" (defScope s_Reader_product) s.heap.objs.size f cdv))) :
    PSs (cxOf CX0 P w K mg base N_Reader_product "Reader._product" (defScope s_Reader_product) f cdv A outer s H E).nox (defBody s_Reader_product) (t_Reader_product K sp_Reader_sign sp_Reader_atom) := by
  unfold t_Reader_product
  exact
    (pss_cons (ps_set (i := 1) sc_Reader_product.nd rfl (by first | exact Or.inl rfl | exact Or.inr rfl) (C8.pe_mt0 c_Reader_atom hr (by omega) (pv 0)))
    (pss_cons (ps_set (i := 2) sc_Reader_product.nd rfl (by first | exact Or.inl rfl | exact Or.inr rfl) (pe_ifExp (pt_cmpR o_is (pv 1) pe_non (nomark _)) pe_non (C8.pe_mt c_Reader_sign hr (by omega) (pv 0) (pa_cons pe_str pa_nil))))
    (pss_cons (ps_while PassesOwn.never (pt_cmpR o_isnot (pv 2) pe_non (nomark _)) (pss_cons (ps_set (i := 3) sc_Reader_product.nd rfl (by first | exact Or.inl rfl | exact Or.inr rfl) (C8.pe_mt0 c_Reader_atom hr (by omega) (pv 0)))
    (pss_cons (ps_if (pt_cmpR o_is (pv 3) pe_non (nomark _)) (pss_one (ps_ret pe_non)) pss_nil)
    (pss_cons (ps_set (i := 1) sc_Reader_product.nd rfl (by first | exact Or.inl rfl | exact Or.inr rfl) (pe_tup (pa_cons (pv 2) (pa_cons (pv 1) (pa_cons (pv 3) pa_nil)))))
    (pss_one (ps_set (i := 2) sc_Reader_product.nd rfl (by first | exact Or.inl rfl | exact Or.inr rfl) (C8.pe_mt c_Reader_sign hr (by omega) (pv 0) (pa_cons pe_str pa_nil))))))))
    (pss_one (ps_ret (pv 1))))))
theorem zz_Reader_product (g : G w K mg) (k : Nat) (F : ∃ fd, FunD K "_product" "Reader._product" (defArgs s_Reader_product) (defBody s_Reader_product) (defScope s_Reader_product) [] [] (He.ma K (He.ga K "Reader") "_product") fd) : C8.Met P w K mg base k (He.ga K "Reader") "_product" (fun _ _ _ _ => False) [] := by
  obtain ⟨fd, F⟩ := F
  exact ⟨_, fd, ["self"], [], g.cls_Reader, g.me_Reader_product, ⟨fun _ _ _ _ h => h.elim, fun _ _ _ _ _ _ _ _ _ _ _ _ _ h => h.elim⟩, (F.bindsN fun _ _ _ _ _ _ us hl => match us, hl with | [_], _ => rfl), .nil⟩
theorem ok_Reader_product (g : G w K mg) {n : Nat} (hn : 4 ≤ n) {sp_Reader_sign : Sp} (c_Reader_sign : C8.Met P w K mg base 4 (He.ga K "Reader") "_sign" sp_Reader_sign []) {sp_Reader_atom : Sp} (c_Reader_atom : C8.Met P w K mg base n (He.ga K "Reader") "_atom" sp_Reader_atom []) {sp : Sp} (F : ∃ fd, FunD K "_product" "Reader._product" (defArgs s_Reader_product) (defBody s_Reader_product) (defScope s_Reader_product) [] [] (He.ma K (He.ga K "Reader") "_product") fd)
    (hsp : ∀ vs H Q E, sp vs H Q E → vs.length = 1 ∧ t_Reader_product K sp_Reader_sign sp_Reader_atom { nx := fun _ H' => Q .non H', rt := Q } (start N_Reader_product vs) H) : C8.Met P w K mg base (n + 1) (He.ga K "Reader") "_product" sp [] := by
  obtain ⟨fd, F⟩ := F
  exact ⟨_, fd, ["self"], [], g.cls_Reader, g.me_Reader_product, FunD.ok F sc_Reader_product (fun vs H Q E h => (hsp vs H Q E h).1) (fun cdv A outer s H vs Q E hr h => ⟨_, PSs.nox (d_Reader_product g hn c_Reader_sign c_Reader_atom hr), (hsp vs H Q E h).2⟩), (F.bindsN fun _ _ _ _ _ _ us hl => match us, hl with | [_], _ => rfl), .nil⟩
abbrev N_Reader_atom : List Str := ["self", "kind", "inner", "name"]
theorem sc_Reader_atom : FnScope N_Reader_atom ["self"] (defScope s_Reader_atom) := ⟨rfl, rfl, rfl, by decide +kernel, rfl, by decide +kernel, by decide +kernel⟩
def t_Reader_atom (K : PySem.W.Frag) (sp_Reader_is : Sp) (sp_Reader_call : Sp) (sp_Reader_name : Sp) (sp_Reader_sequence : Sp) (sp_Reader_at_end : Sp) : TS :=
    (tSeq (tIfS (tTruX K (tMeth (He.ga K "Reader") "at_end" sp_Reader_at_end [] C8.E0 (tVar 0) tNil)) (tRet (tC .non)) tNext)
    (tSeq (tAsg (tOp (rIx K) (tFld K (tVar 0) "_tokens") (tFld K (tVar 0) "_at")) (gUnp K 2 (gCons (gName 1) (gCons (gName 2) gNil))))
    (tSeq (tIfS (tOr (tTest (tOp (rEqX K) (tVar 1) (tC (.str "number")))) (tTest (tOp (rEqX K) (tVar 1) (tC (.str "string"))))) (tSeq (sFld K (tVar 0) (tOp (rPlus K) (tFld K (tVar 0) "_at") (tC (.int 1))) "_at")
    (tRet (tTup (tCons (tVar 1) (tCons (tVar 2) tNil))))) tNext)
    (tSeq (tIfS (tTest (tOp (rEqX K) (tVar 1) (tC (.str "sign")))) (tRet (tIf (tTest (tOp (rEqX K) (tVar 2) (tC (.str "(")))) (tMeth (He.ga K "Reader") "_sequence" sp_Reader_sequence [] C8.E0 (tVar 0) tNil) (tC .non))) tNext)
    (tSeq (tAsg (tMeth (He.ga K "Reader") "_name" sp_Reader_name [] C8.E0 (tVar 0) tNil) (gName 3))
    (tSeq (tIfS (tTest (tOp rIsNo (tVar 3) (tC .non))) (tRet (tC .non)) tNext)
    (tRet (tIf (tTruX K (tMeth (He.ga K "Reader") "_is" sp_Reader_is [] C8.E0 (tVar 0) (tCons (tC (.str "sign")) (tCons (tC (.str "(")) tNil)))) (tMeth (He.ga K "Reader") "_call" sp_Reader_call [] C8.E0 (tVar 0) (tCons (tVar 3) tNil)) (tTup (tCons (tC (.str "name")) (tCons (tVar 3) tNil)))))))))))
theorem d_Reader_atom (g : G w K mg) {n : Nat} (hn : 4 ≤ n) {sp_Reader_is : Sp} (c_Reader_is : C8.Met P w K mg base 2 (He.ga K "Reader") "_is" sp_Reader_is []) {sp_Reader_call : Sp} (c_Reader_call : C8.Met P w K mg base n (He.ga K "Reader") "_call" sp_Reader_call []) {sp_Reader_name : Sp} (c_Reader_name : C8.Met P w K mg base 2 (He.ga K "Reader") "_name" sp_Reader_name []) {sp_Reader_sequence : Sp} (c_Reader_sequence : C8.Met P w K mg base n (He.ga K "Reader") "_sequence" sp_Reader_sequence []) {sp_Reader_at_end : Sp} (c_Reader_at_end : C8.Met P w K mg base 1 (He.ga K "Reader") "at_end" sp_Reader_at_end []) {f : Addr} {cdv : Value} {A : Around} {outer : List Env} {s : Shared} {H : Hp} {E : XK} (hr : Room n (A.deeper (envOfC "Reader._atom" (defScope s_Reader_atom) s.heap.objs.size f cdv))) :
    PSs (cxOf CX0 P w K mg base N_Reader_atom "Reader._atom" (defScope s_Reader_atom) f cdv A outer s H E).nox (defBody s_Reader_atom) (t_Reader_atom K sp_Reader_is sp_Reader_call sp_Reader_name sp_Reader_sequence sp_Reader_at_end) := by
  unfold t_Reader_atom
  exact
    (pss_cons (ps_if (pt_tru (C8.pe_mt0 c_Reader_at_end hr (by omega) (pv 0))) (pss_one (ps_ret pe_non)) pss_nil)
    (pss_cons (ps_asg (pe_ix ix_seq (pe_fld (pv 0) (by rfl)) (pe_fld (pv 0) (by rfl)) (fun _ _ => rfl)) (pg_unp rfl (pgs_cons (pg_name (i := 1) sc_Reader_atom.nd rfl (by first | exact Or.inl rfl | exact Or.inr rfl)) (pgs_cons (pg_name (i := 2) sc_Reader_atom.nd rfl (by first | exact Or.inl rfl | exact Or.inr rfl)) pgs_nil))))
    (pss_cons (ps_if (PW.pt (pw_or (pt_cmpR (o_eq hr.units) (pv 1) (C8.pe_gc rfl g.c_NUMBER) (nomark _)) (pw_or1 (pt_cmpR (o_eq hr.units) (pv 1) (C8.pe_gc rfl g.c_STRING) (nomark _))))) (pss_cons (ps_fld (pv 0) (pe_op o_plus (pe_fld (pv 0) (by rfl)) pe_int) (by rfl))
    (pss_one (ps_ret (pe_tup (pa_cons (pv 1) (pa_cons (pv 2) pa_nil)))))) pss_nil)
    (pss_cons (ps_if (pt_cmpR (o_eq hr.units) (pv 1) (C8.pe_gc rfl g.c_SIGN) (nomark _)) (pss_one (ps_ret (pe_ifExp (pt_cmpR (o_eq hr.units) (pv 2) pe_str (nomark _)) (C8.pe_mt0 c_Reader_sequence hr (by omega) (pv 0)) pe_non))) pss_nil)
    (pss_cons (ps_set (i := 3) sc_Reader_atom.nd rfl (by first | exact Or.inl rfl | exact Or.inr rfl) (C8.pe_mt0 c_Reader_name hr (by omega) (pv 0)))
    (pss_cons (ps_if (pt_cmpR o_is (pv 3) pe_non (nomark _)) (pss_one (ps_ret pe_non)) pss_nil)
    (pss_one (ps_ret (pe_ifExp (pt_tru (C8.pe_mt c_Reader_is hr (by omega) (pv 0) (pa_cons (C8.pe_gc rfl g.c_SIGN) (pa_cons pe_str pa_nil)))) (C8.pe_mt c_Reader_call hr (by omega) (pv 0) (pa_cons (pv 3) pa_nil)) (pe_tup (pa_cons (C8.pe_gc rfl g.c_NAME) (pa_cons (pv 3) pa_nil))))))))))))
theorem zz_Reader_atom (g : G w K mg) (k : Nat) (F : ∃ fd, FunD K "_atom" "Reader._atom" (defArgs s_Reader_atom) (defBody s_Reader_atom) (defScope s_Reader_atom) [] [] (He.ma K (He.ga K "Reader") "_atom") fd) : C8.Met P w K mg base k (He.ga K "Reader") "_atom" (fun _ _ _ _ => False) [] := by
  obtain ⟨fd, F⟩ := F
  exact ⟨_, fd, ["self"], [], g.cls_Reader, g.me_Reader_atom, ⟨fun _ _ _ _ h => h.elim, fun _ _ _ _ _ _ _ _ _ _ _ _ _ h => h.elim⟩, (F.bindsN fun _ _ _ _ _ _ us hl => match us, hl with | [_], _ => rfl), .nil⟩
theorem ok_Reader_atom (g : G w K mg) {n : Nat} (hn : 4 ≤ n) {sp_Reader_is : Sp} (c_Reader_is : C8.Met P w K mg base 2 (He.ga K "Reader") "_is" sp_Reader_is []) {sp_Reader_call : Sp} (c_Reader_call : C8.Met P w K mg base n (He.ga K "Reader") "_call" sp_Reader_call []) {sp_Reader_name : Sp} (c_Reader_name : C8.Met P w K mg base 2 (He.ga K "Reader") "_name" sp_Reader_name []) {sp_Reader_sequence : Sp} (c_Reader_sequence : C8.Met P w K mg base n (He.ga K "Reader") "_sequence" sp_Reader_sequence []) {sp_Reader_at_end : Sp} (c_Reader_at_end : C8.Met P w K mg base 1 (He.ga K "Reader") "at_end" sp_Reader_at_end []) {sp : Sp} (F : ∃ fd, FunD K "_atom" "Reader._atom" (defArgs s_Reader_atom) (defBody s_Reader_atom) (defScope s_Reader_atom) [] [] (He.ma K (He.ga K "Reader") "_atom") fd)
    (hsp : ∀ vs H Q E, sp vs H Q E → vs.length = 1 ∧ t_Reader_atom K sp_Reader_is sp_Reader_call sp_Reader_name sp_Reader_sequence sp_Reader_at_end { nx := fun _ H' => Q .non H', rt := Q } (start N_Reader_atom vs) H) : C8.Met P w K mg base (n + 1) (He.ga K "Reader") "_atom" sp [] := by
  obtain ⟨fd, F⟩ := F
  exact ⟨_, fd, ["self"], [], g.cls_Reader, g.me_Reader_atom, FunD.ok F sc_Reader_atom (fun vs H Q E h => (hsp vs H Q E h).1) (fun cdv A outer s H vs Q E hr h => ⟨_, PSs.nox (d_Reader_atom g hn c_Reader_is c_Reader_call c_Reader_name c_Reader_sequence c_Reader_at_end hr), (hsp vs H Q E h).2⟩), (F.bindsN fun _ _ _ _ _ _ us hl => match us, hl with | [_], _ => rfl), .nil⟩
abbrev N_Reader_parts : List Str := ["self", "sign", "parts", "more", "tree"]
theorem sc_Reader_parts : FnScope N_Reader_parts ["self", "sign"] (defScope s_Reader_parts) := ⟨rfl, rfl, rfl, by decide +kernel, rfl, by decide +kernel, by decide +kernel⟩
def t_Reader_parts (K : PySem.W.Frag) (sp_Reader_skips : Sp) (sp_Reader_whole : Sp) : TS :=
    (tSeq (sFld K (tVar 0) (tOp (rPlus K) (tFld K (tVar 0) "_at") (tC (.int 1))) "_at")
    (tSeq (sFld K (tVar 0) (tOp (rPlus K) (tFld K (tVar 0) "_nested") (tC (.int 1))) "_nested")
    (tSeq (tAsg (tLst tNil) (gName 2))
    (tSeq (tIfS (tTest (tOp rGt (tFld K (tVar 0) "_nested") (tC (.int 10)))) (tRet (tC .non)) tNext)
    (tSeq (tIfS (tAnd (tTest (tOp (rEqX K) (tVar 1) (tC (.str ",")))) (tTruX K (tMeth (He.ga K "Reader") "_skips" sp_Reader_skips [] C8.E0 (tVar 0) (tCons (tC (.str "sign")) (tCons (tC (.str ")")) tNil))))) (tSeq (sFld K (tVar 0) (tOp rMinus (tFld K (tVar 0) "_nested") (tC (.int 1))) "_nested")
    (tRet (tVar 2))) tNext)
    (tSeq (tAsg (tC (.bl true)) (gName 3))
    (tSeq (tWhile (tTruX K (tVar 3)) (tSeq (tAsg (tMeth (He.ga K "Reader") "whole" sp_Reader_whole [] C8.E0 (tVar 0) tNil) (gName 4))
    (tSeq (tIfS (tTest (tOp rIsNo (tVar 4) (tC .non))) (tRet (tC .non)) tNext)
    (tSeq (tDrop (tBM K "list" rAppend (tVar 2) (tCons (tVar 4) tNil)))
    (tAsg (tMeth (He.ga K "Reader") "_skips" sp_Reader_skips [] C8.E0 (tVar 0) (tCons (tC (.str "sign")) (tCons (tVar 1) tNil))) (gName 3))))))
    (tSeq (sFld K (tVar 0) (tOp rMinus (tFld K (tVar 0) "_nested") (tC (.int 1))) "_nested")
    (tRet (tIf (tTruX K (tMeth (He.ga K "Reader") "_skips" sp_Reader_skips [] C8.E0 (tVar 0) (tCons (tC (.str "sign")) (tCons (tC (.str ")")) tNil)))) (tVar 2) (tC .non)))))))))))
theorem d_Reader_parts (g : G w K mg) {n : Nat} (hn : 4 ≤ n) {sp_Reader_skips : Sp} (c_Reader_skips : C8.Met P w K mg base 3 (He.ga K "Reader") "_skips" sp_Reader_skips []) {sp_Reader_whole : Sp} (c_Reader_whole : C8.Met P w K mg base n (He.ga K "Reader") "whole" sp_Reader_whole []) {f : Addr} {cdv : Value} {A : Around} {outer : List Env} {s : Shared} {H : Hp} {E : XK} (hr : Room n (A.deeper (envOfC "Reader._parts" (defScope s_Reader_parts) s.heap.objs.size f cdv))) :
    PSs (cxOf CX0 P w K mg base N_Reader_parts "Reader._parts" (defScope s_Reader_parts) f cdv A outer s H E).nox (defBody s_Reader_parts) (t_Reader_parts K sp_Reader_skips sp_Reader_whole) := by
  unfold t_Reader_parts
  exact
    (pss_cons (ps_fld (pv 0) (pe_op o_plus (pe_fld (pv 0) (by rfl)) pe_int) (by rfl))
    (pss_cons (ps_fld (pv 0) (pe_op o_plus (pe_fld (pv 0) (by rfl)) pe_int) (by rfl))
    (pss_cons (ps_set (i := 2) sc_Reader_parts.nd rfl (by first | exact Or.inl rfl | exact Or.inr rfl) (pe_lst pa_nil))
    (pss_cons (ps_if (pt_cmpR o_gt (pe_fld (pv 0) (by rfl)) (C8.pe_gc rfl g.c_NESTED_MOST) (nomark _)) (pss_one (ps_ret pe_non)) pss_nil)
    (pss_cons (ps_if (PW.pt (pw_and (pt_cmpR (o_eq hr.units) (pv 1) pe_str (nomark _)) (pw_and1 (pt_tru (C8.pe_mt c_Reader_skips hr (by omega) (pv 0) (pa_cons (C8.pe_gc rfl g.c_SIGN) (pa_cons pe_str pa_nil))))))) (pss_cons (ps_fld (pv 0) (pe_op o_minus (pe_fld (pv 0) (by rfl)) pe_int) (by rfl))
    (pss_one (ps_ret (pv 2)))) pss_nil)
    (pss_cons (ps_set (i := 3) sc_Reader_parts.nd rfl (by first | exact Or.inl rfl | exact Or.inr rfl) pe_bl)
    (pss_cons (ps_while PassesOwn.never (pt_tru (pv 3)) (pss_cons (ps_set (i := 4) sc_Reader_parts.nd rfl (by first | exact Or.inl rfl | exact Or.inr rfl) (C8.pe_mt0 c_Reader_whole hr (by omega) (pv 0)))
    (pss_cons (ps_if (pt_cmpR o_is (pv 4) pe_non (nomark _)) (pss_one (ps_ret pe_non)) pss_nil)
    (pss_cons (ps_expr (pe_bm PySem.F.plainAttrs_list PySem.F.slot_list_append PySem.F.type_list_append mt_append (pv 2) (pa_cons (pv 4) pa_nil)))
    (pss_one (ps_set (i := 3) sc_Reader_parts.nd rfl (by first | exact Or.inl rfl | exact Or.inr rfl) (C8.pe_mt c_Reader_skips hr (by omega) (pv 0) (pa_cons (C8.pe_gc rfl g.c_SIGN) (pa_cons (pv 1) pa_nil)))))))))
    (pss_cons (ps_fld (pv 0) (pe_op o_minus (pe_fld (pv 0) (by rfl)) pe_int) (by rfl))
    (pss_one (ps_ret (pe_ifExp (pt_tru (C8.pe_mt c_Reader_skips hr (by omega) (pv 0) (pa_cons (C8.pe_gc rfl g.c_SIGN) (pa_cons pe_str pa_nil)))) (pv 2) pe_non)))))))))))
theorem zz_Reader_parts (g : G w K mg) (k : Nat) (F : ∃ fd, FunD K "_parts" "Reader._parts" (defArgs s_Reader_parts) (defBody s_Reader_parts) (defScope s_Reader_parts) [] [] (He.ma K (He.ga K "Reader") "_parts") fd) : C8.Met P w K mg base k (He.ga K "Reader") "_parts" (fun _ _ _ _ => False) [] := by
  obtain ⟨fd, F⟩ := F
  exact ⟨_, fd, ["self", "sign"], [], g.cls_Reader, g.me_Reader_parts, ⟨fun _ _ _ _ h => h.elim, fun _ _ _ _ _ _ _ _ _ _ _ _ _ h => h.elim⟩, (F.bindsN fun _ _ _ _ _ _ us hl => match us, hl with | [_, _], _ => rfl), .nil⟩
theorem ok_Reader_parts (g : G w K mg) {n : Nat} (hn : 4 ≤ n) {sp_Reader_skips : Sp} (c_Reader_skips : C8.Met P w K mg base 3 (He.ga K "Reader") "_skips" sp_Reader_skips []) {sp_Reader_whole : Sp} (c_Reader_whole : C8.Met P w K mg base n (He.ga K "Reader") "whole" sp_Reader_whole []) {sp : Sp} (F : ∃ fd, FunD K "_parts" "Reader._parts" (defArgs s_Reader_parts) (defBody s_Reader_parts) (defScope s_Reader_parts) [] [] (He.ma K (He.ga K "Reader") "_parts") fd)
    (hsp : ∀ vs H Q E, sp vs H Q E → vs.length = 2 ∧ t_Reader_parts K sp_Reader_skips sp_Reader_whole { nx := fun _ H' => Q .non H', rt := Q } (start N_Reader_parts vs) H) : C8.Met P w K mg base (n + 1) (He.ga K "Reader") "_parts" sp [] := by
  obtain ⟨fd, F⟩ := F
  exact ⟨_, fd, ["self", "sign"], [], g.cls_Reader, g.me_Reader_parts, FunD.ok F sc_Reader_parts (fun vs H Q E h => (hsp vs H Q E h).1) (fun cdv A outer s H vs Q E hr h => ⟨_, PSs.nox (d_Reader_parts g hn c_Reader_skips c_Reader_whole hr), (hsp vs H Q E h).2⟩), (F.bindsN fun _ _ _ _ _ _ us hl => match us, hl with | [_, _], _ => rfl), .nil⟩
abbrev N_Reader_call : List Str := ["self", "name", "parts"]
theorem sc_Reader_call : FnScope N_Reader_call ["self", "name"] (defScope s_Reader_call) := ⟨rfl, rfl, rfl, by decide +kernel, rfl, by decide +kernel, by decide +kernel⟩
def t_Reader_call (K : PySem.W.Frag) (sp_Reader_parts : Sp) : TS :=
    (tSeq (tAsg (tMeth (He.ga K "Reader") "_parts" sp_Reader_parts [] C8.E0 (tVar 0) (tCons (tC (.str ",")) tNil)) (gName 2))
    (tRet (tIf (tTest (tOp rIsNo (tVar 2) (tC .non))) (tC .non) (tTup (tCons (tC (.str "call")) (tCons (tVar 1) (tCons (tCB (rTupOf K) (tCons (tVar 2) tNil)) tNil)))))))
theorem d_Reader_call (g : G w K mg) {n : Nat} (hn : 4 ≤ n) {sp_Reader_parts : Sp} (c_Reader_parts : C8.Met P w K mg base n (He.ga K "Reader") "_parts" sp_Reader_parts []) {f : Addr} {cdv : Value} {A : Around} {outer : List Env} {s : Shared} {H : Hp} {E : XK} (hr : Room n (A.deeper (envOfC "Reader._call" (defScope s_Reader_call) s.heap.objs.size f cdv))) :
    PSs (cxOf CX0 P w K mg base N_Reader_call "Reader._call" (defScope s_Reader_call) f cdv A outer s H E).nox (defBody s_Reader_call) (t_Reader_call K sp_Reader_parts) := by
  unfold t_Reader_call
  exact
    (pss_cons (ps_set (i := 2) sc_Reader_call.nd rfl (by first | exact Or.inl rfl | exact Or.inr rfl) (C8.pe_mt c_Reader_parts hr (by omega) (pv 0) (pa_cons pe_str pa_nil)))
    (pss_one (ps_ret (pe_ifExp (pt_cmpR o_is (pv 2) pe_non (nomark _)) pe_non (pe_tup (pa_cons (C8.pe_gc rfl g.c_CALL) (pa_cons (pv 1) (pa_cons (pe_callTy c_tuple (by rfl) g.b_tuple (by decide +kernel) (pa_cons (pv 2) pa_nil)) pa_nil))))))))
theorem zz_Reader_call (g : G w K mg) (k : Nat) (F : ∃ fd, FunD K "_call" "Reader._call" (defArgs s_Reader_call) (defBody s_Reader_call) (defScope s_Reader_call) [] [] (He.ma K (He.ga K "Reader") "_call") fd) : C8.Met P w K mg base k (He.ga K "Reader") "_call" (fun _ _ _ _ => False) [] := by
  obtain ⟨fd, F⟩ := F
  exact ⟨_, fd, ["self", "name"], [], g.cls_Reader, g.me_Reader_call, ⟨fun _ _ _ _ h => h.elim, fun _ _ _ _ _ _ _ _ _ _ _ _ _ h => h.elim⟩, (F.bindsN fun _ _ _ _ _ _ us hl => match us, hl with | [_, _], _ => rfl), .nil⟩
theorem ok_Reader_call (g : G w K mg) {n : Nat} (hn : 4 ≤ n) {sp_Reader_parts : Sp} (c_Reader_parts : C8.Met P w K mg base n (He.ga K "Reader") "_parts" sp_Reader_parts []) {sp : Sp} (F : ∃ fd, FunD K "_call" "Reader._call" (defArgs s_Reader_call) (defBody s_Reader_call) (defScope s_Reader_call) [] [] (He.ma K (He.ga K "Reader") "_call") fd)
    (hsp : ∀ vs H Q E, sp vs H Q E → vs.length = 2 ∧ t_Reader_call K sp_Reader_parts { nx := fun _ H' => Q .non H', rt := Q } (start N_Reader_call vs) H) : C8.Met P w K mg base (n + 1) (He.ga K "Reader") "_call" sp [] := by
  obtain ⟨fd, F⟩ := F
  exact ⟨_, fd, ["self", "name"], [], g.cls_Reader, g.me_Reader_call, FunD.ok F sc_Reader_call (fun vs H Q E h => (hsp vs H Q E h).1) (fun cdv A outer s H vs Q E hr h => ⟨_, PSs.nox (d_Reader_call g hn c_Reader_parts hr), (hsp vs H Q E h).2⟩), (F.bindsN fun _ _ _ _ _ _ us hl => match us, hl with | [_, _], _ => rfl), .nil⟩
abbrev N_Reader_sequence : List Str := ["self", "parts", "tree", "part"]
theorem sc_Reader_sequence : FnScope N_Reader_sequence ["self"] (defScope s_Reader_sequence) := ⟨rfl, rfl, rfl, by decide +kernel, rfl, by decide +kernel, by decide +kernel⟩
def t_Reader_sequence (K : PySem.W.Frag) (sp_Reader_parts : Sp) : TS :=
    (tSeq (tAsg (tMeth (He.ga K "Reader") "_parts" sp_Reader_parts [] C8.E0 (tVar 0) (tCons (tC (.str ";")) tNil)) (gName 1))
    (tSeq (tIfS (tTest (tOp rIsNo (tVar 1) (tC .non))) (tRet (tC .non)) tNext)
    (tSeq (tAsg (tOp (rIx K) (tVar 1) (tUn (rU fun i => .int (-i)) (tC (.int 1)))) (gName 2))
    (tSeq (tFor (iAny K (tRev2 K (tVar 1))) (gName 3) (tAsg (tTup (tCons (tC (.str "then")) (tCons (tVar 3) (tCons (tVar 2) tNil)))) (gName 2)))
    (tRet (tVar 2))))))
theorem d_Reader_sequence (g : G w K mg) {n : Nat} (hn : 4 ≤ n) {sp_Reader_parts : Sp} (c_Reader_parts : C8.Met P w K mg base n (He.ga K "Reader") "_parts" sp_Reader_parts []) {f : Addr} {cdv : Value} {A : Around} {outer : List Env} {s : Shared} {H : Hp} {E : XK} (hr : Room n (A.deeper (envOfC "Reader._sequence" (defScope s_Reader_sequence) s.heap.objs.size f cdv))) :
    PSs (cxOf CX0 P w K mg base N_Reader_sequence "Reader._sequence" (defScope s_Reader_sequence) f cdv A outer s H E).nox (defBody s_Reader_sequence) (t_Reader_sequence K sp_Reader_parts) := by
  unfold t_Reader_sequence
  exact
    (pss_cons (ps_set (i := 1) sc_Reader_sequence.nd rfl (by first | exact Or.inl rfl | exact Or.inr rfl) (C8.pe_mt c_Reader_parts hr (by omega) (pv 0) (pa_cons pe_str pa_nil)))
    (pss_cons (ps_if (pt_cmpR o_is (pv 1) pe_non (nomark _)) (pss_one (ps_ret pe_non)) pss_nil)
    (pss_cons (ps_set (i := 2) sc_Reader_sequence.nd rfl (by first | exact Or.inl rfl | exact Or.inr rfl) (pe_ix ix_seq (pv 1) (pe_un un_neg pe_int) (fun _ _ => rfl)))
    (pss_cons (ps_for PassesOwn.never rfl (pi_any (pe_rev2 (pv 1))) (pg_name (i := 3) sc_Reader_sequence.nd rfl (by first | exact Or.inl rfl | exact Or.inr rfl)) (pss_one (ps_set (i := 2) sc_Reader_sequence.nd rfl (by first | exact Or.inl rfl | exact Or.inr rfl) (pe_tup (pa_cons (C8.pe_gc rfl g.c_THEN) (pa_cons (pv 3) (pa_cons (pv 2) pa_nil)))))))
    (pss_one (ps_ret (pv 2)))))))
theorem zz_Reader_sequence (g : G w K mg) (k : Nat) (F : ∃ fd, FunD K "_sequence" "Reader._sequence" (defArgs s_Reader_sequence) (defBody s_Reader_sequence) (defScope s_Reader_sequence) [] [] (He.ma K (He.ga K "Reader") "_sequence") fd) : C8.Met P w K mg base k (He.ga K "Reader") "_sequence" (fun _ _ _ _ => False) [] := by
  obtain ⟨fd, F⟩ := F
  exact ⟨_, fd, ["self"], [], g.cls_Reader, g.me_Reader_sequence, ⟨fun _ _ _ _ h => h.elim, fun _ _ _ _ _ _ _ _ _ _ _ _ _ h => h.elim⟩, (F.bindsN fun _ _ _ _ _ _ us hl => match us, hl with | [_], _ => rfl), .nil⟩
theorem ok_Reader_sequence (g : G w K mg) {n : Nat} (hn : 4 ≤ n) {sp_Reader_parts : Sp} (c_Reader_parts : C8.Met P w K mg base n (He.ga K "Reader") "_parts" sp_Reader_parts []) {sp : Sp} (F : ∃ fd, FunD K "_sequence" "Reader._sequence" (defArgs s_Reader_sequence) (defBody s_Reader_sequence) (defScope s_Reader_sequence) [] [] (He.ma K (He.ga K "Reader") "_sequence") fd)
    (hsp : ∀ vs H Q E, sp vs H Q E → vs.length = 1 ∧ t_Reader_sequence K sp_Reader_parts { nx := fun _ H' => Q .non H', rt := Q } (start N_Reader_sequence vs) H) : C8.Met P w K mg base (n + 1) (He.ga K "Reader") "_sequence" sp [] := by
  obtain ⟨fd, F⟩ := F
  exact ⟨_, fd, ["self"], [], g.cls_Reader, g.me_Reader_sequence, FunD.ok F sc_Reader_sequence (fun vs H Q E h => (hsp vs H Q E h).1) (fun cdv A outer s H vs Q E hr h => ⟨_, PSs.nox (d_Reader_sequence g hn c_Reader_parts hr), (hsp vs H Q E h).2⟩), (F.bindsN fun _ _ _ _ _ _ us hl => match us, hl with | [_], _ => rfl), .nil⟩
end
theorem tab_at {K : PySem.W.Frag} (h : tabs K = true) (i : Nat) {b : Bool} (e : (tabl K)[i]? = some b) : b = true := List.all_eq_true.mp h b (List.mem_of_getElem? e)
theorem mk_G {w : World} {K : PySem.W.Frag} {h : Heap} {mg : Str → Option Value} (X : K.In h) (N : h.Ns mainGlobals mg) (c : He.SaysD hfa hfn K) (ct : He.SaysT hfa hfn hts w K) (cx : tabs K = true) : G w K mg where
  b_len := He.free_ok X N (c.fact 0 (f := .free "len") rfl)
  c_NAME_MOST := (let ⟨t, h⟩ := He.int_ok X N (c.fact 1 (f := .int "NAME_MOST" 6) rfl); ⟨_, h, t, rfl⟩)
  b_all := He.free_ok X N (c.fact 2 (f := .free "all") rfl)
  c_LETTERS := (let ⟨t, h⟩ := He.str_ok X N (c.fact 3 (f := .str "LETTERS" "abcdefghijklmnopqrstuvwxyz") rfl); ⟨_, h, t, rfl⟩)
  c_RESERVED := ⟨_, He.glo_ok X N (c.fact 4 (f := .glo "RESERVED") rfl), rfl⟩
  c_STRING := (let ⟨t, h⟩ := He.str_ok X N (c.fact 5 (f := .str "STRING" "string") rfl); ⟨_, h, t, rfl⟩)
  c_QUOTE := (let ⟨t, h⟩ := He.str_ok X N (c.fact 6 (f := .str "QUOTE" "\"") rfl); ⟨_, h, t, rfl⟩)
  c_STRING_MOST := (let ⟨t, h⟩ := He.int_ok X N (c.fact 7 (f := .int "STRING_MOST" 20) rfl); ⟨_, h, t, rfl⟩)
  c_DIGITS := (let ⟨t, h⟩ := He.str_ok X N (c.fact 8 (f := .str "DIGITS" "0123456789") rfl); ⟨_, h, t, rfl⟩)
  b_int := He.free_ok X N (c.fact 9 (f := .free "int") rfl)
  c_NUMBER := (let ⟨t, h⟩ := He.str_ok X N (c.fact 10 (f := .str "NUMBER" "number") rfl); ⟨_, h, t, rfl⟩)
  b_str := He.free_ok X N (c.fact 11 (f := .free "str") rfl)
  c_NUMBER_MOST := (let ⟨t, h⟩ := He.int_ok X N (c.fact 12 (f := .int "NUMBER_MOST" 99999) rfl); ⟨_, h, t, rfl⟩)
  c_WORD := (let ⟨t, h⟩ := He.str_ok X N (c.fact 13 (f := .str "WORD" "word") rfl); ⟨_, h, t, rfl⟩)
  c_SIGNS := (let ⟨t, h⟩ := He.str_ok X N (c.fact 14 (f := .str "SIGNS" "(),;+-*<=") rfl); ⟨_, h, t, rfl⟩)
  c_SIGN := (let ⟨t, h⟩ := He.str_ok X N (c.fact 15 (f := .str "SIGN" "sign") rfl); ⟨_, h, t, rfl⟩)
  b_list := He.free_ok X N (c.fact 16 (f := .free "list") rfl)
  c_NAME := (let ⟨t, h⟩ := He.str_ok X N (c.fact 17 (f := .str "NAME" "name") rfl); ⟨_, h, t, rfl⟩)
  c_SET := (let ⟨t, h⟩ := He.str_ok X N (c.fact 18 (f := .str "SET" "set") rfl); ⟨_, h, t, rfl⟩)
  c_CALL := (let ⟨t, h⟩ := He.str_ok X N (c.fact 19 (f := .str "CALL" "call") rfl); ⟨_, h, t, rfl⟩)
  b_max := He.free_ok X N (c.fact 20 (f := .free "max") rfl)
  c_HEIGHT_MOST := (let ⟨t, h⟩ := He.int_ok X N (c.fact 21 (f := .int "HEIGHT_MOST" 12) rfl); ⟨_, h, t, rfl⟩)
  k_Reader := He.glo_ok X N (c.fact 22 (f := .glo "Reader") rfl)
  c_THEN := (let ⟨t, h⟩ := He.str_ok X N (c.fact 23 (f := .str "THEN" "then") rfl); ⟨_, h, t, rfl⟩)
  c_IF := (let ⟨t, h⟩ := He.str_ok X N (c.fact 24 (f := .str "IF" "if") rfl); ⟨_, h, t, rfl⟩)
  kd_STRENGTHS := ct.tab 0
  c_STRENGTHS := ⟨_, He.glo_ok X N (c.fact 25 (f := .glo "STRENGTHS") rfl), rfl⟩
  c_COMPARED := (let ⟨t, h⟩ := He.int_ok X N (c.fact 26 (f := .int "COMPARED" 1) rfl); ⟨_, h, t, rfl⟩)
  c_SUM := (let ⟨t, h⟩ := He.int_ok X N (c.fact 27 (f := .int "SUM" 2) rfl); ⟨_, h, t, rfl⟩)
  c_ATOM := (let ⟨t, h⟩ := He.int_ok X N (c.fact 28 (f := .int "ATOM" 4) rfl); ⟨_, h, t, rfl⟩)
  b_range := He.free_ok X N (c.fact 29 (f := .free "range") rfl)
  b_tuple := He.free_ok X N (c.fact 30 (f := .free "tuple") rfl)
  b_repr := He.free_ok X N (c.fact 31 (f := .free "repr") rfl)
  c_NESTED_MOST := (let ⟨t, h⟩ := He.int_ok X N (c.fact 32 (f := .int "NESTED_MOST" 10) rfl); ⟨_, h, t, rfl⟩)
  cls_Reader := He.cls_ok (c.fact 33 (f := .cls "Reader") rfl)
  mkr_Reader := He.mkr_ok (c.fact 34 (f := .mkr "Reader") rfl)
  me_Reader_at_end := He.meth_ok (c.fact 35 (f := .meth "Reader" "at_end") rfl)
  me_Reader_is := He.meth_ok (c.fact 36 (f := .meth "Reader" "_is") rfl)
  me_Reader_skips := He.meth_ok (c.fact 37 (f := .meth "Reader" "_skips") rfl)
  me_Reader_name := He.meth_ok (c.fact 38 (f := .meth "Reader" "_name") rfl)
  me_Reader_whole := He.meth_ok (c.fact 39 (f := .meth "Reader" "whole") rfl)
  me_Reader_choice := He.meth_ok (c.fact 40 (f := .meth "Reader" "_choice") rfl)
  me_Reader_sign := He.meth_ok (c.fact 41 (f := .meth "Reader" "_sign") rfl)
  me_Reader_compared := He.meth_ok (c.fact 42 (f := .meth "Reader" "_compared") rfl)
  me_Reader_sum := He.meth_ok (c.fact 43 (f := .meth "Reader" "_sum") rfl)
  me_Reader_product := He.meth_ok (c.fact 44 (f := .meth "Reader" "_product") rfl)
  me_Reader_atom := He.meth_ok (c.fact 45 (f := .meth "Reader" "_atom") rfl)
  me_Reader_parts := He.meth_ok (c.fact 46 (f := .meth "Reader" "_parts") rfl)
  me_Reader_call := He.meth_ok (c.fact 47 (f := .meth "Reader" "_call") rfl)
  me_Reader_sequence := He.meth_ok (c.fact 48 (f := .meth "Reader" "_sequence") rfl)
  dummy := trivial
theorem mk_CF {K : PySem.W.Frag} (c : He.SaysD hfa hfn K) (cx : tabs K = true) : CF K where
  t_RESERVED := (tab_at cx 0 rfl)
  kd_STRENGTHS := (tab_at cx 1 rfl)
  cls_Reader := He.cls_ok (c.fact 33 (f := .cls "Reader") rfl)
  na_Reader_nested := He.noat_ok (c.fact 49 (f := .noat "Reader" "_nested") rfl)
  na_Reader_at := He.noat_ok (c.fact 50 (f := .noat "Reader" "_at") rfl)
  na_Reader_tokens := He.noat_ok (c.fact 51 (f := .noat "Reader" "_tokens") rfl)
  dummy := trivial
theorem fd_is_name {K : PySem.W.Frag} (c : He.SaysD hfa hfn K) : ∃ fd, FunD K "is_name" "is_name" (defArgs s_is_name) (defBody s_is_name) (defScope s_is_name) [] [] (He.ga K "is_name") fd := c.def_ 0 (d := hd_is_name) rfl
theorem fd_run_of {K : PySem.W.Frag} (c : He.SaysD hfa hfn K) : ∃ fd, FunD K "_run_of" "_run_of" (defArgs s_run_of) (defBody s_run_of) (defScope s_run_of) [] [] (He.ga K "_run_of") fd := c.def_ 1 (d := hd_run_of) rfl
theorem fd_token {K : PySem.W.Frag} (c : He.SaysD hfa hfn K) : ∃ fd, FunD K "_token" "_token" (defArgs s_token) (defBody s_token) (defScope s_token) [] [] (He.ga K "_token") fd := c.def_ 2 (d := hd_token) rfl
theorem fd_split {K : PySem.W.Frag} (c : He.SaysD hfa hfn K) : ∃ fd, FunD K "split" "split" (defArgs s_split) (defBody s_split) (defScope s_split) [] [] (He.ga K "split") fd := c.def_ 3 (d := hd_split) rfl
theorem fd_branches {K : PySem.W.Frag} (c : He.SaysD hfa hfn K) : ∃ fd, FunD K "_branches" "_branches" (defArgs s_branches) (defBody s_branches) (defScope s_branches) [] [] (He.ga K "_branches") fd := c.def_ 4 (d := hd_branches) rfl
theorem fd_height {K : PySem.W.Frag} (c : He.SaysD hfa hfn K) : ∃ fd, FunD K "height" "height" (defArgs s_height) (defBody s_height) (defScope s_height) [] [] (He.ga K "height") fd := c.def_ 5 (d := hd_height) rfl
theorem fd_parse {K : PySem.W.Frag} (c : He.SaysD hfa hfn K) : ∃ fd, FunD K "parse" "parse" (defArgs s_parse) (defBody s_parse) (defScope s_parse) [] [] (He.ga K "parse") fd := c.def_ 6 (d := hd_parse) rfl
theorem fd_sequence_text {K : PySem.W.Frag} (c : He.SaysD hfa hfn K) : ∃ fd, FunD K "_sequence_text" "_sequence_text" (defArgs s_sequence_text) (defBody s_sequence_text) (defScope s_sequence_text) [] [] (He.ga K "_sequence_text") fd := c.def_ 7 (d := hd_sequence_text) rfl
theorem fd_atom_text {K : PySem.W.Frag} (c : He.SaysD hfa hfn K) : ∃ fd, FunD K "_atom_text" "_atom_text" (defArgs s_atom_text) (defBody s_atom_text) (defScope s_atom_text) [] [] (He.ga K "_atom_text") fd := c.def_ 8 (d := hd_atom_text) rfl
theorem fd_written {K : PySem.W.Frag} (c : He.SaysD hfa hfn K) : ∃ fd, FunD K "_written" "_written" (defArgs s_written) (defBody s_written) (defScope s_written) [] [] (He.ga K "_written") fd := c.def_ 9 (d := hd_written) rfl
theorem fd_write {K : PySem.W.Frag} (c : He.SaysD hfa hfn K) : ∃ fd, FunD K "write" "write" (defArgs s_write) (defBody s_write) (defScope s_write) [] [] (He.ga K "write") fd := c.def_ 10 (d := hd_write) rfl
theorem fd_l_cell {K : PySem.W.Frag} (c : He.SaysD hfa hfn K) : ∃ fd, FunD K "_law_cell" "_law_cell" (defArgs s_l_cell) (defBody s_l_cell) (defScope s_l_cell) [] [] (He.ga K "_law_cell") fd := c.def_ 11 (d := hd_l_cell) rfl
theorem fd_l_digits {K : PySem.W.Frag} (c : He.SaysD hfa hfn K) : ∃ fd, FunD K "_law_digits" "_law_digits" (defArgs s_l_digits) (defBody s_l_digits) (defScope s_l_digits) [] [] (He.ga K "_law_digits") fd := c.def_ 12 (d := hd_l_digits) rfl
theorem fd_l_draw {K : PySem.W.Frag} (c : He.SaysD hfa hfn K) : ∃ fd, FunD K "_law_draw" "_law_draw" (defArgs s_l_draw) (defBody s_l_draw) (defScope s_l_draw) [] [] (He.ga K "_law_draw") fd := c.def_ 13 (d := hd_l_draw) rfl
theorem fd_l_atom {K : PySem.W.Frag} (c : He.SaysD hfa hfn K) : ∃ fd, FunD K "_law_atom" "_law_atom" (defArgs s_l_atom) (defBody s_l_atom) (defScope s_l_atom) [] [] (He.ga K "_law_atom") fd := c.def_ 14 (d := hd_l_atom) rfl
theorem fd_l_tree {K : PySem.W.Frag} (c : He.SaysD hfa hfn K) : ∃ fd, FunD K "_law_tree" "_law_tree" (defArgs s_l_tree) (defBody s_l_tree) (defScope s_l_tree) [] [] (He.ga K "_law_tree") fd := c.def_ 15 (d := hd_l_tree) rfl
theorem fd_l_level {K : PySem.W.Frag} (c : He.SaysD hfa hfn K) : ∃ fd, FunD K "_law_level" "_law_level" (defArgs s_l_level) (defBody s_l_level) (defScope s_l_level) [] [] (He.ga K "_law_level") fd := c.def_ 16 (d := hd_l_level) rfl
theorem fd_l_rest {K : PySem.W.Frag} (c : He.SaysD hfa hfn K) : ∃ fd, FunD K "_law_rest" "_law_rest" (defArgs s_l_rest) (defBody s_l_rest) (defScope s_l_rest) [] [] (He.ga K "_law_rest") fd := c.def_ 17 (d := hd_l_rest) rfl
theorem fd_l_write {K : PySem.W.Frag} (c : He.SaysD hfa hfn K) : ∃ fd, FunD K "_law_write" "_law_write" (defArgs s_l_write) (defBody s_l_write) (defScope s_l_write) [] [] (He.ga K "_law_write") fd := c.def_ 18 (d := hd_l_write) rfl
theorem fd_l_pairs {K : PySem.W.Frag} (c : He.SaysD hfa hfn K) : ∃ fd, FunD K "_law_pairs" "_law_pairs" (defArgs s_l_pairs) (defBody s_l_pairs) (defScope s_l_pairs) [] [] (He.ga K "_law_pairs") fd := c.def_ 19 (d := hd_l_pairs) rfl
theorem fd_l_line {K : PySem.W.Frag} (c : He.SaysD hfa hfn K) : ∃ fd, FunD K "_law_line" "_law_line" (defArgs s_l_line) (defBody s_l_line) (defScope s_l_line) [] [] (He.ga K "_law_line") fd := c.def_ 20 (d := hd_l_line) rfl
theorem fd_l_text {K : PySem.W.Frag} (c : He.SaysD hfa hfn K) : ∃ fd, FunD K "_law_text" "_law_text" (defArgs s_l_text) (defBody s_l_text) (defScope s_l_text) [] [] (He.ga K "_law_text") fd := c.def_ 21 (d := hd_l_text) rfl
theorem fd_l_alike {K : PySem.W.Frag} (c : He.SaysD hfa hfn K) : ∃ fd, FunD K "_law_alike" "_law_alike" (defArgs s_l_alike) (defBody s_l_alike) (defScope s_l_alike) [] [] (He.ga K "_law_alike") fd := c.def_ 22 (d := hd_l_alike) rfl
theorem fd_l_height {K : PySem.W.Frag} (c : He.SaysD hfa hfn K) : ∃ fd, FunD K "_law_height" "_law_height" (defArgs s_l_height) (defBody s_l_height) (defScope s_l_height) [] [] (He.ga K "_law_height") fd := c.def_ 23 (d := hd_l_height) rfl
theorem fd_l_loose {K : PySem.W.Frag} (c : He.SaysD hfa hfn K) : ∃ fd, FunD K "_law_loose" "_law_loose" (defArgs s_l_loose) (defBody s_l_loose) (defScope s_l_loose) [] [] (He.ga K "_law_loose") fd := c.def_ 24 (d := hd_l_loose) rfl
theorem fd_l_bounds {K : PySem.W.Frag} (c : He.SaysD hfa hfn K) : ∃ fd, FunD K "_law_bounds" "_law_bounds" (defArgs s_l_bounds) (defBody s_l_bounds) (defScope s_l_bounds) [] [] (He.ga K "_law_bounds") fd := c.def_ 25 (d := hd_l_bounds) rfl
theorem fd_law {K : PySem.W.Frag} (c : He.SaysD hfa hfn K) : ∃ fd, FunD K "law" "law" (defArgs s_law) (defBody s_law) (defScope s_law) [] [] (He.ga K "law") fd := c.def_ 26 (d := hd_law) rfl
theorem fd_Reader_init {K : PySem.W.Frag} (c : He.SaysD hfa hfn K) : ∃ fd, FunD K "__init__" "Reader.__init__" (defArgs s_Reader_init) (defBody s_Reader_init) (defScope s_Reader_init) [] [] (He.ma K (He.ga K "Reader") "__init__") fd := c.def_ 27 (d := hd_Reader_init) rfl
theorem fd_Reader_at_end {K : PySem.W.Frag} (c : He.SaysD hfa hfn K) : ∃ fd, FunD K "at_end" "Reader.at_end" (defArgs s_Reader_at_end) (defBody s_Reader_at_end) (defScope s_Reader_at_end) [] [] (He.ma K (He.ga K "Reader") "at_end") fd := c.def_ 28 (d := hd_Reader_at_end) rfl
theorem fd_Reader_is {K : PySem.W.Frag} (c : He.SaysD hfa hfn K) : ∃ fd, FunD K "_is" "Reader._is" (defArgs s_Reader_is) (defBody s_Reader_is) (defScope s_Reader_is) [] [] (He.ma K (He.ga K "Reader") "_is") fd := c.def_ 29 (d := hd_Reader_is) rfl
theorem fd_Reader_skips {K : PySem.W.Frag} (c : He.SaysD hfa hfn K) : ∃ fd, FunD K "_skips" "Reader._skips" (defArgs s_Reader_skips) (defBody s_Reader_skips) (defScope s_Reader_skips) [] [] (He.ma K (He.ga K "Reader") "_skips") fd := c.def_ 30 (d := hd_Reader_skips) rfl
theorem fd_Reader_name {K : PySem.W.Frag} (c : He.SaysD hfa hfn K) : ∃ fd, FunD K "_name" "Reader._name" (defArgs s_Reader_name) (defBody s_Reader_name) (defScope s_Reader_name) [] [] (He.ma K (He.ga K "Reader") "_name") fd := c.def_ 31 (d := hd_Reader_name) rfl
theorem fd_Reader_whole {K : PySem.W.Frag} (c : He.SaysD hfa hfn K) : ∃ fd, FunD K "whole" "Reader.whole" (defArgs s_Reader_whole) (defBody s_Reader_whole) (defScope s_Reader_whole) [] [] (He.ma K (He.ga K "Reader") "whole") fd := c.def_ 32 (d := hd_Reader_whole) rfl
theorem fd_Reader_choice {K : PySem.W.Frag} (c : He.SaysD hfa hfn K) : ∃ fd, FunD K "_choice" "Reader._choice" (defArgs s_Reader_choice) (defBody s_Reader_choice) (defScope s_Reader_choice) [] [] (He.ma K (He.ga K "Reader") "_choice") fd := c.def_ 33 (d := hd_Reader_choice) rfl
theorem fd_Reader_sign {K : PySem.W.Frag} (c : He.SaysD hfa hfn K) : ∃ fd, FunD K "_sign" "Reader._sign" (defArgs s_Reader_sign) (defBody s_Reader_sign) (defScope s_Reader_sign) [] [] (He.ma K (He.ga K "Reader") "_sign") fd := c.def_ 34 (d := hd_Reader_sign) rfl
theorem fd_Reader_compared {K : PySem.W.Frag} (c : He.SaysD hfa hfn K) : ∃ fd, FunD K "_compared" "Reader._compared" (defArgs s_Reader_compared) (defBody s_Reader_compared) (defScope s_Reader_compared) [] [] (He.ma K (He.ga K "Reader") "_compared") fd := c.def_ 35 (d := hd_Reader_compared) rfl
theorem fd_Reader_sum {K : PySem.W.Frag} (c : He.SaysD hfa hfn K) : ∃ fd, FunD K "_sum" "Reader._sum" (defArgs s_Reader_sum) (defBody s_Reader_sum) (defScope s_Reader_sum) [] [] (He.ma K (He.ga K "Reader") "_sum") fd := c.def_ 36 (d := hd_Reader_sum) rfl
theorem fd_Reader_product {K : PySem.W.Frag} (c : He.SaysD hfa hfn K) : ∃ fd, FunD K "_product" "Reader._product" (defArgs s_Reader_product) (defBody s_Reader_product) (defScope s_Reader_product) [] [] (He.ma K (He.ga K "Reader") "_product") fd := c.def_ 37 (d := hd_Reader_product) rfl
theorem fd_Reader_atom {K : PySem.W.Frag} (c : He.SaysD hfa hfn K) : ∃ fd, FunD K "_atom" "Reader._atom" (defArgs s_Reader_atom) (defBody s_Reader_atom) (defScope s_Reader_atom) [] [] (He.ma K (He.ga K "Reader") "_atom") fd := c.def_ 38 (d := hd_Reader_atom) rfl
theorem fd_Reader_parts {K : PySem.W.Frag} (c : He.SaysD hfa hfn K) : ∃ fd, FunD K "_parts" "Reader._parts" (defArgs s_Reader_parts) (defBody s_Reader_parts) (defScope s_Reader_parts) [] [] (He.ma K (He.ga K "Reader") "_parts") fd := c.def_ 39 (d := hd_Reader_parts) rfl
theorem fd_Reader_call {K : PySem.W.Frag} (c : He.SaysD hfa hfn K) : ∃ fd, FunD K "_call" "Reader._call" (defArgs s_Reader_call) (defBody s_Reader_call) (defScope s_Reader_call) [] [] (He.ma K (He.ga K "Reader") "_call") fd := c.def_ 40 (d := hd_Reader_call) rfl
theorem fd_Reader_sequence {K : PySem.W.Frag} (c : He.SaysD hfa hfn K) : ∃ fd, FunD K "_sequence" "Reader._sequence" (defArgs s_Reader_sequence) (defBody s_Reader_sequence) (defScope s_Reader_sequence) [] [] (He.ma K (He.ga K "Reader") "_sequence") fd := c.def_ 41 (d := hd_Reader_sequence) rfl
theorem mg_is_name {K : PySem.W.Frag} {h : Heap} {mg : Str → Option Value} (X : K.In h) (N : h.Ns mainGlobals mg) (c : He.SaysD hfa hfn K) : mg "is_name" = some (.ref (He.ga K "is_name")) := He.glo_ok X N (c.fact 52 (f := .glo "is_name") rfl)
theorem mg_run_of {K : PySem.W.Frag} {h : Heap} {mg : Str → Option Value} (X : K.In h) (N : h.Ns mainGlobals mg) (c : He.SaysD hfa hfn K) : mg "_run_of" = some (.ref (He.ga K "_run_of")) := He.glo_ok X N (c.fact 53 (f := .glo "_run_of") rfl)
theorem mg_token {K : PySem.W.Frag} {h : Heap} {mg : Str → Option Value} (X : K.In h) (N : h.Ns mainGlobals mg) (c : He.SaysD hfa hfn K) : mg "_token" = some (.ref (He.ga K "_token")) := He.glo_ok X N (c.fact 54 (f := .glo "_token") rfl)
theorem mg_split {K : PySem.W.Frag} {h : Heap} {mg : Str → Option Value} (X : K.In h) (N : h.Ns mainGlobals mg) (c : He.SaysD hfa hfn K) : mg "split" = some (.ref (He.ga K "split")) := He.glo_ok X N (c.fact 55 (f := .glo "split") rfl)
theorem mg_branches {K : PySem.W.Frag} {h : Heap} {mg : Str → Option Value} (X : K.In h) (N : h.Ns mainGlobals mg) (c : He.SaysD hfa hfn K) : mg "_branches" = some (.ref (He.ga K "_branches")) := He.glo_ok X N (c.fact 56 (f := .glo "_branches") rfl)
theorem mg_height {K : PySem.W.Frag} {h : Heap} {mg : Str → Option Value} (X : K.In h) (N : h.Ns mainGlobals mg) (c : He.SaysD hfa hfn K) : mg "height" = some (.ref (He.ga K "height")) := He.glo_ok X N (c.fact 57 (f := .glo "height") rfl)
theorem mg_parse {K : PySem.W.Frag} {h : Heap} {mg : Str → Option Value} (X : K.In h) (N : h.Ns mainGlobals mg) (c : He.SaysD hfa hfn K) : mg "parse" = some (.ref (He.ga K "parse")) := He.glo_ok X N (c.fact 58 (f := .glo "parse") rfl)
theorem mg_sequence_text {K : PySem.W.Frag} {h : Heap} {mg : Str → Option Value} (X : K.In h) (N : h.Ns mainGlobals mg) (c : He.SaysD hfa hfn K) : mg "_sequence_text" = some (.ref (He.ga K "_sequence_text")) := He.glo_ok X N (c.fact 59 (f := .glo "_sequence_text") rfl)
theorem mg_atom_text {K : PySem.W.Frag} {h : Heap} {mg : Str → Option Value} (X : K.In h) (N : h.Ns mainGlobals mg) (c : He.SaysD hfa hfn K) : mg "_atom_text" = some (.ref (He.ga K "_atom_text")) := He.glo_ok X N (c.fact 60 (f := .glo "_atom_text") rfl)
theorem mg_written {K : PySem.W.Frag} {h : Heap} {mg : Str → Option Value} (X : K.In h) (N : h.Ns mainGlobals mg) (c : He.SaysD hfa hfn K) : mg "_written" = some (.ref (He.ga K "_written")) := He.glo_ok X N (c.fact 61 (f := .glo "_written") rfl)
theorem mg_write {K : PySem.W.Frag} {h : Heap} {mg : Str → Option Value} (X : K.In h) (N : h.Ns mainGlobals mg) (c : He.SaysD hfa hfn K) : mg "write" = some (.ref (He.ga K "write")) := He.glo_ok X N (c.fact 62 (f := .glo "write") rfl)
theorem mg_l_cell {K : PySem.W.Frag} {h : Heap} {mg : Str → Option Value} (X : K.In h) (N : h.Ns mainGlobals mg) (c : He.SaysD hfa hfn K) : mg "_law_cell" = some (.ref (He.ga K "_law_cell")) := He.glo_ok X N (c.fact 63 (f := .glo "_law_cell") rfl)
theorem mg_l_digits {K : PySem.W.Frag} {h : Heap} {mg : Str → Option Value} (X : K.In h) (N : h.Ns mainGlobals mg) (c : He.SaysD hfa hfn K) : mg "_law_digits" = some (.ref (He.ga K "_law_digits")) := He.glo_ok X N (c.fact 64 (f := .glo "_law_digits") rfl)
theorem mg_l_draw {K : PySem.W.Frag} {h : Heap} {mg : Str → Option Value} (X : K.In h) (N : h.Ns mainGlobals mg) (c : He.SaysD hfa hfn K) : mg "_law_draw" = some (.ref (He.ga K "_law_draw")) := He.glo_ok X N (c.fact 65 (f := .glo "_law_draw") rfl)
theorem mg_l_atom {K : PySem.W.Frag} {h : Heap} {mg : Str → Option Value} (X : K.In h) (N : h.Ns mainGlobals mg) (c : He.SaysD hfa hfn K) : mg "_law_atom" = some (.ref (He.ga K "_law_atom")) := He.glo_ok X N (c.fact 66 (f := .glo "_law_atom") rfl)
theorem mg_l_tree {K : PySem.W.Frag} {h : Heap} {mg : Str → Option Value} (X : K.In h) (N : h.Ns mainGlobals mg) (c : He.SaysD hfa hfn K) : mg "_law_tree" = some (.ref (He.ga K "_law_tree")) := He.glo_ok X N (c.fact 67 (f := .glo "_law_tree") rfl)
theorem mg_l_level {K : PySem.W.Frag} {h : Heap} {mg : Str → Option Value} (X : K.In h) (N : h.Ns mainGlobals mg) (c : He.SaysD hfa hfn K) : mg "_law_level" = some (.ref (He.ga K "_law_level")) := He.glo_ok X N (c.fact 68 (f := .glo "_law_level") rfl)
theorem mg_l_rest {K : PySem.W.Frag} {h : Heap} {mg : Str → Option Value} (X : K.In h) (N : h.Ns mainGlobals mg) (c : He.SaysD hfa hfn K) : mg "_law_rest" = some (.ref (He.ga K "_law_rest")) := He.glo_ok X N (c.fact 69 (f := .glo "_law_rest") rfl)
theorem mg_l_write {K : PySem.W.Frag} {h : Heap} {mg : Str → Option Value} (X : K.In h) (N : h.Ns mainGlobals mg) (c : He.SaysD hfa hfn K) : mg "_law_write" = some (.ref (He.ga K "_law_write")) := He.glo_ok X N (c.fact 70 (f := .glo "_law_write") rfl)
theorem mg_l_pairs {K : PySem.W.Frag} {h : Heap} {mg : Str → Option Value} (X : K.In h) (N : h.Ns mainGlobals mg) (c : He.SaysD hfa hfn K) : mg "_law_pairs" = some (.ref (He.ga K "_law_pairs")) := He.glo_ok X N (c.fact 71 (f := .glo "_law_pairs") rfl)
theorem mg_l_line {K : PySem.W.Frag} {h : Heap} {mg : Str → Option Value} (X : K.In h) (N : h.Ns mainGlobals mg) (c : He.SaysD hfa hfn K) : mg "_law_line" = some (.ref (He.ga K "_law_line")) := He.glo_ok X N (c.fact 72 (f := .glo "_law_line") rfl)
theorem mg_l_text {K : PySem.W.Frag} {h : Heap} {mg : Str → Option Value} (X : K.In h) (N : h.Ns mainGlobals mg) (c : He.SaysD hfa hfn K) : mg "_law_text" = some (.ref (He.ga K "_law_text")) := He.glo_ok X N (c.fact 73 (f := .glo "_law_text") rfl)
theorem mg_l_alike {K : PySem.W.Frag} {h : Heap} {mg : Str → Option Value} (X : K.In h) (N : h.Ns mainGlobals mg) (c : He.SaysD hfa hfn K) : mg "_law_alike" = some (.ref (He.ga K "_law_alike")) := He.glo_ok X N (c.fact 74 (f := .glo "_law_alike") rfl)
theorem mg_l_height {K : PySem.W.Frag} {h : Heap} {mg : Str → Option Value} (X : K.In h) (N : h.Ns mainGlobals mg) (c : He.SaysD hfa hfn K) : mg "_law_height" = some (.ref (He.ga K "_law_height")) := He.glo_ok X N (c.fact 75 (f := .glo "_law_height") rfl)
theorem mg_l_loose {K : PySem.W.Frag} {h : Heap} {mg : Str → Option Value} (X : K.In h) (N : h.Ns mainGlobals mg) (c : He.SaysD hfa hfn K) : mg "_law_loose" = some (.ref (He.ga K "_law_loose")) := He.glo_ok X N (c.fact 76 (f := .glo "_law_loose") rfl)
theorem mg_l_bounds {K : PySem.W.Frag} {h : Heap} {mg : Str → Option Value} (X : K.In h) (N : h.Ns mainGlobals mg) (c : He.SaysD hfa hfn K) : mg "_law_bounds" = some (.ref (He.ga K "_law_bounds")) := He.glo_ok X N (c.fact 77 (f := .glo "_law_bounds") rfl)
theorem mg_law {K : PySem.W.Frag} {h : Heap} {mg : Str → Option Value} (X : K.In h) (N : h.Ns mainGlobals mg) (c : He.SaysD hfa hfn K) : mg "law" = some (.ref (He.ga K "law")) := He.glo_ok X N (c.fact 78 (f := .glo "law") rfl)
def zl_0 : List Nat := [97, 98, 99, 100, 101, 102, 103, 104, 105, 106, 107, 108, 109, 110, 111, 112, 113, 114, 115, 116, 117, 118, 119, 120, 121, 122]
theorem z_0 : ("abcdefghijklmnopqrstuvwxyz" : Str) = S zl_0 := by decide +kernel
theorem z_1 : ("(),;+-*<=" : Str) = S [40, 41, 44, 59, 43, 45, 42, 60, 61] := by decide +kernel
theorem z_2 : ("sign" : Str) = S [115, 105, 103, 110] := by decide +kernel
theorem z_3 : ("word" : Str) = S [119, 111, 114, 100] := by decide +kernel
theorem z_4 : ("0123456789" : Str) = S [48, 49, 50, 51, 52, 53, 54, 55, 56, 57] := by decide +kernel
theorem z_5 : ("0" : Str) = S [48] := by decide +kernel
theorem z_6 : ("number" : Str) = S [110, 117, 109, 98, 101, 114] := by decide +kernel
theorem z_7 : ("\"" : Str) = S [34] := by decide +kernel
theorem z_8 : ("string" : Str) = S [115, 116, 114, 105, 110, 103] := by decide +kernel
theorem z_9 : (" " : Str) = S [32] := by decide +kernel
theorem z_10 : ("call" : Str) = S [99, 97, 108, 108] := by decide +kernel
theorem z_11 : ("set" : Str) = S [115, 101, 116] := by decide +kernel
theorem z_12 : ("name" : Str) = S [110, 97, 109, 101] := by decide +kernel
theorem z_13 : ("then" : Str) = S [116, 104, 101, 110] := by decide +kernel
theorem z_14 : ("; " : Str) = S [59, 32] := by decide +kernel
theorem z_15 : ("(" : Str) = S [40] := by decide +kernel
theorem z_16 : (")" : Str) = S [41] := by decide +kernel
theorem z_17 : (", " : Str) = S [44, 32] := by decide +kernel
theorem z_18 : ("if" : Str) = S [105, 102] := by decide +kernel
theorem z_19 : ("if " : Str) = S [105, 102, 32] := by decide +kernel
theorem z_20 : (" then " : Str) = S [32, 116, 104, 101, 110, 32] := by decide +kernel
theorem z_21 : (" else " : Str) = S [32, 101, 108, 115, 101, 32] := by decide +kernel
theorem z_22 : ("set " : Str) = S [115, 101, 116, 32] := by decide +kernel
theorem z_23 : (" = " : Str) = S [32, 61, 32] := by decide +kernel
theorem z_24 : ("" : Str) = S [] := by decide +kernel
theorem z_25 : ("s" : Str) = S [115] := by decide +kernel
theorem z_26 : ("t" : Str) = S [116] := by decide +kernel
theorem z_27 : ("ab" : Str) = S [97, 98] := by decide +kernel
theorem z_28 : ("x y" : Str) = S [120, 32, 121] := by decide +kernel
theorem z_29 : ("twelve signs" : Str) = S [116, 119, 101, 108, 118, 101, 32, 115, 105, 103, 110, 115] := by decide +kernel
theorem z_30 : ("+" : Str) = S [43] := by decide +kernel
theorem z_31 : ("-" : Str) = S [45] := by decide +kernel
theorem z_32 : ("*" : Str) = S [42] := by decide +kernel
theorem z_33 : ("<" : Str) = S [60] := by decide +kernel
theorem z_34 : ("=" : Str) = S [61] := by decide +kernel
theorem z_35 : ("p" : Str) = S [112] := by decide +kernel
theorem z_36 : ("q" : Str) = S [113] := by decide +kernel
theorem z_37 : (" as " : Str) = S [32, 97, 115, 32] := by decide +kernel
theorem z_38 : ("import" : Str) = S [105, 109, 112, 111, 114, 116] := by decide +kernel
theorem z_39 : ("export" : Str) = S [101, 120, 112, 111, 114, 116] := by decide +kernel
theorem z_40 : (" from " : Str) = S [32, 102, 114, 111, 109, 32] := by decide +kernel
theorem z_41 : ("let" : Str) = S [108, 101, 116] := by decide +kernel
theorem z_42 : ("keep" : Str) = S [107, 101, 101, 112] := by decide +kernel
theorem z_43 : ("fn" : Str) = S [102, 110] := by decide +kernel
theorem z_44 : ("fn " : Str) = S [102, 110, 32] := by decide +kernel
theorem z_45 : (") = " : Str) = S [41, 32, 61, 32] := by decide +kernel
theorem z_46 : ("\n" : Str) = S [10] := by decide +kernel
theorem z_47 : (" ( " : Str) = S [32, 40, 32] := by decide +kernel
theorem z_48 : ("," : Str) = S [44] := by decide +kernel
theorem z_49 : (";" : Str) = S [59] := by decide +kernel
theorem z_50 : ("( " : Str) = S [40, 32] := by decide +kernel
theorem z_51 : ("a" : Str) = S [97] := by decide +kernel
theorem z_52 : ("f(" : Str) = S [102, 40] := by decide +kernel
theorem z_53 : ("1" : Str) = S [49] := by decide +kernel
theorem z_54 : (" + 1" : Str) = S [32, 43, 32, 49] := by decide +kernel
theorem z_55 : ("b" : Str) = S [98] := by decide +kernel
theorem z_56 : ("xy" : Str) = S [120, 121] := by decide +kernel
theorem z_57 : ("f" : Str) = S [102] := by decide +kernel
theorem z_58 : ("g" : Str) = S [103] := by decide +kernel
theorem z_59 : ("h" : Str) = S [104] := by decide +kernel
theorem z_60 : ("set let = 1" : Str) = S [115, 101, 116, 32, 108, 101, 116, 32, 61, 32, 49] := by decide +kernel
theorem z_61 : ("(a;)" : Str) = S [40, 97, 59, 41] := by decide +kernel
theorem z_62 : ("(;a)" : Str) = S [40, 59, 97, 41] := by decide +kernel
theorem z_63 : ("f(;)" : Str) = S [102, 40, 59, 41] := by decide +kernel
theorem z_64 : ("f(a;b" : Str) = S [102, 40, 97, 59, 98] := by decide +kernel
theorem z_65 : ("if a then b" : Str) = S [105, 102, 32, 97, 32, 116, 104, 101, 110, 32, 98] := by decide +kernel
theorem z_66 : ("set a" : Str) = S [115, 101, 116, 32, 97] := by decide +kernel
theorem z_67 : ("a b" : Str) = S [97, 32, 98] := by decide +kernel
theorem z_68 : ("let(1)" : Str) = S [108, 101, 116, 40, 49, 41] := by decide +kernel
theorem z_69 : ("set 1 = a" : Str) = S [115, 101, 116, 32, 49, 32, 61, 32, 97] := by decide +kernel
theorem z_70 : ("f(1,,2)" : Str) = S [102, 40, 49, 44, 44, 50, 41] := by decide +kernel
theorem z_71 : ("set f(1) = 2" : Str) = S [115, 101, 116, 32, 102, 40, 49, 41, 32, 61, 32, 50] := by decide +kernel
theorem z_72 : ("a = b = c" : Str) = S [97, 32, 61, 32, 98, 32, 61, 32, 99] := by decide +kernel
theorem z_73 : ("f(a,)" : Str) = S [102, 40, 97, 44, 41] := by decide +kernel
theorem z_74 : ("()" : Str) = S [40, 41] := by decide +kernel
theorem z_75 : ("else" : Str) = S [101, 108, 115, 101] := by decide +kernel
theorem z_76 : ("=<" : Str) = S [61, 60] := by decide +kernel
theorem z_77 : ("+-" : Str) = S [43, 45] := by decide +kernel
end K02

/-! k02: tokens -/
namespace K02
open PySem PySem.Spec PyProof.Rows L2 Lg Tok Xp PySem.NumText
local macro_rules | `(tactic| walk_at "ar") => `(tactic| first | omega | (simp; done) | (simp; omega) | (simp only [S_len]; omega) | (simp [Lg.repL_len]; done) | (simp [Lg.repL_len]; omega))
local macro_rules | `(tactic| walk_at "gt") => `(tactic| repeat (first | exact GetAt.here | apply GetAt.there))
local macro_rules | `(tactic| walk_at "st") => `(tactic| repeat (first | exact SetAt.here | apply SetAt.there))
local macro_rules | `(tactic| walk_at "mem") => `(tactic| first | assumption | exact List.mem_cons_self | (apply List.mem_cons_of_mem; walk_at "mem"))
local macro_rules | `(tactic| walk_at "put") => `(tactic| repeat (first | exact Put.here | apply Put.there))
local macro_rules | `(tactic| walk_at "rem") => `(tactic| repeat (first | exact Rem.here | apply Rem.there))
local macro_rules | `(tactic| walk_at "pick") => `(tactic| first | exact Pick.refl | exact Pick.cons (by walk_at "rem") (by walk_at "pick") | (apply Pick.drop; walk_at "pick") | exact Pick.nil)
local macro_rules | `(tactic| walk_at "is") => `(tactic| first | exact Is.int | exact Is.str | exact Is.bl | exact Is.non | assumption | exact Is.dat (by walk_at "mem") | (apply Is.cons; walk_at "is"))
local macro_rules | `(tactic| walk_at "isall") => `(tactic| first | exact IsAll.nil | exact IsAll.cons (by walk_at "is") (by walk_at "isall"))
local macro_rules | `(tactic| walk_at "lsin") => `(tactic| first | assumption | exact LsIn.own (by walk_at "mem") | exact LsIn.dat (by walk_at "mem") | (apply LsIn.cons; walk_at "lsin"))
local macro_rules | `(tactic| walk_at "see") => `(tactic| first | exact See.own (by walk_at "mem") | exact See.is (by walk_at "is"))
local macro_rules | `(tactic| walk_at "w1") => `(tactic| first
  | (with_reducible apply Lg.w_seq)
  | (with_reducible apply Lg.w_asg)
  | ((with_reducible show gName _ _ _ _ _); (with_reducible refine Lg.w_name (by walk_at "st") ?_))
  | ((with_reducible show tVar _ _ _ _); (with_reducible refine Lg.w_var (by walk_at "gt") ?_))
  | (with_reducible apply Lg.w_c)
  | (with_reducible apply Lg.w_op)
  | (with_reducible apply Lg.w_un)
  | (with_reducible apply Lg.w_nil)
  | (with_reducible apply Lg.w_cons)
  | (with_reducible apply Lg.w_call)
  | (with_reducible apply Lg.w_cb)
  | (with_reducible apply Lg.w_tup)
  | (with_reducible apply Lg.w_lst)
  | (with_reducible apply Lg.w_bm)
  | (with_reducible apply Lg.w_bm0)
  | (with_reducible apply Lg.w_sl)
  | (with_reducible apply Lg.w_nopart)
  | (with_reducible apply Lg.w_part)
  | (with_reducible apply Lg.w_isint)
  | (with_reducible apply Lg.w_test)
  | (with_reducible apply Lg.w_tB)
  | (with_reducible apply Lg.w_isbl')
  | (with_reducible apply Lg.w_not)
  | (with_reducible apply Lg.w_tru)
  | (with_reducible apply Lg.w_truI)
  | (with_reducible apply Lg.w_truB)
  | (with_reducible apply Lg.w_ifs)
  | (with_reducible apply Lg.w_next)
  | (with_reducible apply Lg.w_break)
  | (with_reducible apply Lg.w_cont)
  | (with_reducible apply Lg.w_ret)
  | (with_reducible apply Lg.w_retn)
  | (with_reducible apply Lg.w_drop)
  | (with_reducible apply Lg.w_sub)
  | (with_reducible apply Lg.w_gnil)
  | (with_reducible apply Lg.w_gcons)
  | (with_reducible apply Lg.w_ifT)
  | (with_reducible apply Lg.w_ifF)
  | (with_reducible apply Lg.w_add)
  | (with_reducible apply Lg.w_sub2)
  | ((with_reducible show rTimes (V.int _) (V.int _) _ _); (with_reducible refine Lg.w_mulR (by omega) ?_))
  | ((with_reducible show rTimes (V.int _) (V.int _) _ _); (with_reducible refine Lg.w_mulL (by omega) ?_))
  | ((with_reducible show rMod (V.int _) (V.int _) _ _); (with_reducible refine Lg.w_mod (by first | decide | omega) ?_))
  | ((with_reducible show rFdiv (V.int _) (V.int _) _ _); (with_reducible refine Lg.w_fdiv (by first | decide | omega) ?_))
  | (with_reducible apply Lg.w_band)
  | (with_reducible apply Lg.w_lt)
  | (with_reducible apply Lg.w_le)
  | (with_reducible apply Lg.w_gt)
  | (with_reducible apply Lg.w_ge)
  | (with_reducible apply Lg.w_eqI)
  | (with_reducible apply Lg.w_neI)
  | (with_reducible apply Lg.w_intI2)
  | (with_reducible apply Lg.w_neg)
  | (with_reducible apply Lg.w_inSS)
  | (with_reducible apply Lg.w_ninSS)
  | (with_reducible apply Lg.w_inSS')
  | (with_reducible apply Lg.w_neSS)
  | (with_reducible apply Lg.w_strS)
  | (with_reducible apply Lg.w_fldE)
  | (with_reducible apply Lg.w_sfldE)
  | (with_reducible apply Lg.w_makeE)
  | (with_reducible apply Lg.w_methE)
  | (with_reducible apply Lg.w_methSE)
  | (with_reducible apply Lg.w_callS)
  | (with_reducible apply Lg.w_raiseO)
  | (with_reducible apply Lg.w_raiseB)
  | (with_reducible apply Lg.w_try)
  | (with_reducible apply Lg.w_strS)
  | (with_reducible apply Lg.w_eqSS)
  | (with_reducible apply Lg.w_eqS)
  | (with_reducible apply Lg.w_neS)
  | (with_reducible apply Lg.w_isN)
  | (with_reducible apply Lg.w_isR)
  | (with_reducible apply Lg.w_isI)
  | (with_reducible apply Lg.w_isS)
  | (with_reducible apply Lg.w_nsN)
  | (with_reducible apply Lg.w_nsR)
  | (with_reducible apply Lg.w_nsI)
  | (with_reducible apply Lg.w_nsS)
  | (with_reducible apply Lg.w_int)
  | (with_reducible apply Lg.w_intb)
  | (with_reducible apply Lg.w_ord1)
  | (with_reducible apply Lg.w_tyS)
  | (with_reducible apply Lg.w_inSg)
  | (with_reducible apply Lg.w_ninSg)
  | ((with_reducible show NewL _ _ _); (with_reducible refine Lg.w_newL (by assumption) (by walk_at "isall") (by simp) ?_); (intro p' H' hS'))
  | ((with_reducible show NewT _ _ _); (with_reducible refine Lg.w_newT (by assumption) (by walk_at "isall") (by simp) ?_); (intro p' H' hS'))
  | ((with_reducible show TyThen _ _ (V.ref _) _ _); (with_reducible refine Lg.w_tyL (by assumption) (by walk_at "lsin") ?_))
  | ((with_reducible show rLenX _ [V.ref _] _ _); (with_reducible refine Lg.w_lenL (by assumption) (by walk_at "lsin") ?_))
  | ((with_reducible show rLenX _ [V.ref _] _ _); (with_reducible refine Lg.w_lenT (by assumption) (by walk_at "is") ?_))
  | ((with_reducible show spDraw _ _ _ _ _); (with_reducible refine Lg.w_draw (by assumption) (by walk_at "mem") (by first | decide | omega) ?_); (intro k' H' hk0' hk1' hS'))
  | ((with_reducible show rSlX _ (V.ref _) _ _ _ _); (with_reducible refine Lg.w_slL (by assumption) (by walk_at "lsin") ?_); (intro p' H' hS'))
  | ((with_reducible show rListOf _ [V.ref _] _ _); (with_reducible refine Lg.w_listL (by assumption) (by walk_at "lsin") ?_); (intro p' H' hS'))
  | (with_reducible apply Lg.w_for)
  | (with_reducible apply Lg.w_lc)
  | ((with_reducible show iAny _ (tVar _) _ _ _); (with_reducible refine Lg.w_anyVar (by walk_at "gt") ?_))
  | (with_reducible apply Lg.w_anyC)
  | (with_reducible apply Lg.w_vS)
  | (with_reducible apply Lg.w_itS)
  | ((with_reducible show AnyV _ (V.ref _) _ _); (with_reducible refine Lg.w_vL (by assumption) (by walk_at "lsin") ?_))
  | ((with_reducible show AnyL _ (V.ref _) _ _); (with_reducible refine Lg.w_itL (by assumption) (by walk_at "lsin") ?_))
  | ((with_reducible show AnyV _ (V.ref _) _ _); (with_reducible refine Lg.w_vT (by assumption) (by walk_at "is") ?_))
  | ((with_reducible show AnyT _ (V.ref _) _ _); (with_reducible refine Lg.w_itT (by assumption) (by walk_at "is") ?_))
  | ((with_reducible show Enu _ [V.ref _] _ _); (with_reducible refine Lg.w_itE (by assumption) (by walk_at "lsin") ?_))
  | ((with_reducible show rPlus _ (V.ref _) (V.ref _) _ _); (with_reducible refine Lg.w_plusL (by assumption) (by walk_at "lsin") (by walk_at "lsin") (by walk_at "ar") ?_); (intro p' H' hS'))
  | ((with_reducible show rTimes (V.ref _) (V.int _) _ _); (with_reducible refine Lg.w_repLs (by assumption) (by walk_at "lsin") (by walk_at "ar") (by walk_at "ar") (by walk_at "ar") ?_); (intro p' H' hS'))
  | ((with_reducible show rLenX _ [V.str (S _)] _ _); (with_reducible refine Lg.w_lenSS (by walk_at "ar") ?_))
  | ((with_reducible show rLenX _ [V.str _] _ _); (with_reducible refine Lg.w_lenS (by walk_at "ar") ?_))
  | ((with_reducible show rSlX _ (V.str _) _ _ _ _); (with_reducible refine Lg.w_slS (by walk_at "ar") ?_))
  | (with_reducible apply Lg.w_rng1)
  | (with_reducible apply Lg.w_rng2)
  | (with_reducible apply Lg.w_rng3)
  | (with_reducible apply Lg.w_enum)
  | ((with_reducible show Rng1 _ _ _); (with_reducible refine Lg.w_itR1 (by omega) ?_))
  | ((with_reducible show Rng2 _ _ _); (with_reducible refine Lg.w_itR2 (by omega) (by omega) ?_))
  | ((with_reducible show rIx _ (V.ref _) (V.int _) _ _); (with_reducible refine Lg.w_ixN (by assumption) (by walk_at "lsin") (by walk_at "ar") (by walk_at "ar") ?_))
  | ((with_reducible show rPlus _ (V.str (S _)) (V.str (S _)) _ _); (with_reducible refine Lg.w_addSS (by walk_at "ar") ?_))
  | ((with_reducible show rTimes (V.str (S _)) (V.int _) _ _); (with_reducible refine Lg.w_repSS (by walk_at "ar") (by walk_at "ar") (by walk_at "ar") ?_))
  | ((with_reducible show rIsi _ [V.ref _, V.ty "list"] _ _); (with_reducible refine Lg.w_isLL (by assumption) (by walk_at "lsin") ?_))
  | ((with_reducible show rIsi _ [V.ref _, V.ty "tuple"] _ _); (with_reducible refine Lg.w_isTT (by assumption) (by walk_at "is") ?_))
  | (with_reducible apply Lg.w_isII)
  | (with_reducible apply Lg.w_isSI)
  | (with_reducible apply Lg.w_isSS)
  | (with_reducible apply Lg.w_isIS)
  | (with_reducible apply Lg.w_ifexp)
  | (with_reducible apply Lg.w_chain)
  | ((with_reducible show ChainK _ _ _ _ _ _ _); (with_reducible refine Lg.w_chainLe (by (intro R' hR'; walk_at "w"; exact hR')) ?_))
  | ((with_reducible show ChainK _ _ _ _ _ _ _); (with_reducible refine Lg.w_chainLt (by (intro R' hR'; walk_at "w"; exact hR')) ?_))
  | ((with_reducible show tAnd _ _ _ _ _); (with_reducible refine Lg.w_andP (by (intro R' hR'; walk_at "w"; exact hR')) (by (intro hb' R' hR'; walk_at "w"; exact hR')) ?_))
  | ((with_reducible show tOr _ _ _ _ _); (with_reducible refine Lg.w_orP (by (intro R' hR'; walk_at "w"; exact hR')) (by (intro hb' R' hR'; walk_at "w"; exact hR')) ?_))
  | ((with_reducible show tAndV _ _ _ _ _); (with_reducible refine Lg.w_andVP (by (intro R' hR'; walk_at "w"; exact hR')) (by (intro hb' R' hR'; walk_at "w"; exact hR')) ?_))
  | ((with_reducible show tOrV _ _ _ _ _); (with_reducible refine Lg.w_orVP (by (intro R' hR'; walk_at "w"; exact hR')) (by (intro hb' R' hR'; walk_at "w"; exact hR')) ?_))
  | (with_reducible apply Lg.w_notV))
local macro_rules | `(tactic| walk_at "w") => `(tactic| repeat (walk_at "w1"))
local macro_rules | `(tactic| walk_at "k") => `(tactic| repeat (first | walk_at "w1" | ((with_reducible show (if _ = true then _ else _ : Prop)); (first | (refine Lg.w_bt (by first | rfl | decide | (simp; done) | fail) ?_) | (refine Lg.w_bf (by first | rfl | decide | (simp; done) | fail) ?_) | fail))))
local macro_rules | `(tactic| walk_at "z") => `(tactic| simp only [z_0, z_1, z_2, z_3, z_4, z_5, z_6, z_7, z_8, z_9, z_10, z_11, z_12, z_13, z_14, z_15, z_16, z_17, z_18, z_19, z_20, z_21, z_22, z_23, z_24, z_25, z_26, z_27, z_28, z_29, z_30, z_31, z_32, z_33, z_34, z_35, z_36, z_37, z_38, z_39, z_40, z_41, z_42, z_43, z_44, z_45, z_46, z_47, z_48, z_49, z_50, z_51, z_52, z_53, z_54, z_55, z_56, z_57, z_58, z_59, z_60, z_61, z_62, z_63, z_64, z_65, z_66, z_67, z_68, z_69, z_70, z_71, z_72, z_73, z_74, z_75, z_76, z_77])
theorem zl_letters : zl_0 = letters := by decide +kernel
/-! ### tokens: what their defs compute (shared; as k01 has it) -/
theorem tab_res : tab_RESERVED = resL.map S := by decide +kernel
theorem tab_ok {K : PySem.W.Frag} (cf : CF K) (H : Hp) : SqT K H (He.ga K "RESERVED") (sV resL) := by
  have h2 := He.tupB_ok cf.t_RESERVED H
  rw [tab_res] at h2
  exact h2
section
variable {K : PySem.W.Frag}
abbrev resD : List PyData := resL.map fun y => PyData.str (S y)
def spName (K : PySem.W.Frag) : Sp := fun vs H Q _ => ∃ (L : List Ent) (l : List Nat), vs = [.str (S l)] ∧ St K L H ∧ l.length ≤ 100000 ∧ Is L (.ref (He.ga K "RESERVED")) (.tuple resD) ∧ ∀ H', St K L H' → Q (.bl (isName l)) H'
theorem p_name (vs : List V) (H : Hp) (Q : VK) (E : XK) (h : spName K vs H Q E) : vs.length = 1 ∧ t_is_name K { nx := fun _ H' => Q .non H', rt := Q } (start N_is_name vs) H := by
  obtain ⟨L, l, rfl, hS, hl, hres, hQ⟩ := h
  refine ⟨rfl, ?_⟩
  unfold t_is_name
  walk_at "z"
  rw [zl_letters]
  show tRet _ _ [some (.str (S l)), none] H
  walk_at "w"
  refine w_andV ?_
  walk_at "w"
  refine w_ite (fun h1 => ?_) (fun h1 => ?_)
  · refine w_andV ?_
    walk_at "w"
    refine w_lcS (R := fun i e => ∃ c, l[i]? = some c ∧ e = .bool (decide (c ∈ letters))) hS (by rw [S_len]; omega) ?_ ?_
    · intro i c q es H1 hc hlen hS1 Z hZ
      show gName 1 _ [some (.str (S l)), none] _ _
      walk_at "w"
      refine ⟨rfl, ?_⟩
      walk_at "w"
      exact hZ _ (.bool _) _ ⟨c, by simpa using hc, rfl⟩ (hS1.learn .bl)
    intro q es H1 hlen hes hS1
    have e : es = (l.map fun c => decide (c ∈ letters)).map PyData.bool := by
      have h1 := list_by (ds := es) (n := l.length) (f := fun i => .bool (decide (l.getD i 0 ∈ letters))) (by simpa using hlen) fun i e he => by
        obtain ⟨c, hc, rfl⟩ := hes i e he
        simp [List.getD_eq_getElem?_getD, hc]
      rw [h1]
      apply List.ext_getElem?
      intro i
      by_cases hi : i < l.length
      · simp [hi]
      · simp [hi]
    subst e
    walk_at "w"
    refine w_allB hS1 (by walk_at "lsin") ?_
    refine ⟨_, rfl, w_ite (fun h2 => ?_) (fun h2 => ?_)⟩
    · walk_at "w"
      refine w_ninTS (ys := resL) hS1 (Is.cons hres) ?_
      have e : isName l = !decide (l ∈ resL) := by
        unfold isName
        rw [h1]
        have : (l.all fun c => decide (c ∈ letters)) = true := by simpa [Function.comp_def] using h2
        rw [this]
        rfl
      rw [← e]
      exact hQ _ hS1.tail
    · have e : isName l = false := by
        unfold isName
        rw [h1]
        have : (l.all fun c => decide (c ∈ letters)) = false := by simpa [Function.comp_def] using h2
        rw [this]
        rfl
      have := hQ _ hS1.tail
      rw [e] at this
      exact this
  · have e : isName l = false := by
      unfold isName
      rw [h1]
      rfl
    have := hQ _ hS
    rw [e] at this
    exact this
def spRun (K : PySem.W.Frag) : Sp := fun vs H Q _ => ∃ (l z : List Nat) (k : Nat), vs = [.str (S l), .int k, .str (S z)] ∧ l.length ≤ 100000 ∧ k ≤ l.length ∧ Q (.str (S ((l.drop k).takeWhile fun x => decide (x ∈ z)))) H
theorem p_run (vs : List V) (H : Hp) (Q : VK) (E : XK) (h : spRun K vs H Q E) : vs.length = 3 ∧ t_run_of K { nx := fun _ H' => Q .non H', rt := Q } (start N_run_of vs) H := by
  obtain ⟨l, z, k, rfl, hl, hk, hQ⟩ := h
  refine ⟨rfl, ?_⟩
  unfold t_run_of
  show tSeq _ _ _ [some (.str (S l)), some (.int k), some (.str (S z)), none] H
  walk_at "w"
  refine w_while (fun σ H' => H' = H ∧ ∃ j : Nat, σ = [some (.str (S l)), some (.int k), some (.str (S z)), some (.int (k + j : Nat))] ∧ k + j ≤ l.length ∧ ∀ x ∈ (l.drop k).take j, x ∈ z)
    (fun σ => match σ with | _ :: _ :: _ :: some (.int j) :: _ => l.length - j.toNat | _ => 0) ⟨rfl, 0, by simp, by omega, by simp⟩ ?_
  rintro σ H1 ⟨hH, j, rfl, hj, hall⟩
  subst hH
  have stop : (∀ x, l[k + j]? = some x → x ∉ z) → Q (.str (S ((l.drop k).takeWhile fun x => decide (x ∈ z)))) H1 → tRet (tSl (rSlX K) (tVar 0) (tPart (tVar 1)) (tPart (tVar 3))) { nx := fun _ H' => Q .non H', rt := Q } [some (.str (S l)), some (.int k), some (.str (S z)), some (.int (k + j : Nat))] H1 := fun hx hq => by
    walk_at "w"
    rw [cutS_nn (a := k) (b := k + j) rfl rfl, show k + j - k = j by omega, ← takeWhile_take (p := fun x => decide (x ∈ z)) (fun x hx => decide_eq_true (hall x hx)) (fun x hx2 => decide_eq_false (hx x (by rw [← hx2, List.getElem?_drop])))]
    exact hq
  refine w_and ?_
  walk_at "w"
  refine w_ifd (fun h1 => ?_) (fun h1 => ?_)
  · have hlt : k + j < l.length := by omega
    walk_at "w"
    refine w_ixSg (c := l[k + j]) hl (by omega) (by rw [show ((k + j : Nat) : Int).toNat = k + j by omega, List.getElem?_eq_getElem hlt]) ?_
    walk_at "w"
    refine w_wb (fun h2 => ?_) (fun h2 => ?_)
    · walk_at "w"
      refine ⟨?_, rfl, j + 1, ?_, by omega, fun x hx => ?_⟩
      · show l.length - (((k + j : Nat) : Int) + 1).toNat < l.length - ((k + j : Nat) : Int).toNat
        omega
      · rw [show ((k + j : Nat) : Int) + 1 = ((k + (j + 1) : Nat) : Int) by omega]
      · rw [List.take_add_one, List.getElem?_drop, List.getElem?_eq_getElem hlt] at hx
        rcases List.mem_append.mp hx with hx | hx
        · exact hall x hx
        · simp at hx
          rw [hx]
          simpa using h2
    · refine stop (fun x hx => ?_) hQ
      rw [List.getElem?_eq_getElem hlt] at hx
      rw [← Option.some.inj hx]
      simpa using h2
  · refine w_wb (fun h2 => by cases h2) (fun _ => ?_)
    refine stop (fun x hx => ?_) hQ
    have := (List.getElem?_eq_some_iff.mp hx).1
    omega
def tokD (k : Nat) : Option (Tk × Nat) → PyData
  | none => .none
  | some (t, m) => .tuple [t.d, .int ((k : Int) + m)]
def spTok (K : PySem.W.Frag) : Sp := fun vs H Q _ => ∃ (L : List Ent) (l : List Nat) (k : Nat), vs = [.str (S l), .int k] ∧ St K L H ∧ l.length ≤ 100000 ∧ k < l.length ∧ ∀ v H', St K (.dat v (tokD k (tok (l.drop k))) :: L) H' → Q v H'
theorem p_tok (vs : List V) (H : Hp) (Q : VK) (E : XK) (h : spTok K vs H Q E) : vs.length = 2 ∧ t_token K (spRun K) { nx := fun _ H' => Q .non H', rt := Q } (start N_token vs) H := by
  obtain ⟨L, l, k, rfl, hS, hl, hk, hQ⟩ := h
  refine ⟨rfl, ?_⟩
  unfold t_token
  walk_at "z"
  rw [zl_letters]
  show tSeq _ _ _ [some (.str (S l)), some (.int k), none, none, none, none] H
  have hd : l.drop k = l[k] :: l.drop (k + 1) := by rw [List.getElem_cons_drop]
  walk_at "w"
  refine w_ixSg (c := l[k]) hl (by omega) (by rw [show ((k : Nat) : Int).toNat = k by omega, List.getElem?_eq_getElem hk]) ?_
  rw [hd, tok_cons] at hQ
  generalize l[k] = c at hd hQ ⊢
  generalize hr : l.drop (k + 1) = r at hd hQ
  have hrl : r.length + k + 1 = l.length := by rw [← hr, List.length_drop]; omega
  walk_at "w"
  refine w_ifd (fun h1 => ?_) (fun h1 => ?_)
  · walk_at "w"
    rename_i p1 H1 hS1 p2 H2 hS2
    refine hQ _ _ ?_
    have e : tokc c r = some (.g c, 1) := by unfold tokc; exact if_pos h1
    rw [e]
    exact hS2.to (by walk_at "pick")
  have s1 : c ∉ sgns := h1
  walk_at "w"
  refine w_ifd (fun h2 => ?_) (fun h2 => ?_)
  · walk_at "w"
    refine ⟨l, letters, k, rfl, hl, by omega, ?_⟩
    rw [hd]
    have hwl : ((c :: r).takeWhile fun x => decide (x ∈ letters)).length ≤ (c :: r).length := (List.takeWhile_sublist _).length_le
    rw [List.length_cons] at hwl
    have e : tokc c r = if ((c :: r).takeWhile fun x => decide (x ∈ letters)).length ≤ 6 then some (.w ((c :: r).takeWhile fun x => decide (x ∈ letters)), ((c :: r).takeWhile fun x => decide (x ∈ letters)).length) else none := by
      unfold tokc
      rw [if_neg s1, if_pos h2]
    rw [e] at hQ
    generalize ((c :: r).takeWhile fun x => decide (x ∈ letters)) = wd at hwl hQ ⊢
    walk_at "w"
    refine w_ifd (fun h3 => ?_) (fun h3 => ?_)
    · walk_at "w"
      rename_i p1 H1 hS1 p2 H2 hS2
      refine hQ _ _ ?_
      rw [if_pos (by omega)]
      exact hS2.to (by walk_at "pick")
    · walk_at "w"
      refine hQ _ _ ?_
      rw [if_neg (by omega)]
      exact hS.learn .non
  walk_at "w"
  refine w_ifd (fun h3 => ?_) (fun h3 => ?_)
  · have h3 : c ∈ figs := h3
    walk_at "w"
    refine ⟨l, figs, k, rfl, hl, by omega, ?_⟩
    rw [hd]
    have hwl : ((c :: r).takeWhile fun x => decide (x ∈ figs)).length ≤ (c :: r).length := (List.takeWhile_sublist _).length_le
    rw [List.length_cons] at hwl
    have e : tokc c r = if 5 < ((c :: r).takeWhile fun x => decide (x ∈ figs)).length ∨ (c = 48 ∧ 1 < ((c :: r).takeWhile fun x => decide (x ∈ figs)).length) then none
        else some (.n (digitsVal ((c :: r).takeWhile fun x => decide (x ∈ figs))), ((c :: r).takeWhile fun x => decide (x ∈ figs)).length) := by
      unfold tokc
      rw [if_neg s1, if_neg h2, if_pos h3]
    have hall : AllDigits ((c :: r).takeWhile fun x => decide (x ∈ figs)) := fun x hx => by
      have := List.all_eq_true.mp (List.all_takeWhile (p := fun x => decide (x ∈ figs)) (l := c :: r)) x hx
      exact mem_figs.mp (by simpa using this)
    have hcons : ((c :: r).takeWhile fun x => decide (x ∈ figs)) = c :: (r.takeWhile fun x => decide (x ∈ figs)) := by
      rw [List.takeWhile_cons, if_pos (decide_eq_true h3)]
    rw [e] at hQ
    rw [hcons] at hQ hwl hall ⊢
    generalize (r.takeWhile fun x => decide (x ∈ figs)) = f at hQ hwl hall ⊢
    have d5 : (dg 99999).length = 5 := by decide +kernel
    walk_at "w"
    refine w_or ?_
    walk_at "w"
    refine w_strI (n := 99999) rfl (by decide) ?_
    walk_at "w"
    rw [d5]
    have go : (5 < (c :: f).length ∨ (c = 48 ∧ 1 < (c :: f).length)) → Q .non H := fun q => hQ _ _ (by rw [if_pos q]; exact hS.learn .non)
    refine w_ifd (fun h4 => ?_) (fun h4 => ?_)
    · walk_at "w"
      exact go (.inl (by omega))
    · refine w_and ?_
      walk_at "w"
      refine w_ixSg (c := c) (by omega) (by omega) rfl ?_
      walk_at "w"
      refine w_ifd (fun h5 => ?_) (fun h5 => ?_)
      · walk_at "w"
        refine w_ifd (fun h6 => ?_) (fun h6 => ?_)
        · walk_at "w"
          exact go (.inr ⟨by simpa using h5, by omega⟩)
        · walk_at "w"
          refine w_intT (n := (digitsVal (c :: f) : Nat)) (intText_digits hall (by simp [S]) (by rw [S_len]; omega)) (by omega) ?_
          walk_at "w"
          rename_i p1 H1 hS1 p2 H2 hS2
          refine hQ _ _ ?_
          rw [if_neg (by rintro (q | ⟨_, q⟩) <;> omega)]
          exact hS2.to (by walk_at "pick")
      · walk_at "w"
        refine w_intT (n := (digitsVal (c :: f) : Nat)) (intText_digits hall (by simp [S]) (by rw [S_len]; omega)) (by omega) ?_
        walk_at "w"
        rename_i p1 H1 hS1 p2 H2 hS2
        refine hQ _ _ ?_
        rw [if_neg (by rintro (q | ⟨q, _⟩); omega; exact h5 (by rw [q]))]
        exact hS2.to (by walk_at "pick")
  · have h3' : c ∉ figs := h3
    walk_at "w"
    refine w_find3 ?_
    rw [show (k : Int) + 1 = ((k + 1 : Nat) : Int) by omega]
    have e : tokc c r = if c = 34 ∧ (r.takeWhile (fun x => decide (x ≠ 34))).length < r.length ∧ (r.takeWhile (fun x => decide (x ≠ 34))).length ≤ 20 then some (.s (r.takeWhile (fun x => decide (x ≠ 34))), (r.takeWhile (fun x => decide (x ≠ 34))).length + 2) else none := by
      unfold tokc
      rw [if_neg s1, if_neg h2, if_neg h3']
    rw [e] at hQ
    by_cases hq : 34 ∈ r
    · obtain ⟨t1, t2, t3⟩ := tw_in hq
      rw [find_some hr t2 t3 (by omega)]
      have hcut : (l.drop (k + 1)).take (r.takeWhile (fun x => decide (x ≠ 34))).length = r.takeWhile (fun x => decide (x ≠ 34)) := by rw [hr, take_tw]
      generalize r.takeWhile (fun x => decide (x ≠ 34)) = m at hQ t1 t2 t3 hcut ⊢
      walk_at "w"
      refine w_ite (fun h4 => ?_) (fun h4 => ?_)
      · walk_at "w"
        refine hQ _ _ ?_
        rw [if_neg]
        · exact hS.learn .non
        · rintro ⟨q1, q2, q3⟩
          rw [q1, decide_eq_true rfl, decide_eq_false (by omega), decide_eq_false (by omega)] at h4
          cases h4
      · simp only [Bool.or_eq_false_iff, Bool.not_eq_false', decide_eq_true_eq, decide_eq_false_iff_not] at h4
        obtain ⟨q1, q2, q3⟩ := h4
        have q1 : c = 34 := by simpa using q1
        walk_at "w"
        rename_i p1 H1 hS1 p2 H2 hS2
        refine hQ _ _ ?_
        rw [if_pos ⟨q1, t1, by omega⟩]
        rw [show ((k : Int) + 1) = ((k + 1 : Nat) : Int) by omega, cutS_nn (a := k + 1) (b := k + 1 + m.length) rfl rfl, show k + 1 + m.length - (k + 1) = m.length by omega, hcut] at hS2
        have h5 := hS2.to (L' := .dat (.ref p2) _ :: L) (by walk_at "pick")
        rw [show ((k + 1 + m.length : Nat) : Int) + 1 = (k : Int) + ((m.length + 2 : Nat) : Int) by omega] at h5
        exact h5
    · rw [find_none (by rw [hr]; exact hq) (by omega)]
      walk_at "w"
      have : (!decide ([c] = [34]) || (decide ((-1 : Int) < 0) || decide ((20 : Int) < -1 - (k : Int) - 1))) = true := by simp
      refine w_bt this ?_
      walk_at "w"
      refine hQ _ _ ?_
      rw [if_neg]
      · exact hS.learn .non
      · rintro ⟨_, q2, _⟩
        rw [tw_out hq] at q2
        omega
def spSplit (K : PySem.W.Frag) : Sp := fun vs H Q _ => ∃ (L : List Ent) (l : List Nat), vs = [.str (S l)] ∧ St K L H ∧ l.length ≤ 100000 ∧ (spl l = none → ∀ H', St K L H' → Q .non H') ∧
  ∀ ts p H', spl l = some ts → St K (Lg.ls K p (ts.map Tk.d) :: L) H' → Q (.ref p) H'
theorem d_tuple (t : Tk) : ∃ ds, t.d = .tuple ds := by cases t <;> exact ⟨_, rfl⟩
theorem p_split (vs : List V) (H : Hp) (Q : VK) (E : XK) (h : spSplit K vs H Q E) : vs.length = 1 ∧ t_split K (spTok K) { nx := fun _ H' => Q .non H', rt := Q } (start N_split vs) H := by
  obtain ⟨L, l, rfl, hS, hl, hQ0, hQ1⟩ := h
  refine ⟨rfl, ?_⟩
  unfold t_split
  walk_at "z"
  show tSeq _ _ _ [some (.str (S l)), none, none, none] H
  walk_at "w"
  rename_i p H1 hS1
  refine w_while (fun σ H' => ∃ (k : Nat) (ts : List Tk) (v : Option V), σ = [some (.str (S l)), some (.ref p), some (.int k), v] ∧ k ≤ l.length ∧ ts.length ≤ k ∧ spl l = (spl (l.drop k)).map (ts ++ ·) ∧ St K (Lg.ls K p (ts.map Tk.d) :: L) H')
    (fun σ => match σ with | _ :: _ :: some (.int j) :: _ => l.length - j.toNat | _ => 0) ⟨0, [], _, rfl, by omega, by simp, by simp, hS1⟩ ?_
  rintro σ H2 ⟨k, ts, v, rfl, hk, htk, hsp, hS2⟩
  walk_at "w"
  refine w_wb (fun h1 => ?_) (fun h1 => ?_)
  · have hlt : k < l.length := by simpa using h1
    have hd : l.drop k = l[k] :: l.drop (k + 1) := by rw [List.getElem_cons_drop]
    walk_at "w"
    refine w_ixSg (c := l[k]) hl (by omega) (by rw [show ((k : Nat) : Int).toNat = k by omega, List.getElem?_eq_getElem hlt]) ?_
    walk_at "w"
    refine w_ifd (fun h2 => ?_) (fun h2 => ?_)
    · have h32 : l[k] = 32 := by simpa using h2
      walk_at "w"
      refine ⟨?_, k + 1, ts, v, rfl, by omega, by omega, ?_, hS2⟩
      · show l.length - ((k : Int) + 1).toNat < l.length - (k : Int).toNat
        omega
      · rw [hsp, hd, h32, spl_blank]
    · have h32 : l[k] ≠ 32 := fun z => h2 (by rw [z])
      walk_at "w"
      refine ⟨_, l, k, rfl, hS2, hl, hlt, fun u H3 hS3 => ?_⟩
      walk_at "w"
      have hsp2 := spl_tok (c := l[k]) (r := l.drop (k + 1)) h32
      rw [← hd] at hsp2
      cases ht : tok (l.drop k) with
      | none =>
        rw [ht] at hS3 hsp2
        obtain rfl := hS3.non_of
        walk_at "w"
        refine hQ0 ?_ _ hS3.tail.tail
        rw [hsp, hsp2]
        rfl
      | some q =>
        obtain ⟨t, m⟩ := q
        have hm := tok_pos ht
        rw [List.length_drop] at hm
        rw [ht] at hS3 hsp2
        obtain ⟨au, rfl⟩ := hS3.tup_of
        walk_at "w"
        refine w_ixT (k := 0) hS3 (by walk_at "is") rfl rfl fun v0 hS4 => ?_
        walk_at "w"
        refine w_app hS4 (.there (.there .here)) (d := t.d) (by walk_at "is") (by simp; omega) fun H5 hS5 => ?_
        walk_at "w"
        refine w_ixTi (k := 1) hS5 (by walk_at "is") rfl rfl ?_
        walk_at "w"
        refine ⟨?_, k + m, ts ++ [t], _, rfl, by omega, by simp; omega, ?_, ?_⟩
        · show l.length - ((k : Int) + m).toNat < l.length - (k : Int).toNat
          omega
        · rw [hsp, hsp2]
          show Option.map _ (Option.map _ (spl ((l.drop k).drop m))) = _
          rw [List.drop_drop]
          cases spl (l.drop (k + m)) with
          | none => rfl
          | some us => simp
        · have h6 := hS5.to (L' := Lg.ls K p _ :: L) (by walk_at "pick")
          rw [List.map_append]
          exact h6
  · have hlt : k = l.length := by
      have : ¬ (k : Int) < (l.length : Int) := by simpa using h1
      omega
    walk_at "w"
    refine hQ1 ts p H2 ?_ hS2
    rw [hsp, hlt, List.drop_length, spl_nil]
    simp
def okS (l : List Nat) : Bool := decide (l.length ≤ 20) && (!decide (34 ∈ l) && l.all fun c => decide (c < 1114112))
theorem okS_ok {l : List Nat} (h : okS l = true) : (Tk.s l).ok := by
  unfold okS at h
  simp only [Bool.and_eq_true, decide_eq_true_eq, Bool.not_eq_true', decide_eq_false_iff_not, List.all_eq_true] at h
  exact ⟨h.1, h.2.1, h.2.2⟩
def okW (l : List Nat) : Bool := !l.isEmpty && (decide (l.length ≤ 6) && l.all fun c => decide (c ∈ letters))
theorem okW_ok {l : List Nat} (h : okW l = true) : (Tk.w l).ok := by
  unfold okW at h
  simp only [Bool.and_eq_true, decide_eq_true_eq, Bool.not_eq_true', List.all_eq_true] at h
  exact ⟨fun z => by rw [z] at h; exact absurd h.1 (by decide), h.2.1, h.2.2⟩
end
end K02

/-! k02: the reader's small methods -/
namespace K02
open PySem PySem.Spec PyProof.Rows L2 Lg Tok Xp PySem.NumText
local macro_rules | `(tactic| walk_at "ar") => `(tactic| first | omega | (simp; done) | (simp; omega) | (simp only [S_len]; omega) | (simp [Lg.repL_len]; done) | (simp [Lg.repL_len]; omega))
local macro_rules | `(tactic| walk_at "gt") => `(tactic| repeat (first | exact GetAt.here | apply GetAt.there))
local macro_rules | `(tactic| walk_at "st") => `(tactic| repeat (first | exact SetAt.here | apply SetAt.there))
local macro_rules | `(tactic| walk_at "mem") => `(tactic| first | assumption | exact List.mem_cons_self | (apply List.mem_cons_of_mem; walk_at "mem"))
local macro_rules | `(tactic| walk_at "put") => `(tactic| repeat (first | exact Put.here | apply Put.there))
local macro_rules | `(tactic| walk_at "rem") => `(tactic| repeat (first | exact Rem.here | apply Rem.there))
local macro_rules | `(tactic| walk_at "pick") => `(tactic| first | exact Pick.refl | exact Pick.cons (by walk_at "rem") (by walk_at "pick") | (apply Pick.drop; walk_at "pick") | exact Pick.nil)
local macro_rules | `(tactic| walk_at "is") => `(tactic| first | exact Is.int | exact Is.str | exact Is.bl | exact Is.non | assumption | exact Is.dat (by walk_at "mem") | (apply Is.cons; walk_at "is"))
local macro_rules | `(tactic| walk_at "isall") => `(tactic| first | exact IsAll.nil | exact IsAll.cons (by walk_at "is") (by walk_at "isall"))
local macro_rules | `(tactic| walk_at "lsin") => `(tactic| first | assumption | exact LsIn.own (by walk_at "mem") | exact LsIn.dat (by walk_at "mem") | (apply LsIn.cons; walk_at "lsin"))
local macro_rules | `(tactic| walk_at "see") => `(tactic| first | exact See.own (by walk_at "mem") | exact See.is (by walk_at "is"))
local macro_rules | `(tactic| walk_at "w1") => `(tactic| first
  | (with_reducible apply Lg.w_seq)
  | (with_reducible apply Lg.w_asg)
  | ((with_reducible show gName _ _ _ _ _); (with_reducible refine Lg.w_name (by walk_at "st") ?_))
  | ((with_reducible show tVar _ _ _ _); (with_reducible refine Lg.w_var (by walk_at "gt") ?_))
  | (with_reducible apply Lg.w_c)
  | (with_reducible apply Lg.w_op)
  | (with_reducible apply Lg.w_un)
  | (with_reducible apply Lg.w_nil)
  | (with_reducible apply Lg.w_cons)
  | (with_reducible apply Lg.w_call)
  | (with_reducible apply Lg.w_cb)
  | (with_reducible apply Lg.w_tup)
  | (with_reducible apply Lg.w_lst)
  | (with_reducible apply Lg.w_bm)
  | (with_reducible apply Lg.w_bm0)
  | (with_reducible apply Lg.w_sl)
  | (with_reducible apply Lg.w_nopart)
  | (with_reducible apply Lg.w_part)
  | (with_reducible apply Lg.w_isint)
  | (with_reducible apply Lg.w_test)
  | (with_reducible apply Lg.w_tB)
  | (with_reducible apply Lg.w_isbl')
  | (with_reducible apply Lg.w_not)
  | (with_reducible apply Lg.w_tru)
  | (with_reducible apply Lg.w_truI)
  | (with_reducible apply Lg.w_truB)
  | (with_reducible apply Lg.w_ifs)
  | (with_reducible apply Lg.w_next)
  | (with_reducible apply Lg.w_break)
  | (with_reducible apply Lg.w_cont)
  | (with_reducible apply Lg.w_ret)
  | (with_reducible apply Lg.w_retn)
  | (with_reducible apply Lg.w_drop)
  | (with_reducible apply Lg.w_sub)
  | (with_reducible apply Lg.w_gnil)
  | (with_reducible apply Lg.w_gcons)
  | (with_reducible apply Lg.w_ifT)
  | (with_reducible apply Lg.w_ifF)
  | (with_reducible apply Lg.w_add)
  | (with_reducible apply Lg.w_sub2)
  | ((with_reducible show rTimes (V.int _) (V.int _) _ _); (with_reducible refine Lg.w_mulR (by omega) ?_))
  | ((with_reducible show rTimes (V.int _) (V.int _) _ _); (with_reducible refine Lg.w_mulL (by omega) ?_))
  | ((with_reducible show rMod (V.int _) (V.int _) _ _); (with_reducible refine Lg.w_mod (by first | decide | omega) ?_))
  | ((with_reducible show rFdiv (V.int _) (V.int _) _ _); (with_reducible refine Lg.w_fdiv (by first | decide | omega) ?_))
  | (with_reducible apply Lg.w_band)
  | (with_reducible apply Lg.w_lt)
  | (with_reducible apply Lg.w_le)
  | (with_reducible apply Lg.w_gt)
  | (with_reducible apply Lg.w_ge)
  | (with_reducible apply Lg.w_eqI)
  | (with_reducible apply Lg.w_neI)
  | (with_reducible apply Lg.w_intI2)
  | (with_reducible apply Lg.w_neg)
  | (with_reducible apply Lg.w_inSS)
  | (with_reducible apply Lg.w_ninSS)
  | (with_reducible apply Lg.w_inSS')
  | (with_reducible apply Lg.w_neSS)
  | (with_reducible apply Lg.w_strS)
  | (with_reducible apply Lg.w_fldE)
  | (with_reducible apply Lg.w_sfldE)
  | (with_reducible apply Lg.w_makeE)
  | (with_reducible apply Lg.w_methE)
  | (with_reducible apply Lg.w_methSE)
  | (with_reducible apply Lg.w_callS)
  | (with_reducible apply Lg.w_raiseO)
  | (with_reducible apply Lg.w_raiseB)
  | (with_reducible apply Lg.w_try)
  | (with_reducible apply Lg.w_strS)
  | (with_reducible apply Lg.w_eqSS)
  | (with_reducible apply Lg.w_eqS)
  | (with_reducible apply Lg.w_neS)
  | (with_reducible apply Lg.w_isN)
  | (with_reducible apply Lg.w_isR)
  | (with_reducible apply Lg.w_isI)
  | (with_reducible apply Lg.w_isS)
  | (with_reducible apply Lg.w_nsN)
  | (with_reducible apply Lg.w_nsR)
  | (with_reducible apply Lg.w_nsI)
  | (with_reducible apply Lg.w_nsS)
  | (with_reducible apply Lg.w_int)
  | (with_reducible apply Lg.w_intb)
  | (with_reducible apply Lg.w_ord1)
  | (with_reducible apply Lg.w_tyS)
  | (with_reducible apply Lg.w_inSg)
  | (with_reducible apply Lg.w_ninSg)
  | ((with_reducible show NewL _ _ _); (with_reducible refine Lg.w_newL (by assumption) (by walk_at "isall") (by simp) ?_); (intro p' H' hS'))
  | ((with_reducible show NewT _ _ _); (with_reducible refine Lg.w_newT (by assumption) (by walk_at "isall") (by simp) ?_); (intro p' H' hS'))
  | ((with_reducible show TyThen _ _ (V.ref _) _ _); (with_reducible refine Lg.w_tyL (by assumption) (by walk_at "lsin") ?_))
  | ((with_reducible show rLenX _ [V.ref _] _ _); (with_reducible refine Lg.w_lenL (by assumption) (by walk_at "lsin") ?_))
  | ((with_reducible show rLenX _ [V.ref _] _ _); (with_reducible refine Lg.w_lenT (by assumption) (by walk_at "is") ?_))
  | ((with_reducible show spDraw _ _ _ _ _); (with_reducible refine Lg.w_draw (by assumption) (by walk_at "mem") (by first | decide | omega) ?_); (intro k' H' hk0' hk1' hS'))
  | ((with_reducible show rSlX _ (V.ref _) _ _ _ _); (with_reducible refine Lg.w_slL (by assumption) (by walk_at "lsin") ?_); (intro p' H' hS'))
  | ((with_reducible show rListOf _ [V.ref _] _ _); (with_reducible refine Lg.w_listL (by assumption) (by walk_at "lsin") ?_); (intro p' H' hS'))
  | (with_reducible apply Lg.w_for)
  | (with_reducible apply Lg.w_lc)
  | ((with_reducible show iAny _ (tVar _) _ _ _); (with_reducible refine Lg.w_anyVar (by walk_at "gt") ?_))
  | (with_reducible apply Lg.w_anyC)
  | (with_reducible apply Lg.w_vS)
  | (with_reducible apply Lg.w_itS)
  | ((with_reducible show AnyV _ (V.ref _) _ _); (with_reducible refine Lg.w_vL (by assumption) (by walk_at "lsin") ?_))
  | ((with_reducible show AnyL _ (V.ref _) _ _); (with_reducible refine Lg.w_itL (by assumption) (by walk_at "lsin") ?_))
  | ((with_reducible show AnyV _ (V.ref _) _ _); (with_reducible refine Lg.w_vT (by assumption) (by walk_at "is") ?_))
  | ((with_reducible show AnyT _ (V.ref _) _ _); (with_reducible refine Lg.w_itT (by assumption) (by walk_at "is") ?_))
  | ((with_reducible show Enu _ [V.ref _] _ _); (with_reducible refine Lg.w_itE (by assumption) (by walk_at "lsin") ?_))
  | ((with_reducible show rPlus _ (V.ref _) (V.ref _) _ _); (with_reducible refine Lg.w_plusL (by assumption) (by walk_at "lsin") (by walk_at "lsin") (by walk_at "ar") ?_); (intro p' H' hS'))
  | ((with_reducible show rTimes (V.ref _) (V.int _) _ _); (with_reducible refine Lg.w_repLs (by assumption) (by walk_at "lsin") (by walk_at "ar") (by walk_at "ar") (by walk_at "ar") ?_); (intro p' H' hS'))
  | ((with_reducible show rLenX _ [V.str (S _)] _ _); (with_reducible refine Lg.w_lenSS (by walk_at "ar") ?_))
  | ((with_reducible show rLenX _ [V.str _] _ _); (with_reducible refine Lg.w_lenS (by walk_at "ar") ?_))
  | ((with_reducible show rSlX _ (V.str _) _ _ _ _); (with_reducible refine Lg.w_slS (by walk_at "ar") ?_))
  | (with_reducible apply Lg.w_rng1)
  | (with_reducible apply Lg.w_rng2)
  | (with_reducible apply Lg.w_rng3)
  | (with_reducible apply Lg.w_enum)
  | ((with_reducible show Rng1 _ _ _); (with_reducible refine Lg.w_itR1 (by omega) ?_))
  | ((with_reducible show Rng2 _ _ _); (with_reducible refine Lg.w_itR2 (by omega) (by omega) ?_))
  | ((with_reducible show rIx _ (V.ref _) (V.int _) _ _); (with_reducible refine Lg.w_ixN (by assumption) (by walk_at "lsin") (by walk_at "ar") (by walk_at "ar") ?_))
  | ((with_reducible show rPlus _ (V.str (S _)) (V.str (S _)) _ _); (with_reducible refine Lg.w_addSS (by walk_at "ar") ?_))
  | ((with_reducible show rTimes (V.str (S _)) (V.int _) _ _); (with_reducible refine Lg.w_repSS (by walk_at "ar") (by walk_at "ar") (by walk_at "ar") ?_))
  | ((with_reducible show rIsi _ [V.ref _, V.ty "list"] _ _); (with_reducible refine Lg.w_isLL (by assumption) (by walk_at "lsin") ?_))
  | ((with_reducible show rIsi _ [V.ref _, V.ty "tuple"] _ _); (with_reducible refine Lg.w_isTT (by assumption) (by walk_at "is") ?_))
  | (with_reducible apply Lg.w_isII)
  | (with_reducible apply Lg.w_isSI)
  | (with_reducible apply Lg.w_isSS)
  | (with_reducible apply Lg.w_isIS)
  | (with_reducible apply Lg.w_ifexp)
  | (with_reducible apply Lg.w_chain)
  | ((with_reducible show ChainK _ _ _ _ _ _ _); (with_reducible refine Lg.w_chainLe (by (intro R' hR'; walk_at "w"; exact hR')) ?_))
  | ((with_reducible show ChainK _ _ _ _ _ _ _); (with_reducible refine Lg.w_chainLt (by (intro R' hR'; walk_at "w"; exact hR')) ?_))
  | ((with_reducible show tAnd _ _ _ _ _); (with_reducible refine Lg.w_andP (by (intro R' hR'; walk_at "w"; exact hR')) (by (intro hb' R' hR'; walk_at "w"; exact hR')) ?_))
  | ((with_reducible show tOr _ _ _ _ _); (with_reducible refine Lg.w_orP (by (intro R' hR'; walk_at "w"; exact hR')) (by (intro hb' R' hR'; walk_at "w"; exact hR')) ?_))
  | ((with_reducible show tAndV _ _ _ _ _); (with_reducible refine Lg.w_andVP (by (intro R' hR'; walk_at "w"; exact hR')) (by (intro hb' R' hR'; walk_at "w"; exact hR')) ?_))
  | ((with_reducible show tOrV _ _ _ _ _); (with_reducible refine Lg.w_orVP (by (intro R' hR'; walk_at "w"; exact hR')) (by (intro hb' R' hR'; walk_at "w"; exact hR')) ?_))
  | (with_reducible apply Lg.w_notV))
local macro_rules | `(tactic| walk_at "w") => `(tactic| repeat (walk_at "w1"))
local macro_rules | `(tactic| walk_at "k") => `(tactic| repeat (first | walk_at "w1" | ((with_reducible show (if _ = true then _ else _ : Prop)); (first | (refine Lg.w_bt (by first | rfl | decide | (simp; done) | fail) ?_) | (refine Lg.w_bf (by first | rfl | decide | (simp; done) | fail) ?_) | fail))))
local macro_rules | `(tactic| walk_at "z") => `(tactic| simp only [z_0, z_1, z_2, z_3, z_4, z_5, z_6, z_7, z_8, z_9, z_10, z_11, z_12, z_13, z_14, z_15, z_16, z_17, z_18, z_19, z_20, z_21, z_22, z_23, z_24, z_25, z_26, z_27, z_28, z_29, z_30, z_31, z_32, z_33, z_34, z_35, z_36, z_37, z_38, z_39, z_40, z_41, z_42, z_43, z_44, z_45, z_46, z_47, z_48, z_49, z_50, z_51, z_52, z_53, z_54, z_55, z_56, z_57, z_58, z_59, z_60, z_61, z_62, z_63, z_64, z_65, z_66, z_67, z_68, z_69, z_70, z_71, z_72, z_73, z_74, z_75, z_76, z_77])
section
variable {K : PySem.W.Frag}
/-! ### the reader of expressions (shared) -/
abbrev HR (K : PySem.W.Frag) : Addr := He.ga K "Reader"
def rfs (p : Addr) (i k : Int) : List (Str × V) := [("_tokens", .ref p), ("_at", .int i), ("_nested", .int k)]
section
variable {p : Addr} {i k j : Int}
theorem lk_rt : (rfs p i k).lookup ("_tokens" : Str) = some (V.ref p) := by rfl
theorem lk_ra : (rfs p i k).lookup ("_at" : Str) = some (V.int i) := by rfl
theorem lk_rn : (rfs p i k).lookup ("_nested" : Str) = some (V.int k) := by rfl
theorem put_ra : putF "_at" (.int j) (rfs p i k) = rfs p j k := by rfl
theorem put_rn : putF "_nested" (.int j) (rfs p i k) = rfs p i j := by rfl
theorem put_r0 : putF "_nested" (.int k) (putF "_at" (.int i) (putF "_tokens" (.ref p) [])) = rfs p i k := by rfl
theorem lk_rno {m : Str} (h : (rfs 0 0 0).lookup m = none) : (rfs p i k).lookup m = none := by
  unfold rfs at *
  simp only [List.lookup] at *
  revert h
  cases m == ("_tokens" : Str) <;> cases m == ("_at" : Str) <;> cases m == ("_nested" : Str) <;> simp
end
abbrev resE (K : PySem.W.Frag) : Ent := Lg.dat (.ref (He.ga K "RESERVED")) (.tuple resD)
abbrev tkL (ts : List Tk) : PyData := .list (ts.map Tk.d)
/-- the reader in the ledger -/
abbrev RL (K : PySem.W.Frag) (a dx p : Addr) (i k : Int) (ts : List Tk) (L : List Ent) : List Ent :=
  Lg.own a (.ins (HR K) dx (rfs p i k)) :: Lg.own dx (.own a) :: Lg.dat (.ref p) (tkL ts) :: resE K :: L
structure ROK (ts : List Tk) : Prop where
  tk : ∀ t ∈ ts, t.ok
  n : ts.length ≤ 100000
def kt : Tk → List Nat
  | .w l => l
  | .n k => dg k
  | .s l => l
  | .g c => [c]
theorem Sd_inj {x y : List Nat} : (S x = S y) ↔ x = y := ⟨fun h => by
  have := congrArg (fun z : Str => z.cps.toList) h
  simpa [S] using this, fun h => by rw [h]⟩
theorem tok_eqv (t u : Tk) : PyData.eqv t.d u.d = decide (t = u) := by
  cases t <;> cases u <;> simp [Tk.d, PyData.eqv, PyData.eqvAll, Sd_inj] <;> (rw [Bool.eq_iff_iff]; simp [Sd_inj]) <;> (try omega)
theorem d_wg {u : Tk} (h : u.kd = 0 ∨ u.kd = 3) : u.d = .tuple [.str (S u.kz), .str (S (kt u))] := by
  cases u <;> first | rfl | (exfalso; simp [Tk.kd] at h)
def spAtEnd (K : PySem.W.Frag) : Sp := fun vs H Q _ => ∃ (L : List Ent) (a dx p : Addr) (ts : List Tk) (i k : Nat), vs = [.ref a] ∧ St K (RL K a dx p i k ts L) H ∧ Q (.bl (decide (i = ts.length))) H
theorem p_at_end (cf : CF K) (vs : List V) (H : Hp) (Q : VK) (E : XK) (h : spAtEnd K vs H Q E) : vs.length = 1 ∧ t_Reader_at_end K { nx := fun _ H' => Q .non H', rt := Q } (start N_Reader_at_end vs) H := by
  obtain ⟨L, a, dx, p, ts, i, k, rfl, hS, hQ⟩ := h
  refine ⟨rfl, ?_⟩
  unfold t_Reader_at_end
  show tRet _ _ [some (.ref a)] H
  walk_at "w"
  refine w_fld hS (by walk_at "mem") cf.cls_Reader cf.na_Reader_at lk_ra ?_
  walk_at "w"
  refine w_fld hS (by walk_at "mem") cf.cls_Reader cf.na_Reader_tokens lk_rt ?_
  walk_at "w"
  have e : decide ((i : Int) = ((ts.map Tk.d).length : Int)) = decide (i = ts.length) := decide_eq_decide.mpr (by rw [List.length_map]; omega)
  rw [e]
  exact hQ
def spIs (K : PySem.W.Frag) : Sp := fun vs H Q _ => ∃ (L : List Ent) (a dx p : Addr) (ts : List Tk) (i k : Nat) (u : Tk), vs = [.ref a, .str (S u.kz), .str (S (kt u))] ∧ St K (RL K a dx p i k ts L) H ∧ ROK ts ∧ i ≤ ts.length ∧ u.ok ∧ (u.kd = 0 ∨ u.kd = 3) ∧
  ∀ H', St K (RL K a dx p i k ts L) H' → Q (.bl (decide (ts[i]? = some u))) H'
theorem p_is (cf : CF K) (vs : List V) (H : Hp) (Q : VK) (E : XK) (h : spIs K vs H Q E) : vs.length = 3 ∧ t_Reader_is K (spAtEnd K) { nx := fun _ H' => Q .non H', rt := Q } (start N_Reader_is vs) H := by
  obtain ⟨L, a, dx, p, ts, i, k, u, rfl, hS, ok, hi, hu, hk, hQ⟩ := h
  refine ⟨rfl, ?_⟩
  unfold t_Reader_is
  show tRet _ _ [some (.ref a), some (.str (S u.kz)), some (.str (S (kt u)))] H
  walk_at "w"
  refine w_andV ?_
  walk_at "w"
  refine w_meth hS (.head _) (lk_rno (by decide)) ?_
  walk_at "w"
  refine ⟨L, a, dx, p, ts, i, k, rfl, hS, ?_⟩
  by_cases e : i = ts.length
  · rw [decide_eq_true e]
    walk_at "w"
    have : decide (ts[i]? = some u) = false := by subst e; simp
    rw [← this]
    exact hQ _ hS
  · rw [decide_eq_false e]
    walk_at "w"
    refine w_bt rfl ?_
    walk_at "w"
    refine w_fld hS (by walk_at "mem") cf.cls_Reader cf.na_Reader_tokens lk_rt ?_
    walk_at "w"
    refine w_fld hS (by walk_at "mem") cf.cls_Reader cf.na_Reader_at lk_ra ?_
    walk_at "w"
    have hlt : i < ts.length := by omega
    refine w_ixL (k := i) (d := (ts[i]).d) hS (by walk_at "lsin") rfl (by simp [hlt]) fun v hS1 => ?_
    walk_at "w"
    rename_i q H2 hS2
    refine w_eqD hS2 (d := (ts[i]).d) (e := u.d) (.is (.dat (by walk_at "mem"))) (.is ?_) ((sh_tk (ok.tk _ (List.getElem_mem hlt))).shaped (by decide)) ((sh_tk hu).shaped (by decide)) ?_
    · rw [d_wg hk]
      exact .dat (by walk_at "mem")
    · rw [tok_eqv]
      have : decide (ts[i]? = some u) = decide (ts[i] = u) := decide_eq_decide.mpr (by rw [List.getElem?_eq_getElem hlt]; simp)
      rw [← this]
      exact hQ _ (hS2.to (by walk_at "pick"))
/-- reads a token, if it is this one -/
def spSkips (K : PySem.W.Frag) : Sp := fun vs H Q _ => ∃ (L : List Ent) (a dx p : Addr) (ts : List Tk) (i k : Nat) (u : Tk), vs = [.ref a, .str (S u.kz), .str (S (kt u))] ∧ St K (RL K a dx p i k ts L) H ∧ ROK ts ∧ i ≤ ts.length ∧ u.ok ∧ (u.kd = 0 ∨ u.kd = 3) ∧
  (ts[i]? = some u → ∀ H', St K (RL K a dx p (i + 1 : Nat) k ts L) H' → Q (.bl true) H') ∧ (ts[i]? ≠ some u → ∀ H', St K (RL K a dx p i k ts L) H' → Q (.bl false) H')
theorem p_skips (cf : CF K) (vs : List V) (H : Hp) (Q : VK) (E : XK) (h : spSkips K vs H Q E) : vs.length = 3 ∧ t_Reader_skips K (spIs K) { nx := fun _ H' => Q .non H', rt := Q } (start N_Reader_skips vs) H := by
  obtain ⟨L, a, dx, p, ts, i, k, u, rfl, hS, ok, hi, hu, hk, hQ1, hQ0⟩ := h
  refine ⟨rfl, ?_⟩
  unfold t_Reader_skips
  show tSeq _ _ _ [some (.ref a), some (.str (S u.kz)), some (.str (S (kt u))), none] H
  walk_at "w"
  refine w_meth hS (.head _) (lk_rno (by decide)) ?_
  walk_at "w"
  refine ⟨L, a, dx, p, ts, i, k, u, rfl, hS, ok, hi, hu, hk, fun H1 hS1 => ?_⟩
  by_cases e : ts[i]? = some u
  · rw [decide_eq_true e]
    walk_at "w"
    refine w_fld hS1 (by walk_at "mem") cf.cls_Reader cf.na_Reader_at lk_ra ?_
    walk_at "w"
    refine w_sfld hS1 .here cf.cls_Reader cf.na_Reader_at (by show 3 < 1000; decide) fun H2 hS2 => ?_
    rw [put_ra] at hS2
    walk_at "w"
    exact hQ1 e _ hS2
  · rw [decide_eq_false e]
    walk_at "w"
    refine w_fld hS1 (by walk_at "mem") cf.cls_Reader cf.na_Reader_at lk_ra ?_
    walk_at "w"
    refine w_sfld hS1 .here cf.cls_Reader cf.na_Reader_at (by show 3 < 1000; decide) fun H2 hS2 => ?_
    rw [put_ra, Int.add_zero] at hS2
    walk_at "w"
    exact hQ0 e _ hS2
/-- reads a name -/
def spRName (K : PySem.W.Frag) : Sp := fun vs H Q _ => ∃ (L : List Ent) (a dx p : Addr) (ts : List Tk) (i k : Nat), vs = [.ref a] ∧ St K (RL K a dx p i k ts L) H ∧ ROK ts ∧ i ≤ ts.length ∧
  (∀ z, ts[i]? = some (.w z) → isName z = true → ∀ H', St K (RL K a dx p (i + 1 : Nat) k ts L) H' → Q (.str (S z)) H') ∧ ((∀ z, ts[i]? = some (.w z) → isName z = false) → ∀ H', St K (RL K a dx p i k ts L) H' → Q .non H')
theorem kz_word (t : Tk) : (t.kz = zword) ↔ t.kd = 0 := by cases t <;> simp [Tk.kz, Tk.kd]
theorem p_rname (cf : CF K) (vs : List V) (H : Hp) (Q : VK) (E : XK) (h : spRName K vs H Q E) : vs.length = 1 ∧ t_Reader_name K (spAtEnd K) (spName K) { nx := fun _ H' => Q .non H', rt := Q } (start N_Reader_name vs) H := by
  obtain ⟨L, a, dx, p, ts, i, k, rfl, hS, ok, hi, hQ1, hQ0⟩ := h
  refine ⟨rfl, ?_⟩
  unfold t_Reader_name
  walk_at "z"
  show tSeq _ _ _ [some (.ref a)] H
  walk_at "w"
  refine w_or ?_
  walk_at "w"
  refine w_meth hS (.head _) (lk_rno (by decide)) ?_
  walk_at "w"
  refine ⟨L, a, dx, p, ts, i, k, rfl, hS, ?_⟩
  by_cases e : i = ts.length
  · rw [decide_eq_true e]
    walk_at "w"
    exact hQ0 (fun z hz => by subst e; simp at hz) _ hS
  rw [decide_eq_false e]
  walk_at "w"
  have hlt : i < ts.length := by omega
  have hti : ts[i]? = some ts[i] := List.getElem?_eq_getElem hlt
  have htk := ok.tk _ (List.getElem_mem hlt)
  generalize ts[i] = t at hti htk
  refine w_or ?_
  walk_at "w"
  refine w_fld hS (by walk_at "mem") cf.cls_Reader cf.na_Reader_tokens lk_rt ?_
  walk_at "w"
  refine w_fld hS (by walk_at "mem") cf.cls_Reader cf.na_Reader_at lk_ra ?_
  walk_at "w"
  refine w_ixL (k := i) (d := t.d) hS (by walk_at "lsin") rfl (by rw [List.getElem?_map, hti]; rfl) fun v hS1 => ?_
  have hS1' := hS1
  rw [t.d_eq] at hS1'
  obtain ⟨q, rfl⟩ := hS1'.tup_of
  walk_at "w"
  refine w_ixTs (k := 0) (m := S t.kz) hS1' (.dat (.head _)) rfl rfl ?_
  walk_at "w"
  by_cases hk : t.kz = zword
  · rw [decide_eq_true hk]
    walk_at "w"
    have hw : ∃ z, t = .w z := by cases t <;> simp [Tk.kz] at hk; exact ⟨_, rfl⟩
    obtain ⟨z, rfl⟩ := hw
    refine w_bf rfl ?_
    walk_at "w"
    refine w_fld hS1 (by walk_at "mem") cf.cls_Reader cf.na_Reader_tokens lk_rt ?_
    walk_at "w"
    refine w_fld hS1 (by walk_at "mem") cf.cls_Reader cf.na_Reader_at lk_ra ?_
    walk_at "w"
    refine w_ixL (k := i) (d := (Tk.w z).d) hS1 (by walk_at "lsin") rfl (by rw [List.getElem?_map, hti]; rfl) fun v hS2 => ?_
    obtain ⟨q2, rfl⟩ := hS2.tup_of
    walk_at "w"
    refine w_ixTs (k := 1) (m := S z) hS2 (.dat (.head _)) rfl rfl ?_
    walk_at "w"
    refine ⟨_, z, rfl, hS2, by have := htk.2.1; omega, .dat (by walk_at "mem"), fun H3 hS3 => ?_⟩
    by_cases hn : isName z = true
    · rw [hn]
      walk_at "w"
      refine w_bf rfl ?_
      walk_at "w"
      refine w_fld hS3 (by walk_at "mem") cf.cls_Reader cf.na_Reader_at lk_ra ?_
      walk_at "w"
      refine w_sfld hS3 (.there (.there .here)) cf.cls_Reader cf.na_Reader_at (by show 3 < 1000; decide) fun H4 hS4 => ?_
      rw [put_ra] at hS4
      walk_at "w"
      refine w_fld hS4 (by walk_at "mem") cf.cls_Reader cf.na_Reader_tokens lk_rt ?_
      walk_at "w"
      refine w_fld hS4 (by walk_at "mem") cf.cls_Reader cf.na_Reader_at lk_ra ?_
      walk_at "w"
      refine w_ixL (k := i) (d := (Tk.w z).d) hS4 (by walk_at "lsin") (by omega) (by rw [List.getElem?_map, hti]; rfl) fun v hS5 => ?_
      obtain ⟨q3, rfl⟩ := hS5.tup_of
      walk_at "w"
      refine w_ixTs (k := 1) (m := S z) hS5 (.dat (.head _)) rfl rfl ?_
      exact hQ1 z hti hn _ (hS5.to (by walk_at "pick"))
    · have hn' : isName z = false := by simpa using hn
      rw [hn']
      walk_at "w"
      refine w_bt rfl ?_
      walk_at "w"
      exact hQ0 (fun y hy => by rw [hti] at hy; cases hy; exact hn') _ (hS3.to (by walk_at "pick"))
  · rw [decide_eq_false hk]
    walk_at "w"
    exact hQ0 (fun y hy => by rw [hti] at hy; cases hy; exact absurd rfl hk) _ (hS1.to (by walk_at "pick"))
/-- reads one of some signs -/
def spRSign (K : PySem.W.Frag) : Sp := fun vs H Q _ => ∃ (L : List Ent) (a dx p : Addr) (ts : List Tk) (i k : Nat) (cs : List Nat), vs = [.ref a, .str (S cs)] ∧ St K (RL K a dx p i k ts L) H ∧ ROK ts ∧ i ≤ ts.length ∧ cs.length ≤ 10 ∧ (∀ c ∈ cs, c ∈ sgns) ∧
  (∀ c, ts[i]? = some (.g c) → c ∈ cs → ∀ H', St K (RL K a dx p (i + 1 : Nat) k ts L) H' → Q (.str (S [c])) H') ∧ ((∀ c, ts[i]? = some (.g c) → c ∉ cs) → ∀ H', St K (RL K a dx p i k ts L) H' → Q .non H')
theorem p_rsign (cf : CF K) (vs : List V) (H : Hp) (Q : VK) (E : XK) (h : spRSign K vs H Q E) : vs.length = 2 ∧ t_Reader_sign K (spSkips K) { nx := fun _ H' => Q .non H', rt := Q } (start N_Reader_sign vs) H := by
  obtain ⟨L, a, dx, p, ts, i, k, cs, rfl, hS, ok, hi, hn, hcs, hQ1, hQ0⟩ := h
  refine ⟨rfl, ?_⟩
  unfold t_Reader_sign
  walk_at "z"
  show tSeq _ _ _ [some (.ref a), some (.str (S cs)), none] H
  walk_at "w"
  have hlen : (S cs).cps.toList = cs := by simp [S]
  refine w_forS (fun j σ H' => (∃ v, σ = [some (.ref a), some (.str (S cs)), v]) ∧ (∀ c, ts[i]? = some (.g c) → c ∉ cs.take j) ∧ St K (RL K a dx p i k ts L) H') ⟨⟨_, rfl⟩, fun c _ => by simp, hS⟩ (fun j c σ H1 hc hI => ?_) (fun σ H1 hI => ?_)
  · obtain ⟨⟨v, rfl⟩, hno, hS1⟩ := hI
    rw [hlen] at hc
    have hm : c ∈ cs := List.mem_of_getElem? hc
    walk_at "w"
    refine w_meth hS1 (.head _) (lk_rno (by decide)) ?_
    walk_at "w"
    refine ⟨L, a, dx, p, ts, i, k, .g c, rfl, hS1, ok, hi, hcs c hm, .inr rfl, fun e H2 hS2 => ?_, fun e H2 hS2 => ?_⟩
    · walk_at "w"
      exact hQ1 c e hm _ hS2
    · walk_at "w"
      refine ⟨⟨_, rfl⟩, fun c' hc' hm' => ?_, hS2⟩
      rw [List.take_add_one, hc] at hm'
      rcases List.mem_append.mp hm' with h | h
      · exact hno c' hc' h
      · have : c' = c := by simpa using h
        subst this
        exact e hc'
  · obtain ⟨⟨v, rfl⟩, hno, hS1⟩ := hI
    rw [hlen, List.take_length] at hno
    walk_at "w"
    exact hQ0 hno _ hS1
end
end K02

/-! k02: what calls itself in the reader -/
namespace K02
open PySem PySem.Spec PyProof.Rows L2 Lg Tok Xp PySem.NumText
local macro_rules | `(tactic| walk_at "ar") => `(tactic| first | omega | (simp; done) | (simp; omega) | (simp only [S_len]; omega) | (simp [Lg.repL_len]; done) | (simp [Lg.repL_len]; omega))
local macro_rules | `(tactic| walk_at "gt") => `(tactic| repeat (first | exact GetAt.here | apply GetAt.there))
local macro_rules | `(tactic| walk_at "st") => `(tactic| repeat (first | exact SetAt.here | apply SetAt.there))
local macro_rules | `(tactic| walk_at "mem") => `(tactic| first | assumption | exact List.mem_cons_self | (apply List.mem_cons_of_mem; walk_at "mem"))
local macro_rules | `(tactic| walk_at "put") => `(tactic| repeat (first | exact Put.here | apply Put.there))
local macro_rules | `(tactic| walk_at "rem") => `(tactic| repeat (first | exact Rem.here | apply Rem.there))
local macro_rules | `(tactic| walk_at "pick") => `(tactic| first | exact Pick.refl | exact Pick.cons (by walk_at "rem") (by walk_at "pick") | (apply Pick.drop; walk_at "pick") | exact Pick.nil)
local macro_rules | `(tactic| walk_at "is") => `(tactic| first | exact Is.int | exact Is.str | exact Is.bl | exact Is.non | assumption | exact Is.dat (by walk_at "mem") | (apply Is.cons; walk_at "is"))
local macro_rules | `(tactic| walk_at "isall") => `(tactic| first | exact IsAll.nil | exact IsAll.cons (by walk_at "is") (by walk_at "isall"))
local macro_rules | `(tactic| walk_at "lsin") => `(tactic| first | assumption | exact LsIn.own (by walk_at "mem") | exact LsIn.dat (by walk_at "mem") | (apply LsIn.cons; walk_at "lsin"))
local macro_rules | `(tactic| walk_at "see") => `(tactic| first | exact See.own (by walk_at "mem") | exact See.is (by walk_at "is"))
local macro_rules | `(tactic| walk_at "w1") => `(tactic| first
  | (with_reducible apply Lg.w_seq)
  | (with_reducible apply Lg.w_asg)
  | ((with_reducible show gName _ _ _ _ _); (with_reducible refine Lg.w_name (by walk_at "st") ?_))
  | ((with_reducible show tVar _ _ _ _); (with_reducible refine Lg.w_var (by walk_at "gt") ?_))
  | (with_reducible apply Lg.w_c)
  | (with_reducible apply Lg.w_op)
  | (with_reducible apply Lg.w_un)
  | (with_reducible apply Lg.w_nil)
  | (with_reducible apply Lg.w_cons)
  | (with_reducible apply Lg.w_call)
  | (with_reducible apply Lg.w_cb)
  | (with_reducible apply Lg.w_tup)
  | (with_reducible apply Lg.w_lst)
  | (with_reducible apply Lg.w_bm)
  | (with_reducible apply Lg.w_bm0)
  | (with_reducible apply Lg.w_sl)
  | (with_reducible apply Lg.w_nopart)
  | (with_reducible apply Lg.w_part)
  | (with_reducible apply Lg.w_isint)
  | (with_reducible apply Lg.w_test)
  | (with_reducible apply Lg.w_tB)
  | (with_reducible apply Lg.w_isbl')
  | (with_reducible apply Lg.w_not)
  | (with_reducible apply Lg.w_tru)
  | (with_reducible apply Lg.w_truI)
  | (with_reducible apply Lg.w_truB)
  | (with_reducible apply Lg.w_ifs)
  | (with_reducible apply Lg.w_next)
  | (with_reducible apply Lg.w_break)
  | (with_reducible apply Lg.w_cont)
  | (with_reducible apply Lg.w_ret)
  | (with_reducible apply Lg.w_retn)
  | (with_reducible apply Lg.w_drop)
  | (with_reducible apply Lg.w_sub)
  | (with_reducible apply Lg.w_gnil)
  | (with_reducible apply Lg.w_gcons)
  | (with_reducible apply Lg.w_ifT)
  | (with_reducible apply Lg.w_ifF)
  | (with_reducible apply Lg.w_add)
  | (with_reducible apply Lg.w_sub2)
  | ((with_reducible show rTimes (V.int _) (V.int _) _ _); (with_reducible refine Lg.w_mulR (by omega) ?_))
  | ((with_reducible show rTimes (V.int _) (V.int _) _ _); (with_reducible refine Lg.w_mulL (by omega) ?_))
  | ((with_reducible show rMod (V.int _) (V.int _) _ _); (with_reducible refine Lg.w_mod (by first | decide | omega) ?_))
  | ((with_reducible show rFdiv (V.int _) (V.int _) _ _); (with_reducible refine Lg.w_fdiv (by first | decide | omega) ?_))
  | (with_reducible apply Lg.w_band)
  | (with_reducible apply Lg.w_lt)
  | (with_reducible apply Lg.w_le)
  | (with_reducible apply Lg.w_gt)
  | (with_reducible apply Lg.w_ge)
  | (with_reducible apply Lg.w_eqI)
  | (with_reducible apply Lg.w_neI)
  | (with_reducible apply Lg.w_intI2)
  | (with_reducible apply Lg.w_neg)
  | (with_reducible apply Lg.w_inSS)
  | (with_reducible apply Lg.w_ninSS)
  | (with_reducible apply Lg.w_inSS')
  | (with_reducible apply Lg.w_neSS)
  | (with_reducible apply Lg.w_strS)
  | (with_reducible apply Lg.w_fldE)
  | (with_reducible apply Lg.w_sfldE)
  | (with_reducible apply Lg.w_makeE)
  | (with_reducible apply Lg.w_methE)
  | (with_reducible apply Lg.w_methSE)
  | (with_reducible apply Lg.w_callS)
  | (with_reducible apply Lg.w_raiseO)
  | (with_reducible apply Lg.w_raiseB)
  | (with_reducible apply Lg.w_try)
  | (with_reducible apply Lg.w_strS)
  | (with_reducible apply Lg.w_eqSS)
  | (with_reducible apply Lg.w_eqS)
  | (with_reducible apply Lg.w_neS)
  | (with_reducible apply Lg.w_isN)
  | (with_reducible apply Lg.w_isR)
  | (with_reducible apply Lg.w_isI)
  | (with_reducible apply Lg.w_isS)
  | (with_reducible apply Lg.w_nsN)
  | (with_reducible apply Lg.w_nsR)
  | (with_reducible apply Lg.w_nsI)
  | (with_reducible apply Lg.w_nsS)
  | (with_reducible apply Lg.w_int)
  | (with_reducible apply Lg.w_intb)
  | (with_reducible apply Lg.w_ord1)
  | (with_reducible apply Lg.w_tyS)
  | (with_reducible apply Lg.w_inSg)
  | (with_reducible apply Lg.w_ninSg)
  | ((with_reducible show NewL _ _ _); (with_reducible refine Lg.w_newL (by assumption) (by walk_at "isall") (by simp) ?_); (intro p' H' hS'))
  | ((with_reducible show NewT _ _ _); (with_reducible refine Lg.w_newT (by assumption) (by walk_at "isall") (by simp) ?_); (intro p' H' hS'))
  | ((with_reducible show TyThen _ _ (V.ref _) _ _); (with_reducible refine Lg.w_tyL (by assumption) (by walk_at "lsin") ?_))
  | ((with_reducible show rLenX _ [V.ref _] _ _); (with_reducible refine Lg.w_lenL (by assumption) (by walk_at "lsin") ?_))
  | ((with_reducible show rLenX _ [V.ref _] _ _); (with_reducible refine Lg.w_lenT (by assumption) (by walk_at "is") ?_))
  | ((with_reducible show spDraw _ _ _ _ _); (with_reducible refine Lg.w_draw (by assumption) (by walk_at "mem") (by first | decide | omega) ?_); (intro k' H' hk0' hk1' hS'))
  | ((with_reducible show rSlX _ (V.ref _) _ _ _ _); (with_reducible refine Lg.w_slL (by assumption) (by walk_at "lsin") ?_); (intro p' H' hS'))
  | ((with_reducible show rListOf _ [V.ref _] _ _); (with_reducible refine Lg.w_listL (by assumption) (by walk_at "lsin") ?_); (intro p' H' hS'))
  | (with_reducible apply Lg.w_for)
  | (with_reducible apply Lg.w_lc)
  | ((with_reducible show iAny _ (tVar _) _ _ _); (with_reducible refine Lg.w_anyVar (by walk_at "gt") ?_))
  | (with_reducible apply Lg.w_anyC)
  | (with_reducible apply Lg.w_vS)
  | (with_reducible apply Lg.w_itS)
  | ((with_reducible show AnyV _ (V.ref _) _ _); (with_reducible refine Lg.w_vL (by assumption) (by walk_at "lsin") ?_))
  | ((with_reducible show AnyL _ (V.ref _) _ _); (with_reducible refine Lg.w_itL (by assumption) (by walk_at "lsin") ?_))
  | ((with_reducible show AnyV _ (V.ref _) _ _); (with_reducible refine Lg.w_vT (by assumption) (by walk_at "is") ?_))
  | ((with_reducible show AnyT _ (V.ref _) _ _); (with_reducible refine Lg.w_itT (by assumption) (by walk_at "is") ?_))
  | ((with_reducible show Enu _ [V.ref _] _ _); (with_reducible refine Lg.w_itE (by assumption) (by walk_at "lsin") ?_))
  | ((with_reducible show rPlus _ (V.ref _) (V.ref _) _ _); (with_reducible refine Lg.w_plusL (by assumption) (by walk_at "lsin") (by walk_at "lsin") (by walk_at "ar") ?_); (intro p' H' hS'))
  | ((with_reducible show rTimes (V.ref _) (V.int _) _ _); (with_reducible refine Lg.w_repLs (by assumption) (by walk_at "lsin") (by walk_at "ar") (by walk_at "ar") (by walk_at "ar") ?_); (intro p' H' hS'))
  | ((with_reducible show rLenX _ [V.str (S _)] _ _); (with_reducible refine Lg.w_lenSS (by walk_at "ar") ?_))
  | ((with_reducible show rLenX _ [V.str _] _ _); (with_reducible refine Lg.w_lenS (by walk_at "ar") ?_))
  | ((with_reducible show rSlX _ (V.str _) _ _ _ _); (with_reducible refine Lg.w_slS (by walk_at "ar") ?_))
  | (with_reducible apply Lg.w_rng1)
  | (with_reducible apply Lg.w_rng2)
  | (with_reducible apply Lg.w_rng3)
  | (with_reducible apply Lg.w_enum)
  | ((with_reducible show Rng1 _ _ _); (with_reducible refine Lg.w_itR1 (by omega) ?_))
  | ((with_reducible show Rng2 _ _ _); (with_reducible refine Lg.w_itR2 (by omega) (by omega) ?_))
  | ((with_reducible show rIx _ (V.ref _) (V.int _) _ _); (with_reducible refine Lg.w_ixN (by assumption) (by walk_at "lsin") (by walk_at "ar") (by walk_at "ar") ?_))
  | ((with_reducible show rPlus _ (V.str (S _)) (V.str (S _)) _ _); (with_reducible refine Lg.w_addSS (by walk_at "ar") ?_))
  | ((with_reducible show rTimes (V.str (S _)) (V.int _) _ _); (with_reducible refine Lg.w_repSS (by walk_at "ar") (by walk_at "ar") (by walk_at "ar") ?_))
  | ((with_reducible show rIsi _ [V.ref _, V.ty "list"] _ _); (with_reducible refine Lg.w_isLL (by assumption) (by walk_at "lsin") ?_))
  | ((with_reducible show rIsi _ [V.ref _, V.ty "tuple"] _ _); (with_reducible refine Lg.w_isTT (by assumption) (by walk_at "is") ?_))
  | (with_reducible apply Lg.w_isII)
  | (with_reducible apply Lg.w_isSI)
  | (with_reducible apply Lg.w_isSS)
  | (with_reducible apply Lg.w_isIS)
  | (with_reducible apply Lg.w_ifexp)
  | (with_reducible apply Lg.w_chain)
  | ((with_reducible show ChainK _ _ _ _ _ _ _); (with_reducible refine Lg.w_chainLe (by (intro R' hR'; walk_at "w"; exact hR')) ?_))
  | ((with_reducible show ChainK _ _ _ _ _ _ _); (with_reducible refine Lg.w_chainLt (by (intro R' hR'; walk_at "w"; exact hR')) ?_))
  | ((with_reducible show tAnd _ _ _ _ _); (with_reducible refine Lg.w_andP (by (intro R' hR'; walk_at "w"; exact hR')) (by (intro hb' R' hR'; walk_at "w"; exact hR')) ?_))
  | ((with_reducible show tOr _ _ _ _ _); (with_reducible refine Lg.w_orP (by (intro R' hR'; walk_at "w"; exact hR')) (by (intro hb' R' hR'; walk_at "w"; exact hR')) ?_))
  | ((with_reducible show tAndV _ _ _ _ _); (with_reducible refine Lg.w_andVP (by (intro R' hR'; walk_at "w"; exact hR')) (by (intro hb' R' hR'; walk_at "w"; exact hR')) ?_))
  | ((with_reducible show tOrV _ _ _ _ _); (with_reducible refine Lg.w_orVP (by (intro R' hR'; walk_at "w"; exact hR')) (by (intro hb' R' hR'; walk_at "w"; exact hR')) ?_))
  | (with_reducible apply Lg.w_notV))
local macro_rules | `(tactic| walk_at "w") => `(tactic| repeat (walk_at "w1"))
local macro_rules | `(tactic| walk_at "k") => `(tactic| repeat (first | walk_at "w1" | ((with_reducible show (if _ = true then _ else _ : Prop)); (first | (refine Lg.w_bt (by first | rfl | decide | (simp; done) | fail) ?_) | (refine Lg.w_bf (by first | rfl | decide | (simp; done) | fail) ?_) | fail))))
local macro_rules | `(tactic| walk_at "z") => `(tactic| simp only [z_0, z_1, z_2, z_3, z_4, z_5, z_6, z_7, z_8, z_9, z_10, z_11, z_12, z_13, z_14, z_15, z_16, z_17, z_18, z_19, z_20, z_21, z_22, z_23, z_24, z_25, z_26, z_27, z_28, z_29, z_30, z_31, z_32, z_33, z_34, z_35, z_36, z_37, z_38, z_39, z_40, z_41, z_42, z_43, z_44, z_45, z_46, z_47, z_48, z_49, z_50, z_51, z_52, z_53, z_54, z_55, z_56, z_57, z_58, z_59, z_60, z_61, z_62, z_63, z_64, z_65, z_66, z_67, z_68, z_69, z_70, z_71, z_72, z_73, z_74, z_75, z_76, z_77])
section
variable {K : PySem.W.Frag}
/-! ### the reader of expressions: what calls itself (shared) -/
theorem hd_some {ts : List Tk} {i : Nat} {u : Tk} (h : ts[i]? = some u) : ts.drop i = u :: ts.drop (i + 1) ∧ i + 1 ≤ ts.length := by
  obtain ⟨hlt, e⟩ := List.getElem?_eq_some_iff.mp h
  exact ⟨by rw [List.drop_eq_getElem_cons hlt, e], hlt⟩
theorem hd_none {ts : List Tk} {i : Nat} (h : ts[i]? = none) : ts.drop i = [] := List.drop_eq_nil_of_le (List.getElem?_eq_none_iff.mp h)
theorem hd_of {ts r : List Tk} {i : Nat} {u : Tk} (h : ts.drop i = u :: r) : ts[i]? = some u := by
  have : (ts.drop i)[0]? = some u := by rw [h]; rfl
  simpa using this
/-- a method that reads: f tells what it reads of the tokens that are left -/
def spPF (lo : Nat) (f : PF) (K : PySem.W.Frag) : Sp := fun vs H Q _ => ∃ (L : List Ent) (a dx p : Addr) (ts : List Tk) (i k : Nat), vs = [.ref a] ∧ St K (RL K a dx p i k ts L) H ∧ ROK ts ∧ i + lo ≤ ts.length ∧ f k (ts.drop i) ≠ none ∧
  (f k (ts.drop i) = some none → ∀ (i' k' : Int) H', St K (RL K a dx p i' k' ts L) H' → Q .non H') ∧
  (∀ t j, f k (ts.drop i) = some (some (t, ts.drop j)) → j ≤ ts.length → ∀ v H', St K (Lg.dat v t.d :: RL K a dx p j k ts L) H' → Q v H')
def spRParts (f : Nat → Nat → List Tk → Re (List Tr)) (K : PySem.W.Frag) : Sp := fun vs H Q _ => ∃ (L : List Ent) (a dx p : Addr) (ts : List Tk) (i k s : Nat), vs = [.ref a, .str (S [s])] ∧ (s = 44 ∨ s = 59) ∧ St K (RL K a dx p i k ts L) H ∧ ROK ts ∧ i + 1 ≤ ts.length ∧ f s k (ts.drop i) ≠ none ∧
  (f s k (ts.drop i) = some none → ∀ (i' k' : Int) H', St K (RL K a dx p i' k' ts L) H' → Q .non H') ∧
  (∀ us j, f s k (ts.drop i) = some (some (us, ts.drop j)) → j ≤ ts.length → us.length ≤ ts.length + 1 → (s = 59 → us ≠ []) → ∀ b H', St K (Lg.ls K b (us.map Tr.d) :: RL K a dx p j k ts L) H' → Q (.ref b) H')
def spRCall (f : List Nat → PF) (K : PySem.W.Frag) : Sp := fun vs H Q _ => ∃ (L : List Ent) (a dx p : Addr) (ts : List Tk) (i k : Nat) (z : List Nat), vs = [.ref a, .str (S z)] ∧ St K (RL K a dx p i k ts L) H ∧ ROK ts ∧ i + 1 ≤ ts.length ∧ f z k (ts.drop i) ≠ none ∧
  (f z k (ts.drop i) = some none → ∀ (i' k' : Int) H', St K (RL K a dx p i' k' ts L) H' → Q .non H') ∧
  (∀ t j, f z k (ts.drop i) = some (some (t, ts.drop j)) → j ≤ ts.length → ∀ v H', St K (Lg.dat v t.d :: RL K a dx p j k ts L) H' → Q v H')
theorem tr_tup (t : Tr) : ∃ ds, t.d = .tuple ds := by cases t <;> (rw [Tr.d]; exact ⟨_, rfl⟩)
theorem tr_ref {v : V} {t : Tr} {L : List Ent} {H : Hp} (h : St K (Lg.dat v t.d :: L) H) : ∃ q, v = .ref q := by
  obtain ⟨ds, e⟩ := tr_tup t
  rw [e] at h
  exact h.tup_of
theorem wholeF_no {z : Ps} {k : Nat} {l : List Tk} (h1 : ∀ r, l ≠ .w zif :: r) (h2 : ∀ r, l ≠ .w zset :: r) : wholeF z k l = z.comp k l := by
  unfold wholeF
  split
  · rename_i y r
    rw [if_neg (fun e => h1 r (by rw [e])), if_neg (fun e => h2 r (by rw [e]))]
  · rfl
theorem wholeF_set {z : Ps} {k : Nat} {y : List Nat} {q : List Tk} (hn : isName y = true) : wholeF z k (.w zset :: .w y :: .g 61 :: q) = bindR (z.whole k q) fun t q2 => some (some (.set y t, q2)) := by
  simp only [wholeF]
  rw [if_neg (by decide), if_pos True.intro, if_pos hn]
theorem wholeF_set1 {z : Ps} {k : Nat} {y : List Nat} {q : List Tk} (h : ∀ r, q ≠ .g 61 :: r) : wholeF z k (.w zset :: .w y :: q) = some none := by
  simp only [wholeF]
  rw [if_neg (by decide), if_pos True.intro]
  split <;> first | rfl | (split <;> first | rfl | exact absurd rfl (h _))
theorem wholeF_set2 {z : Ps} {k : Nat} {q : List Tk} (h : ∀ y r, q = .w y :: r → isName y = false) : wholeF z k (.w zset :: q) = some none := by
  unfold wholeF
  simp only []
  rw [if_neg (by decide), if_pos True.intro]
  split
  · rename_i y r
    rw [if_neg (by rw [h y r rfl]; simp)]
  · rfl
theorem ok_if : Tk.ok (.w zif) := ⟨by decide, by decide, by decide⟩
theorem ok_set : Tk.ok (.w zset) := ⟨by decide, by decide, by decide⟩
theorem ok_then : Tk.ok (.w zthen) := ⟨by decide, by decide, by decide⟩
theorem ok_else : Tk.ok (.w zelse) := ⟨by decide, by decide, by decide⟩
theorem ok_g {c : Nat} (h : c ∈ sgns) : Tk.ok (.g c) := h
theorem p_whole (cf : CF K) (z : Ps) (vs : List V) (H : Hp) (Q : VK) (E : XK) (h : spPF 0 (wholeF z) K vs H Q E) : vs.length = 1 ∧ t_Reader_whole K (spPF 0 z.comp K) (spSkips K) (spPF 0 z.whole K) (spRName K) (spPF 0 z.choice K) { nx := fun _ H' => Q .non H', rt := Q } (start N_Reader_whole vs) H := by
  obtain ⟨L, a, dx, p, ts, i, k, rfl, hS, ok, hi, hne, hQ0, hQ1⟩ := h
  refine ⟨rfl, ?_⟩
  unfold t_Reader_whole
  walk_at "z"
  show tSeq _ _ _ [some (.ref a), none, none] H
  walk_at "w"
  refine w_meth hS (.head _) (lk_rno (by decide)) ?_
  walk_at "w"
  refine ⟨L, a, dx, p, ts, i, k, .w zif, rfl, hS, ok, hi, ok_if, .inl rfl, fun e H1 hS1 => ?_, fun e1 H1 hS1 => ?_⟩
  · obtain ⟨ed, hlt⟩ := hd_some e
    have ef : wholeF z k (ts.drop i) = z.choice k (ts.drop (i + 1)) := by rw [ed]; simp [wholeF]
    rw [ef] at hne hQ0 hQ1
    walk_at "w"
    refine w_meth hS1 (.head _) (lk_rno (by decide)) ?_
    walk_at "w"
    exact ⟨L, a, dx, p, ts, i + 1, k, rfl, hS1, ok, hlt, hne, hQ0, hQ1⟩
  walk_at "w"
  refine w_meth hS1 (.head _) (lk_rno (by decide)) ?_
  walk_at "w"
  refine ⟨L, a, dx, p, ts, i, k, .w zset, rfl, hS1, ok, hi, ok_set, .inl rfl, fun e H2 hS2 => ?_, fun e2 H2 hS2 => ?_⟩
  · obtain ⟨ed, hlt⟩ := hd_some e
    walk_at "w"
    refine w_meth hS2 (.head _) (lk_rno (by decide)) ?_
    walk_at "w"
    refine ⟨L, a, dx, p, ts, i + 1, k, rfl, hS2, ok, hlt, fun y hy hn H3 hS3 => ?_, fun hno H3 hS3 => ?_⟩
    · obtain ⟨ed2, hlt2⟩ := hd_some hy
      walk_at "w"
      refine w_or ?_
      walk_at "w"
      refine w_meth hS3 (.head _) (lk_rno ?_) ?_
      · decide
      walk_at "w"
      refine ⟨L, a, dx, p, ts, i + 1 + 1, k, .g 61, rfl, hS3, ok, hlt2, ok_g (by decide), .inr rfl, fun e3 H4 hS4 => ?_, fun e3 H4 hS4 => ?_⟩
      · obtain ⟨ed3, hlt3⟩ := hd_some e3
        have ef : wholeF z k (ts.drop i) = bindR (z.whole k (ts.drop (i + 1 + 1 + 1))) fun t q2 => some (some (.set y t, q2)) := by
          rw [ed, ed2, ed3, wholeF_set hn]
        rw [ef] at hne hQ0 hQ1
        walk_at "w"
        refine w_bf rfl ?_
        walk_at "w"
        refine w_meth hS4 (.head _) (lk_rno (by decide)) ?_
        walk_at "w"
        refine ⟨L, a, dx, p, ts, i + 1 + 1 + 1, k, rfl, hS4, ok, hlt3, fun h => hne (by rw [h]; rfl), fun h i' k' H5 hS5 => ?_, fun t j h hj v H5 hS5 => ?_⟩
        · walk_at "w"
          exact hQ0 (by rw [h]; rfl) i' k' _ hS5
        · obtain ⟨q, rfl⟩ := tr_ref hS5
          walk_at "w"
          rename_i q2 H6 hS6
          refine hQ1 (.set y t) j (by rw [h]; rfl) hj _ _ (?_ : St K _ _)
          rw [Tr.d]
          exact hS6.to (by walk_at "pick")
      · have ef : wholeF z k (ts.drop i) = some none := by
          rw [ed, ed2]
          exact wholeF_set1 fun r h => e3 (hd_of h)
        walk_at "w"
        exact hQ0 ef _ _ _ hS4
    · have ef : wholeF z k (ts.drop i) = some none := by
        rw [ed]
        exact wholeF_set2 fun y r h => hno y (hd_of h)
      walk_at "w"
      refine w_or ?_
      walk_at "w"
      exact hQ0 ef _ _ _ hS3
  · have ef : wholeF z k (ts.drop i) = z.comp k (ts.drop i) := wholeF_no (fun r h => e1 (hd_of h)) (fun r h => e2 (hd_of h))
    rw [ef] at hne hQ0 hQ1
    walk_at "w"
    refine w_meth hS2 (.head _) (lk_rno (by decide)) ?_
    walk_at "w"
    exact ⟨L, a, dx, p, ts, i, k, rfl, hS2, ok, hi, hne, hQ0, hQ1⟩
theorem word_no {w : List Nat} {q : List Tk} {f : List Tk → Re Tr} (h : ∀ r, q ≠ .w w :: r) : word w q f = some none := by
  unfold word
  split
  · rename_i y r
    rw [if_neg (fun e => h r (by rw [e]))]
  · rfl
theorem word_yes {w : List Nat} {q : List Tk} {f : List Tk → Re Tr} : word w (.w w :: q) f = f q := by
  show (if w = w then _ else _) = _
  rw [if_pos rfl]
theorem p_choice (cf : CF K) (z : Ps) (vs : List V) (H : Hp) (Q : VK) (E : XK) (h : spPF 0 (choiceF z) K vs H Q E) : vs.length = 1 ∧ t_Reader_choice K (spPF 0 z.whole K) (spSkips K) { nx := fun _ H' => Q .non H', rt := Q } (start N_Reader_choice vs) H := by
  obtain ⟨L, a, dx, p, ts, i, k, rfl, hS, ok, hi, hne, hQ0, hQ1⟩ := h
  refine ⟨rfl, ?_⟩
  unfold t_Reader_choice
  walk_at "z"
  show tSeq _ _ _ [some (.ref a), none, none, none] H
  unfold choiceF at hne hQ0 hQ1
  walk_at "w"
  refine w_meth hS (.head _) (lk_rno (by decide)) ?_
  walk_at "w"
  refine ⟨L, a, dx, p, ts, i, k, rfl, hS, ok, hi, fun h => hne (by rw [h]; rfl), fun h i' k' H1 hS1 => ?_, fun t1 j1 h1 hj1 v1 H1 hS1 => ?_⟩
  · walk_at "w"
    refine w_or ?_
    walk_at "w"
    exact hQ0 (by rw [h]; rfl) i' k' _ hS1
  rw [h1] at hne hQ0 hQ1
  obtain ⟨q1, rfl⟩ := tr_ref hS1
  walk_at "w"
  refine w_or ?_
  walk_at "w"
  refine w_meth hS1 (.tail _ (.head _)) (lk_rno ?_) ?_
  · decide
  walk_at "w"
  refine ⟨Lg.dat (.ref q1) t1.d :: L, a, dx, p, ts, j1, k, .w zthen, rfl, hS1.to (by walk_at "pick"), ok, hj1, ok_then, .inl rfl, fun e2 H2 hS2 => ?_, fun e2 H2 hS2 => ?_⟩
  rotate_left
  · walk_at "w"
    exact hQ0 (word_no fun r h => e2 (hd_of h)) _ _ _ (hS2.to (by walk_at "pick"))
  obtain ⟨ed2, hlt2⟩ := hd_some e2
  have ew2 : ∀ f : List Tk → Re Tr, word zthen (ts.drop j1) f = f (ts.drop (j1 + 1)) := fun f => by rw [ed2, word_yes]
  simp only [bindR, ew2] at hne hQ0 hQ1
  walk_at "w"
  refine w_bf rfl ?_
  walk_at "w"
  refine w_meth hS2 (.head _) (lk_rno (by decide)) ?_
  walk_at "w"
  refine ⟨_, a, dx, p, ts, j1 + 1, k, rfl, hS2, ok, hlt2, fun h => hne (by rw [h]), fun h i' k' H3 hS3 => ?_, fun t3 j3 h3 hj3 v3 H3 hS3 => ?_⟩
  · walk_at "w"
    refine w_or ?_
    walk_at "w"
    exact hQ0 (by rw [h]) i' k' _ (hS3.to (by walk_at "pick"))
  rw [h3] at hne hQ0 hQ1
  obtain ⟨q3, rfl⟩ := tr_ref hS3
  walk_at "w"
  refine w_or ?_
  walk_at "w"
  refine w_meth hS3 (.tail _ (.head _)) (lk_rno ?_) ?_
  · decide
  walk_at "w"
  refine ⟨Lg.dat (.ref q3) t3.d :: Lg.dat (.ref q1) t1.d :: L, a, dx, p, ts, j3, k, .w zelse, rfl, hS3.to (by walk_at "pick"), ok, hj3, ok_else, .inl rfl, fun e4 H4 hS4 => ?_, fun e4 H4 hS4 => ?_⟩
  rotate_left
  · walk_at "w"
    exact hQ0 (word_no fun r h => e4 (hd_of h)) _ _ _ (hS4.to (by walk_at "pick"))
  obtain ⟨ed4, hlt4⟩ := hd_some e4
  have ew4 : ∀ f : List Tk → Re Tr, word zelse (ts.drop j3) f = f (ts.drop (j3 + 1)) := fun f => by rw [ed4, word_yes]
  simp only [ew4] at hne hQ0 hQ1
  walk_at "w"
  refine w_bf rfl ?_
  walk_at "w"
  refine w_meth hS4 (.head _) (lk_rno (by decide)) ?_
  walk_at "w"
  refine ⟨_, a, dx, p, ts, j3 + 1, k, rfl, hS4, ok, hlt4, fun h => hne (by rw [h]), fun h i' k' H5 hS5 => ?_, fun t5 j5 h5 hj5 v5 H5 hS5 => ?_⟩
  · walk_at "w"
    exact hQ0 (by rw [h]) i' k' _ (hS5.to (by walk_at "pick"))
  rw [h5] at hQ1
  obtain ⟨q5, rfl⟩ := tr_ref hS5
  walk_at "w"
  rename_i q6 H6 hS6
  refine hQ1 (.ite t1 t3 t5) j5 rfl hj5 _ _ (?_ : St K _ _)
  rw [Tr.d]
  exact hS6.to (by walk_at "pick")
theorem sg_yes {cs : List Nat} {ts : List Tk} {i c : Nat} (h : ts[i]? = some (.g c)) (hc : c ∈ cs) : sgnOf cs (ts.drop i) = some (c, ts.drop (i + 1)) := by
  rw [(hd_some h).1, sgnOf_yes hc]
theorem sg_no {cs : List Nat} {ts : List Tk} {i : Nat} (h : ∀ c, ts[i]? = some (.g c) → c ∉ cs) : sgnOf cs (ts.drop i) = none := by
  refine sgnOf_no fun c e => ?_
  cases hd : ts.drop i with
  | nil => rw [hd] at e; cases e
  | cons x r =>
    rw [hd] at e
    have : x = .g c := by simpa using e
    subst this
    exact h c (hd_of hd)
theorem p_compared (cf : CF K) (z : Ps) (vs : List V) (H : Hp) (Q : VK) (E : XK) (h : spPF 0 (compF z) K vs H Q E) : vs.length = 1 ∧ t_Reader_compared K (spPF 0 z.sum K) (spRSign K) { nx := fun _ H' => Q .non H', rt := Q } (start N_Reader_compared vs) H := by
  obtain ⟨L, a, dx, p, ts, i, k, rfl, hS, ok, hi, hne, hQ0, hQ1⟩ := h
  refine ⟨rfl, ?_⟩
  unfold t_Reader_compared
  walk_at "z"
  show tSeq _ _ _ [some (.ref a), none, none, none] H
  unfold compF at hne hQ0 hQ1
  walk_at "w"
  refine w_meth hS (.head _) (lk_rno (by decide)) ?_
  walk_at "w"
  refine ⟨L, a, dx, p, ts, i, k, rfl, hS, ok, hi, fun h => hne (by rw [h]; rfl), fun h i' k' H1 hS1 => ?_, fun t1 j1 h1 hj1 v1 H1 hS1 => ?_⟩
  · walk_at "w"
    exact hQ0 (by rw [h]; rfl) i' k' _ hS1
  rw [h1] at hne hQ0 hQ1
  simp only [bindR] at hne hQ0 hQ1
  obtain ⟨q1, rfl⟩ := tr_ref hS1
  walk_at "w"
  refine w_meth hS1 (.tail _ (.head _)) (lk_rno (by decide)) ?_
  walk_at "w"
  refine ⟨Lg.dat (.ref q1) t1.d :: L, a, dx, p, ts, j1, k, [61, 60], rfl, hS1.to (by walk_at "pick"), ok, hj1, by decide, by decide, fun c e2 hc H2 hS2 => ?_, fun e2 H2 hS2 => ?_⟩
  rotate_left
  · walk_at "w"
    refine hQ1 t1 j1 (by rw [sg_no e2]) hj1 _ _ (hS2.to (by walk_at "pick"))
  rw [sg_yes e2 hc] at hne hQ0 hQ1
  simp only [] at hne hQ0 hQ1
  obtain ⟨_, hlt2⟩ := hd_some e2
  walk_at "w"
  refine w_meth hS2 (.head _) (lk_rno (by decide)) ?_
  walk_at "w"
  refine ⟨_, a, dx, p, ts, j1 + 1, k, rfl, hS2, ok, hlt2, fun h => hne (by rw [h]), fun h i' k' H3 hS3 => ?_, fun t3 j3 h3 hj3 v3 H3 hS3 => ?_⟩
  · walk_at "w"
    exact hQ0 (by rw [h]) i' k' _ (hS3.to (by walk_at "pick"))
  rw [h3] at hQ1
  obtain ⟨q3, rfl⟩ := tr_ref hS3
  walk_at "w"
  rename_i q6 H6 hS6
  refine hQ1 (.op c t1 t3) j3 rfl hj3 _ _ (?_ : St K _ _)
  rw [Tr.d]
  exact hS6.to (by walk_at "pick")
end
end K02

/-! k02: sums, products, atoms -/
namespace K02
open PySem PySem.Spec PyProof.Rows L2 Lg Tok Xp PySem.NumText
local macro_rules | `(tactic| walk_at "ar") => `(tactic| first | omega | (simp; done) | (simp; omega) | (simp only [S_len]; omega) | (simp [Lg.repL_len]; done) | (simp [Lg.repL_len]; omega))
local macro_rules | `(tactic| walk_at "gt") => `(tactic| repeat (first | exact GetAt.here | apply GetAt.there))
local macro_rules | `(tactic| walk_at "st") => `(tactic| repeat (first | exact SetAt.here | apply SetAt.there))
local macro_rules | `(tactic| walk_at "mem") => `(tactic| first | assumption | exact List.mem_cons_self | (apply List.mem_cons_of_mem; walk_at "mem"))
local macro_rules | `(tactic| walk_at "put") => `(tactic| repeat (first | exact Put.here | apply Put.there))
local macro_rules | `(tactic| walk_at "rem") => `(tactic| repeat (first | exact Rem.here | apply Rem.there))
local macro_rules | `(tactic| walk_at "pick") => `(tactic| first | exact Pick.refl | exact Pick.cons (by walk_at "rem") (by walk_at "pick") | (apply Pick.drop; walk_at "pick") | exact Pick.nil)
local macro_rules | `(tactic| walk_at "is") => `(tactic| first | exact Is.int | exact Is.str | exact Is.bl | exact Is.non | assumption | exact Is.dat (by walk_at "mem") | (apply Is.cons; walk_at "is"))
local macro_rules | `(tactic| walk_at "isall") => `(tactic| first | exact IsAll.nil | exact IsAll.cons (by walk_at "is") (by walk_at "isall"))
local macro_rules | `(tactic| walk_at "lsin") => `(tactic| first | assumption | exact LsIn.own (by walk_at "mem") | exact LsIn.dat (by walk_at "mem") | (apply LsIn.cons; walk_at "lsin"))
local macro_rules | `(tactic| walk_at "see") => `(tactic| first | exact See.own (by walk_at "mem") | exact See.is (by walk_at "is"))
local macro_rules | `(tactic| walk_at "w1") => `(tactic| first
  | (with_reducible apply Lg.w_seq)
  | (with_reducible apply Lg.w_asg)
  | ((with_reducible show gName _ _ _ _ _); (with_reducible refine Lg.w_name (by walk_at "st") ?_))
  | ((with_reducible show tVar _ _ _ _); (with_reducible refine Lg.w_var (by walk_at "gt") ?_))
  | (with_reducible apply Lg.w_c)
  | (with_reducible apply Lg.w_op)
  | (with_reducible apply Lg.w_un)
  | (with_reducible apply Lg.w_nil)
  | (with_reducible apply Lg.w_cons)
  | (with_reducible apply Lg.w_call)
  | (with_reducible apply Lg.w_cb)
  | (with_reducible apply Lg.w_tup)
  | (with_reducible apply Lg.w_lst)
  | (with_reducible apply Lg.w_bm)
  | (with_reducible apply Lg.w_bm0)
  | (with_reducible apply Lg.w_sl)
  | (with_reducible apply Lg.w_nopart)
  | (with_reducible apply Lg.w_part)
  | (with_reducible apply Lg.w_isint)
  | (with_reducible apply Lg.w_test)
  | (with_reducible apply Lg.w_tB)
  | (with_reducible apply Lg.w_isbl')
  | (with_reducible apply Lg.w_not)
  | (with_reducible apply Lg.w_tru)
  | (with_reducible apply Lg.w_truI)
  | (with_reducible apply Lg.w_truB)
  | (with_reducible apply Lg.w_ifs)
  | (with_reducible apply Lg.w_next)
  | (with_reducible apply Lg.w_break)
  | (with_reducible apply Lg.w_cont)
  | (with_reducible apply Lg.w_ret)
  | (with_reducible apply Lg.w_retn)
  | (with_reducible apply Lg.w_drop)
  | (with_reducible apply Lg.w_sub)
  | (with_reducible apply Lg.w_gnil)
  | (with_reducible apply Lg.w_gcons)
  | (with_reducible apply Lg.w_ifT)
  | (with_reducible apply Lg.w_ifF)
  | (with_reducible apply Lg.w_add)
  | (with_reducible apply Lg.w_sub2)
  | ((with_reducible show rTimes (V.int _) (V.int _) _ _); (with_reducible refine Lg.w_mulR (by omega) ?_))
  | ((with_reducible show rTimes (V.int _) (V.int _) _ _); (with_reducible refine Lg.w_mulL (by omega) ?_))
  | ((with_reducible show rMod (V.int _) (V.int _) _ _); (with_reducible refine Lg.w_mod (by first | decide | omega) ?_))
  | ((with_reducible show rFdiv (V.int _) (V.int _) _ _); (with_reducible refine Lg.w_fdiv (by first | decide | omega) ?_))
  | (with_reducible apply Lg.w_band)
  | (with_reducible apply Lg.w_lt)
  | (with_reducible apply Lg.w_le)
  | (with_reducible apply Lg.w_gt)
  | (with_reducible apply Lg.w_ge)
  | (with_reducible apply Lg.w_eqI)
  | (with_reducible apply Lg.w_neI)
  | (with_reducible apply Lg.w_intI2)
  | (with_reducible apply Lg.w_neg)
  | (with_reducible apply Lg.w_inSS)
  | (with_reducible apply Lg.w_ninSS)
  | (with_reducible apply Lg.w_inSS')
  | (with_reducible apply Lg.w_neSS)
  | (with_reducible apply Lg.w_strS)
  | (with_reducible apply Lg.w_fldE)
  | (with_reducible apply Lg.w_sfldE)
  | (with_reducible apply Lg.w_makeE)
  | (with_reducible apply Lg.w_methE)
  | (with_reducible apply Lg.w_methSE)
  | (with_reducible apply Lg.w_callS)
  | (with_reducible apply Lg.w_raiseO)
  | (with_reducible apply Lg.w_raiseB)
  | (with_reducible apply Lg.w_try)
  | (with_reducible apply Lg.w_strS)
  | (with_reducible apply Lg.w_eqSS)
  | (with_reducible apply Lg.w_eqS)
  | (with_reducible apply Lg.w_neS)
  | (with_reducible apply Lg.w_isN)
  | (with_reducible apply Lg.w_isR)
  | (with_reducible apply Lg.w_isI)
  | (with_reducible apply Lg.w_isS)
  | (with_reducible apply Lg.w_nsN)
  | (with_reducible apply Lg.w_nsR)
  | (with_reducible apply Lg.w_nsI)
  | (with_reducible apply Lg.w_nsS)
  | (with_reducible apply Lg.w_int)
  | (with_reducible apply Lg.w_intb)
  | (with_reducible apply Lg.w_ord1)
  | (with_reducible apply Lg.w_tyS)
  | (with_reducible apply Lg.w_inSg)
  | (with_reducible apply Lg.w_ninSg)
  | ((with_reducible show NewL _ _ _); (with_reducible refine Lg.w_newL (by assumption) (by walk_at "isall") (by simp) ?_); (intro p' H' hS'))
  | ((with_reducible show NewT _ _ _); (with_reducible refine Lg.w_newT (by assumption) (by walk_at "isall") (by simp) ?_); (intro p' H' hS'))
  | ((with_reducible show TyThen _ _ (V.ref _) _ _); (with_reducible refine Lg.w_tyL (by assumption) (by walk_at "lsin") ?_))
  | ((with_reducible show rLenX _ [V.ref _] _ _); (with_reducible refine Lg.w_lenL (by assumption) (by walk_at "lsin") ?_))
  | ((with_reducible show rLenX _ [V.ref _] _ _); (with_reducible refine Lg.w_lenT (by assumption) (by walk_at "is") ?_))
  | ((with_reducible show spDraw _ _ _ _ _); (with_reducible refine Lg.w_draw (by assumption) (by walk_at "mem") (by first | decide | omega) ?_); (intro k' H' hk0' hk1' hS'))
  | ((with_reducible show rSlX _ (V.ref _) _ _ _ _); (with_reducible refine Lg.w_slL (by assumption) (by walk_at "lsin") ?_); (intro p' H' hS'))
  | ((with_reducible show rListOf _ [V.ref _] _ _); (with_reducible refine Lg.w_listL (by assumption) (by walk_at "lsin") ?_); (intro p' H' hS'))
  | (with_reducible apply Lg.w_for)
  | (with_reducible apply Lg.w_lc)
  | ((with_reducible show iAny _ (tVar _) _ _ _); (with_reducible refine Lg.w_anyVar (by walk_at "gt") ?_))
  | (with_reducible apply Lg.w_anyC)
  | (with_reducible apply Lg.w_vS)
  | (with_reducible apply Lg.w_itS)
  | ((with_reducible show AnyV _ (V.ref _) _ _); (with_reducible refine Lg.w_vL (by assumption) (by walk_at "lsin") ?_))
  | ((with_reducible show AnyL _ (V.ref _) _ _); (with_reducible refine Lg.w_itL (by assumption) (by walk_at "lsin") ?_))
  | ((with_reducible show AnyV _ (V.ref _) _ _); (with_reducible refine Lg.w_vT (by assumption) (by walk_at "is") ?_))
  | ((with_reducible show AnyT _ (V.ref _) _ _); (with_reducible refine Lg.w_itT (by assumption) (by walk_at "is") ?_))
  | ((with_reducible show Enu _ [V.ref _] _ _); (with_reducible refine Lg.w_itE (by assumption) (by walk_at "lsin") ?_))
  | ((with_reducible show rPlus _ (V.ref _) (V.ref _) _ _); (with_reducible refine Lg.w_plusL (by assumption) (by walk_at "lsin") (by walk_at "lsin") (by walk_at "ar") ?_); (intro p' H' hS'))
  | ((with_reducible show rTimes (V.ref _) (V.int _) _ _); (with_reducible refine Lg.w_repLs (by assumption) (by walk_at "lsin") (by walk_at "ar") (by walk_at "ar") (by walk_at "ar") ?_); (intro p' H' hS'))
  | ((with_reducible show rLenX _ [V.str (S _)] _ _); (with_reducible refine Lg.w_lenSS (by walk_at "ar") ?_))
  | ((with_reducible show rLenX _ [V.str _] _ _); (with_reducible refine Lg.w_lenS (by walk_at "ar") ?_))
  | ((with_reducible show rSlX _ (V.str _) _ _ _ _); (with_reducible refine Lg.w_slS (by walk_at "ar") ?_))
  | (with_reducible apply Lg.w_rng1)
  | (with_reducible apply Lg.w_rng2)
  | (with_reducible apply Lg.w_rng3)
  | (with_reducible apply Lg.w_enum)
  | ((with_reducible show Rng1 _ _ _); (with_reducible refine Lg.w_itR1 (by omega) ?_))
  | ((with_reducible show Rng2 _ _ _); (with_reducible refine Lg.w_itR2 (by omega) (by omega) ?_))
  | ((with_reducible show rIx _ (V.ref _) (V.int _) _ _); (with_reducible refine Lg.w_ixN (by assumption) (by walk_at "lsin") (by walk_at "ar") (by walk_at "ar") ?_))
  | ((with_reducible show rPlus _ (V.str (S _)) (V.str (S _)) _ _); (with_reducible refine Lg.w_addSS (by walk_at "ar") ?_))
  | ((with_reducible show rTimes (V.str (S _)) (V.int _) _ _); (with_reducible refine Lg.w_repSS (by walk_at "ar") (by walk_at "ar") (by walk_at "ar") ?_))
  | ((with_reducible show rIsi _ [V.ref _, V.ty "list"] _ _); (with_reducible refine Lg.w_isLL (by assumption) (by walk_at "lsin") ?_))
  | ((with_reducible show rIsi _ [V.ref _, V.ty "tuple"] _ _); (with_reducible refine Lg.w_isTT (by assumption) (by walk_at "is") ?_))
  | (with_reducible apply Lg.w_isII)
  | (with_reducible apply Lg.w_isSI)
  | (with_reducible apply Lg.w_isSS)
  | (with_reducible apply Lg.w_isIS)
  | (with_reducible apply Lg.w_ifexp)
  | (with_reducible apply Lg.w_chain)
  | ((with_reducible show ChainK _ _ _ _ _ _ _); (with_reducible refine Lg.w_chainLe (by (intro R' hR'; walk_at "w"; exact hR')) ?_))
  | ((with_reducible show ChainK _ _ _ _ _ _ _); (with_reducible refine Lg.w_chainLt (by (intro R' hR'; walk_at "w"; exact hR')) ?_))
  | ((with_reducible show tAnd _ _ _ _ _); (with_reducible refine Lg.w_andP (by (intro R' hR'; walk_at "w"; exact hR')) (by (intro hb' R' hR'; walk_at "w"; exact hR')) ?_))
  | ((with_reducible show tOr _ _ _ _ _); (with_reducible refine Lg.w_orP (by (intro R' hR'; walk_at "w"; exact hR')) (by (intro hb' R' hR'; walk_at "w"; exact hR')) ?_))
  | ((with_reducible show tAndV _ _ _ _ _); (with_reducible refine Lg.w_andVP (by (intro R' hR'; walk_at "w"; exact hR')) (by (intro hb' R' hR'; walk_at "w"; exact hR')) ?_))
  | ((with_reducible show tOrV _ _ _ _ _); (with_reducible refine Lg.w_orVP (by (intro R' hR'; walk_at "w"; exact hR')) (by (intro hb' R' hR'; walk_at "w"; exact hR')) ?_))
  | (with_reducible apply Lg.w_notV))
local macro_rules | `(tactic| walk_at "w") => `(tactic| repeat (walk_at "w1"))
local macro_rules | `(tactic| walk_at "k") => `(tactic| repeat (first | walk_at "w1" | ((with_reducible show (if _ = true then _ else _ : Prop)); (first | (refine Lg.w_bt (by first | rfl | decide | (simp; done) | fail) ?_) | (refine Lg.w_bf (by first | rfl | decide | (simp; done) | fail) ?_) | fail))))
local macro_rules | `(tactic| walk_at "z") => `(tactic| simp only [z_0, z_1, z_2, z_3, z_4, z_5, z_6, z_7, z_8, z_9, z_10, z_11, z_12, z_13, z_14, z_15, z_16, z_17, z_18, z_19, z_20, z_21, z_22, z_23, z_24, z_25, z_26, z_27, z_28, z_29, z_30, z_31, z_32, z_33, z_34, z_35, z_36, z_37, z_38, z_39, z_40, z_41, z_42, z_43, z_44, z_45, z_46, z_47, z_48, z_49, z_50, z_51, z_52, z_53, z_54, z_55, z_56, z_57, z_58, z_59, z_60, z_61, z_62, z_63, z_64, z_65, z_66, z_67, z_68, z_69, z_70, z_71, z_72, z_73, z_74, z_75, z_76, z_77])
section
variable {K : PySem.W.Frag}
/-! ### sums and products (shared) -/
def t_lp (K : PySem.W.Frag) (m : Str) (sp sps : Sp) (cs : List Nat) : TS :=
    (tSeq (tAsg (tMeth (He.ga K "Reader") m sp [] C8.E0 (tVar 0) tNil) (gName 1))
    (tSeq (tAsg (tIf (tTest (tOp rIsNo (tVar 1) (tC .non))) (tC .non) (tMeth (He.ga K "Reader") "_sign" sps [] C8.E0 (tVar 0) (tCons (tC (.str (S cs))) tNil))) (gName 2))
    (tSeq (tWhile (tTest (tOp rNotNo (tVar 2) (tC .non))) (tSeq (tAsg (tMeth (He.ga K "Reader") m sp [] C8.E0 (tVar 0) tNil) (gName 3))
    (tSeq (tIfS (tTest (tOp rIsNo (tVar 3) (tC .non))) (tRet (tC .non)) tNext)
    (tSeq (tAsg (tTup (tCons (tVar 2) (tCons (tVar 1) (tCons (tVar 3) tNil)))) (gName 1))
    (tAsg (tMeth (He.ga K "Reader") "_sign" sps [] C8.E0 (tVar 0) (tCons (tC (.str (S cs))) tNil)) (gName 2))))))
    (tRet (tVar 1)))))
def lpF (f : PF) (cs : List Nat) : PF := fun k r => bindR (f k r) fun l q => loop f cs k (q.length + 1) l q
theorem p_lp (cf : CF K) (f : PF) (m : Str) (cs : List Nat) (hm : (rfs 0 0 0).lookup m = none) (hcs : ∀ c ∈ cs, c ∈ sgns) (hcl : cs.length ≤ 10) (H : Hp) (Q : VK) (E : XK) (vs : List V) (h : spPF 0 (lpF f cs) K vs H Q E) : vs.length = 1 ∧
    t_lp K m (spPF 0 f K) (spRSign K) cs { nx := fun _ H' => Q .non H', rt := Q } (start ["self", "left", "sign", "right"] vs) H := by
  obtain ⟨L, a, dx, p, ts, i, k, rfl, hS, ok, hi, hne, hQ0, hQ1⟩ := h
  refine ⟨rfl, ?_⟩
  unfold t_lp
  show tSeq _ _ _ [some (.ref a), none, none, none] H
  unfold lpF at hne hQ0 hQ1
  generalize hG : (bindR (f k (ts.drop i)) fun l q => loop f cs k (q.length + 1) l q) = G at hne hQ0 hQ1
  walk_at "w"
  refine w_meth hS (.head _) (lk_rno hm) ?_
  walk_at "w"
  have rest : ∀ (m0 : Nat) (σ : L2.St) (H' : Hp),
      ((∃ v3 i' k', σ = [some (.ref a), some .non, some .non, v3] ∧ G = some none ∧ St K (RL K a dx p i' k' ts L) H') ∨
       (∃ v1 v3 l j, σ = [some (.ref a), some v1, some .non, v3] ∧ G = some (some (l, ts.drop j)) ∧ j ≤ ts.length ∧ St K (Lg.dat v1 l.d :: RL K a dx p (j : Nat) k ts L) H') ∨
       (∃ v1 v3 l j c, σ = [some (.ref a), some v1, some (.str (S [c])), v3] ∧ G = (bindR (f k (ts.drop j)) fun t2 q2 => loop f cs k m0 (.op c l t2) q2) ∧ j ≤ ts.length ∧ St K (Lg.dat v1 l.d :: RL K a dx p (j : Nat) k ts L) H')) →
      tSeq (tWhile (tTest (tOp rNotNo (tVar 2) (tC .non))) (tSeq (tAsg (tMeth (He.ga K "Reader") m (spPF 0 f K) [] C8.E0 (tVar 0) tNil) (gName 3))
        (tSeq (tIfS (tTest (tOp rIsNo (tVar 3) (tC .non))) (tRet (tC .non)) tNext)
        (tSeq (tAsg (tTup (tCons (tVar 2) (tCons (tVar 1) (tCons (tVar 3) tNil)))) (gName 1))
        (tAsg (tMeth (He.ga K "Reader") "_sign" (spRSign K) [] C8.E0 (tVar 0) (tCons (tC (.str (S cs))) tNil)) (gName 2))))))
        (tRet (tVar 1)) { nx := fun _ H' => Q .non H', rt := Q } σ H' := by
    intro m0 σ H' hP
    walk_at "w"
    refine w_whileN (fun m0 σ H' => (∃ v3 i' k', σ = [some (.ref a), some .non, some .non, v3] ∧ G = some none ∧ St K (RL K a dx p i' k' ts L) H') ∨
       (∃ v1 v3 l j, σ = [some (.ref a), some v1, some .non, v3] ∧ G = some (some (l, ts.drop j)) ∧ j ≤ ts.length ∧ St K (Lg.dat v1 l.d :: RL K a dx p (j : Nat) k ts L) H') ∨
       (∃ v1 v3 l j c, σ = [some (.ref a), some v1, some (.str (S [c])), v3] ∧ G = (bindR (f k (ts.drop j)) fun t2 q2 => loop f cs k m0 (.op c l t2) q2) ∧ j ≤ ts.length ∧ St K (Lg.dat v1 l.d :: RL K a dx p (j : Nat) k ts L) H')) m0 hP (fun m1 σ H1 hI => ?_)
    rcases hI with ⟨v3, i', k', rfl, e, hS1⟩ | ⟨v1, v3, l, j, rfl, e, hj, hS1⟩ | ⟨v1, v3, l, j, c, rfl, e, hj, hS1⟩
    · walk_at "w"
      refine w_wbn (fun h => by cases h) (fun _ => ?_)
      walk_at "w"
      exact hQ0 e i' k' _ hS1
    · walk_at "w"
      refine w_wbn (fun h => by cases h) (fun _ => ?_)
      walk_at "w"
      exact hQ1 l j e hj _ _ hS1
    · walk_at "w"
      refine w_wbn (fun _ => ?_) (fun h => by cases h)
      obtain ⟨q1, rfl⟩ := tr_ref hS1
      walk_at "w"
      refine w_meth hS1 (.tail _ (.head _)) (lk_rno hm) ?_
      walk_at "w"
      refine ⟨Lg.dat (.ref q1) l.d :: L, a, dx, p, ts, j, k, rfl, hS1.to (by walk_at "pick"), ok, hj, fun h => hne (by rw [e, h]; rfl), fun h i' k' H2 hS2 => ?_, fun t j2 h hj2 v2 H2 hS2 => ?_⟩
      · walk_at "w"
        exact hQ0 (by rw [e, h]; rfl) i' k' _ (hS2.to (by walk_at "pick"))
      rw [h] at e
      simp only [bindR] at e
      obtain ⟨q2, rfl⟩ := tr_ref hS2
      walk_at "w"
      rename_i q3 H3 hS3
      refine w_meth hS3 (by walk_at "mem") (lk_rno (by decide)) ?_
      walk_at "w"
      have hS4 : St K (RL K a dx p (j2 : Nat) k ts (Lg.dat (.ref q3) (Tr.op c l t).d :: L)) H3 := by
        have : (Tr.op c l t).d = .tuple [.str (S [c]), l.d, t.d] := by rw [Tr.d]
        rw [this]
        exact hS3.to (by walk_at "pick")
      obtain ⟨m2, rfl⟩ : ∃ m2, m1 = m2 + 1 := by
        cases m1 with
        | zero => exact absurd e hne
        | succ m2 => exact ⟨m2, rfl⟩
      rw [loop] at e
      refine ⟨_, a, dx, p, ts, j2, k, cs, rfl, hS4, ok, hj2, hcl, hcs, fun c2 e2 hc2 H5 hS5 => ?_, fun e2 H5 hS5 => ?_⟩
      · rw [sg_yes e2 hc2] at e
        walk_at "w"
        exact ⟨m2, Nat.lt_succ_self _, .inr (.inr ⟨_, _, .op c l t, j2 + 1, c2, rfl, e, (hd_some e2).2, hS5.to (by walk_at "pick")⟩)⟩
      · rw [sg_no e2] at e
        walk_at "w"
        exact ⟨m2, Nat.lt_succ_self _, .inr (.inl ⟨_, _, .op c l t, j2, rfl, e, hj2, hS5.to (by walk_at "pick")⟩)⟩
  refine ⟨L, a, dx, p, ts, i, k, rfl, hS, ok, hi, fun h => hne (by rw [← hG, h]; rfl), fun h i' k' H1 hS1 => ?_, fun t j h hj v1 H1 hS1 => ?_⟩
  · rw [h] at hG
    walk_at "w"
    exact rest 0 _ _ (.inl ⟨_, i', k', rfl, hG.symm, hS1⟩)
  · rw [h] at hG
    simp only [bindR] at hG
    rw [loop] at hG
    obtain ⟨q1, rfl⟩ := tr_ref hS1
    walk_at "w"
    refine w_meth hS1 (.tail _ (.head _)) (lk_rno (by decide)) ?_
    walk_at "w"
    refine ⟨Lg.dat (.ref q1) t.d :: L, a, dx, p, ts, j, k, cs, rfl, hS1.to (by walk_at "pick"), ok, hj, hcl, hcs, fun c e2 hc H2 hS2 => ?_, fun e2 H2 hS2 => ?_⟩
    · rw [sg_yes e2 hc] at hG
      walk_at "w"
      exact rest _ _ _ (.inr (.inr ⟨_, _, t, j + 1, c, rfl, hG.symm, (hd_some e2).2, hS2.to (by walk_at "pick")⟩))
    · rw [sg_no e2] at hG
      walk_at "w"
      exact rest 0 _ _ (.inr (.inl ⟨_, _, t, j, rfl, hG.symm, hj, hS2.to (by walk_at "pick")⟩))
theorem p_sum (cf : CF K) (z : Ps) (vs : List V) (H : Hp) (Q : VK) (E : XK) (h : spPF 0 (sumF z) K vs H Q E) : vs.length = 1 ∧ t_Reader_sum K (spRSign K) (spPF 0 z.prod K) { nx := fun _ H' => Q .non H', rt := Q } (start N_Reader_sum vs) H := by
  have := p_lp cf z.prod "_product" [43, 45] (by decide) (by decide) (by decide) H Q E vs h
  refine ⟨this.1, ?_⟩
  unfold t_Reader_sum
  walk_at "z"
  exact this.2
theorem p_product (cf : CF K) (z : Ps) (vs : List V) (H : Hp) (Q : VK) (E : XK) (h : spPF 0 (prodF z) K vs H Q E) : vs.length = 1 ∧ t_Reader_product K (spRSign K) (spPF 0 z.atom K) { nx := fun _ H' => Q .non H', rt := Q } (start N_Reader_product vs) H := by
  have := p_lp cf z.atom "_atom" [42] (by decide) (by decide) (by decide) H Q E vs h
  refine ⟨this.1, ?_⟩
  unfold t_Reader_product
  walk_at "z"
  exact this.2
theorem p_atom (cf : CF K) (z : Ps) (vs : List V) (H : Hp) (Q : VK) (E : XK) (h : spPF 0 (atomF z) K vs H Q E) : vs.length = 1 ∧ t_Reader_atom K (spIs K) (spRCall z.call K) (spRName K) (spPF 1 z.seq K) (spAtEnd K) { nx := fun _ H' => Q .non H', rt := Q } (start N_Reader_atom vs) H := by
  obtain ⟨L, a, dx, p, ts, i, k, rfl, hS, ok, hi, hne, hQ0, hQ1⟩ := h
  refine ⟨rfl, ?_⟩
  unfold t_Reader_atom
  walk_at "z"
  show tSeq _ _ _ [some (.ref a), none, none, none] H
  walk_at "w"
  refine w_meth hS (.head _) (lk_rno (by decide)) ?_
  walk_at "w"
  refine ⟨L, a, dx, p, ts, i, k, rfl, hS, ?_⟩
  by_cases e : i = ts.length
  · rw [decide_eq_true e]
    walk_at "w"
    refine hQ0 ?_ _ _ _ hS
    rw [hd_none (by subst e; simp)]
    rfl
  rw [decide_eq_false e]
  have hlt : i < ts.length := by omega
  have hti : ts[i]? = some ts[i] := List.getElem?_eq_getElem hlt
  have htk := ok.tk _ (List.getElem_mem hlt)
  generalize ts[i] = t at hti htk
  obtain ⟨ed, _⟩ := hd_some hti
  walk_at "w"
  refine w_fld hS (by walk_at "mem") cf.cls_Reader cf.na_Reader_tokens lk_rt ?_
  walk_at "w"
  refine w_fld hS (by walk_at "mem") cf.cls_Reader cf.na_Reader_at lk_ra ?_
  walk_at "w"
  refine w_ixL (k := i) (d := t.d) hS (by walk_at "lsin") rfl (by rw [List.getElem?_map, hti]; rfl) fun v hS1 => ?_
  have hS1' := hS1
  rw [t.d_eq] at hS1'
  obtain ⟨q, rfl⟩ := hS1'.tup_of
  refine w_unpT2 hS1' (.dat (.head _)) fun u1 u2 hS2 => ?_
  obtain rfl := hS2.str_of
  have hS3 : St K (Lg.dat u2 t.vd :: RL K a dx p i k ts L) H := hS2.to (by walk_at "pick")
  rw [ed] at hne hQ0 hQ1
  walk_at "w"
  cases t with
  | n x =>
    refine w_bt (by simp [Tk.kz]) ?_
    walk_at "w"
    refine w_fld hS3 (by walk_at "mem") cf.cls_Reader cf.na_Reader_at lk_ra ?_
    walk_at "w"
    refine w_sfld hS3 (.there .here) cf.cls_Reader cf.na_Reader_at (by show 3 < 1000; decide) fun H4 hS4 => ?_
    rw [put_ra] at hS4
    walk_at "w"
    rename_i q1 H5 hS5
    refine hQ1 (.num x) (i + 1) rfl (by omega) _ _ (?_ : St K _ _)
    rw [Tr.d]
    exact hS5.to (by walk_at "pick")
  | s x =>
    refine w_bt (by simp [Tk.kz]) ?_
    walk_at "w"
    refine w_fld hS3 (by walk_at "mem") cf.cls_Reader cf.na_Reader_at lk_ra ?_
    walk_at "w"
    refine w_sfld hS3 (.there .here) cf.cls_Reader cf.na_Reader_at (by show 3 < 1000; decide) fun H4 hS4 => ?_
    rw [put_ra] at hS4
    walk_at "w"
    rename_i q1 H5 hS5
    refine hQ1 (.str x) (i + 1) rfl (by omega) _ _ (?_ : St K _ _)
    rw [Tr.d]
    exact hS5.to (by walk_at "pick")
  | g c =>
    have hS4 : St K (Lg.dat u2 (.str (S [c])) :: RL K a dx p i k ts L) H := hS3
    obtain rfl := hS4.str_of
    have hS5 : St K (RL K a dx p i k ts L) H := hS4.to (by walk_at "pick")
    refine w_bf (by simp [Tk.kz]) ?_
    walk_at "w"
    refine w_bt (by simp [Tk.kz]) ?_
    walk_at "w"
    by_cases e40 : c = 40
    · subst e40
      refine w_bt (by simp [Tk.kz]) ?_
      walk_at "w"
      refine w_meth hS5 (.head _) (lk_rno (by decide)) ?_
      walk_at "w"
      refine ⟨L, a, dx, p, ts, i, k, rfl, hS5, ok, by omega, ?_, ?_, ?_⟩
      · rw [ed]; exact hne
      · rw [ed]; exact hQ0
      · rw [ed]; exact hQ1
    · refine w_bf (by simpa using e40) ?_
      walk_at "w"
      refine hQ0 ?_ _ _ _ hS5
      simp [atomF, e40]
  | w y =>
    have hS5 : St K (RL K a dx p i k ts L) H := hS3.to (by walk_at "pick")
    refine w_bf (by simp [Tk.kz]) ?_
    walk_at "w"
    refine w_bf (by simp [Tk.kz]) ?_
    walk_at "w"
    refine w_meth hS5 (.head _) (lk_rno (by decide)) ?_
    walk_at "w"
    refine ⟨L, a, dx, p, ts, i, k, rfl, hS5, ok, hi, fun z' hz hn H4 hS4 => ?_, fun hno H4 hS4 => ?_⟩
    · rw [hti] at hz
      cases hz
      walk_at "w"
      refine w_meth hS4 (.head _) (lk_rno (by decide)) ?_
      walk_at "w"
      refine ⟨L, a, dx, p, ts, i + 1, k, .g 40, rfl, hS4, ok, by omega, ok_g (by decide), .inr rfl, fun H6 hS6 => ?_⟩
      by_cases e40 : ts[i + 1]? = some (.g 40)
      · rw [decide_eq_true e40]
        obtain ⟨ed2, hlt2⟩ := hd_some e40
        have ef : atomF z k (.w y :: ts.drop (i + 1)) = z.call y k (ts.drop (i + 1)) := by
          rw [ed2]
          simp only [atomF, hn, if_true]
        rw [ef] at hne hQ0 hQ1
        walk_at "w"
        refine w_meth hS6 (.head _) (lk_rno (by decide)) ?_
        walk_at "w"
        exact ⟨L, a, dx, p, ts, i + 1, k, y, rfl, hS6, ok, hlt2, hne, hQ0, hQ1⟩
      · rw [decide_eq_false e40]
        have ef : atomF z k (.w y :: ts.drop (i + 1)) = some (some (.nam y, ts.drop (i + 1))) := by
          simp only [atomF, hn, if_true]
          split
          · rename_i h
            exact absurd (hd_of h) e40
          · rfl
        walk_at "w"
        rename_i q1 H7 hS7
        refine hQ1 (.nam y) (i + 1) ef (by omega) _ _ (?_ : St K _ _)
        rw [Tr.d]
        exact hS7.to (by walk_at "pick")
    · have hn := hno y hti
      walk_at "w"
      refine hQ0 ?_ _ _ _ hS4
      simp [atomF, hn]
/-- expressions between parentheses -/
theorem p_parts (cf : CF K) (z : Ps) (vs : List V) (H : Hp) (Q : VK) (E : XK) (h : spRParts (partsF z) K vs H Q E) : vs.length = 2 ∧ t_Reader_parts K (spSkips K) (spPF 0 z.whole K) { nx := fun _ H' => Q .non H', rt := Q } (start N_Reader_parts vs) H := by
  obtain ⟨L, a, dx, p, ts, i, k, s, rfl, hs, hS, ok, hi, hne, hQ0, hQ1⟩ := h
  refine ⟨rfl, ?_⟩
  unfold t_Reader_parts
  walk_at "z"
  show tSeq _ _ _ [some (.ref a), some (.str (S [s])), none, none, none] H
  walk_at "w"
  refine w_fld hS (by walk_at "mem") cf.cls_Reader cf.na_Reader_at lk_ra ?_
  walk_at "w"
  refine w_sfld hS .here cf.cls_Reader cf.na_Reader_at (by show 3 < 1000; decide) fun H1 hS1 => ?_
  rw [put_ra] at hS1
  walk_at "w"
  refine w_fld hS1 (by walk_at "mem") cf.cls_Reader cf.na_Reader_nested lk_rn ?_
  walk_at "w"
  refine w_sfld hS1 .here cf.cls_Reader cf.na_Reader_nested (by show 3 < 1000; decide) fun H2 hS2 => ?_
  rw [put_rn] at hS2
  walk_at "w"
  rename_i b H3 hS3
  refine w_fld hS3 (by walk_at "mem") cf.cls_Reader cf.na_Reader_nested lk_rn ?_
  walk_at "w"
  have hsg : s ∈ sgns := by rcases hs with rfl | rfl <;> decide
  unfold partsF at hne hQ0 hQ1
  by_cases e10 : 10 < k + 1
  · rw [if_pos e10] at hQ0
    refine w_bt (decide_eq_true (by omega)) ?_
    walk_at "w"
    exact hQ0 rfl _ _ _ (hS3.to (by walk_at "pick"))
  rw [if_neg e10] at hne hQ0 hQ1
  refine w_bf (decide_eq_false (by omega)) ?_
  walk_at "w"
  have htl : (ts.drop i).tail = ts.drop (i + 1) := List.tail_drop
  have hd41 : (ts.drop i).tail.head? = ts[i + 1]? := by rw [htl, List.head?_drop]
  rw [hd41] at hne hQ0 hQ1
  simp only [htl] at hne hQ0 hQ1
  have hS4 : St K (RL K a dx p (i + 1 : Nat) (k + 1 : Nat) ts (Lg.ls K b [] :: L)) H3 := hS3.to (by walk_at "pick")
  have main : ∀ H', St K (RL K a dx p (i + 1 : Nat) (k + 1 : Nat) ts (Lg.ls K b [] :: L)) H' → ¬ (s = 44 ∧ ts[i + 1]? = some (.g 41)) → tSeq (tAsg (tC (.bl true)) (gName 3))
    (tSeq (tWhile (tTruX K (tVar 3)) (tSeq (tAsg (tMeth (He.ga K "Reader") "whole" (spPF 0 z.whole K) [] C8.E0 (tVar 0) tNil) (gName 4))
    (tSeq (tIfS (tTest (tOp rIsNo (tVar 4) (tC .non))) (tRet (tC .non)) tNext)
    (tSeq (tDrop (tBM K "list" rAppend (tVar 2) (tCons (tVar 4) tNil)))
    (tAsg (tMeth (He.ga K "Reader") "_skips" (spSkips K) [] C8.E0 (tVar 0) (tCons (tC (.str (S [115, 105, 103, 110]))) (tCons (tVar 1) tNil))) (gName 3))))))
    (tSeq (sFld K (tVar 0) (tOp rMinus (tFld K (tVar 0) "_nested") (tC (.int 1))) "_nested")
    (tRet (tIf (tTruX K (tMeth (He.ga K "Reader") "_skips" (spSkips K) [] C8.E0 (tVar 0) (tCons (tC (.str (S [115, 105, 103, 110]))) (tCons (tC (.str (S [41]))) tNil)))) (tVar 2) (tC .non)))))
    { nx := fun _ H' => Q .non H', rt := Q } [some (.ref a), some (.str (S [s])), some (.ref b), none, none] H' := by
    intro H' hS5 hno
    rw [if_neg hno] at hne hQ0 hQ1
    generalize hG : partsL z.whole s (k + 1) ((ts.drop i).length + 1) [] (ts.drop (i + 1)) = G at hne hQ0 hQ1
    walk_at "w"
    refine w_whileN (fun m0 σ H' => ∃ v4 us j, us.length + m0 ≤ (ts.drop i).length + 1 ∧ j ≤ ts.length ∧ St K (RL K a dx p (j : Nat) (k + 1 : Nat) ts (Lg.ls K b (us.map Tr.d) :: L)) H' ∧
      ((σ = [some (.ref a), some (.str (S [s])), some (.ref b), some (.bl true), v4] ∧ partsL z.whole s (k + 1) m0 us (ts.drop j) = G) ∨
       (σ = [some (.ref a), some (.str (S [s])), some (.ref b), some (.bl false), v4] ∧ us ≠ [] ∧ G = (match ts.drop j with | .g c :: q3 => if c = 41 then some (some (us, q3)) else some none | _ => some none)))) ((ts.drop i).length + 1) ⟨_, [], i + 1, by simp, hi, hS5, .inl ⟨rfl, hG⟩⟩ (fun m1 σ H6 hI => ?_)
    obtain ⟨v4, us, j, hm, hj, hS6, ⟨rfl, e⟩ | ⟨rfl, hus, e⟩⟩ := hI
    · walk_at "w"
      refine w_wbn (fun _ => ?_) (fun h => by cases h)
      walk_at "w"
      refine w_meth hS6 (.head _) (lk_rno (by decide)) ?_
      walk_at "w"
      obtain ⟨m2, rfl⟩ : ∃ m2, m1 = m2 + 1 := by
        cases m1 with
        | zero => rw [partsL] at e; exact absurd e.symm hne
        | succ m2 => exact ⟨m2, rfl⟩
      rw [partsL] at e
      refine ⟨_, a, dx, p, ts, j, k + 1, rfl, hS6, ok, hj, fun h => hne (by rw [← e, h]; rfl), fun h i' k' H7 hS7 => ?_, fun t j2 h hj2 v2 H7 hS7 => ?_⟩
      · walk_at "w"
        exact hQ0 (by rw [← e, h]; rfl) _ _ _ (hS7.to (by walk_at "pick"))
      · rw [h] at e
        simp only [bindR] at e
        obtain ⟨q1, rfl⟩ := tr_ref hS7
        walk_at "w"
        refine w_app hS7 (by walk_at "put") (.dat (.head _)) (by rw [List.length_map, List.length_drop] at *; have := ok.n; omega) fun H8 hS8 => ?_
        have hS9 : St K (RL K a dx p (j2 : Nat) (k + 1 : Nat) ts (Lg.ls K b ((us ++ [t]).map Tr.d) :: L)) H8 := by
          rw [List.map_append]
          exact hS8.to (by walk_at "pick")
        have hm2 : (us ++ [t]).length + m2 ≤ (ts.drop i).length + 1 := by simp at hm ⊢; omega
        walk_at "w"
        refine w_meth hS9 (.head _) (lk_rno (by decide)) ?_
        walk_at "w"
        refine ⟨_, a, dx, p, ts, j2, k + 1, .g s, rfl, hS9, ok, hj2, ok_g hsg, .inr rfl, fun e2 H9 hSa => ?_, fun e2 H9 hSa => ?_⟩
        · obtain ⟨ed2, hlt2⟩ := hd_some e2
          rw [ed2] at e
          simp only [if_true] at e
          walk_at "w"
          exact ⟨m2, Nat.lt_succ_self _, _, us ++ [t], j2 + 1, hm2, hlt2, hSa, .inl ⟨rfl, e⟩⟩
        · walk_at "w"
          refine ⟨m2, Nat.lt_succ_self _, _, us ++ [t], j2, hm2, hj2, hSa, .inr ⟨rfl, by simp, ?_⟩⟩
          rw [← e]
          cases hdd : ts.drop j2 with
          | nil => rfl
          | cons x q3 =>
            cases x with
            | g c =>
              have hcs : c ≠ s := fun e3 => e2 (by rw [hd_of hdd, e3])
              dsimp only
              rw [if_neg hcs]
            | w _ => rfl
            | n _ => rfl
            | s _ => rfl
    · walk_at "w"
      refine w_wbn (fun h => by cases h) (fun _ => ?_)
      walk_at "w"
      refine w_fld hS6 (by walk_at "mem") cf.cls_Reader cf.na_Reader_nested lk_rn ?_
      walk_at "w"
      refine w_sfld hS6 .here cf.cls_Reader cf.na_Reader_nested (by show 3 < 1000; decide) fun H7 hS7 => ?_
      rw [put_rn, show ((k + 1 : Nat) : Int) - 1 = (k : Nat) by omega] at hS7
      walk_at "w"
      refine w_meth hS7 (.head _) (lk_rno (by decide)) ?_
      walk_at "w"
      refine ⟨_, a, dx, p, ts, j, k, .g 41, rfl, hS7, ok, hj, ok_g (by decide), .inr rfl, fun e2 H8 hS8 => ?_, fun e2 H8 hS8 => ?_⟩
      · obtain ⟨ed2, hlt2⟩ := hd_some e2
        rw [ed2] at e
        simp only [if_true] at e
        walk_at "w"
        refine hQ1 us (j + 1) e hlt2 (by rw [List.length_drop] at hm; omega) (fun _ => hus) b _ (hS8.to (by walk_at "pick"))
      · walk_at "w"
        refine hQ0 ?_ _ _ _ (hS8.to (by walk_at "pick"))
        rw [e]
        split
        · rename_i c q3 h
          have : c ≠ 41 := fun e3 => e2 (by rw [hd_of h, e3])
          rw [if_neg this]
        · rfl
  refine w_and ?_
  walk_at "w"
  by_cases e44 : s = 44
  · subst e44
    refine w_bt (by decide) ?_
    walk_at "w"
    refine w_meth hS4 (.head _) (lk_rno (by decide)) ?_
    walk_at "w"
    refine ⟨_, a, dx, p, ts, i + 1, k + 1, .g 41, rfl, hS4, ok, hi, ok_g (by decide), .inr rfl, fun e2 H5 hS5 => ?_, fun e2 H5 hS5 => ?_⟩
    · obtain ⟨ed2, hlt2⟩ := hd_some e2
      rw [if_pos ⟨rfl, e2⟩] at hQ1
      walk_at "w"
      refine w_fld hS5 (by walk_at "mem") cf.cls_Reader cf.na_Reader_nested lk_rn ?_
      walk_at "w"
      refine w_sfld hS5 .here cf.cls_Reader cf.na_Reader_nested (by show 3 < 1000; decide) fun H7 hS7 => ?_
      rw [put_rn, show ((k + 1 : Nat) : Int) - 1 = (k : Nat) by omega] at hS7
      walk_at "w"
      refine hQ1 [] (i + 1 + 1) (by rw [List.tail_drop]) hlt2 (by simp) (fun h => by cases h) b _ (hS7.to (by walk_at "pick"))
    · walk_at "w"
      exact main _ hS5 (fun h => e2 h.2)
  · refine w_bf (by simpa using e44) ?_
    walk_at "w"
    exact main _ hS4 (fun h => e44 h.1)
/-- a call -/
theorem p_rcall (cf : CF K) (z : Ps) (vs : List V) (H : Hp) (Q : VK) (E : XK) (h : spRCall (callF z) K vs H Q E) : vs.length = 2 ∧ t_Reader_call K (spRParts z.parts K) { nx := fun _ H' => Q .non H', rt := Q } (start N_Reader_call vs) H := by
  obtain ⟨L, a, dx, p, ts, i, k, y, rfl, hS, ok, hi, hne, hQ0, hQ1⟩ := h
  refine ⟨rfl, ?_⟩
  unfold t_Reader_call
  walk_at "z"
  show tSeq _ _ _ [some (.ref a), some (.str (S y)), none] H
  unfold callF at hne hQ0 hQ1
  walk_at "w"
  refine w_meth hS (.head _) (lk_rno (by decide)) ?_
  walk_at "w"
  refine ⟨L, a, dx, p, ts, i, k, 44, rfl, .inl rfl, hS, ok, hi, fun h => hne (by rw [h]; rfl), fun h i' k' H1 hS1 => ?_, fun us j h hj hn _ b H1 hS1 => ?_⟩
  · walk_at "w"
    exact hQ0 (by rw [h]; rfl) _ _ _ hS1
  · walk_at "w"
    refine w_tupL hS1 (by walk_at "lsin") fun q H2 hS2 => ?_
    walk_at "w"
    rename_i q3 H3 hS3
    refine hQ1 (.call y us) j (by rw [h]; rfl) hj _ _ (?_ : St K _ _)
    rw [Tr.d, ds_eq]
    exact hS3.to (by walk_at "pick")
/-- a sequence -/
theorem seqT_snoc (us : List Tr) (t : Tr) : seqT (us ++ [t]) = us.foldr .thn t := by
  unfold seqT
  simp
theorem p_sequence (cf : CF K) (z : Ps) (vs : List V) (H : Hp) (Q : VK) (E : XK) (h : spPF 1 (seqF z) K vs H Q E) : vs.length = 1 ∧ t_Reader_sequence K (spRParts z.parts K) { nx := fun _ H' => Q .non H', rt := Q } (start N_Reader_sequence vs) H := by
  obtain ⟨L, a, dx, p, ts, i, k, rfl, hS, ok, hi, hne, hQ0, hQ1⟩ := h
  refine ⟨rfl, ?_⟩
  unfold t_Reader_sequence
  walk_at "z"
  show tSeq _ _ _ [some (.ref a), none, none, none] H
  unfold seqF at hne hQ0 hQ1
  walk_at "w"
  refine w_meth hS (.head _) (lk_rno (by decide)) ?_
  walk_at "w"
  refine ⟨L, a, dx, p, ts, i, k, 59, rfl, .inr rfl, hS, ok, hi, fun h => hne (by rw [h]; rfl), fun h i' k' H1 hS1 => ?_, fun us j h hj hn hus b H1 hS1 => ?_⟩
  · walk_at "w"
    exact hQ0 (by rw [h]; rfl) _ _ _ hS1
  · obtain ⟨us, t, rfl⟩ : ∃ ws t, us = ws ++ [t] := ⟨us.dropLast, us.getLast (hus rfl), (List.dropLast_concat_getLast (hus rfl)).symm⟩
    rw [List.map_append] at hS1
    walk_at "w"
    refine w_ixM1 hS1 (ds := us.map Tr.d) (d := t.d) (by walk_at "lsin") rfl fun v hS2 => ?_
    walk_at "w"
    refine w_anyL1 ?_
    refine w_rev2 ?_
    walk_at "w"
    refine w_rev2L (Q := fun x H' => AnyL K x H' _) hS2 (by walk_at "lsin") fun q H3 hS3 => ?_
    walk_at "w"
    have hrev : (us.map Tr.d ++ [t].map Tr.d).dropLast.reverse = us.reverse.map Tr.d := by
      rw [List.map_cons, List.map_nil, List.dropLast_concat, List.map_reverse]
    rw [hrev] at hS3
    refine w_forL (ds := us.reverse.map Tr.d) (fun n σ H' => ∃ v3 vt, σ = [some (.ref a), some (.ref b), some vt, v3] ∧ St K (Lg.dat vt ((us.reverse.take n).foldl (fun acc u => Tr.thn u acc) t).d :: Lg.ls K q (us.reverse.map Tr.d) :: RL K a dx p j k ts L) H')
      ⟨_, _, rfl, hS3.to (by walk_at "pick")⟩ (fun n σ H' _ hI => ?_) (fun n d v' σ H' hd hI hlrn => ?_) (fun σ H' hI => ?_)
    · obtain ⟨v3, vt, _, hS4⟩ := hI
      exact ⟨_, hS4, by walk_at "lsin"⟩
    · obtain ⟨v3, vt, rfl, hS4⟩ := hI
      obtain ⟨u, hu, rfl⟩ := map_at hd
      have hS5 := hlrn _ hS4 (by walk_at "lsin")
      clear hlrn
      walk_at "w"
      rename_i q5 H5 hS6
      refine ⟨_, _, rfl, ?_⟩
      have e : (us.reverse.take (n + 1)).foldl (fun acc u => Tr.thn u acc) t = Tr.thn u ((us.reverse.take n).foldl (fun acc u => Tr.thn u acc) t) := by
        rw [List.take_add_one, hu, List.foldl_append]
        rfl
      rw [e, Tr.d]
      exact hS6.to (by walk_at "pick")
    · obtain ⟨v3, vt, rfl, hS4⟩ := hI
      walk_at "w"
      rw [List.length_map, List.take_length, List.foldl_reverse] at hS4
      refine hQ1 (seqT (us ++ [t])) j (by rw [h]; rfl) hj _ _ (?_ : St K _ _)
      rw [seqT_snoc]
      exact hS4.to (by walk_at "pick")
end
end K02

/-! k02: heights, parse -/
namespace K02
open PySem PySem.Spec PyProof.Rows L2 Lg Tok Xp PySem.NumText
local macro_rules | `(tactic| walk_at "ar") => `(tactic| first | omega | (simp; done) | (simp; omega) | (simp only [S_len]; omega) | (simp [Lg.repL_len]; done) | (simp [Lg.repL_len]; omega))
local macro_rules | `(tactic| walk_at "gt") => `(tactic| repeat (first | exact GetAt.here | apply GetAt.there))
local macro_rules | `(tactic| walk_at "st") => `(tactic| repeat (first | exact SetAt.here | apply SetAt.there))
local macro_rules | `(tactic| walk_at "mem") => `(tactic| first | assumption | exact List.mem_cons_self | (apply List.mem_cons_of_mem; walk_at "mem"))
local macro_rules | `(tactic| walk_at "put") => `(tactic| repeat (first | exact Put.here | apply Put.there))
local macro_rules | `(tactic| walk_at "rem") => `(tactic| repeat (first | exact Rem.here | apply Rem.there))
local macro_rules | `(tactic| walk_at "pick") => `(tactic| first | exact Pick.refl | exact Pick.cons (by walk_at "rem") (by walk_at "pick") | (apply Pick.drop; walk_at "pick") | exact Pick.nil)
local macro_rules | `(tactic| walk_at "is") => `(tactic| first | exact Is.int | exact Is.str | exact Is.bl | exact Is.non | assumption | exact Is.dat (by walk_at "mem") | (apply Is.cons; walk_at "is"))
local macro_rules | `(tactic| walk_at "isall") => `(tactic| first | exact IsAll.nil | exact IsAll.cons (by walk_at "is") (by walk_at "isall"))
local macro_rules | `(tactic| walk_at "lsin") => `(tactic| first | assumption | exact LsIn.own (by walk_at "mem") | exact LsIn.dat (by walk_at "mem") | (apply LsIn.cons; walk_at "lsin"))
local macro_rules | `(tactic| walk_at "see") => `(tactic| first | exact See.own (by walk_at "mem") | exact See.is (by walk_at "is"))
local macro_rules | `(tactic| walk_at "w1") => `(tactic| first
  | (with_reducible apply Lg.w_seq)
  | (with_reducible apply Lg.w_asg)
  | ((with_reducible show gName _ _ _ _ _); (with_reducible refine Lg.w_name (by walk_at "st") ?_))
  | ((with_reducible show tVar _ _ _ _); (with_reducible refine Lg.w_var (by walk_at "gt") ?_))
  | (with_reducible apply Lg.w_c)
  | (with_reducible apply Lg.w_op)
  | (with_reducible apply Lg.w_un)
  | (with_reducible apply Lg.w_nil)
  | (with_reducible apply Lg.w_cons)
  | (with_reducible apply Lg.w_call)
  | (with_reducible apply Lg.w_cb)
  | (with_reducible apply Lg.w_tup)
  | (with_reducible apply Lg.w_lst)
  | (with_reducible apply Lg.w_bm)
  | (with_reducible apply Lg.w_bm0)
  | (with_reducible apply Lg.w_sl)
  | (with_reducible apply Lg.w_nopart)
  | (with_reducible apply Lg.w_part)
  | (with_reducible apply Lg.w_isint)
  | (with_reducible apply Lg.w_test)
  | (with_reducible apply Lg.w_tB)
  | (with_reducible apply Lg.w_isbl')
  | (with_reducible apply Lg.w_not)
  | (with_reducible apply Lg.w_tru)
  | (with_reducible apply Lg.w_truI)
  | (with_reducible apply Lg.w_truB)
  | (with_reducible apply Lg.w_ifs)
  | (with_reducible apply Lg.w_next)
  | (with_reducible apply Lg.w_break)
  | (with_reducible apply Lg.w_cont)
  | (with_reducible apply Lg.w_ret)
  | (with_reducible apply Lg.w_retn)
  | (with_reducible apply Lg.w_drop)
  | (with_reducible apply Lg.w_sub)
  | (with_reducible apply Lg.w_gnil)
  | (with_reducible apply Lg.w_gcons)
  | (with_reducible apply Lg.w_ifT)
  | (with_reducible apply Lg.w_ifF)
  | (with_reducible apply Lg.w_add)
  | (with_reducible apply Lg.w_sub2)
  | ((with_reducible show rTimes (V.int _) (V.int _) _ _); (with_reducible refine Lg.w_mulR (by omega) ?_))
  | ((with_reducible show rTimes (V.int _) (V.int _) _ _); (with_reducible refine Lg.w_mulL (by omega) ?_))
  | ((with_reducible show rMod (V.int _) (V.int _) _ _); (with_reducible refine Lg.w_mod (by first | decide | omega) ?_))
  | ((with_reducible show rFdiv (V.int _) (V.int _) _ _); (with_reducible refine Lg.w_fdiv (by first | decide | omega) ?_))
  | (with_reducible apply Lg.w_band)
  | (with_reducible apply Lg.w_lt)
  | (with_reducible apply Lg.w_le)
  | (with_reducible apply Lg.w_gt)
  | (with_reducible apply Lg.w_ge)
  | (with_reducible apply Lg.w_eqI)
  | (with_reducible apply Lg.w_neI)
  | (with_reducible apply Lg.w_intI2)
  | (with_reducible apply Lg.w_neg)
  | (with_reducible apply Lg.w_inSS)
  | (with_reducible apply Lg.w_ninSS)
  | (with_reducible apply Lg.w_inSS')
  | (with_reducible apply Lg.w_neSS)
  | (with_reducible apply Lg.w_strS)
  | (with_reducible apply Lg.w_fldE)
  | (with_reducible apply Lg.w_sfldE)
  | (with_reducible apply Lg.w_makeE)
  | (with_reducible apply Lg.w_methE)
  | (with_reducible apply Lg.w_methSE)
  | (with_reducible apply Lg.w_callS)
  | (with_reducible apply Lg.w_raiseO)
  | (with_reducible apply Lg.w_raiseB)
  | (with_reducible apply Lg.w_try)
  | (with_reducible apply Lg.w_strS)
  | (with_reducible apply Lg.w_eqSS)
  | (with_reducible apply Lg.w_eqS)
  | (with_reducible apply Lg.w_neS)
  | (with_reducible apply Lg.w_isN)
  | (with_reducible apply Lg.w_isR)
  | (with_reducible apply Lg.w_isI)
  | (with_reducible apply Lg.w_isS)
  | (with_reducible apply Lg.w_nsN)
  | (with_reducible apply Lg.w_nsR)
  | (with_reducible apply Lg.w_nsI)
  | (with_reducible apply Lg.w_nsS)
  | (with_reducible apply Lg.w_int)
  | (with_reducible apply Lg.w_intb)
  | (with_reducible apply Lg.w_ord1)
  | (with_reducible apply Lg.w_tyS)
  | (with_reducible apply Lg.w_inSg)
  | (with_reducible apply Lg.w_ninSg)
  | ((with_reducible show NewL _ _ _); (with_reducible refine Lg.w_newL (by assumption) (by walk_at "isall") (by simp) ?_); (intro p' H' hS'))
  | ((with_reducible show NewT _ _ _); (with_reducible refine Lg.w_newT (by assumption) (by walk_at "isall") (by simp) ?_); (intro p' H' hS'))
  | ((with_reducible show TyThen _ _ (V.ref _) _ _); (with_reducible refine Lg.w_tyL (by assumption) (by walk_at "lsin") ?_))
  | ((with_reducible show rLenX _ [V.ref _] _ _); (with_reducible refine Lg.w_lenL (by assumption) (by walk_at "lsin") ?_))
  | ((with_reducible show rLenX _ [V.ref _] _ _); (with_reducible refine Lg.w_lenT (by assumption) (by walk_at "is") ?_))
  | ((with_reducible show spDraw _ _ _ _ _); (with_reducible refine Lg.w_draw (by assumption) (by walk_at "mem") (by first | decide | omega) ?_); (intro k' H' hk0' hk1' hS'))
  | ((with_reducible show rSlX _ (V.ref _) _ _ _ _); (with_reducible refine Lg.w_slL (by assumption) (by walk_at "lsin") ?_); (intro p' H' hS'))
  | ((with_reducible show rListOf _ [V.ref _] _ _); (with_reducible refine Lg.w_listL (by assumption) (by walk_at "lsin") ?_); (intro p' H' hS'))
  | (with_reducible apply Lg.w_for)
  | (with_reducible apply Lg.w_lc)
  | ((with_reducible show iAny _ (tVar _) _ _ _); (with_reducible refine Lg.w_anyVar (by walk_at "gt") ?_))
  | (with_reducible apply Lg.w_anyC)
  | (with_reducible apply Lg.w_vS)
  | (with_reducible apply Lg.w_itS)
  | ((with_reducible show AnyV _ (V.ref _) _ _); (with_reducible refine Lg.w_vL (by assumption) (by walk_at "lsin") ?_))
  | ((with_reducible show AnyL _ (V.ref _) _ _); (with_reducible refine Lg.w_itL (by assumption) (by walk_at "lsin") ?_))
  | ((with_reducible show AnyV _ (V.ref _) _ _); (with_reducible refine Lg.w_vT (by assumption) (by walk_at "is") ?_))
  | ((with_reducible show AnyT _ (V.ref _) _ _); (with_reducible refine Lg.w_itT (by assumption) (by walk_at "is") ?_))
  | ((with_reducible show Enu _ [V.ref _] _ _); (with_reducible refine Lg.w_itE (by assumption) (by walk_at "lsin") ?_))
  | ((with_reducible show rPlus _ (V.ref _) (V.ref _) _ _); (with_reducible refine Lg.w_plusL (by assumption) (by walk_at "lsin") (by walk_at "lsin") (by walk_at "ar") ?_); (intro p' H' hS'))
  | ((with_reducible show rTimes (V.ref _) (V.int _) _ _); (with_reducible refine Lg.w_repLs (by assumption) (by walk_at "lsin") (by walk_at "ar") (by walk_at "ar") (by walk_at "ar") ?_); (intro p' H' hS'))
  | ((with_reducible show rLenX _ [V.str (S _)] _ _); (with_reducible refine Lg.w_lenSS (by walk_at "ar") ?_))
  | ((with_reducible show rLenX _ [V.str _] _ _); (with_reducible refine Lg.w_lenS (by walk_at "ar") ?_))
  | ((with_reducible show rSlX _ (V.str _) _ _ _ _); (with_reducible refine Lg.w_slS (by walk_at "ar") ?_))
  | (with_reducible apply Lg.w_rng1)
  | (with_reducible apply Lg.w_rng2)
  | (with_reducible apply Lg.w_rng3)
  | (with_reducible apply Lg.w_enum)
  | ((with_reducible show Rng1 _ _ _); (with_reducible refine Lg.w_itR1 (by omega) ?_))
  | ((with_reducible show Rng2 _ _ _); (with_reducible refine Lg.w_itR2 (by omega) (by omega) ?_))
  | ((with_reducible show rIx _ (V.ref _) (V.int _) _ _); (with_reducible refine Lg.w_ixN (by assumption) (by walk_at "lsin") (by walk_at "ar") (by walk_at "ar") ?_))
  | ((with_reducible show rPlus _ (V.str (S _)) (V.str (S _)) _ _); (with_reducible refine Lg.w_addSS (by walk_at "ar") ?_))
  | ((with_reducible show rTimes (V.str (S _)) (V.int _) _ _); (with_reducible refine Lg.w_repSS (by walk_at "ar") (by walk_at "ar") (by walk_at "ar") ?_))
  | ((with_reducible show rIsi _ [V.ref _, V.ty "list"] _ _); (with_reducible refine Lg.w_isLL (by assumption) (by walk_at "lsin") ?_))
  | ((with_reducible show rIsi _ [V.ref _, V.ty "tuple"] _ _); (with_reducible refine Lg.w_isTT (by assumption) (by walk_at "is") ?_))
  | (with_reducible apply Lg.w_isII)
  | (with_reducible apply Lg.w_isSI)
  | (with_reducible apply Lg.w_isSS)
  | (with_reducible apply Lg.w_isIS)
  | (with_reducible apply Lg.w_ifexp)
  | (with_reducible apply Lg.w_chain)
  | ((with_reducible show ChainK _ _ _ _ _ _ _); (with_reducible refine Lg.w_chainLe (by (intro R' hR'; walk_at "w"; exact hR')) ?_))
  | ((with_reducible show ChainK _ _ _ _ _ _ _); (with_reducible refine Lg.w_chainLt (by (intro R' hR'; walk_at "w"; exact hR')) ?_))
  | ((with_reducible show tAnd _ _ _ _ _); (with_reducible refine Lg.w_andP (by (intro R' hR'; walk_at "w"; exact hR')) (by (intro hb' R' hR'; walk_at "w"; exact hR')) ?_))
  | ((with_reducible show tOr _ _ _ _ _); (with_reducible refine Lg.w_orP (by (intro R' hR'; walk_at "w"; exact hR')) (by (intro hb' R' hR'; walk_at "w"; exact hR')) ?_))
  | ((with_reducible show tAndV _ _ _ _ _); (with_reducible refine Lg.w_andVP (by (intro R' hR'; walk_at "w"; exact hR')) (by (intro hb' R' hR'; walk_at "w"; exact hR')) ?_))
  | ((with_reducible show tOrV _ _ _ _ _); (with_reducible refine Lg.w_orVP (by (intro R' hR'; walk_at "w"; exact hR')) (by (intro hb' R' hR'; walk_at "w"; exact hR')) ?_))
  | (with_reducible apply Lg.w_notV))
local macro_rules | `(tactic| walk_at "w") => `(tactic| repeat (walk_at "w1"))
local macro_rules | `(tactic| walk_at "k") => `(tactic| repeat (first | walk_at "w1" | ((with_reducible show (if _ = true then _ else _ : Prop)); (first | (refine Lg.w_bt (by first | rfl | decide | (simp; done) | fail) ?_) | (refine Lg.w_bf (by first | rfl | decide | (simp; done) | fail) ?_) | fail))))
local macro_rules | `(tactic| walk_at "z") => `(tactic| simp only [z_0, z_1, z_2, z_3, z_4, z_5, z_6, z_7, z_8, z_9, z_10, z_11, z_12, z_13, z_14, z_15, z_16, z_17, z_18, z_19, z_20, z_21, z_22, z_23, z_24, z_25, z_26, z_27, z_28, z_29, z_30, z_31, z_32, z_33, z_34, z_35, z_36, z_37, z_38, z_39, z_40, z_41, z_42, z_43, z_44, z_45, z_46, z_47, z_48, z_49, z_50, z_51, z_52, z_53, z_54, z_55, z_56, z_57, z_58, z_59, z_60, z_61, z_62, z_63, z_64, z_65, z_66, z_67, z_68, z_69, z_70, z_71, z_72, z_73, z_74, z_75, z_76, z_77])
section
variable {K : PySem.W.Frag}
/-! ### heights, parse (shared) -/
theorem tr_ref_of {v : V} {t : Tr} {L : List Ent} {H : Hp} (h : St K L H) (hm : Lg.dat v t.d ∈ L) : ∃ q, v = .ref q := tr_ref (h.learn (.dat hm))
def spBranches (K : PySem.W.Frag) : Sp := fun vs H Q _ => ∃ (L : List Ent) (v : V) (t : Tr), vs = [v] ∧ St K L H ∧ Lg.dat v t.d ∈ L ∧ ∀ q H', St K (Lg.ls K q (t.br.map Tr.d) :: L) H' → Q (.ref q) H'
theorem p_branches (vs : List V) (H : Hp) (Q : VK) (E : XK) (h : spBranches K vs H Q E) : vs.length = 1 ∧ t_branches K { nx := fun _ H' => Q .non H', rt := Q } (start N_branches vs) H := by
  obtain ⟨L, v, t, rfl, hS, hm, hQ⟩ := h
  refine ⟨rfl, ?_⟩
  unfold t_branches
  walk_at "z"
  obtain ⟨q, rfl⟩ := tr_ref_of hS hm
  show tSeq _ _ _ [some (.ref q), none] H
  walk_at "w"
  have cut3 : ∀ (k : List Nat) (ds : List PyData), ds = t.br.map Tr.d → t.d = .tuple (.str (S k) :: ds) → rSlX K (.ref q) (some 1) none H (fun x H1 => rListOf K [x] H1 Q) := by
    intro k ds hds hd
    refine w_slT hS (.dat (hd ▸ hm)) fun v1 H1 hS1 => ?_
    obtain ⟨q1, rfl⟩ := hS1.tup_of
    walk_at "w"
    refine w_listT hS1 (.dat (.head _)) fun q2 H2 hS2 => ?_
    refine hQ q2 H2 ?_
    have e : Lg.cutD (.str (S k) :: ds) (some 1) none = ds := by
      unfold Lg.cutD
      have e1 : HT.sIx (PyData.str (S k) :: ds).length 0 (some 1) = 1 := by simp [HT.sIx]
      have e2 : HT.sIx (PyData.str (S k) :: ds).length (PyData.str (S k) :: ds).length none = (PyData.str (S k) :: ds).length := by simp [HT.sIx]
      rw [e1, e2, List.drop_one, List.tail_cons]
      simp
    rw [e, hds] at hS2
    exact hS2.to (by walk_at "pick")
  cases t with
  | num k =>
    rw [Tr.d] at hm
    refine w_ixTs (k := 0) (m := S znumber) hS (.dat hm) rfl rfl ?_
    walk_at "k"
    rename_i p1 H1 hS1
    exact hQ _ _ hS1
  | str z =>
    rw [Tr.d] at hm
    refine w_ixTs (k := 0) (m := S zstring) hS (.dat hm) rfl rfl ?_
    walk_at "k"
    rename_i p1 H1 hS1
    exact hQ _ _ hS1
  | nam z =>
    rw [Tr.d] at hm
    refine w_ixTs (k := 0) (m := S zname) hS (.dat hm) rfl rfl ?_
    walk_at "k"
    rename_i p1 H1 hS1
    exact hQ _ _ hS1
  | op c a b =>
    have hm' := hm
    rw [Tr.d] at hm'
    refine w_ixTs (k := 0) (m := S [c]) hS (.dat hm') rfl rfl ?_
    walk_at "k"
    exact cut3 [c] [a.d, b.d] rfl (by rw [Tr.d])
  | ite a b c =>
    have hm' := hm
    rw [Tr.d] at hm'
    refine w_ixTs (k := 0) (m := S zif) hS (.dat hm') rfl rfl ?_
    walk_at "k"
    exact cut3 zif [a.d, b.d, c.d] rfl (by rw [Tr.d])
  | set z e =>
    rw [Tr.d] at hm
    refine w_ixTs (k := 0) (m := S zset) hS (.dat hm) rfl rfl ?_
    walk_at "k"
    refine w_ixT (k := 2) hS (.dat hm) rfl rfl fun v1 hS1 => ?_
    walk_at "k"
    rename_i p1 H1 hS2
    exact hQ _ _ (hS2.to (by walk_at "pick"))
  | thn a b =>
    have hm' := hm
    rw [Tr.d] at hm'
    refine w_ixTs (k := 0) (m := S zthen) hS (.dat hm') rfl rfl ?_
    walk_at "k"
    exact cut3 zthen [a.d, b.d] rfl (by rw [Tr.d])
  | call z ts =>
    rw [Tr.d] at hm
    refine w_ixTs (k := 0) (m := S zcall) hS (.dat hm) rfl rfl ?_
    walk_at "k"
    refine w_ixT (k := 2) hS (.dat hm) rfl rfl fun v1 hS1 => ?_
    obtain ⟨q1, rfl⟩ := hS1.tup_of
    walk_at "w"
    refine w_listT hS1 (.dat (.head _)) fun q2 H2 hS2 => ?_
    rw [ds_eq] at hS2
    exact hQ _ _ (hS2.to (by walk_at "pick"))
def spHeight (d : Nat) (K : PySem.W.Frag) : Sp := fun vs H Q _ => ∃ (L : List Ent) (v : V) (t : Tr), vs = [v] ∧ St K L H ∧ Lg.dat v t.d ∈ L ∧ t.ht ≤ d ∧ t.wd ≤ 1000 ∧ ∀ H', St K L H' → Q (.int (t.ht : Nat)) H'
theorem ints_at {ns : List Int} {es : List PyData} (hl : es.length = ns.length) (h : ∀ (i : Nat) (e : PyData), es[i]? = some e → ∃ m : Int, ns[i]? = some m ∧ e = PyData.int m) : es = ns.map PyData.int := by
  refine List.ext_getElem? fun i => ?_
  by_cases hi : i < es.length
  · have he : es[i]? = some es[i] := List.getElem?_eq_getElem hi
    obtain ⟨m, h1, h2⟩ := h i _ he
    rw [he, List.getElem?_map, h1, h2]
    rfl
  · rw [List.getElem?_eq_none (by omega), List.getElem?_eq_none (by rw [List.length_map]; omega)]
theorem p_height (d : Nat) (vs : List V) (H : Hp) (Q : VK) (E : XK) (h : spHeight (d + 1) K vs H Q E) : vs.length = 1 ∧ t_height K (spBranches K) (spHeight d K) { nx := fun _ H' => Q .non H', rt := Q } (start N_height vs) H := by
  obtain ⟨L, v, t, rfl, hS, hm, hht, hwd, hQ⟩ := h
  refine ⟨rfl, ?_⟩
  unfold t_height
  show tSeq _ _ _ [some v, none, none] H
  walk_at "w"
  refine w_anyL1 ?_
  walk_at "w"
  refine ⟨L, v, t, rfl, hS, hm, fun q H1 hS1 => ?_⟩
  refine w_itL hS1 (by walk_at "lsin") ?_
  have hbl := br_len t
  refine w_lcL (R := fun i e => ∃ u, t.br[i]? = some u ∧ e = .int (u.ht : Nat)) hS1 (by walk_at "lsin") (by rw [List.length_map]; omega) ?_ ?_
  · intro i dd q2 es v2 H2 hd hlen hS2 Z hZ
    obtain ⟨u, hu, rfl⟩ := map_at hd
    show gName 2 v2 [some v, none, none] H2 _
    walk_at "w"
    refine ⟨rfl, ?_⟩
    walk_at "w"
    have hmem : u ∈ t.br := List.mem_of_getElem? hu
    refine ⟨_, _, u, rfl, hS2, .head _, by have := ht_lt hmem; omega, by have := wd_br hmem; omega, fun H3 hS3 => ?_⟩
    exact hZ _ _ _ ⟨u, hu, rfl⟩ (hS3.tail.learn .int)
  · intro q2 es H2 hlen hR hS2
    obtain rfl := ints_at (ns := t.br.map fun u => (u.ht : Int)) (by rw [hlen]; simp) fun i e he => by
      obtain ⟨u, hu, rfl⟩ := hR i e he
      exact ⟨_, by rw [List.getElem?_map, hu]; rfl, rfl⟩
    have hS3 := hS2.to (L' := Lg.ls K q2 ((t.br.map fun u => (u.ht : Int)).map PyData.int) :: L) (by walk_at "pick")
    walk_at "w"
    refine ⟨_, truL_ok hS3 (by walk_at "lsin"), ?_⟩
    by_cases hb : t.br = []
    · rw [hb]
      walk_at "w"
      refine w_bf rfl ?_
      walk_at "w"
      have := hQ _ hS3.tail
      rw [ht_br, hb] at this
      exact this
    · refine w_bt (by simpa using hb) ?_
      walk_at "w"
      refine w_maxL hS3 (by walk_at "lsin") (by rw [List.length_map]; exact List.length_pos_iff.mpr hb) fun m h0 h1 => ?_
      walk_at "w"
      have := hQ _ hS3.tail
      rw [ht_br] at this
      rw [hts_max h0 h1]
      simpa using this
def spRInit (K : PySem.W.Frag) : Sp := fun vs H Q _ => ∃ (L : List Ent) (a dx p : Addr), vs = [.ref a, .ref p] ∧ St K (Lg.own a (.ins (HR K) dx []) :: L) H ∧ ∀ H', St K (Lg.own a (.ins (HR K) dx (rfs p 0 0)) :: L) H' → Q .non H'
theorem p_rinit (cf : CF K) (vs : List V) (H : Hp) (Q : VK) (E : XK) (h : spRInit K vs H Q E) : vs.length = 2 ∧ t_Reader_init K { nx := fun _ H' => Q .non H', rt := Q } (start N_Reader_init vs) H := by
  obtain ⟨L, a, dx, p, rfl, hS, hQ⟩ := h
  refine ⟨rfl, ?_⟩
  unfold t_Reader_init
  show tSeq _ _ _ [some (.ref a), some (.ref p)] H
  walk_at "w"
  refine w_sfld hS .here cf.cls_Reader cf.na_Reader_tokens (by decide) fun H1 hS1 => ?_
  walk_at "w"
  refine w_sfld hS1 .here cf.cls_Reader cf.na_Reader_at (Nat.lt_of_le_of_lt (len_put (Nat.le_refl 0)) (by decide)) fun H2 hS2 => ?_
  walk_at "w"
  refine w_sfld hS2 .here cf.cls_Reader cf.na_Reader_nested (Nat.lt_of_le_of_lt (len_put (len_put (Nat.le_refl 0))) (by decide)) fun H3 hS3 => ?_
  rw [put_r0] at hS3
  walk_at "w"
  exact hQ _ hS3
def spParse (K : PySem.W.Frag) : Sp := fun vs H Q _ => ∃ (L : List Ent) (p : Addr) (ts : List Tk), vs = [.ref p] ∧ St K L H ∧ Lg.dat (.ref p) (tkL ts) ∈ L ∧ resE K ∈ L ∧ ROK ts ∧ pars ts ≠ none ∧
  (pars ts = some none → ∀ H', St K L H' → Q .non H') ∧ (∀ t, pars ts = some (some t) → ∀ v H', St K (Lg.dat v t.d :: L) H' → Q v H')
theorem p_parse (vs : List V) (H : Hp) (Q : VK) (E : XK) (h : spParse K vs H Q E) : vs.length = 1 ∧ t_parse K (spAtEnd K) (spHeight 45 K) (spPF 0 (lev 190).whole K) (spRInit K) { nx := fun _ H' => Q .non H', rt := Q } (start N_parse vs) H := by
  obtain ⟨L, p, ts, rfl, hS, hm, hres, ok, hne, hQ0, hQ1⟩ := h
  refine ⟨rfl, ?_⟩
  unfold t_parse
  show tSeq _ _ _ [some (.ref p), none, none] H
  walk_at "w"
  intro a dx hx hdx hdn
  refine ⟨_, a, dx, p, rfl, hS.born hx hdx hdn, fun H1 hS1 => ⟨rfl, ?_⟩⟩
  have hS2 : St K (RL K a dx p (0 : Nat) (0 : Nat) ts L) H1 := by
    have h3 := (hS1.learn (v := .ref (He.ga K "RESERVED")) (d := .tuple resD) (.dat (.tail _ (.tail _ hres)))).learn (v := .ref p) (d := tkL ts) (.dat (.tail _ (.tail _ (.tail _ hm))))
    exact h3.to (by walk_at "pick")
  walk_at "w"
  refine w_meth hS2 (.head _) (lk_rno (by decide)) ?_
  walk_at "w"
  unfold pars at hne hQ0 hQ1
  refine ⟨L, a, dx, p, ts, 0, 0, rfl, hS2, ok, by omega, fun e => hne (by rw [show ts.drop 0 = ts from rfl] at e; rw [e]), fun e i' k' H3 hS3 => ?_, fun t j e hj v H3 hS3 => ?_⟩
  · rw [show ts.drop 0 = ts from rfl] at e
    walk_at "w"
    refine w_or ?_
    walk_at "w"
    refine hQ0 (by rw [e]) _ (hS3.to (by walk_at "pick"))
  · rw [show ts.drop 0 = ts from rfl] at e
    rw [e] at hne hQ0 hQ1
    obtain ⟨q, rfl⟩ := tr_ref hS3
    walk_at "w"
    refine w_or ?_
    walk_at "w"
    refine w_or ?_
    walk_at "w"
    refine w_meth hS3 (.tail _ (.head _)) (lk_rno (by decide)) ?_
    walk_at "w"
    refine ⟨Lg.dat (.ref q) t.d :: L, a, dx, p, ts, j, 0, rfl, hS3.to (by walk_at "pick"), ?_⟩
    by_cases hj2 : j = ts.length
    · rw [decide_eq_true hj2]
      have hd : ts.drop j = [] := by rw [hj2]; simp
      rw [hd] at hne hQ0 hQ1
      simp only [] at hne hQ0 hQ1
      have hb : t.ht ≤ 45 ∧ t.wd ≤ 1000 := by
        by_cases hb : t.ht ≤ 45 ∧ t.wd ≤ 1000
        · exact hb
        · exact absurd (by rw [if_neg hb]) hne
      rw [if_pos hb] at hne hQ0 hQ1
      walk_at "w"
      refine w_bf rfl ?_
      walk_at "w"
      refine ⟨_, _, t, rfl, hS3, .head _, hb.1, hb.2, fun H4 hS4 => ?_⟩
      walk_at "w"
      by_cases h12 : t.ht ≤ 12
      · rw [if_pos h12] at hQ1
        refine w_bf (decide_eq_false (by omega)) ?_
        walk_at "w"
        exact hQ1 t rfl _ _ (hS4.to (by walk_at "pick"))
      · rw [if_neg h12] at hQ0
        refine w_bt (decide_eq_true (by omega)) ?_
        walk_at "w"
        exact hQ0 rfl _ (hS4.to (by walk_at "pick"))
    · rw [decide_eq_false hj2]
      have hd : ∃ x r, ts.drop j = x :: r := by
        cases hd : ts.drop j with
        | nil =>
          have := congrArg List.length hd
          rw [List.length_drop] at this
          simp at this
          omega
        | cons x r => exact ⟨x, r, rfl⟩
      obtain ⟨x, r, hd⟩ := hd
      rw [hd] at hne hQ0 hQ1
      walk_at "w"
      refine w_bt rfl ?_
      walk_at "w"
      exact hQ0 rfl _ (hS3.to (by walk_at "pick"))
end
end K02

/-! k02: texts of trees -/
namespace K02
open PySem PySem.Spec PyProof.Rows L2 Lg Tok Xp PySem.NumText
local macro_rules | `(tactic| walk_at "ar") => `(tactic| first | omega | (simp; done) | (simp; omega) | (simp only [S_len]; omega) | (simp [Lg.repL_len]; done) | (simp [Lg.repL_len]; omega))
local macro_rules | `(tactic| walk_at "gt") => `(tactic| repeat (first | exact GetAt.here | apply GetAt.there))
local macro_rules | `(tactic| walk_at "st") => `(tactic| repeat (first | exact SetAt.here | apply SetAt.there))
local macro_rules | `(tactic| walk_at "mem") => `(tactic| first | assumption | exact List.mem_cons_self | (apply List.mem_cons_of_mem; walk_at "mem"))
local macro_rules | `(tactic| walk_at "put") => `(tactic| repeat (first | exact Put.here | apply Put.there))
local macro_rules | `(tactic| walk_at "rem") => `(tactic| repeat (first | exact Rem.here | apply Rem.there))
local macro_rules | `(tactic| walk_at "pick") => `(tactic| first | exact Pick.refl | exact Pick.cons (by walk_at "rem") (by walk_at "pick") | (apply Pick.drop; walk_at "pick") | exact Pick.nil)
local macro_rules | `(tactic| walk_at "is") => `(tactic| first | exact Is.int | exact Is.str | exact Is.bl | exact Is.non | assumption | exact Is.dat (by walk_at "mem") | (apply Is.cons; walk_at "is"))
local macro_rules | `(tactic| walk_at "isall") => `(tactic| first | exact IsAll.nil | exact IsAll.cons (by walk_at "is") (by walk_at "isall"))
local macro_rules | `(tactic| walk_at "lsin") => `(tactic| first | assumption | exact LsIn.own (by walk_at "mem") | exact LsIn.dat (by walk_at "mem") | (apply LsIn.cons; walk_at "lsin"))
local macro_rules | `(tactic| walk_at "see") => `(tactic| first | exact See.own (by walk_at "mem") | exact See.is (by walk_at "is"))
local macro_rules | `(tactic| walk_at "w1") => `(tactic| first
  | (with_reducible apply Lg.w_seq)
  | (with_reducible apply Lg.w_asg)
  | ((with_reducible show gName _ _ _ _ _); (with_reducible refine Lg.w_name (by walk_at "st") ?_))
  | ((with_reducible show tVar _ _ _ _); (with_reducible refine Lg.w_var (by walk_at "gt") ?_))
  | (with_reducible apply Lg.w_c)
  | (with_reducible apply Lg.w_op)
  | (with_reducible apply Lg.w_un)
  | (with_reducible apply Lg.w_nil)
  | (with_reducible apply Lg.w_cons)
  | (with_reducible apply Lg.w_call)
  | (with_reducible apply Lg.w_cb)
  | (with_reducible apply Lg.w_tup)
  | (with_reducible apply Lg.w_lst)
  | (with_reducible apply Lg.w_bm)
  | (with_reducible apply Lg.w_bm0)
  | (with_reducible apply Lg.w_sl)
  | (with_reducible apply Lg.w_nopart)
  | (with_reducible apply Lg.w_part)
  | (with_reducible apply Lg.w_isint)
  | (with_reducible apply Lg.w_test)
  | (with_reducible apply Lg.w_tB)
  | (with_reducible apply Lg.w_isbl')
  | (with_reducible apply Lg.w_not)
  | (with_reducible apply Lg.w_tru)
  | (with_reducible apply Lg.w_truI)
  | (with_reducible apply Lg.w_truB)
  | (with_reducible apply Lg.w_ifs)
  | (with_reducible apply Lg.w_next)
  | (with_reducible apply Lg.w_break)
  | (with_reducible apply Lg.w_cont)
  | (with_reducible apply Lg.w_ret)
  | (with_reducible apply Lg.w_retn)
  | (with_reducible apply Lg.w_drop)
  | (with_reducible apply Lg.w_sub)
  | (with_reducible apply Lg.w_gnil)
  | (with_reducible apply Lg.w_gcons)
  | (with_reducible apply Lg.w_ifT)
  | (with_reducible apply Lg.w_ifF)
  | (with_reducible apply Lg.w_add)
  | (with_reducible apply Lg.w_sub2)
  | ((with_reducible show rTimes (V.int _) (V.int _) _ _); (with_reducible refine Lg.w_mulR (by omega) ?_))
  | ((with_reducible show rTimes (V.int _) (V.int _) _ _); (with_reducible refine Lg.w_mulL (by omega) ?_))
  | ((with_reducible show rMod (V.int _) (V.int _) _ _); (with_reducible refine Lg.w_mod (by first | decide | omega) ?_))
  | ((with_reducible show rFdiv (V.int _) (V.int _) _ _); (with_reducible refine Lg.w_fdiv (by first | decide | omega) ?_))
  | (with_reducible apply Lg.w_band)
  | (with_reducible apply Lg.w_lt)
  | (with_reducible apply Lg.w_le)
  | (with_reducible apply Lg.w_gt)
  | (with_reducible apply Lg.w_ge)
  | (with_reducible apply Lg.w_eqI)
  | (with_reducible apply Lg.w_neI)
  | (with_reducible apply Lg.w_intI2)
  | (with_reducible apply Lg.w_neg)
  | (with_reducible apply Lg.w_inSS)
  | (with_reducible apply Lg.w_ninSS)
  | (with_reducible apply Lg.w_inSS')
  | (with_reducible apply Lg.w_neSS)
  | (with_reducible apply Lg.w_strS)
  | (with_reducible apply Lg.w_fldE)
  | (with_reducible apply Lg.w_sfldE)
  | (with_reducible apply Lg.w_makeE)
  | (with_reducible apply Lg.w_methE)
  | (with_reducible apply Lg.w_methSE)
  | (with_reducible apply Lg.w_callS)
  | (with_reducible apply Lg.w_raiseO)
  | (with_reducible apply Lg.w_raiseB)
  | (with_reducible apply Lg.w_try)
  | (with_reducible apply Lg.w_strS)
  | (with_reducible apply Lg.w_eqSS)
  | (with_reducible apply Lg.w_eqS)
  | (with_reducible apply Lg.w_neS)
  | (with_reducible apply Lg.w_isN)
  | (with_reducible apply Lg.w_isR)
  | (with_reducible apply Lg.w_isI)
  | (with_reducible apply Lg.w_isS)
  | (with_reducible apply Lg.w_nsN)
  | (with_reducible apply Lg.w_nsR)
  | (with_reducible apply Lg.w_nsI)
  | (with_reducible apply Lg.w_nsS)
  | (with_reducible apply Lg.w_int)
  | (with_reducible apply Lg.w_intb)
  | (with_reducible apply Lg.w_ord1)
  | (with_reducible apply Lg.w_tyS)
  | (with_reducible apply Lg.w_inSg)
  | (with_reducible apply Lg.w_ninSg)
  | ((with_reducible show NewL _ _ _); (with_reducible refine Lg.w_newL (by assumption) (by walk_at "isall") (by simp) ?_); (intro p' H' hS'))
  | ((with_reducible show NewT _ _ _); (with_reducible refine Lg.w_newT (by assumption) (by walk_at "isall") (by simp) ?_); (intro p' H' hS'))
  | ((with_reducible show TyThen _ _ (V.ref _) _ _); (with_reducible refine Lg.w_tyL (by assumption) (by walk_at "lsin") ?_))
  | ((with_reducible show rLenX _ [V.ref _] _ _); (with_reducible refine Lg.w_lenL (by assumption) (by walk_at "lsin") ?_))
  | ((with_reducible show rLenX _ [V.ref _] _ _); (with_reducible refine Lg.w_lenT (by assumption) (by walk_at "is") ?_))
  | ((with_reducible show spDraw _ _ _ _ _); (with_reducible refine Lg.w_draw (by assumption) (by walk_at "mem") (by first | decide | omega) ?_); (intro k' H' hk0' hk1' hS'))
  | ((with_reducible show rSlX _ (V.ref _) _ _ _ _); (with_reducible refine Lg.w_slL (by assumption) (by walk_at "lsin") ?_); (intro p' H' hS'))
  | ((with_reducible show rListOf _ [V.ref _] _ _); (with_reducible refine Lg.w_listL (by assumption) (by walk_at "lsin") ?_); (intro p' H' hS'))
  | (with_reducible apply Lg.w_for)
  | (with_reducible apply Lg.w_lc)
  | ((with_reducible show iAny _ (tVar _) _ _ _); (with_reducible refine Lg.w_anyVar (by walk_at "gt") ?_))
  | (with_reducible apply Lg.w_anyC)
  | (with_reducible apply Lg.w_vS)
  | (with_reducible apply Lg.w_itS)
  | ((with_reducible show AnyV _ (V.ref _) _ _); (with_reducible refine Lg.w_vL (by assumption) (by walk_at "lsin") ?_))
  | ((with_reducible show AnyL _ (V.ref _) _ _); (with_reducible refine Lg.w_itL (by assumption) (by walk_at "lsin") ?_))
  | ((with_reducible show AnyV _ (V.ref _) _ _); (with_reducible refine Lg.w_vT (by assumption) (by walk_at "is") ?_))
  | ((with_reducible show AnyT _ (V.ref _) _ _); (with_reducible refine Lg.w_itT (by assumption) (by walk_at "is") ?_))
  | ((with_reducible show Enu _ [V.ref _] _ _); (with_reducible refine Lg.w_itE (by assumption) (by walk_at "lsin") ?_))
  | ((with_reducible show rPlus _ (V.ref _) (V.ref _) _ _); (with_reducible refine Lg.w_plusL (by assumption) (by walk_at "lsin") (by walk_at "lsin") (by walk_at "ar") ?_); (intro p' H' hS'))
  | ((with_reducible show rTimes (V.ref _) (V.int _) _ _); (with_reducible refine Lg.w_repLs (by assumption) (by walk_at "lsin") (by walk_at "ar") (by walk_at "ar") (by walk_at "ar") ?_); (intro p' H' hS'))
  | ((with_reducible show rLenX _ [V.str (S _)] _ _); (with_reducible refine Lg.w_lenSS (by walk_at "ar") ?_))
  | ((with_reducible show rLenX _ [V.str _] _ _); (with_reducible refine Lg.w_lenS (by walk_at "ar") ?_))
  | ((with_reducible show rSlX _ (V.str _) _ _ _ _); (with_reducible refine Lg.w_slS (by walk_at "ar") ?_))
  | (with_reducible apply Lg.w_rng1)
  | (with_reducible apply Lg.w_rng2)
  | (with_reducible apply Lg.w_rng3)
  | (with_reducible apply Lg.w_enum)
  | ((with_reducible show Rng1 _ _ _); (with_reducible refine Lg.w_itR1 (by omega) ?_))
  | ((with_reducible show Rng2 _ _ _); (with_reducible refine Lg.w_itR2 (by omega) (by omega) ?_))
  | ((with_reducible show rIx _ (V.ref _) (V.int _) _ _); (with_reducible refine Lg.w_ixN (by assumption) (by walk_at "lsin") (by walk_at "ar") (by walk_at "ar") ?_))
  | ((with_reducible show rPlus _ (V.str (S _)) (V.str (S _)) _ _); (with_reducible refine Lg.w_addSS (by walk_at "ar") ?_))
  | ((with_reducible show rTimes (V.str (S _)) (V.int _) _ _); (with_reducible refine Lg.w_repSS (by walk_at "ar") (by walk_at "ar") (by walk_at "ar") ?_))
  | ((with_reducible show rIsi _ [V.ref _, V.ty "list"] _ _); (with_reducible refine Lg.w_isLL (by assumption) (by walk_at "lsin") ?_))
  | ((with_reducible show rIsi _ [V.ref _, V.ty "tuple"] _ _); (with_reducible refine Lg.w_isTT (by assumption) (by walk_at "is") ?_))
  | (with_reducible apply Lg.w_isII)
  | (with_reducible apply Lg.w_isSI)
  | (with_reducible apply Lg.w_isSS)
  | (with_reducible apply Lg.w_isIS)
  | (with_reducible apply Lg.w_ifexp)
  | (with_reducible apply Lg.w_chain)
  | ((with_reducible show ChainK _ _ _ _ _ _ _); (with_reducible refine Lg.w_chainLe (by (intro R' hR'; walk_at "w"; exact hR')) ?_))
  | ((with_reducible show ChainK _ _ _ _ _ _ _); (with_reducible refine Lg.w_chainLt (by (intro R' hR'; walk_at "w"; exact hR')) ?_))
  | ((with_reducible show tAnd _ _ _ _ _); (with_reducible refine Lg.w_andP (by (intro R' hR'; walk_at "w"; exact hR')) (by (intro hb' R' hR'; walk_at "w"; exact hR')) ?_))
  | ((with_reducible show tOr _ _ _ _ _); (with_reducible refine Lg.w_orP (by (intro R' hR'; walk_at "w"; exact hR')) (by (intro hb' R' hR'; walk_at "w"; exact hR')) ?_))
  | ((with_reducible show tAndV _ _ _ _ _); (with_reducible refine Lg.w_andVP (by (intro R' hR'; walk_at "w"; exact hR')) (by (intro hb' R' hR'; walk_at "w"; exact hR')) ?_))
  | ((with_reducible show tOrV _ _ _ _ _); (with_reducible refine Lg.w_orVP (by (intro R' hR'; walk_at "w"; exact hR')) (by (intro hb' R' hR'; walk_at "w"; exact hR')) ?_))
  | (with_reducible apply Lg.w_notV))
local macro_rules | `(tactic| walk_at "w") => `(tactic| repeat (walk_at "w1"))
local macro_rules | `(tactic| walk_at "k") => `(tactic| repeat (first | walk_at "w1" | ((with_reducible show (if _ = true then _ else _ : Prop)); (first | (refine Lg.w_bt (by first | rfl | decide | (simp; done) | fail) ?_) | (refine Lg.w_bf (by first | rfl | decide | (simp; done) | fail) ?_) | fail))))
local macro_rules | `(tactic| walk_at "z") => `(tactic| simp only [z_0, z_1, z_2, z_3, z_4, z_5, z_6, z_7, z_8, z_9, z_10, z_11, z_12, z_13, z_14, z_15, z_16, z_17, z_18, z_19, z_20, z_21, z_22, z_23, z_24, z_25, z_26, z_27, z_28, z_29, z_30, z_31, z_32, z_33, z_34, z_35, z_36, z_37, z_38, z_39, z_40, z_41, z_42, z_43, z_44, z_45, z_46, z_47, z_48, z_49, z_50, z_51, z_52, z_53, z_54, z_55, z_56, z_57, z_58, z_59, z_60, z_61, z_62, z_63, z_64, z_65, z_66, z_67, z_68, z_69, z_70, z_71, z_72, z_73, z_74, z_75, z_76, z_77])
section
variable {K : PySem.W.Frag}
/-! ### texts of trees (shared) -/
/-- a tree with a text that is not too long; r: how deep the calls for it go -/
structure Wo (t : Tr) : Prop where
  ok : t.ok
  len : (t.tx false).length ≤ 50000
def spWr (k d : Nat) (f : Tr → List Nat) (P : Tr → Prop) (rank : Tr → Nat) (K : PySem.W.Frag) : Sp := fun vs H Q _ => ∃ (L : List Ent) (v : V) (t : Tr), vs = [v] ∧ St K L H ∧ Lg.dat v t.d ∈ L ∧ Wo t ∧ P t ∧ rank t < d ∧ ∀ H', St K L H' → Q (.str (S (f t))) H'
def seqR (t : Tr) : Nat := match t with
  | .thn _ _ => 5 * t.ht
  | _ => 5 * t.ht + 4
abbrev spWrite (d : Nat) (K : PySem.W.Frag) : Sp := spWr 0 d (Tr.tx false) (fun _ => True) (fun t => 5 * t.ht + 3) K
abbrev spSeqT (d : Nat) (K : PySem.W.Frag) : Sp := spWr 0 d (Tr.tx true) (fun _ => True) seqR K
abbrev spAtomT (d : Nat) (K : PySem.W.Frag) : Sp := spWr 0 d (Tr.tx false) (fun t => t.lvl = 4) (fun t => 5 * t.ht + 1) K
def spWritten (d : Nat) (K : PySem.W.Frag) : Sp := fun vs H Q _ => ∃ (L : List Ent) (v : V) (t : Tr) (l : Nat), vs = [v, .int l] ∧ St K L H ∧ Lg.dat v t.d ∈ L ∧ Wo t ∧ 5 * t.ht + 2 < d ∧ l ≤ 4 ∧ ∀ H', St K L H' → Q (.str (S (t.wr l))) H'
theorem wr_len (t : Tr) (l : Nat) : (t.wr l).length ≤ (t.tx false).length + 2 := par_len _ _
theorem p_write (d : Nat) (vs : List V) (H : Hp) (Q : VK) (E : XK) (h : spWrite (d + 1) K vs H Q E) : vs.length = 1 ∧ t_write K (spWritten d K) { nx := fun _ H' => Q .non H', rt := Q } (start N_write vs) H := by
  obtain ⟨L, v, t, rfl, hS, hm, wo, _, hr, hQ⟩ := h
  refine ⟨rfl, ?_⟩
  unfold t_write
  show tRet _ _ [some v] H
  walk_at "w"
  have hr : 5 * t.ht + 3 < d + 1 := hr
  exact ⟨L, v, t, 0, rfl, hS, hm, wo, by omega, by omega, fun H1 hS1 => by rw [wr0]; exact hQ _ hS1⟩
theorem wo_op {c : Nat} {l r : Tr} (h : Wo (.op c l r)) : c ∈ [43, 45, 42, 60, 61] ∧ Wo l ∧ Wo r ∧ (l.wr (lef c)).length + (r.wr (opl c + 1)).length + 3 ≤ 50000 := by
  obtain ⟨h1, h2⟩ := h
  rw [Tr.ok] at h1
  rw [Tr.tx] at h2
  have e : ∀ (t : Tr) (b : Bool), (t.tx false).length ≤ (par b (t.tx false)).length := fun t b => by unfold par; split <;> simp <;> omega
  have e1 := e l (decide (l.lvl < lef c))
  have e2 := e r (decide (r.lvl < opl c + 1))
  simp only [List.length_append, List.length_cons, List.length_nil] at h2
  exact ⟨h1.1, ⟨h1.2.1, by omega⟩, ⟨h1.2.2, by omega⟩, by unfold Tr.wr; omega⟩
theorem wo_ite {a b c : Tr} (h : Wo (.ite a b c)) : Wo a ∧ Wo b ∧ Wo c ∧ (a.tx false).length + (b.tx false).length + (c.tx false).length + 15 ≤ 50000 := by
  obtain ⟨h1, h2⟩ := h
  rw [Tr.ok] at h1
  rw [Tr.tx] at h2
  simp only [List.length_append, List.length_cons, List.length_nil] at h2
  exact ⟨⟨h1.1, by omega⟩, ⟨h1.2.1, by omega⟩, ⟨h1.2.2, by omega⟩, by omega⟩
theorem wo_set {z : List Nat} {e : Tr} (h : Wo (.set z e)) : Wo e ∧ z.length + (e.tx false).length + 7 ≤ 50000 := by
  obtain ⟨h1, h2⟩ := h
  rw [Tr.ok] at h1
  rw [Tr.tx] at h2
  simp only [List.length_append, List.length_cons, List.length_nil] at h2
  exact ⟨⟨h1.2, by omega⟩, by omega⟩
theorem wo_thn {a b : Tr} (h : Wo (.thn a b)) : Wo a ∧ Wo b ∧ (a.tx false).length + (b.tx true).length + 4 ≤ 50000 ∧ (b.tx false).length ≤ 50000 := by
  obtain ⟨h1, h2⟩ := h
  rw [Tr.ok] at h1
  rw [Tr.tx] at h2
  have hb : (b.tx false).length ≤ (b.tx true).length + 2 := by
    cases b with
    | thn x y => simp [Tr.tx, par]; omega
    | _ => rw [tx_flag (by simp) true] <;> omega
  simp [par] at h2
  exact ⟨⟨h1.1, by omega⟩, ⟨h1.2, by omega⟩, by omega, by omega⟩
theorem wo_call {z : List Nat} {ts : List Tr} (h : Wo (.call z ts)) : (∀ t ∈ ts, Wo t) ∧ ts.length ≤ 60000 ∧ z.length + (joinW [44, 32] (ts.map (Tr.tx false))).length + 2 ≤ 50000 := by
  obtain ⟨h1, h2⟩ := h
  rw [Tr.ok] at h1
  have oks := oks_all.mp h1.2
  rw [Tr.tx, txs_eq] at h2
  simp only [List.length_append, List.length_cons, List.length_nil] at h2
  refine ⟨fun t ht => ⟨oks t ht, ?_⟩, ?_, by omega⟩
  · have := joinW_mem [44, 32] (List.mem_map_of_mem (f := Tr.tx false) ht)
    omega
  · rcases joinW_ge [44, 32] (zs := ts.map (Tr.tx false)) with h | h
    · rw [List.length_map] at h; omega
    · cases h
theorem strs_at {ns : List (List Nat)} {es : List PyData} (hl : es.length = ns.length) (h : ∀ (i : Nat) (e : PyData), es[i]? = some e → ∃ m : List Nat, ns[i]? = some m ∧ e = PyData.str (S m)) : es = ns.map fun y => PyData.str (S y) := by
  refine List.ext_getElem? fun i => ?_
  by_cases hi : i < es.length
  · have he : es[i]? = some es[i] := List.getElem?_eq_getElem hi
    obtain ⟨m, h1, h2⟩ := h i _ he
    rw [he, List.getElem?_map, h1, h2]
    rfl
  · rw [List.getElem?_eq_none (by omega), List.getElem?_eq_none (by rw [List.length_map]; omega)]
theorem joinL_eq (x : List Nat) : ∀ zs : List (List Nat), TL.joinL x zs = joinW x zs
  | [] => by simp [TL.joinL, joinW]
  | [z] => by simp [TL.joinL, joinW]
  | z :: y :: r => by
    have := joinL_eq x (y :: r)
    simp [TL.joinL, joinW] at this ⊢
    try rw [← this]
theorem p_seqT (d : Nat) (vs : List V) (H : Hp) (Q : VK) (E : XK) (h : spSeqT (d + 1) K vs H Q E) : vs.length = 1 ∧ t_sequence_text K (spWrite d K) (spSeqT d K) { nx := fun _ H' => Q .non H', rt := Q } (start N_sequence_text vs) H := by
  obtain ⟨L, v, t, rfl, hS, hm, wo, _, hr, hQ⟩ := h
  refine ⟨rfl, ?_⟩
  unfold t_sequence_text
  walk_at "z"
  obtain ⟨q, rfl⟩ := tr_ref_of hS hm
  show tSeq _ _ _ [some (.ref q)] H
  walk_at "w"
  have hd : ∃ ds, t.d = .tuple (.str (S t.kz) :: ds) := by cases t <;> (rw [Tr.d]; exact ⟨_, rfl⟩)
  obtain ⟨ds, hd⟩ := hd
  refine w_ixTs (k := 0) (m := S t.kz) hS (.dat (hd ▸ hm)) rfl rfl ?_
  walk_at "w"
  by_cases ht : ∃ a b, t = .thn a b
  · obtain ⟨a, b, rfl⟩ := ht
    obtain ⟨wa, wb, hl, _⟩ := wo_thn wo
    have ha : a.ht < (Tr.thn a b).ht := ht_lt (by simp [Tr.br])
    have hb : b.ht < (Tr.thn a b).ht := ht_lt (by simp [Tr.br])
    have hr' : 5 * (Tr.thn a b).ht < d + 1 := hr
    rw [Tr.d] at hm
    refine w_bt (by rfl) ?_
    walk_at "w"
    refine w_ixT (k := 1) hS (.dat hm) rfl rfl fun v1 hS1 => ?_
    walk_at "w"
    refine ⟨_, v1, a, rfl, hS1, .head _, wa, trivial, by (try dsimp only); omega, fun H2 hS2 => ?_⟩
    walk_at "w"
    refine w_ixT (k := 2) hS2 (.dat (.tail _ hm)) rfl rfl fun v2 hS3 => ?_
    walk_at "w"
    refine ⟨_, v2, b, rfl, hS3, .head _, wb, trivial, ?_, fun H4 hS4 => ?_⟩
    · unfold seqR
      split <;> omega
    · walk_at "w"
      have e : Tr.tx true (.thn a b) = Tr.tx false a ++ [59, 32] ++ Tr.tx true b := by rw [Tr.tx]; simp [par]
      rw [← e]
      exact hQ _ hS4.tail.tail
  · have hk : t.kz ≠ zthen := by
      intro e
      cases t with
      | thn a b => exact ht ⟨_, _, rfl⟩
      | op c a b => simp [Tr.kz] at e
      | _ => revert e; simp only [Tr.kz]; decide
    have hr' : 5 * t.ht + 4 < d + 1 := by
      have hr2 : seqR t < d + 1 := hr
      unfold seqR at hr2
      split at hr2
      · exact absurd ⟨_, _, rfl⟩ ht
      · exact hr2
    refine w_bf (by simpa using hk) ?_
    walk_at "w"
    refine ⟨_, _, t, rfl, hS, hm, wo, trivial, by (try dsimp only); omega, fun H2 hS2 => ?_⟩
    rw [← tx_flag (fun a b e => ht ⟨a, b, e⟩) true]
    exact hQ _ hS2
theorem p_atomT (d : Nat) (vs : List V) (H : Hp) (Q : VK) (E : XK) (h : spAtomT (d + 1) K vs H Q E) : vs.length = 1 ∧ t_atom_text K (spWrite d K) (spSeqT d K) { nx := fun _ H' => Q .non H', rt := Q } (start N_atom_text vs) H := by
  obtain ⟨L, v, t, rfl, hS, hm, wo, hl4, hr, hQ⟩ := h
  refine ⟨rfl, ?_⟩
  unfold t_atom_text
  walk_at "z"
  obtain ⟨q, rfl⟩ := tr_ref_of hS hm
  show tSeq _ _ _ [some (.ref q), none, none] H
  walk_at "w"
  cases t with
  | num k =>
    rw [Tr.d] at hm
    have ok := wo.ok
    rw [Tr.ok] at ok
    refine w_ixTs (k := 0) (m := S znumber) hS (.dat hm) rfl rfl ?_
    walk_at "k"
    refine w_ixTi (k := 1) (m := (k : Int)) hS (.dat hm) rfl rfl ?_
    walk_at "w"
    refine w_strI rfl (by omega) ?_
    have := hQ _ hS
    rw [Tr.tx] at this
    exact this
  | str z =>
    rw [Tr.d] at hm
    have hl := wo.len
    rw [Tr.tx] at hl
    have hl2 : z.length ≤ 50000 := by simp at hl; omega
    refine w_ixTs (k := 0) (m := S zstring) hS (.dat hm) rfl rfl ?_
    walk_at "k"
    refine w_ixTs (k := 1) (m := S z) hS (.dat hm) rfl rfl ?_
    walk_at "w"
    have := hQ _ hS
    rw [Tr.tx] at this
    exact this
  | nam z =>
    rw [Tr.d] at hm
    refine w_ixTs (k := 0) (m := S zname) hS (.dat hm) rfl rfl ?_
    walk_at "k"
    refine w_ixTs (k := 1) (m := S z) hS (.dat hm) rfl rfl ?_
    walk_at "w"
    have := hQ _ hS
    rw [Tr.tx] at this
    exact this
  | op c a b =>
    have := opl_le c
    have h4 : opl c = 4 := hl4
    omega
  | ite a b c => cases hl4
  | set z e => cases hl4
  | thn a b =>
    obtain ⟨wa, wb, hl, _⟩ := wo_thn wo
    have hm' := hm
    rw [Tr.d] at hm'
    have et : Tr.tx true (.thn a b) = Tr.tx false a ++ [59, 32] ++ Tr.tx true b := by rw [Tr.tx]; simp [par]
    have hlt : (Tr.tx true (.thn a b)).length ≤ 50000 := by rw [et]; simp; omega
    refine w_ixTs (k := 0) (m := S zthen) hS (.dat hm') rfl rfl ?_
    walk_at "k"
    refine ⟨_, _, .thn a b, rfl, hS, hm, wo, trivial, ?_, fun H2 hS2 => ?_⟩
    · have : 5 * (Tr.thn a b).ht + 1 < d + 1 := hr
      show 5 * (Tr.thn a b).ht < d
      omega
    walk_at "w"
    have e : Tr.tx false (.thn a b) = [40] ++ Tr.tx true (.thn a b) ++ [41] := by rw [et, Tr.tx]; simp [par]
    have := hQ _ hS2
    rw [e] at this
    exact this
  | call z ts =>
    obtain ⟨wa, hn, hl⟩ := wo_call wo
    have hr' : 5 * (Tr.call z ts).ht + 1 < d + 1 := hr
    rw [Tr.d] at hm
    refine w_ixTs (k := 0) (m := S zcall) hS (.dat hm) rfl rfl ?_
    walk_at "k"
    refine w_ixTs (k := 1) (m := S z) hS (.dat hm) rfl rfl ?_
    walk_at "w"
    refine w_anyT1 ?_
    walk_at "w"
    refine w_ixT (k := 2) hS (.dat hm) rfl rfl fun v1 hS1 => ?_
    obtain ⟨q1, rfl⟩ := hS1.tup_of
    obtain ⟨xs, _, hS2⟩ := hS1.tupF (.dat (.head _))
    refine w_itT hS2 (.dat (.tail _ (.head _))) ?_
    refine w_lcT (R := fun i e => ∃ u, (ts.map (Tr.tx false))[i]? = some u ∧ e = .str (S u)) hS2 (by walk_at "mem") (by rw [ds_eq, List.length_map]; omega) ?_ ?_
    · intro i dd q2 es v2 H2 hd hlen hS3 Z hZ
      rw [ds_eq] at hd
      obtain ⟨u, hu, rfl⟩ := map_at hd
      have hmem : u ∈ ts := List.mem_of_getElem? hu
      have hu2 : u.ht < (Tr.call z ts).ht := ht_lt (by simpa [Tr.br] using hmem)
      show gName 2 v2 [some (.ref q), some (.str (S zcall)), none] H2 _
      walk_at "w"
      refine ⟨rfl, ?_⟩
      walk_at "w"
      refine ⟨_, _, u, rfl, hS3, .head _, wa u hmem, trivial, by (try dsimp only); omega, fun H4 hS4 => ?_⟩
      exact hZ _ _ _ ⟨_, by rw [List.getElem?_map, hu]; rfl, rfl⟩ (hS4.tail.learn .str)
    · intro q2 es H2 hlen hR hS3
      obtain rfl := strs_at (ns := ts.map (Tr.tx false)) (by rw [hlen, ds_eq]; simp) hR
      walk_at "w"
      have hj := joinW_sum [44, 32] (zs := ts.map (Tr.tx false))
      refine w_joinSS hS3 (by walk_at "lsin") (by simp only [List.length_cons, List.length_nil] at *; omega) ?_
      rw [joinL_eq]
      walk_at "w"
      have := hQ _ (hS3.to (by walk_at "pick"))
      rw [Tr.tx, txs_eq] at this
      exact this
theorem w_ifz {b : Bool} {ta tb : TE} {z : V} {σ : L2.St} {H : Hp} {Q : VK} (h1 : b = true → ∀ R : VK, R z H → ta σ H R) (h2 : b = false → ∀ R : VK, R z H → tb σ H R) (h : Q z H) : if b = true then ta σ H Q else tb σ H Q := by
  cases b with
  | true => rw [if_pos rfl]; exact h1 rfl _ h
  | false => rw [if_neg (by simp)]; exact h2 rfl _ h
/-- how strong signs are -/
theorem kvs_op {c : Nat} (h : c ∈ [43, 45, 42, 60, 61]) : (S [c], (opl c : Int)) ∈ kvs_STRENGTHS := by
  simp only [List.mem_cons, List.not_mem_nil, or_false] at h
  rcases h with rfl | rfl | rfl | rfl | rfl <;> decide
theorem nok_kz {t : Tr} (h : t.lvl = 4) : S t.kz ∈ nok_STRENGTHS := by
  cases t with
  | op c a b => have := opl_le c; have h4 : opl c = 4 := h; omega
  | ite a b c => cases h
  | set z e => cases h
  | _ => simp only [Tr.kz]; decide
theorem w_kdT {a : Addr} {z : Str} {u : Value} {Q : VK} {H : Hp} (h1 : PySem.W.nsIn K a z = some (some u)) (h : Q (.bl true) H) : rKdIn K a (.str z) (.ref a) H Q := ⟨z, _, rfl, rfl, h1, h⟩
theorem w_kdF {a : Addr} {z : Str} {Q : VK} {H : Hp} (h1 : PySem.W.nsIn K a z = some none) (h : Q (.bl false) H) : rKdIn K a (.str z) (.ref a) H Q := ⟨z, _, rfl, rfl, h1, h⟩
theorem p_written (cf : CF K) (d : Nat) (vs : List V) (H : Hp) (Q : VK) (E : XK) (h : spWritten (d + 1) K vs H Q E) : vs.length = 2 ∧ t_written K (spWrite d K) (spWritten d K) (spAtomT d K) { nx := fun _ H' => Q .non H', rt := Q } (start N_written vs) H := by
  obtain ⟨L, v, t, l, rfl, hS, hm, wo, hr, hl4, hQ⟩ := h
  refine ⟨rfl, ?_⟩
  unfold t_written
  walk_at "z"
  obtain ⟨q, rfl⟩ := tr_ref_of hS hm
  show tSeq _ _ _ [some (.ref q), some (.int l), none, none, none, none] H
  walk_at "w"
  have hd : ∃ ds, t.d = .tuple (.str (S t.kz) :: ds) := by cases t <;> (rw [Tr.d]; exact ⟨_, rfl⟩)
  obtain ⟨ds, hd⟩ := hd
  refine w_ixTs (k := 0) (m := S t.kz) hS (.dat (hd ▸ hm)) rfl rfl ?_
  walk_at "w"
  have hlen := wo.len
  refine w_cut (fun σ' H' => ∃ v5, σ' = [some (.ref q), some (.int l), some (.str (S t.kz)), some (.int (t.lvl : Nat)), some (.str (S (t.tx false))), v5] ∧ St K L H') ?_ ?_
  · walk_at "w"
    cases t with
    | num k =>
      walk_at "k"
      refine w_kdF (kdB_no cf.kd_STRENGTHS (nok_kz (t := .num k) rfl)) ?_
      walk_at "w"
      refine ⟨_, _, .num k, rfl, hS, hm, wo, rfl, by (try dsimp only); omega, fun H2 hS2 => ?_⟩
      walk_at "w"
      exact ⟨_, rfl, hS2⟩
    | str z =>
      walk_at "k"
      refine w_kdF (kdB_no cf.kd_STRENGTHS (nok_kz (t := .str z) rfl)) ?_
      walk_at "w"
      refine ⟨_, _, .str z, rfl, hS, hm, wo, rfl, by (try dsimp only); omega, fun H2 hS2 => ?_⟩
      walk_at "w"
      exact ⟨_, rfl, hS2⟩
    | nam z =>
      walk_at "k"
      refine w_kdF (kdB_no cf.kd_STRENGTHS (nok_kz (t := .nam z) rfl)) ?_
      walk_at "w"
      refine ⟨_, _, .nam z, rfl, hS, hm, wo, rfl, by (try dsimp only); omega, fun H2 hS2 => ?_⟩
      walk_at "w"
      exact ⟨_, rfl, hS2⟩
    | thn a b =>
      walk_at "k"
      refine w_kdF (kdB_no cf.kd_STRENGTHS (nok_kz (t := .thn a b) rfl)) ?_
      walk_at "w"
      refine ⟨_, _, .thn a b, rfl, hS, hm, wo, rfl, by (try dsimp only); omega, fun H2 hS2 => ?_⟩
      walk_at "w"
      exact ⟨_, rfl, hS2⟩
    | call z ts =>
      walk_at "k"
      refine w_kdF (kdB_no cf.kd_STRENGTHS (nok_kz (t := .call z ts) rfl)) ?_
      walk_at "w"
      refine ⟨_, _, .call z ts, rfl, hS, hm, wo, rfl, by (try dsimp only); omega, fun H2 hS2 => ?_⟩
      walk_at "w"
      exact ⟨_, rfl, hS2⟩
    | ite a b c =>
      obtain ⟨wa, wb, wc, hl⟩ := wo_ite wo
      have ha : a.ht < (Tr.ite a b c).ht := ht_lt (by simp [Tr.br])
      have hb : b.ht < (Tr.ite a b c).ht := ht_lt (by simp [Tr.br])
      have hc : c.ht < (Tr.ite a b c).ht := ht_lt (by simp [Tr.br])
      rw [Tr.d] at hm
      refine w_bt (by rfl) ?_
      walk_at "w"
      refine w_ixT (k := 1) hS (.dat hm) rfl rfl fun v1 hS1 => ?_
      walk_at "w"
      refine ⟨_, v1, a, rfl, hS1, .head _, wa, trivial, by (try dsimp only); omega, fun H2 hS2 => ?_⟩
      walk_at "w"
      refine w_ixT (k := 2) hS2.tail (.dat hm) rfl rfl fun v2 hS3 => ?_
      walk_at "w"
      refine ⟨_, v2, b, rfl, hS3, .head _, wb, trivial, by (try dsimp only); omega, fun H4 hS4 => ?_⟩
      walk_at "w"
      refine w_ixT (k := 3) hS4.tail (.dat hm) rfl rfl fun v3 hS5 => ?_
      walk_at "w"
      refine ⟨_, v3, c, rfl, hS5, .head _, wc, trivial, by (try dsimp only); omega, fun H6 hS6 => ?_⟩
      walk_at "w"
      have e : Tr.tx false (.ite a b c) = [105, 102, 32] ++ Tr.tx false a ++ [32, 116, 104, 101, 110, 32] ++ Tr.tx false b ++ [32, 101, 108, 115, 101, 32] ++ Tr.tx false c := by rw [Tr.tx]
      rw [e]
      exact ⟨_, rfl, hS6.tail⟩
    | set z e =>
      obtain ⟨we, hl⟩ := wo_set wo
      have he : e.ht < (Tr.set z e).ht := ht_lt (by simp [Tr.br])
      rw [Tr.d] at hm
      refine w_bf (by rfl) ?_
      walk_at "w"
      refine w_bt (by rfl) ?_
      walk_at "w"
      refine w_ixTs (k := 1) (m := S z) hS (.dat hm) rfl rfl ?_
      walk_at "w"
      refine w_ixT (k := 2) hS (.dat hm) rfl rfl fun v1 hS1 => ?_
      walk_at "w"
      refine ⟨_, v1, e, rfl, hS1, .head _, we, trivial, by (try dsimp only); omega, fun H2 hS2 => ?_⟩
      walk_at "w"
      have e2 : Tr.tx false (.set z e) = [115, 101, 116, 32] ++ z ++ [32, 61, 32] ++ Tr.tx false e := by rw [Tr.tx]
      rw [e2]
      exact ⟨_, rfl, hS2.tail⟩
    | op c a b =>
      obtain ⟨hc, wa, wb, hl⟩ := wo_op wo
      have ha : a.ht < (Tr.op c a b).ht := ht_lt (by simp [Tr.br])
      have hb : b.ht < (Tr.op c a b).ht := ht_lt (by simp [Tr.br])
      obtain ⟨u, hu, ru⟩ := kdB_get cf.kd_STRENGTHS (kvs_op hc)
      rw [Tr.d] at hm
      refine w_bf (by simp [Tr.kz]) ?_
      walk_at "w"
      refine w_bf (by simp [Tr.kz]) ?_
      walk_at "w"
      refine w_kdT hu ?_
      walk_at "w"
      refine ⟨_, u, .int (opl c : Int), rfl, rfl, hu, ru, ?_⟩
      walk_at "w"
      refine w_ifz (z := .int ((lef c : Nat) : Int)) (fun e R h => ?_) (fun e R h => ?_) ?_
      · have e : (opl c : Int) = 1 := of_decide_eq_true e
        have e1 : lef c = 2 := by unfold lef; rw [if_pos (by omega)]
        rw [e1] at h
        exact h
      · have e : ¬ (opl c : Int) = 1 := of_decide_eq_false e
        have e1 : lef c = opl c := by unfold lef; rw [if_neg (by omega)]
        rw [e1] at h
        walk_at "w"
        exact h
      walk_at "w"
      refine w_ixT (k := 1) hS (.dat hm) rfl rfl fun v1 hS1 => ?_
      walk_at "w"
      have hla := wr_len a (lef c)
      have hlb := wr_len b (opl c + 1)
      refine ⟨_, v1, a, lef c, rfl, hS1, .head _, wa, by omega, by have := lef_le c; omega, fun H2 hS2 => ?_⟩
      have e1 : S (Tr.op c a b).kz = S [c] := rfl
      rw [e1]
      walk_at "w"
      refine w_ixT (k := 2) hS2.tail (.dat hm) rfl rfl fun v2 hS3 => ?_
      walk_at "w"
      refine ⟨_, v2, b, opl c + 1, rfl, hS3, .head _, wb, by omega, by have := opl_le c; omega, fun H4 hS4 => ?_⟩
      walk_at "w"
      have e : Tr.tx false (.op c a b) = a.wr (lef c) ++ [32] ++ [c] ++ [32] ++ b.wr (opl c + 1) := by rw [Tr.tx]; simp [Tr.wr]
      rw [e]
      exact ⟨_, rfl, hS4.tail⟩
  · rintro σ' H' ⟨v5, rfl, hS2⟩
    walk_at "w"
    have hw := hQ _ hS2
    unfold Tr.wr par at hw
    by_cases h1 : t.lvl < l
    · refine w_bt (decide_eq_true (by omega)) ?_
      walk_at "w"
      rw [if_pos (decide_eq_true h1)] at hw
      exact hw
    · refine w_bf (decide_eq_false (by omega)) ?_
      walk_at "w"
      rw [if_neg (by simpa using h1)] at hw
      exact hw
end
end K02

/-! k02: the law's trees -/
namespace K02
open PySem PySem.Spec PyProof.Rows L2 Lg Tok Xp PySem.NumText
local macro_rules | `(tactic| walk_at "ar") => `(tactic| first | omega | (simp; done) | (simp; omega) | (simp only [S_len]; omega) | (simp [Lg.repL_len]; done) | (simp [Lg.repL_len]; omega))
local macro_rules | `(tactic| walk_at "gt") => `(tactic| repeat (first | exact GetAt.here | apply GetAt.there))
local macro_rules | `(tactic| walk_at "st") => `(tactic| repeat (first | exact SetAt.here | apply SetAt.there))
local macro_rules | `(tactic| walk_at "mem") => `(tactic| first | assumption | exact List.mem_cons_self | (apply List.mem_cons_of_mem; walk_at "mem"))
local macro_rules | `(tactic| walk_at "put") => `(tactic| repeat (first | exact Put.here | apply Put.there))
local macro_rules | `(tactic| walk_at "rem") => `(tactic| repeat (first | exact Rem.here | apply Rem.there))
local macro_rules | `(tactic| walk_at "pick") => `(tactic| first | exact Pick.refl | exact Pick.cons (by walk_at "rem") (by walk_at "pick") | (apply Pick.drop; walk_at "pick") | exact Pick.nil)
local macro_rules | `(tactic| walk_at "is") => `(tactic| first | exact Is.int | exact Is.str | exact Is.bl | exact Is.non | assumption | exact Is.dat (by walk_at "mem") | (apply Is.cons; walk_at "is"))
local macro_rules | `(tactic| walk_at "isall") => `(tactic| first | exact IsAll.nil | exact IsAll.cons (by walk_at "is") (by walk_at "isall"))
local macro_rules | `(tactic| walk_at "lsin") => `(tactic| first | assumption | exact LsIn.own (by walk_at "mem") | exact LsIn.dat (by walk_at "mem") | (apply LsIn.cons; walk_at "lsin"))
local macro_rules | `(tactic| walk_at "see") => `(tactic| first | exact See.own (by walk_at "mem") | exact See.is (by walk_at "is"))
local macro_rules | `(tactic| walk_at "w1") => `(tactic| first
  | (with_reducible apply Lg.w_seq)
  | (with_reducible apply Lg.w_asg)
  | ((with_reducible show gName _ _ _ _ _); (with_reducible refine Lg.w_name (by walk_at "st") ?_))
  | ((with_reducible show tVar _ _ _ _); (with_reducible refine Lg.w_var (by walk_at "gt") ?_))
  | (with_reducible apply Lg.w_c)
  | (with_reducible apply Lg.w_op)
  | (with_reducible apply Lg.w_un)
  | (with_reducible apply Lg.w_nil)
  | (with_reducible apply Lg.w_cons)
  | (with_reducible apply Lg.w_call)
  | (with_reducible apply Lg.w_cb)
  | (with_reducible apply Lg.w_tup)
  | (with_reducible apply Lg.w_lst)
  | (with_reducible apply Lg.w_bm)
  | (with_reducible apply Lg.w_bm0)
  | (with_reducible apply Lg.w_sl)
  | (with_reducible apply Lg.w_nopart)
  | (with_reducible apply Lg.w_part)
  | (with_reducible apply Lg.w_isint)
  | (with_reducible apply Lg.w_test)
  | (with_reducible apply Lg.w_tB)
  | (with_reducible apply Lg.w_isbl')
  | (with_reducible apply Lg.w_not)
  | (with_reducible apply Lg.w_tru)
  | (with_reducible apply Lg.w_truI)
  | (with_reducible apply Lg.w_truB)
  | (with_reducible apply Lg.w_ifs)
  | (with_reducible apply Lg.w_next)
  | (with_reducible apply Lg.w_break)
  | (with_reducible apply Lg.w_cont)
  | (with_reducible apply Lg.w_ret)
  | (with_reducible apply Lg.w_retn)
  | (with_reducible apply Lg.w_drop)
  | (with_reducible apply Lg.w_sub)
  | (with_reducible apply Lg.w_gnil)
  | (with_reducible apply Lg.w_gcons)
  | (with_reducible apply Lg.w_ifT)
  | (with_reducible apply Lg.w_ifF)
  | (with_reducible apply Lg.w_add)
  | (with_reducible apply Lg.w_sub2)
  | ((with_reducible show rTimes (V.int _) (V.int _) _ _); (with_reducible refine Lg.w_mulR (by omega) ?_))
  | ((with_reducible show rTimes (V.int _) (V.int _) _ _); (with_reducible refine Lg.w_mulL (by omega) ?_))
  | ((with_reducible show rMod (V.int _) (V.int _) _ _); (with_reducible refine Lg.w_mod (by first | decide | omega) ?_))
  | ((with_reducible show rFdiv (V.int _) (V.int _) _ _); (with_reducible refine Lg.w_fdiv (by first | decide | omega) ?_))
  | (with_reducible apply Lg.w_band)
  | (with_reducible apply Lg.w_lt)
  | (with_reducible apply Lg.w_le)
  | (with_reducible apply Lg.w_gt)
  | (with_reducible apply Lg.w_ge)
  | (with_reducible apply Lg.w_eqI)
  | (with_reducible apply Lg.w_neI)
  | (with_reducible apply Lg.w_intI2)
  | (with_reducible apply Lg.w_neg)
  | (with_reducible apply Lg.w_inSS)
  | (with_reducible apply Lg.w_ninSS)
  | (with_reducible apply Lg.w_inSS')
  | (with_reducible apply Lg.w_neSS)
  | (with_reducible apply Lg.w_strS)
  | (with_reducible apply Lg.w_fldE)
  | (with_reducible apply Lg.w_sfldE)
  | (with_reducible apply Lg.w_makeE)
  | (with_reducible apply Lg.w_methE)
  | (with_reducible apply Lg.w_methSE)
  | (with_reducible apply Lg.w_callS)
  | (with_reducible apply Lg.w_raiseO)
  | (with_reducible apply Lg.w_raiseB)
  | (with_reducible apply Lg.w_try)
  | (with_reducible apply Lg.w_strS)
  | (with_reducible apply Lg.w_eqSS)
  | (with_reducible apply Lg.w_eqS)
  | (with_reducible apply Lg.w_neS)
  | (with_reducible apply Lg.w_isN)
  | (with_reducible apply Lg.w_isR)
  | (with_reducible apply Lg.w_isI)
  | (with_reducible apply Lg.w_isS)
  | (with_reducible apply Lg.w_nsN)
  | (with_reducible apply Lg.w_nsR)
  | (with_reducible apply Lg.w_nsI)
  | (with_reducible apply Lg.w_nsS)
  | (with_reducible apply Lg.w_int)
  | (with_reducible apply Lg.w_intb)
  | (with_reducible apply Lg.w_ord1)
  | (with_reducible apply Lg.w_tyS)
  | (with_reducible apply Lg.w_inSg)
  | (with_reducible apply Lg.w_ninSg)
  | ((with_reducible show NewL _ _ _); (with_reducible refine Lg.w_newL (by assumption) (by walk_at "isall") (by simp) ?_); (intro p' H' hS'))
  | ((with_reducible show NewT _ _ _); (with_reducible refine Lg.w_newT (by assumption) (by walk_at "isall") (by simp) ?_); (intro p' H' hS'))
  | ((with_reducible show TyThen _ _ (V.ref _) _ _); (with_reducible refine Lg.w_tyL (by assumption) (by walk_at "lsin") ?_))
  | ((with_reducible show rLenX _ [V.ref _] _ _); (with_reducible refine Lg.w_lenL (by assumption) (by walk_at "lsin") ?_))
  | ((with_reducible show rLenX _ [V.ref _] _ _); (with_reducible refine Lg.w_lenT (by assumption) (by walk_at "is") ?_))
  | ((with_reducible show spDraw _ _ _ _ _); (with_reducible refine Lg.w_draw (by assumption) (by walk_at "mem") (by first | decide | omega) ?_); (intro k' H' hk0' hk1' hS'))
  | ((with_reducible show rSlX _ (V.ref _) _ _ _ _); (with_reducible refine Lg.w_slL (by assumption) (by walk_at "lsin") ?_); (intro p' H' hS'))
  | ((with_reducible show rListOf _ [V.ref _] _ _); (with_reducible refine Lg.w_listL (by assumption) (by walk_at "lsin") ?_); (intro p' H' hS'))
  | (with_reducible apply Lg.w_for)
  | (with_reducible apply Lg.w_lc)
  | ((with_reducible show iAny _ (tVar _) _ _ _); (with_reducible refine Lg.w_anyVar (by walk_at "gt") ?_))
  | (with_reducible apply Lg.w_anyC)
  | (with_reducible apply Lg.w_vS)
  | (with_reducible apply Lg.w_itS)
  | ((with_reducible show AnyV _ (V.ref _) _ _); (with_reducible refine Lg.w_vL (by assumption) (by walk_at "lsin") ?_))
  | ((with_reducible show AnyL _ (V.ref _) _ _); (with_reducible refine Lg.w_itL (by assumption) (by walk_at "lsin") ?_))
  | ((with_reducible show AnyV _ (V.ref _) _ _); (with_reducible refine Lg.w_vT (by assumption) (by walk_at "is") ?_))
  | ((with_reducible show AnyT _ (V.ref _) _ _); (with_reducible refine Lg.w_itT (by assumption) (by walk_at "is") ?_))
  | ((with_reducible show Enu _ [V.ref _] _ _); (with_reducible refine Lg.w_itE (by assumption) (by walk_at "lsin") ?_))
  | ((with_reducible show rPlus _ (V.ref _) (V.ref _) _ _); (with_reducible refine Lg.w_plusL (by assumption) (by walk_at "lsin") (by walk_at "lsin") (by walk_at "ar") ?_); (intro p' H' hS'))
  | ((with_reducible show rTimes (V.ref _) (V.int _) _ _); (with_reducible refine Lg.w_repLs (by assumption) (by walk_at "lsin") (by walk_at "ar") (by walk_at "ar") (by walk_at "ar") ?_); (intro p' H' hS'))
  | ((with_reducible show rLenX _ [V.str (S _)] _ _); (with_reducible refine Lg.w_lenSS (by walk_at "ar") ?_))
  | ((with_reducible show rLenX _ [V.str _] _ _); (with_reducible refine Lg.w_lenS (by walk_at "ar") ?_))
  | ((with_reducible show rSlX _ (V.str _) _ _ _ _); (with_reducible refine Lg.w_slS (by walk_at "ar") ?_))
  | (with_reducible apply Lg.w_rng1)
  | (with_reducible apply Lg.w_rng2)
  | (with_reducible apply Lg.w_rng3)
  | (with_reducible apply Lg.w_enum)
  | ((with_reducible show Rng1 _ _ _); (with_reducible refine Lg.w_itR1 (by omega) ?_))
  | ((with_reducible show Rng2 _ _ _); (with_reducible refine Lg.w_itR2 (by omega) (by omega) ?_))
  | ((with_reducible show rIx _ (V.ref _) (V.int _) _ _); (with_reducible refine Lg.w_ixN (by assumption) (by walk_at "lsin") (by walk_at "ar") (by walk_at "ar") ?_))
  | ((with_reducible show rPlus _ (V.str (S _)) (V.str (S _)) _ _); (with_reducible refine Lg.w_addSS (by walk_at "ar") ?_))
  | ((with_reducible show rTimes (V.str (S _)) (V.int _) _ _); (with_reducible refine Lg.w_repSS (by walk_at "ar") (by walk_at "ar") (by walk_at "ar") ?_))
  | ((with_reducible show rIsi _ [V.ref _, V.ty "list"] _ _); (with_reducible refine Lg.w_isLL (by assumption) (by walk_at "lsin") ?_))
  | ((with_reducible show rIsi _ [V.ref _, V.ty "tuple"] _ _); (with_reducible refine Lg.w_isTT (by assumption) (by walk_at "is") ?_))
  | (with_reducible apply Lg.w_isII)
  | (with_reducible apply Lg.w_isSI)
  | (with_reducible apply Lg.w_isSS)
  | (with_reducible apply Lg.w_isIS)
  | (with_reducible apply Lg.w_ifexp)
  | (with_reducible apply Lg.w_chain)
  | ((with_reducible show ChainK _ _ _ _ _ _ _); (with_reducible refine Lg.w_chainLe (by (intro R' hR'; walk_at "w"; exact hR')) ?_))
  | ((with_reducible show ChainK _ _ _ _ _ _ _); (with_reducible refine Lg.w_chainLt (by (intro R' hR'; walk_at "w"; exact hR')) ?_))
  | ((with_reducible show tAnd _ _ _ _ _); (with_reducible refine Lg.w_andP (by (intro R' hR'; walk_at "w"; exact hR')) (by (intro hb' R' hR'; walk_at "w"; exact hR')) ?_))
  | ((with_reducible show tOr _ _ _ _ _); (with_reducible refine Lg.w_orP (by (intro R' hR'; walk_at "w"; exact hR')) (by (intro hb' R' hR'; walk_at "w"; exact hR')) ?_))
  | ((with_reducible show tAndV _ _ _ _ _); (with_reducible refine Lg.w_andVP (by (intro R' hR'; walk_at "w"; exact hR')) (by (intro hb' R' hR'; walk_at "w"; exact hR')) ?_))
  | ((with_reducible show tOrV _ _ _ _ _); (with_reducible refine Lg.w_orVP (by (intro R' hR'; walk_at "w"; exact hR')) (by (intro hb' R' hR'; walk_at "w"; exact hR')) ?_))
  | (with_reducible apply Lg.w_notV))
local macro_rules | `(tactic| walk_at "w") => `(tactic| repeat (walk_at "w1"))
local macro_rules | `(tactic| walk_at "k") => `(tactic| repeat (first | walk_at "w1" | ((with_reducible show (if _ = true then _ else _ : Prop)); (first | (refine Lg.w_bt (by first | rfl | decide | (simp; done) | fail) ?_) | (refine Lg.w_bf (by first | rfl | decide | (simp; done) | fail) ?_) | fail))))
local macro_rules | `(tactic| walk_at "z") => `(tactic| simp only [z_0, z_1, z_2, z_3, z_4, z_5, z_6, z_7, z_8, z_9, z_10, z_11, z_12, z_13, z_14, z_15, z_16, z_17, z_18, z_19, z_20, z_21, z_22, z_23, z_24, z_25, z_26, z_27, z_28, z_29, z_30, z_31, z_32, z_33, z_34, z_35, z_36, z_37, z_38, z_39, z_40, z_41, z_42, z_43, z_44, z_45, z_46, z_47, z_48, z_49, z_50, z_51, z_52, z_53, z_54, z_55, z_56, z_57, z_58, z_59, z_60, z_61, z_62, z_63, z_64, z_65, z_66, z_67, z_68, z_69, z_70, z_71, z_72, z_73, z_74, z_75, z_76, z_77])
section
variable {K : PySem.W.Frag}
/-! ### the law's own trees and their texts (shared) -/
def spAlike (K : PySem.W.Frag) : Sp := fun vs H Q _ => ∃ (x y : V) (d : PyData) (n w : Nat), vs = [x, y] ∧ Dp K H x d ∧ Dp K H y d ∧ Shw n w d ∧ n ≤ 60 ∧ w ≤ 1048576 ∧ Q (.bl true) H
theorem p_alike (vs : List V) (H : Hp) (Q : VK) (E : XK) (h : spAlike K vs H Q E) : vs.length = 2 ∧ t_l_alike K { nx := fun _ H' => Q .non H', rt := Q } (start N_l_alike vs) H := by
  obtain ⟨x, y, d, n, w, rfl, hx, hy, sh, hn, hw, hQ⟩ := h
  refine ⟨rfl, ?_⟩
  unfold t_l_alike
  show tRet _ _ [some x, some y] H
  walk_at "w"
  refine ⟨x, d, n, w, rfl, hx, sh, hn, hw, ?_⟩
  walk_at "w"
  refine ⟨y, d, n, w, rfl, hy, sh, hn, hw, ?_⟩
  walk_at "w"
  rw [decide_eq_true rfl]
  exact hQ
abbrev nmD (z : List Nat) : PyData := .str (S z)
theorem sh_names {ns : List (List Nat)} (h : ∀ z ∈ ns, isName z = true) : SeqAt.shaped (.list (ns.map nmD)) = true := by
  refine (sh_list (n := 0) (w := 6) (m := (ns.map nmD).length * 7) (fun d hd => ?_) (Nat.le_refl _)).shaped (by decide)
  obtain ⟨z, hz, rfl⟩ := List.mem_map.mp hd
  obtain ⟨h1, h2⟩ := asc_word (h z hz)
  exact sh_str _ h1 h2
theorem sh_nil : SeqAt.shaped (.list []) = true := by decide +kernel
def spLAtom (K : PySem.W.Frag) : Sp := fun vs H Q _ => ∃ (L : List Ent) (b p : Addr) (ns : List (List Nat)), vs = [.ref b, .ref p] ∧ St K L H ∧ bx K b ∈ L ∧ LsIn K L p (ns.map nmD) ∧ (∀ z ∈ ns, isName z = true) ∧ ns.length ≤ 1000 ∧
  ∀ t v H', TO 1 t → St K (Lg.dat v t.d :: L) H' → Q v H'
theorem p_latom (vs : List V) (H : Hp) (Q : VK) (E : XK) (h : spLAtom K vs H Q E) : vs.length = 2 ∧ t_l_atom K (spDraw K) { nx := fun _ H' => Q .non H', rt := Q } (start N_l_atom vs) H := by
  obtain ⟨L, b, p, ns, rfl, hS, hb, hp, hns, hn, hQ⟩ := h
  refine ⟨rfl, ?_⟩
  unfold t_l_atom
  walk_at "z"
  show tSeq _ _ _ [some (.ref b), some (.ref p), none] H
  walk_at "w"
  rename_i k H1 hk0 hk1 hS1
  refine w_and3 (St K L) (fun H2 hS2 => ?_) (fun rest => ?_)
  · walk_at "w"
    refine w_ifd (fun e => ?_) (fun e => ?_)
    · walk_at "w"
      rename_i q3 H3 hS3 k4 H4 h40 h41 hS4
      refine w_ixLSP (P := fun m => Tk.ok (.s m)) hS4 (.own (.head _)) h40 (by simp; omega) (fun d hd => ?_) fun m hm => ?_
      · simp only [List.mem_cons, List.not_mem_nil, or_false] at hd
        rcases hd with rfl | rfl | rfl | rfl | rfl | rfl <;> exact ⟨_, rfl, okS_ok (by decide +kernel)⟩
      walk_at "w"
      rename_i q5 H5 hS5
      refine hQ (.str m) _ _ (.str hm) (?_ : St K _ _)
      rw [Tr.d]
      exact hS5.to (by walk_at "pick")
    · walk_at "w"
      rename_i q3 H3 hS3 k4 H4 h40 h41 hS4
      refine w_ixLP (P := fun m => 0 ≤ m ∧ m < 100000) hS4 (.own (.head _)) h40 (by simp; omega) (fun d hd => ?_) fun m hm => ?_
      · simp only [List.mem_cons, List.not_mem_nil, or_false] at hd
        rcases hd with rfl | rfl | rfl | rfl | rfl | rfl | rfl | rfl | rfl | rfl <;> exact ⟨_, rfl, by decide⟩
      obtain ⟨j, rfl⟩ := Int.eq_ofNat_of_zero_le hm.1
      walk_at "w"
      rename_i q5 H5 hS5
      refine hQ (.num j) _ _ (.num (by omega)) (?_ : St K _ _)
      rw [Tr.d]
      exact hS5.to (by walk_at "pick")
  · walk_at "w"
    refine w_ifd (fun e => ?_) (fun e => rest _ hS1)
    walk_at "w"
    rename_i q2 H2 hS2
    refine w_neD hS2 hp.cons.see (.own (.head _)) (sh_names hns) sh_nil ?_
    rw [eqv_nil]
    walk_at "w"
    by_cases hne : ns = []
    · have hr := rest _ hS2.tail
      subst hne
      exact hr
    · have e2 : (!(ns.map nmD).isEmpty) = true := by cases ns with
        | nil => exact absurd rfl hne
        | cons x r => rfl
      rw [e2]
      walk_at "w"
      have hS3 := hS2.tail
      have hpos : 0 < ns.length := List.length_pos_iff.mpr hne
      rw [List.length_map]
      walk_at "w"
      rename_i k4 H4 h40 h41 hS4
      refine w_ixLSP (P := fun m => isName m = true) hS4 hp h40 (by rw [List.length_map]; exact h41) (fun d hd => ?_) fun m hm => ?_
      · obtain ⟨z, hz, rfl⟩ := List.mem_map.mp hd
        exact ⟨z, rfl, hns z hz⟩
      walk_at "w"
      rename_i q5 H5 hS5
      refine hQ (.nam m) _ _ (.nam hm) (?_ : St K _ _)
      rw [Tr.d]
      exact hS5.to (by walk_at "pick")
/-- who may be called, with how many arguments -/
abbrev clD (c : List Nat × Nat) : PyData := .tuple [.str (S c.1), .int (c.2 : Nat)]
theorem sh_calls {cs : List (List Nat × Nat)} (h : ∀ c ∈ cs, isName c.1 = true ∧ c.2 ≤ 3) : SeqAt.shaped (.list (cs.map clD)) = true := by
  refine (sh_list (n := 1) (w := 86) (m := (cs.map clD).length * 87) (fun d hd => ?_) (Nat.le_refl _)).shaped (by decide)
  obtain ⟨c, hc, rfl⟩ := List.mem_map.mp hd
  obtain ⟨h1, h2⟩ := asc_word (h c hc).1
  refine sh_tuple (n := 0) (w := 42) (fun d hd => ?_) (by simp)
  simp only [List.mem_cons, List.not_mem_nil, or_false] at hd
  rcases hd with rfl | rfl
  · exact (sh_str 0 h1 (Nat.le_refl _)).mono (Nat.le_refl _) (by omega)
  · exact sh_int _ (by have := (h c hc).2; omega) (by omega)
theorem trs_of {n : Nat} : ∀ {es : List PyData}, (∀ e ∈ es, ∃ t : Tr, TO n t ∧ e = t.d) → ∃ ts : List Tr, es = ts.map Tr.d ∧ ∀ t ∈ ts, TO n t
  | [], _ => ⟨[], rfl, fun _ h => by cases h⟩
  | e :: r, h => by
    obtain ⟨t, ht, rfl⟩ := h e (.head _)
    obtain ⟨ts, rfl, hts⟩ := trs_of fun e he => h e (.tail _ he)
    exact ⟨t :: ts, rfl, fun u hu => by
      rcases List.mem_cons.mp hu with rfl | hu
      · exact ht
      · exact hts u hu⟩
def spLTree (d : Nat) (K : PySem.W.Frag) : Sp := fun vs H Q _ => ∃ (L : List Ent) (b p q : Addr) (ns : List (List Nat)) (cs : List (List Nat × Nat)) (i : Int) (dp : Nat), vs = [.ref b, .ref p, .ref q, .int i] ∧ i = (dp : Nat) ∧ dp < d ∧ dp ≤ 100 ∧ St K L H ∧ bx K b ∈ L ∧
  LsIn K L p (ns.map nmD) ∧ (∀ z ∈ ns, isName z = true) ∧ ns.length ≤ 1000 ∧ LsIn K L q (cs.map clD) ∧ (∀ c ∈ cs, isName c.1 = true ∧ c.2 ≤ 3) ∧ cs.length ≤ 1000 ∧
  ∀ t v H', TO (dp + 1) t → St K (Lg.dat v t.d :: L) H' → Q v H'
def pqOut (ns : List (List Nat)) : List (List Nat) := ns.filter fun z => !decide (z ∈ [[112], [113]])
def pqF : PyData → Option PyData
  | .str x => if x.cps.toList ∈ [[112], [113]] then none else some (.str x)
  | _ => none
theorem pqF_S (z : List Nat) : pqF (.str (S z)) = if z ∈ [[112], [113]] then none else some (.str (S z)) := by simp [pqF, S]
theorem pqF_all : ∀ ns : List (List Nat), (ns.map nmD).filterMap pqF = (pqOut ns).map nmD
  | [] => rfl
  | z :: r => by
    have ih := pqF_all r
    unfold pqOut at ih ⊢
    rw [List.map_cons, List.filterMap_cons, pqF_S, List.filter_cons]
    by_cases h : z ∈ [[112], [113]]
    · rw [if_pos h, if_neg (by simp only [decide_eq_true h]; decide)]
      exact ih
    · rw [if_neg h, if_pos (by simp only [decide_eq_false h]; decide), List.map_cons, ← ih]
theorem p_ltree (d : Nat) (vs : List V) (H : Hp) (Q : VK) (E : XK) (h : spLTree (d + 1) K vs H Q E) : vs.length = 4 ∧ t_l_tree K (spLTree d K) (spDraw K) (spLAtom K) { nx := fun _ H' => Q .non H', rt := Q } (start N_l_tree vs) H := by
  obtain ⟨L, b, p, q, ns, cs, i, dp, rfl, hi, hd1, hd2, hS, hb, hp, hns, hn, hq, hcs, hc, hQ⟩ := h
  refine ⟨rfl, ?_⟩
  unfold t_l_tree
  walk_at "z"
  show tSeq _ _ _ [some (.ref b), some (.ref p), some (.ref q), some (.int i), none, none, none, none, none, none, none] H
  walk_at "w"
  rename_i k H1 hk0 hk1 hS1
  clear hS H
  refine w_ite (fun e => ?_) (fun e => ?_)
  · walk_at "w"
    exact ⟨L, b, p, ns, rfl, hS1, hb, hp, hns, hn, fun t v H' ht hS' => hQ t v H' (ht.le (by omega)) hS'⟩
  have hpos : 1 ≤ dp := by
    have : ¬ i ≤ 0 := by simp at e; omega
    omega
  obtain ⟨dp, rfl⟩ : ∃ z, dp = z + 1 := ⟨dp - 1, by omega⟩
  have hi1 : i - 1 = ((dp : Nat) : Int) := by omega
  clear e
  -- a call for a part
  have part : ∀ (L' : List Ent) (H' : Hp) (Q' : VK) (E' : XK), (∀ x ∈ L, x ∈ L') → St K L' H' → (∀ t v H2, TO (dp + 1) t → St K (Lg.dat v t.d :: L') H2 → Q' v H2) → spLTree d K [.ref b, .ref p, .ref q, .int (i - 1)] H' Q' E' := fun L' H' Q' E' hm hS' h =>
    ⟨L', b, p, q, ns, cs, i - 1, dp, rfl, hi1, by omega, by omega, hS', hm _ hb, hp.more hm, hns, hn, hq.more hm, hcs, hc, h⟩
  walk_at "w"
  refine w_ifd (fun e => ?_) (fun e => ?_)
  · walk_at "w"
    refine part L _ _ _ (fun _ h => h) hS1 fun t1 v1 H2 ht1 hS2 => ?_
    walk_at "w"
    rename_i q3 H3 hS3 k4 H4 h40 h41 hS4
    refine w_ixLSP (P := fun m => ∃ c, m = [c] ∧ c ∈ [43, 45, 42, 60, 61]) hS4 (.own (.head _)) h40 (by simp; omega) (fun d hd => ?_) fun m hm => ?_
    · simp only [List.mem_cons, List.not_mem_nil, or_false] at hd
      rcases hd with rfl | rfl | rfl | rfl | rfl | rfl <;> exact ⟨_, rfl, _, rfl, by decide⟩
    obtain ⟨c, rfl, hc5⟩ := hm
    walk_at "w"
    refine part _ _ _ _ (fun _ h => .tail _ (.tail _ h)) hS4 fun t2 v2 H5 ht2 hS5 => ?_
    walk_at "w"
    rename_i q6 H6 hS6
    refine hQ (.op c t1 t2) _ _ (.op hc5 ht1 ht2) (?_ : St K _ _)
    rw [Tr.d]
    exact hS6.to (by walk_at "pick")
  walk_at "w"
  refine w_ifd (fun e9 => ?_) (fun e9 => ?_)
  · walk_at "w"
    refine part L _ _ _ (fun _ h => h) hS1 fun t1 v1 H2 ht1 hS2 => ?_
    walk_at "w"
    refine part _ _ _ _ (fun _ h => .tail _ h) hS2 fun t2 v2 H3 ht2 hS3 => ?_
    walk_at "w"
    refine part _ _ _ _ (fun _ h => .tail _ (.tail _ h)) hS3 fun t3 v3 H5 ht3 hS5 => ?_
    walk_at "w"
    rename_i q6 H6 hS6
    refine hQ (.ite t1 t2 t3) _ _ (.ite ht1 ht2 ht3) (?_ : St K _ _)
    rw [Tr.d]
    exact hS6.to (by walk_at "pick")
  walk_at "w"
  refine w_lcG pqF hS1 hp (by rw [List.length_map]; omega) (fun v d H2 q2 es Z1 Z2 hd hS2 h1 h2 => ?_) fun q2 H2 hS2 => ?_
  · obtain ⟨z, hz, rfl⟩ := List.mem_map.mp hd
    obtain rfl := hS2.str_of
    show gName 8 _ [some (.ref b), some (.ref p), some (.ref q), some (.int i), some (.int k), none, none, none, none, none, none] _ _
    walk_at "w"
    refine ⟨rfl, ?_⟩
    walk_at "w"
    rename_i q3 H3 hS3
    refine w_ninTS (ys := [[112], [113]]) hS3 (.dat (.head _)) ?_
    rw [pqF_S] at h1 h2
    by_cases hz2 : z ∈ [[112], [113]]
    · rw [decide_eq_true hz2]
      rw [if_pos hz2] at h2
      walk_at "w"
      refine w_bf rfl ?_
      exact h2 rfl _ (hS3.to (by walk_at "pick"))
    · rw [decide_eq_false hz2]
      rw [if_neg hz2] at h1
      walk_at "w"
      refine w_bt rfl ?_
      walk_at "w"
      exact h1 _ rfl _ _ (hS3.to (by walk_at "pick"))
  rw [pqF_all] at hS2
  have hpo : ∀ z ∈ pqOut ns, isName z = true := fun z hz => hns z (List.mem_filter.mp hz).1
  have hpl : (pqOut ns).length ≤ 1000 := Nat.le_trans (List.length_filter_le _ _) hn
  walk_at "w"
  refine w_and3 (fun H3 => ∃ L', (∀ x ∈ L, x ∈ L') ∧ St K L' H3) (fun H3 hS3 => ?_) (fun rest => ?_)
  · obtain ⟨L', hm, hS3⟩ := hS3
    have hb' := hm _ hb
    walk_at "w"
    refine w_ifd (fun e11 => ?_) (fun e11 => ?_)
    · walk_at "w"
      refine part _ _ _ _ hm hS3 fun t1 v1 H4 ht1 hS4 => ?_
      walk_at "w"
      refine part _ _ _ _ (fun _ h => .tail _ (hm _ h)) hS4 fun t2 v2 H5 ht2 hS5 => ?_
      walk_at "w"
      rename_i q6 H6 hS6
      refine hQ (.thn t1 t2) _ _ (.thn ht1 ht2) (?_ : St K _ _)
      rw [Tr.d]
      refine hS6.mono_mem (fun x hx => ?_) ?_
      · rcases List.mem_cons.mp hx with rfl | hx
        · exact .head _
        · exact .tail _ (.tail _ (.tail _ (hm _ hx)))
      · exact hS1.nd
    walk_at "w"
    rename_i q4 H4 hS4
    refine w_eqD hS4 (LsIn.see (hq.more (fun x hx => .tail _ (hm x hx)))) (.own (.head _)) (sh_calls hcs) sh_nil ?_
    rw [eqv_nil]
    by_cases hne : cs = []
    · subst hne
      walk_at "k"
      exact ⟨_, b, p, ns, rfl, hS4.tail, hb', hp.more hm, hns, hn, fun t v H' ht hS' => hQ t v H' (ht.le (by omega)) (hS'.mono_mem (fun x hx => by
        rcases List.mem_cons.mp hx with rfl | hx
        · exact .head _
        · exact .tail _ (hm _ hx)) hS1.nd)⟩
    · have e2 : (cs.map clD).isEmpty = false := by cases cs with
        | nil => exact absurd rfl hne
        | cons x r => rfl
      rw [e2]
      have hS5 := hS4.tail
      have hpos : 0 < cs.length := List.length_pos_iff.mpr hne
      have hq' := hq.more hm
      walk_at "k"
      rw [List.length_map]
      walk_at "w"
      rename_i k6 H6 h60 h61 hS6
      refine w_ixLD (P := fun d => ∃ c ∈ cs, d = clD c) hS6 (hq.more hm) h60 (by rw [List.length_map]; exact h61) (fun d hd => ?_) fun v d hd hS7 => ?_
      · obtain ⟨z, hz, rfl⟩ := List.mem_map.mp hd
        exact ⟨z, hz, rfl⟩
      obtain ⟨c, hc1, rfl⟩ := hd
      obtain ⟨hcn, hc3⟩ := hcs c hc1
      obtain ⟨q7, rfl⟩ := hS7.tup_of
      walk_at "w"
      refine w_unpT2 hS7 (.dat (.head _)) fun u1 u2 hS8 => ?_
      obtain rfl := hS8.str_of
      obtain rfl := hS8.tail.int_of
      walk_at "w"
      have hS9 := hS8.tail.tail.tail
      refine w_lcR (R := fun _ e => ∃ t, TO (dp + 1) t ∧ e = t.d) hS9 (by omega) ?_ ?_
      · intro j q10 es H10 hj hlen hS10 Z hZ
        show gName 10 _ [some (.ref b), some (.ref p), some (.ref q), some (.int i), some (.int k), none, none, some (.ref q2), some (.str (S c.1)), some (.int (c.2 : Nat)), none] _ _
        walk_at "w"
        refine ⟨rfl, ?_⟩
        walk_at "w"
        exact part _ _ _ _ (fun _ h => .tail _ (hm _ h)) hS10 fun t v H11 ht hS11 => hZ v _ H11 ⟨t, ht, rfl⟩ hS11
      · intro q10 es H10 hlen hR hS10
        obtain ⟨ts, rfl, hts⟩ := trs_of (es := es) fun e he => by
          obtain ⟨j, hj⟩ := List.getElem?_of_mem he
          exact hR j e hj
        walk_at "w"
        refine w_tupL hS10 (.own (.head _)) fun q11 H11 hS11 => ?_
        walk_at "w"
        rename_i q12 H12 hS12
        have htl : ts.length ≤ 3 := by rw [List.length_map] at hlen; omega
        refine hQ (.call c.1 ts) _ _ (.call hcn htl hts) (?_ : St K _ _)
        rw [Tr.d, ds_eq]
        refine hS12.mono_mem (fun x hx => ?_) ?_
        · rcases List.mem_cons.mp hx with rfl | hx
          · exact .head _
          · exact .tail _ (.tail _ (.tail _ (hm _ hx)))
        · exact hS1.nd
  · walk_at "w"
    refine w_ifd (fun e10 => ?_) (fun e10 => rest _ ⟨_, fun x hx => .tail _ hx, hS2⟩)
    walk_at "w"
    rename_i q3 H3 hS3
    refine w_neD hS3 (.own (.tail _ (.head _))) (.own (.head _)) (sh_names hpo) sh_nil ?_
    rw [eqv_nil]
    walk_at "w"
    by_cases hne : pqOut ns = []
    · have e2 : (!((pqOut ns).map nmD).isEmpty) = false := by rw [hne]; rfl
      rw [e2]
      exact rest _ ⟨_, fun x hx => .tail _ (.tail _ hx), hS3⟩
    · have e2 : (!((pqOut ns).map nmD).isEmpty) = true := by
        cases hz : pqOut ns with
        | nil => exact absurd hz hne
        | cons x r => rfl
      rw [e2]
      have hS4 := hS3.tail
      have hpos : 0 < (pqOut ns).length := List.length_pos_iff.mpr hne
      walk_at "k"
      rw [List.length_map]
      walk_at "w"
      rename_i k5 H5 h50 h51 hS5
      refine w_ixLSP (P := fun m => isName m = true) hS5 (.own (.head _)) h50 (by rw [List.length_map]; exact h51) (fun d hd => ?_) fun m hm => ?_
      · obtain ⟨z, hz, rfl⟩ := List.mem_map.mp hd
        exact ⟨z, rfl, hpo z hz⟩
      walk_at "w"
      refine part _ _ _ _ (fun _ h => .tail _ h) hS5 fun t2 v2 H6 ht2 hS6 => ?_
      walk_at "w"
      rename_i q7 H7 hS7
      refine hQ (.set m t2) _ _ (.set hm ht2) (?_ : St K _ _)
      rw [Tr.d]
      exact hS7.to (by walk_at "pick")
end
end K02


/-! k02: the texts of the law -/
namespace K02
open PySem PySem.Spec PyProof.Rows L2 Lg Tok Xp PySem.NumText
local macro_rules | `(tactic| walk_at "ar") => `(tactic| first | omega | (simp; done) | (simp; omega) | (simp only [S_len]; omega) | (simp [Lg.repL_len]; done) | (simp [Lg.repL_len]; omega))
local macro_rules | `(tactic| walk_at "gt") => `(tactic| repeat (first | exact GetAt.here | apply GetAt.there))
local macro_rules | `(tactic| walk_at "st") => `(tactic| repeat (first | exact SetAt.here | apply SetAt.there))
local macro_rules | `(tactic| walk_at "mem") => `(tactic| first | assumption | exact List.mem_cons_self | (apply List.mem_cons_of_mem; walk_at "mem"))
local macro_rules | `(tactic| walk_at "put") => `(tactic| repeat (first | exact Put.here | apply Put.there))
local macro_rules | `(tactic| walk_at "rem") => `(tactic| repeat (first | exact Rem.here | apply Rem.there))
local macro_rules | `(tactic| walk_at "pick") => `(tactic| first | exact Pick.refl | exact Pick.cons (by walk_at "rem") (by walk_at "pick") | (apply Pick.drop; walk_at "pick") | exact Pick.nil)
local macro_rules | `(tactic| walk_at "is") => `(tactic| first | exact Is.int | exact Is.str | exact Is.bl | exact Is.non | assumption | exact Is.dat (by walk_at "mem") | (apply Is.cons; walk_at "is"))
local macro_rules | `(tactic| walk_at "isall") => `(tactic| first | exact IsAll.nil | exact IsAll.cons (by walk_at "is") (by walk_at "isall"))
local macro_rules | `(tactic| walk_at "lsin") => `(tactic| first | assumption | exact LsIn.own (by walk_at "mem") | exact LsIn.dat (by walk_at "mem") | (apply LsIn.cons; walk_at "lsin"))
local macro_rules | `(tactic| walk_at "see") => `(tactic| first | exact See.own (by walk_at "mem") | exact See.is (by walk_at "is"))
local macro_rules | `(tactic| walk_at "w1") => `(tactic| first
  | (with_reducible apply Lg.w_seq)
  | (with_reducible apply Lg.w_asg)
  | ((with_reducible show gName _ _ _ _ _); (with_reducible refine Lg.w_name (by walk_at "st") ?_))
  | ((with_reducible show tVar _ _ _ _); (with_reducible refine Lg.w_var (by walk_at "gt") ?_))
  | (with_reducible apply Lg.w_c)
  | (with_reducible apply Lg.w_op)
  | (with_reducible apply Lg.w_un)
  | (with_reducible apply Lg.w_nil)
  | (with_reducible apply Lg.w_cons)
  | (with_reducible apply Lg.w_call)
  | (with_reducible apply Lg.w_cb)
  | (with_reducible apply Lg.w_tup)
  | (with_reducible apply Lg.w_lst)
  | (with_reducible apply Lg.w_bm)
  | (with_reducible apply Lg.w_bm0)
  | (with_reducible apply Lg.w_sl)
  | (with_reducible apply Lg.w_nopart)
  | (with_reducible apply Lg.w_part)
  | (with_reducible apply Lg.w_isint)
  | (with_reducible apply Lg.w_test)
  | (with_reducible apply Lg.w_tB)
  | (with_reducible apply Lg.w_isbl')
  | (with_reducible apply Lg.w_not)
  | (with_reducible apply Lg.w_tru)
  | (with_reducible apply Lg.w_truI)
  | (with_reducible apply Lg.w_truB)
  | (with_reducible apply Lg.w_ifs)
  | (with_reducible apply Lg.w_next)
  | (with_reducible apply Lg.w_break)
  | (with_reducible apply Lg.w_cont)
  | (with_reducible apply Lg.w_ret)
  | (with_reducible apply Lg.w_retn)
  | (with_reducible apply Lg.w_drop)
  | (with_reducible apply Lg.w_sub)
  | (with_reducible apply Lg.w_gnil)
  | (with_reducible apply Lg.w_gcons)
  | (with_reducible apply Lg.w_ifT)
  | (with_reducible apply Lg.w_ifF)
  | (with_reducible apply Lg.w_add)
  | (with_reducible apply Lg.w_sub2)
  | ((with_reducible show rTimes (V.int _) (V.int _) _ _); (with_reducible refine Lg.w_mulR (by omega) ?_))
  | ((with_reducible show rTimes (V.int _) (V.int _) _ _); (with_reducible refine Lg.w_mulL (by omega) ?_))
  | ((with_reducible show rMod (V.int _) (V.int _) _ _); (with_reducible refine Lg.w_mod (by first | decide | omega) ?_))
  | ((with_reducible show rFdiv (V.int _) (V.int _) _ _); (with_reducible refine Lg.w_fdiv (by first | decide | omega) ?_))
  | (with_reducible apply Lg.w_band)
  | (with_reducible apply Lg.w_lt)
  | (with_reducible apply Lg.w_le)
  | (with_reducible apply Lg.w_gt)
  | (with_reducible apply Lg.w_ge)
  | (with_reducible apply Lg.w_eqI)
  | (with_reducible apply Lg.w_neI)
  | (with_reducible apply Lg.w_intI2)
  | (with_reducible apply Lg.w_neg)
  | (with_reducible apply Lg.w_inSS)
  | (with_reducible apply Lg.w_ninSS)
  | (with_reducible apply Lg.w_inSS')
  | (with_reducible apply Lg.w_neSS)
  | (with_reducible apply Lg.w_strS)
  | (with_reducible apply Lg.w_fldE)
  | (with_reducible apply Lg.w_sfldE)
  | (with_reducible apply Lg.w_makeE)
  | (with_reducible apply Lg.w_methE)
  | (with_reducible apply Lg.w_methSE)
  | (with_reducible apply Lg.w_callS)
  | (with_reducible apply Lg.w_raiseO)
  | (with_reducible apply Lg.w_raiseB)
  | (with_reducible apply Lg.w_try)
  | (with_reducible apply Lg.w_strS)
  | (with_reducible apply Lg.w_eqSS)
  | (with_reducible apply Lg.w_eqS)
  | (with_reducible apply Lg.w_neS)
  | (with_reducible apply Lg.w_isN)
  | (with_reducible apply Lg.w_isR)
  | (with_reducible apply Lg.w_isI)
  | (with_reducible apply Lg.w_isS)
  | (with_reducible apply Lg.w_nsN)
  | (with_reducible apply Lg.w_nsR)
  | (with_reducible apply Lg.w_nsI)
  | (with_reducible apply Lg.w_nsS)
  | (with_reducible apply Lg.w_int)
  | (with_reducible apply Lg.w_intb)
  | (with_reducible apply Lg.w_ord1)
  | (with_reducible apply Lg.w_tyS)
  | (with_reducible apply Lg.w_inSg)
  | (with_reducible apply Lg.w_ninSg)
  | ((with_reducible show NewL _ _ _); (with_reducible refine Lg.w_newL (by assumption) (by walk_at "isall") (by simp) ?_); (intro p' H' hS'))
  | ((with_reducible show NewT _ _ _); (with_reducible refine Lg.w_newT (by assumption) (by walk_at "isall") (by simp) ?_); (intro p' H' hS'))
  | ((with_reducible show TyThen _ _ (V.ref _) _ _); (with_reducible refine Lg.w_tyL (by assumption) (by walk_at "lsin") ?_))
  | ((with_reducible show rLenX _ [V.ref _] _ _); (with_reducible refine Lg.w_lenL (by assumption) (by walk_at "lsin") ?_))
  | ((with_reducible show rLenX _ [V.ref _] _ _); (with_reducible refine Lg.w_lenT (by assumption) (by walk_at "is") ?_))
  | ((with_reducible show spDraw _ _ _ _ _); (with_reducible refine Lg.w_draw (by assumption) (by walk_at "mem") (by first | decide | omega) ?_); (intro k' H' hk0' hk1' hS'))
  | ((with_reducible show rSlX _ (V.ref _) _ _ _ _); (with_reducible refine Lg.w_slL (by assumption) (by walk_at "lsin") ?_); (intro p' H' hS'))
  | ((with_reducible show rListOf _ [V.ref _] _ _); (with_reducible refine Lg.w_listL (by assumption) (by walk_at "lsin") ?_); (intro p' H' hS'))
  | (with_reducible apply Lg.w_for)
  | (with_reducible apply Lg.w_lc)
  | ((with_reducible show iAny _ (tVar _) _ _ _); (with_reducible refine Lg.w_anyVar (by walk_at "gt") ?_))
  | (with_reducible apply Lg.w_anyC)
  | (with_reducible apply Lg.w_vS)
  | (with_reducible apply Lg.w_itS)
  | ((with_reducible show AnyV _ (V.ref _) _ _); (with_reducible refine Lg.w_vL (by assumption) (by walk_at "lsin") ?_))
  | ((with_reducible show AnyL _ (V.ref _) _ _); (with_reducible refine Lg.w_itL (by assumption) (by walk_at "lsin") ?_))
  | ((with_reducible show AnyV _ (V.ref _) _ _); (with_reducible refine Lg.w_vT (by assumption) (by walk_at "is") ?_))
  | ((with_reducible show AnyT _ (V.ref _) _ _); (with_reducible refine Lg.w_itT (by assumption) (by walk_at "is") ?_))
  | ((with_reducible show Enu _ [V.ref _] _ _); (with_reducible refine Lg.w_itE (by assumption) (by walk_at "lsin") ?_))
  | ((with_reducible show rPlus _ (V.ref _) (V.ref _) _ _); (with_reducible refine Lg.w_plusL (by assumption) (by walk_at "lsin") (by walk_at "lsin") (by walk_at "ar") ?_); (intro p' H' hS'))
  | ((with_reducible show rTimes (V.ref _) (V.int _) _ _); (with_reducible refine Lg.w_repLs (by assumption) (by walk_at "lsin") (by walk_at "ar") (by walk_at "ar") (by walk_at "ar") ?_); (intro p' H' hS'))
  | ((with_reducible show rLenX _ [V.str (S _)] _ _); (with_reducible refine Lg.w_lenSS (by walk_at "ar") ?_))
  | ((with_reducible show rLenX _ [V.str _] _ _); (with_reducible refine Lg.w_lenS (by walk_at "ar") ?_))
  | ((with_reducible show rSlX _ (V.str _) _ _ _ _); (with_reducible refine Lg.w_slS (by walk_at "ar") ?_))
  | (with_reducible apply Lg.w_rng1)
  | (with_reducible apply Lg.w_rng2)
  | (with_reducible apply Lg.w_rng3)
  | (with_reducible apply Lg.w_enum)
  | ((with_reducible show Rng1 _ _ _); (with_reducible refine Lg.w_itR1 (by omega) ?_))
  | ((with_reducible show Rng2 _ _ _); (with_reducible refine Lg.w_itR2 (by omega) (by omega) ?_))
  | ((with_reducible show rIx _ (V.ref _) (V.int _) _ _); (with_reducible refine Lg.w_ixN (by assumption) (by walk_at "lsin") (by walk_at "ar") (by walk_at "ar") ?_))
  | ((with_reducible show rPlus _ (V.str (S _)) (V.str (S _)) _ _); (with_reducible refine Lg.w_addSS (by walk_at "ar") ?_))
  | ((with_reducible show rTimes (V.str (S _)) (V.int _) _ _); (with_reducible refine Lg.w_repSS (by walk_at "ar") (by walk_at "ar") (by walk_at "ar") ?_))
  | ((with_reducible show rIsi _ [V.ref _, V.ty "list"] _ _); (with_reducible refine Lg.w_isLL (by assumption) (by walk_at "lsin") ?_))
  | ((with_reducible show rIsi _ [V.ref _, V.ty "tuple"] _ _); (with_reducible refine Lg.w_isTT (by assumption) (by walk_at "is") ?_))
  | (with_reducible apply Lg.w_isII)
  | (with_reducible apply Lg.w_isSI)
  | (with_reducible apply Lg.w_isSS)
  | (with_reducible apply Lg.w_isIS)
  | (with_reducible apply Lg.w_ifexp)
  | (with_reducible apply Lg.w_chain)
  | ((with_reducible show ChainK _ _ _ _ _ _ _); (with_reducible refine Lg.w_chainLe (by (intro R' hR'; walk_at "w"; exact hR')) ?_))
  | ((with_reducible show ChainK _ _ _ _ _ _ _); (with_reducible refine Lg.w_chainLt (by (intro R' hR'; walk_at "w"; exact hR')) ?_))
  | ((with_reducible show tAnd _ _ _ _ _); (with_reducible refine Lg.w_andP (by (intro R' hR'; walk_at "w"; exact hR')) (by (intro hb' R' hR'; walk_at "w"; exact hR')) ?_))
  | ((with_reducible show tOr _ _ _ _ _); (with_reducible refine Lg.w_orP (by (intro R' hR'; walk_at "w"; exact hR')) (by (intro hb' R' hR'; walk_at "w"; exact hR')) ?_))
  | ((with_reducible show tAndV _ _ _ _ _); (with_reducible refine Lg.w_andVP (by (intro R' hR'; walk_at "w"; exact hR')) (by (intro hb' R' hR'; walk_at "w"; exact hR')) ?_))
  | ((with_reducible show tOrV _ _ _ _ _); (with_reducible refine Lg.w_orVP (by (intro R' hR'; walk_at "w"; exact hR')) (by (intro hb' R' hR'; walk_at "w"; exact hR')) ?_))
  | (with_reducible apply Lg.w_notV))
local macro_rules | `(tactic| walk_at "w") => `(tactic| repeat (walk_at "w1"))
local macro_rules | `(tactic| walk_at "k") => `(tactic| repeat (first | walk_at "w1" | ((with_reducible show (if _ = true then _ else _ : Prop)); (first | (refine Lg.w_bt (by first | rfl | decide | (simp; done) | fail) ?_) | (refine Lg.w_bf (by first | rfl | decide | (simp; done) | fail) ?_) | fail))))
local macro_rules | `(tactic| walk_at "z") => `(tactic| simp only [z_0, z_1, z_2, z_3, z_4, z_5, z_6, z_7, z_8, z_9, z_10, z_11, z_12, z_13, z_14, z_15, z_16, z_17, z_18, z_19, z_20, z_21, z_22, z_23, z_24, z_25, z_26, z_27, z_28, z_29, z_30, z_31, z_32, z_33, z_34, z_35, z_36, z_37, z_38, z_39, z_40, z_41, z_42, z_43, z_44, z_45, z_46, z_47, z_48, z_49, z_50, z_51, z_52, z_53, z_54, z_55, z_56, z_57, z_58, z_59, z_60, z_61, z_62, z_63, z_64, z_65, z_66, z_67, z_68, z_69, z_70, z_71, z_72, z_73, z_74, z_75, z_76, z_77])
section
variable {K : PySem.W.Frag}
/-! ### the law's own texts of trees (shared) -/
theorem w_intB2 {b : Bool} {Q : VK} {H : Hp} (h : Q (.int (if b then 1 else 0)) H) : rIntY [.bl b] H Q := .inl (w_intb h)
theorem kz_l0 {t : Tr} (ok : t.ok) : t.kz ∈ [zif, zset] ↔ t.lvl = 0 := by
  cases t with
  | op c a b =>
    have : opl c ≠ 0 := by unfold opl; split; simp; split <;> simp
    simp [Tr.kz, Tr.lvl, this]
  | _ => simp only [Tr.kz, Tr.lvl]; decide
theorem kz_l1 {t : Tr} (ok : t.ok) : t.kz ∈ [[60], [61]] ↔ t.lvl = 1 := by
  cases t with
  | op c a b =>
    rw [Tr.ok] at ok
    have := ok.1
    simp only [List.mem_cons, List.not_mem_nil, or_false] at this
    rcases this with rfl | rfl | rfl | rfl | rfl <;> simp [Tr.kz, Tr.lvl, opl]
  | _ => simp only [Tr.kz, Tr.lvl]; decide
theorem kz_l2 {t : Tr} (ok : t.ok) : t.kz ∈ [[43], [45]] ↔ t.lvl = 2 := by
  cases t with
  | op c a b =>
    rw [Tr.ok] at ok
    have := ok.1
    simp only [List.mem_cons, List.not_mem_nil, or_false] at this
    rcases this with rfl | rfl | rfl | rfl | rfl <;> simp [Tr.kz, Tr.lvl, opl]
  | _ => simp only [Tr.kz, Tr.lvl]; decide
theorem kz_l3 {t : Tr} (ok : t.ok) : t.kz = [42] ↔ t.lvl = 3 := by
  cases t with
  | op c a b =>
    rw [Tr.ok] at ok
    have := ok.1
    simp only [List.mem_cons, List.not_mem_nil, or_false] at this
    rcases this with rfl | rfl | rfl | rfl | rfl <;> simp [Tr.kz, Tr.lvl, opl]
  | _ => simp only [Tr.kz, Tr.lvl]; decide
theorem kz_hd (t : Tr) : ∃ ds, t.d = .tuple (.str (S t.kz) :: ds) := by cases t <;> (rw [Tr.d]; exact ⟨_, rfl⟩)
def spLLevel (K : PySem.W.Frag) : Sp := fun vs H Q _ => ∃ (L : List Ent) (v : V) (t : Tr), vs = [v] ∧ St K L H ∧ Lg.dat v t.d ∈ L ∧ t.ok ∧ ∀ H', St K L H' → Q (.int (t.lvl : Nat)) H'
theorem p_llevel (vs : List V) (H : Hp) (Q : VK) (E : XK) (h : spLLevel K vs H Q E) : vs.length = 1 ∧ t_l_level K { nx := fun _ H' => Q .non H', rt := Q } (start N_l_level vs) H := by
  obtain ⟨L, v, t, rfl, hS, hm, ok, hQ⟩ := h
  refine ⟨rfl, ?_⟩
  unfold t_l_level
  walk_at "z"
  obtain ⟨q, rfl⟩ := tr_ref_of hS hm
  show tSeq _ _ _ [some (.ref q)] H
  obtain ⟨ds, hd⟩ := kz_hd t
  have hI : Is L (.ref q) (.tuple (.str (S t.kz) :: ds)) := .dat (hd ▸ hm)
  have l4 := lvl_le t
  walk_at "w"
  refine w_ixTs (k := 0) (m := S t.kz) hS hI rfl rfl ?_
  walk_at "w"
  rename_i q1 H1 hS1
  refine w_inTS (ys := [zif, zset]) hS1 (.dat (.head _)) ?_
  rw [decide_eq_decide.mpr (kz_l0 ok)]
  walk_at "w"
  have hS1' := hS1.tail
  refine w_ifd (fun e => ?_) (fun e0 => ?_)
  · walk_at "w"
    have := hQ _ hS1'
    rw [e] at this
    exact this
  walk_at "w"
  refine w_ixTs (k := 0) (m := S t.kz) hS1' hI rfl rfl ?_
  walk_at "w"
  rename_i q2 H2 hS2
  refine w_inTS (ys := [[60], [61]]) hS2 (.dat (.head _)) ?_
  rw [decide_eq_decide.mpr (kz_l1 ok)]
  walk_at "w"
  have hS2' := hS2.tail
  refine w_ifd (fun e => ?_) (fun e1 => ?_)
  · walk_at "w"
    have := hQ _ hS2'
    rw [e] at this
    exact this
  walk_at "w"
  refine w_ixTs (k := 0) (m := S t.kz) hS2' hI rfl rfl ?_
  walk_at "w"
  rename_i q3 H3 hS3
  refine w_inTS (ys := [[43], [45]]) hS3 (.dat (.head _)) ?_
  rw [decide_eq_decide.mpr (kz_l2 ok)]
  walk_at "w"
  have hS3' := hS3.tail
  refine w_ifd (fun e => ?_) (fun e2 => ?_)
  · walk_at "w"
    have := hQ _ hS3'
    rw [e] at this
    exact this
  walk_at "w"
  rename_i q4 H4 hS4
  refine w_ixTs (k := 0) (m := S t.kz) hS4 hI.cons rfl rfl ?_
  walk_at "w"
  refine w_intB2 ?_
  rw [decide_eq_decide.mpr (kz_l3 ok)]
  have := hQ _ hS4.tail
  by_cases e3 : t.lvl = 3
  · rw [decide_eq_true e3]
    refine w_ixN (ns := [4, 3]) hS4 (.own (.head _)) (by decide) (by decide) ?_
    rw [e3] at this
    exact this
  · rw [decide_eq_false e3]
    refine w_ixN (ns := [4, 3]) hS4 (.own (.head _)) (by decide) (by decide) ?_
    have e4 : t.lvl = 4 := by omega
    rw [e4] at this
    exact this
def spLWrite (d : Nat) (K : PySem.W.Frag) : Sp := fun vs H Q _ => ∃ (L : List Ent) (v : V) (t : Tr) (l : Int) (n : Nat), vs = [v, .int l] ∧ l = (n : Nat) ∧ St K L H ∧ Lg.dat v t.d ∈ L ∧ Wo t ∧ 5 * t.ht + 3 < d ∧ ∀ H', St K L H' → Q (.str (S (t.wr n))) H'
abbrev spLRest (d : Nat) (K : PySem.W.Frag) : Sp := spWr 0 d (Tr.tx true) (fun _ => True) seqR K
theorem p_lrest (d : Nat) (vs : List V) (H : Hp) (Q : VK) (E : XK) (h : spLRest (d + 1) K vs H Q E) : vs.length = 1 ∧ t_l_rest K (spLWrite d K) (spLRest d K) { nx := fun _ H' => Q .non H', rt := Q } (start N_l_rest vs) H := by
  obtain ⟨L, v, t, rfl, hS, hm, wo, _, hr, hQ⟩ := h
  refine ⟨rfl, ?_⟩
  unfold t_l_rest
  walk_at "z"
  obtain ⟨q, rfl⟩ := tr_ref_of hS hm
  show tSeq _ _ _ [some (.ref q)] H
  walk_at "w"
  obtain ⟨ds, hd⟩ := kz_hd t
  refine w_ixTs (k := 0) (m := S t.kz) hS (.dat (hd ▸ hm)) rfl rfl ?_
  walk_at "w"
  by_cases ht : ∃ a b, t = .thn a b
  · obtain ⟨a, b, rfl⟩ := ht
    obtain ⟨wa, wb, hl, _⟩ := wo_thn wo
    have ha : a.ht < (Tr.thn a b).ht := ht_lt (by simp [Tr.br])
    have hb : b.ht < (Tr.thn a b).ht := ht_lt (by simp [Tr.br])
    have hr' : 5 * (Tr.thn a b).ht < d + 1 := hr
    rw [Tr.d] at hm
    refine w_bt (by rfl) ?_
    walk_at "w"
    refine w_ixT (k := 1) hS (.dat hm) rfl rfl fun v1 hS1 => ?_
    walk_at "w"
    refine ⟨_, v1, a, 0, 0, rfl, rfl, hS1, .head _, wa, by omega, fun H2 hS2 => ?_⟩
    rw [wr0]
    walk_at "w"
    refine w_ixT (k := 2) hS2 (.dat (.tail _ hm)) rfl rfl fun v2 hS3 => ?_
    walk_at "w"
    refine ⟨_, v2, b, rfl, hS3, .head _, wb, trivial, ?_, fun H4 hS4 => ?_⟩
    · unfold seqR
      split <;> omega
    · walk_at "w"
      have e : Tr.tx true (.thn a b) = Tr.tx false a ++ [59, 32] ++ Tr.tx true b := by rw [Tr.tx]; simp [par]
      rw [← e]
      exact hQ _ hS4.tail.tail
  · have hk : t.kz ≠ zthen := by
      intro e
      cases t with
      | thn a b => exact ht ⟨_, _, rfl⟩
      | op c a b => simp [Tr.kz] at e
      | _ => revert e; simp only [Tr.kz]; decide
    have hr' : 5 * t.ht + 4 < d + 1 := by
      have hr2 : seqR t < d + 1 := hr
      unfold seqR at hr2
      split at hr2
      · exact absurd ⟨_, _, rfl⟩ ht
      · exact hr2
    refine w_bf (by simpa using hk) ?_
    walk_at "w"
    refine ⟨_, _, t, 0, 0, rfl, rfl, hS, hm, wo, by omega, fun H2 hS2 => ?_⟩
    rw [wr0, ← tx_flag (fun a b e => ht ⟨a, b, e⟩) true]
    exact hQ _ hS2
theorem p_lwrite (d : Nat) (vs : List V) (H : Hp) (Q : VK) (E : XK) (h : spLWrite (d + 1) K vs H Q E) : vs.length = 2 ∧ t_l_write K (spLLevel K) (spLWrite d K) (spLRest d K) { nx := fun _ H' => Q .non H', rt := Q } (start N_l_write vs) H := by
  obtain ⟨L, v, t, l, n, rfl, hln, hS, hm, wo, hr, hQ⟩ := h
  refine ⟨rfl, ?_⟩
  unfold t_l_write
  walk_at "z"
  obtain ⟨q, rfl⟩ := tr_ref_of hS hm
  show tSeq _ _ _ [some (.ref q), some (.int l), none, none, none, none] H
  walk_at "w"
  obtain ⟨ds, hd⟩ := kz_hd t
  refine w_ixTs (k := 0) (m := S t.kz) hS (.dat (hd ▸ hm)) rfl rfl ?_
  walk_at "w"
  have hlen := wo.len
  refine w_cut (fun σ' H' => ∃ v4, σ' = [some (.ref q), some (.int l), some (.str (S t.kz)), some (.str (S (t.tx false))), v4, none] ∧ St K L H') ?_ ?_
  · walk_at "w"
    cases t with
    | num k =>
      rw [Tr.d] at hm
      have ok := wo.ok
      rw [Tr.ok] at ok
      walk_at "k"
      refine w_ixTi (k := 1) (m := (k : Int)) hS (.dat hm) rfl rfl ?_
      walk_at "w"
      refine w_strI rfl (by omega) ?_
      walk_at "w"
      rw [Tr.tx]
      exact ⟨_, rfl, hS⟩
    | str z =>
      rw [Tr.d] at hm
      have hl2 : z.length ≤ 50000 := by rw [Tr.tx] at hlen; simp at hlen; omega
      walk_at "k"
      refine w_ixTs (k := 1) (m := S z) hS (.dat hm) rfl rfl ?_
      walk_at "w"
      rw [Tr.tx]
      exact ⟨_, rfl, hS⟩
    | nam z =>
      rw [Tr.d] at hm
      walk_at "k"
      refine w_ixTs (k := 1) (m := S z) hS (.dat hm) rfl rfl ?_
      walk_at "w"
      rw [Tr.tx]
      exact ⟨_, rfl, hS⟩
    | call z ts =>
      obtain ⟨wa, hn, hl⟩ := wo_call wo
      rw [Tr.d] at hm
      walk_at "k"
      refine w_ixTs (k := 1) (m := S z) hS (.dat hm) rfl rfl ?_
      walk_at "w"
      refine w_anyT1 ?_
      walk_at "w"
      refine w_ixT (k := 2) hS (.dat hm) rfl rfl fun v1 hS1 => ?_
      obtain ⟨q1, rfl⟩ := hS1.tup_of
      obtain ⟨xs, _, hS2⟩ := hS1.tupF (.dat (.head _))
      refine w_itT hS2 (.dat (.tail _ (.head _))) ?_
      refine w_lcT (R := fun i e => ∃ u, (ts.map (Tr.tx false))[i]? = some u ∧ e = .str (S u)) hS2 (by walk_at "mem") (by rw [ds_eq, List.length_map]; omega) ?_ ?_
      · intro i dd q2 es v2 H2 hd hlen hS3 Z hZ
        rw [ds_eq] at hd
        obtain ⟨u, hu, rfl⟩ := map_at hd
        have hmem : u ∈ ts := List.mem_of_getElem? hu
        have hu2 : u.ht < (Tr.call z ts).ht := ht_lt (by simpa [Tr.br] using hmem)
        show gName 5 v2 [some (.ref q), some (.int l), some (.str (S zcall)), some (.str (S [])), none, none] H2 _
        walk_at "w"
        refine ⟨rfl, ?_⟩
        walk_at "w"
        refine ⟨_, _, u, 0, 0, rfl, rfl, hS3, .head _, wa u hmem, by omega, fun H4 hS4 => ?_⟩
        rw [wr0]
        exact hZ _ _ _ ⟨_, by rw [List.getElem?_map, hu]; rfl, rfl⟩ (hS4.tail.learn .str)
      · intro q2 es H2 hlen hR hS3
        obtain rfl := strs_at (ns := ts.map (Tr.tx false)) (by rw [hlen, ds_eq]; simp) hR
        walk_at "w"
        have hj := joinW_sum [44, 32] (zs := ts.map (Tr.tx false))
        refine w_joinSS hS3 (by walk_at "lsin") (by simp only [List.length_cons, List.length_nil] at *; omega) ?_
        rw [joinL_eq]
        walk_at "w"
        rw [Tr.tx, txs_eq]
        exact ⟨_, rfl, hS3.to (by walk_at "pick")⟩
    | thn a b =>
      obtain ⟨wa, wb, hl, _⟩ := wo_thn wo
      have et : Tr.tx true (.thn a b) = Tr.tx false a ++ [59, 32] ++ Tr.tx true b := by rw [Tr.tx]; simp [par]
      have hlt : (Tr.tx true (.thn a b)).length ≤ 50000 := by rw [et]; simp; omega
      walk_at "k"
      refine ⟨_, _, .thn a b, rfl, hS, hm, wo, trivial, ?_, fun H2 hS2 => ?_⟩
      · show 5 * (Tr.thn a b).ht < d
        omega
      walk_at "w"
      have e : Tr.tx false (.thn a b) = [40] ++ Tr.tx true (.thn a b) ++ [41] := by rw [et, Tr.tx]; simp [par]
      rw [e]
      exact ⟨_, rfl, hS2⟩
    | ite a b c =>
      obtain ⟨wa, wb, wc, hl⟩ := wo_ite wo
      have ha : a.ht < (Tr.ite a b c).ht := ht_lt (by simp [Tr.br])
      have hb : b.ht < (Tr.ite a b c).ht := ht_lt (by simp [Tr.br])
      have hc : c.ht < (Tr.ite a b c).ht := ht_lt (by simp [Tr.br])
      rw [Tr.d] at hm
      walk_at "k"
      refine w_ixT (k := 1) hS (.dat hm) rfl rfl fun v1 hS1 => ?_
      walk_at "w"
      refine ⟨_, v1, a, 0, 0, rfl, rfl, hS1, .head _, wa, by omega, fun H2 hS2 => ?_⟩
      rw [wr0]
      walk_at "w"
      refine w_ixT (k := 2) hS2.tail (.dat hm) rfl rfl fun v2 hS3 => ?_
      walk_at "w"
      refine ⟨_, v2, b, 0, 0, rfl, rfl, hS3, .head _, wb, by omega, fun H4 hS4 => ?_⟩
      rw [wr0]
      walk_at "w"
      refine w_ixT (k := 3) hS4.tail (.dat hm) rfl rfl fun v3 hS5 => ?_
      walk_at "w"
      refine ⟨_, v3, c, 0, 0, rfl, rfl, hS5, .head _, wc, by omega, fun H6 hS6 => ?_⟩
      rw [wr0]
      walk_at "w"
      have e : Tr.tx false (.ite a b c) = [105, 102, 32] ++ Tr.tx false a ++ [32, 116, 104, 101, 110, 32] ++ Tr.tx false b ++ [32, 101, 108, 115, 101, 32] ++ Tr.tx false c := by rw [Tr.tx]
      rw [e]
      exact ⟨_, rfl, hS6.tail⟩
    | set z e =>
      obtain ⟨we, hl⟩ := wo_set wo
      have he : e.ht < (Tr.set z e).ht := ht_lt (by simp [Tr.br])
      rw [Tr.d] at hm
      walk_at "k"
      refine w_ixTs (k := 1) (m := S z) hS (.dat hm) rfl rfl ?_
      walk_at "w"
      refine w_ixT (k := 2) hS (.dat hm) rfl rfl fun v1 hS1 => ?_
      walk_at "w"
      refine ⟨_, v1, e, 0, 0, rfl, rfl, hS1, .head _, we, by omega, fun H2 hS2 => ?_⟩
      rw [wr0]
      walk_at "w"
      have e2 : Tr.tx false (.set z e) = [115, 101, 116, 32] ++ z ++ [32, 61, 32] ++ Tr.tx false e := by rw [Tr.tx]
      rw [e2]
      exact ⟨_, rfl, hS2.tail⟩
    | op c a b =>
      obtain ⟨hc, wa, wb, hl⟩ := wo_op wo
      have ha : a.ht < (Tr.op c a b).ht := ht_lt (by simp [Tr.br])
      have hb : b.ht < (Tr.op c a b).ht := ht_lt (by simp [Tr.br])
      have hm' := hm
      rw [Tr.d] at hm'
      have hkz : (Tr.op c a b).kz = [c] := rfl
      generalize (Tr.op c a b).kz = z0 at hkz ⊢
      subst hkz
      walk_at "k"
      refine ⟨_, _, .op c a b, rfl, hS, hm, wo.ok, fun H1 hS1 => ?_⟩
      walk_at "w"
      refine w_ixT (k := 1) hS1 (.dat hm') rfl rfl fun v1 hS2 => ?_
      walk_at "w"
      refine w_intB2 ?_
      walk_at "w"
      have hla := wr_len a (lef c)
      have hlb := wr_len b (opl c + 1)
      have el : ((Tr.op c a b).lvl : Nat) = opl c := rfl
      refine ⟨_, v1, a, _, lef c, rfl, ?_, hS2, .head _, wa, by omega, fun H2 hS3 => ?_⟩
      · rw [el]
        unfold lef
        by_cases h1 : opl c = 1
        · rw [h1]; rfl
        · rw [if_neg h1, if_neg (by simp; omega)]
          omega
      walk_at "w"
      refine w_ixT (k := 2) hS3.tail (.dat hm') rfl rfl fun v2 hS4 => ?_
      walk_at "w"
      refine ⟨_, v2, b, _, opl c + 1, rfl, by rw [el]; omega, hS4, .head _, wb, by omega, fun H4 hS5 => ?_⟩
      walk_at "w"
      have e : Tr.tx false (.op c a b) = a.wr (lef c) ++ [32] ++ [c] ++ [32] ++ b.wr (opl c + 1) := by rw [Tr.tx]; simp [Tr.wr]
      rw [e]
      exact ⟨_, rfl, hS5.tail⟩
  · rintro σ' H' ⟨v4, rfl, hS2⟩
    walk_at "w"
    refine ⟨_, _, t, rfl, hS2, hm, wo.ok, fun H3 hS3 => ?_⟩
    walk_at "w"
    have hw := hQ _ hS3
    unfold Tr.wr par at hw
    by_cases h1 : t.lvl < n
    · refine w_bt (decide_eq_true (by omega)) ?_
      walk_at "w"
      rw [if_pos (decide_eq_true h1)] at hw
      exact hw
    · refine w_bf (decide_eq_false (by omega)) ?_
      walk_at "w"
      rw [if_neg (by simpa using h1)] at hw
      exact hw
end
end K02

/-! k02: heights and loose texts by the law -/
namespace K02
open PySem PySem.Spec PyProof.Rows L2 Lg Tok Xp PySem.NumText
local macro_rules | `(tactic| walk_at "ar") => `(tactic| first | omega | (simp; done) | (simp; omega) | (simp only [S_len]; omega) | (simp [Lg.repL_len]; done) | (simp [Lg.repL_len]; omega))
local macro_rules | `(tactic| walk_at "gt") => `(tactic| repeat (first | exact GetAt.here | apply GetAt.there))
local macro_rules | `(tactic| walk_at "st") => `(tactic| repeat (first | exact SetAt.here | apply SetAt.there))
local macro_rules | `(tactic| walk_at "mem") => `(tactic| first | assumption | exact List.mem_cons_self | (apply List.mem_cons_of_mem; walk_at "mem"))
local macro_rules | `(tactic| walk_at "put") => `(tactic| repeat (first | exact Put.here | apply Put.there))
local macro_rules | `(tactic| walk_at "rem") => `(tactic| repeat (first | exact Rem.here | apply Rem.there))
local macro_rules | `(tactic| walk_at "pick") => `(tactic| first | exact Pick.refl | exact Pick.cons (by walk_at "rem") (by walk_at "pick") | (apply Pick.drop; walk_at "pick") | exact Pick.nil)
local macro_rules | `(tactic| walk_at "is") => `(tactic| first | exact Is.int | exact Is.str | exact Is.bl | exact Is.non | assumption | exact Is.dat (by walk_at "mem") | (apply Is.cons; walk_at "is"))
local macro_rules | `(tactic| walk_at "isall") => `(tactic| first | exact IsAll.nil | exact IsAll.cons (by walk_at "is") (by walk_at "isall"))
local macro_rules | `(tactic| walk_at "lsin") => `(tactic| first | assumption | exact LsIn.own (by walk_at "mem") | exact LsIn.dat (by walk_at "mem") | (apply LsIn.cons; walk_at "lsin"))
local macro_rules | `(tactic| walk_at "see") => `(tactic| first | exact See.own (by walk_at "mem") | exact See.is (by walk_at "is"))
local macro_rules | `(tactic| walk_at "w1") => `(tactic| first
  | (with_reducible apply Lg.w_seq)
  | (with_reducible apply Lg.w_asg)
  | ((with_reducible show gName _ _ _ _ _); (with_reducible refine Lg.w_name (by walk_at "st") ?_))
  | ((with_reducible show tVar _ _ _ _); (with_reducible refine Lg.w_var (by walk_at "gt") ?_))
  | (with_reducible apply Lg.w_c)
  | (with_reducible apply Lg.w_op)
  | (with_reducible apply Lg.w_un)
  | (with_reducible apply Lg.w_nil)
  | (with_reducible apply Lg.w_cons)
  | (with_reducible apply Lg.w_call)
  | (with_reducible apply Lg.w_cb)
  | (with_reducible apply Lg.w_tup)
  | (with_reducible apply Lg.w_lst)
  | (with_reducible apply Lg.w_bm)
  | (with_reducible apply Lg.w_bm0)
  | (with_reducible apply Lg.w_sl)
  | (with_reducible apply Lg.w_nopart)
  | (with_reducible apply Lg.w_part)
  | (with_reducible apply Lg.w_isint)
  | (with_reducible apply Lg.w_test)
  | (with_reducible apply Lg.w_tB)
  | (with_reducible apply Lg.w_isbl')
  | (with_reducible apply Lg.w_not)
  | (with_reducible apply Lg.w_tru)
  | (with_reducible apply Lg.w_truI)
  | (with_reducible apply Lg.w_truB)
  | (with_reducible apply Lg.w_ifs)
  | (with_reducible apply Lg.w_next)
  | (with_reducible apply Lg.w_break)
  | (with_reducible apply Lg.w_cont)
  | (with_reducible apply Lg.w_ret)
  | (with_reducible apply Lg.w_retn)
  | (with_reducible apply Lg.w_drop)
  | (with_reducible apply Lg.w_sub)
  | (with_reducible apply Lg.w_gnil)
  | (with_reducible apply Lg.w_gcons)
  | (with_reducible apply Lg.w_ifT)
  | (with_reducible apply Lg.w_ifF)
  | (with_reducible apply Lg.w_add)
  | (with_reducible apply Lg.w_sub2)
  | ((with_reducible show rTimes (V.int _) (V.int _) _ _); (with_reducible refine Lg.w_mulR (by omega) ?_))
  | ((with_reducible show rTimes (V.int _) (V.int _) _ _); (with_reducible refine Lg.w_mulL (by omega) ?_))
  | ((with_reducible show rMod (V.int _) (V.int _) _ _); (with_reducible refine Lg.w_mod (by first | decide | omega) ?_))
  | ((with_reducible show rFdiv (V.int _) (V.int _) _ _); (with_reducible refine Lg.w_fdiv (by first | decide | omega) ?_))
  | (with_reducible apply Lg.w_band)
  | (with_reducible apply Lg.w_lt)
  | (with_reducible apply Lg.w_le)
  | (with_reducible apply Lg.w_gt)
  | (with_reducible apply Lg.w_ge)
  | (with_reducible apply Lg.w_eqI)
  | (with_reducible apply Lg.w_neI)
  | (with_reducible apply Lg.w_intI2)
  | (with_reducible apply Lg.w_neg)
  | (with_reducible apply Lg.w_inSS)
  | (with_reducible apply Lg.w_ninSS)
  | (with_reducible apply Lg.w_inSS')
  | (with_reducible apply Lg.w_neSS)
  | (with_reducible apply Lg.w_strS)
  | (with_reducible apply Lg.w_fldE)
  | (with_reducible apply Lg.w_sfldE)
  | (with_reducible apply Lg.w_makeE)
  | (with_reducible apply Lg.w_methE)
  | (with_reducible apply Lg.w_methSE)
  | (with_reducible apply Lg.w_callS)
  | (with_reducible apply Lg.w_raiseO)
  | (with_reducible apply Lg.w_raiseB)
  | (with_reducible apply Lg.w_try)
  | (with_reducible apply Lg.w_strS)
  | (with_reducible apply Lg.w_eqSS)
  | (with_reducible apply Lg.w_eqS)
  | (with_reducible apply Lg.w_neS)
  | (with_reducible apply Lg.w_isN)
  | (with_reducible apply Lg.w_isR)
  | (with_reducible apply Lg.w_isI)
  | (with_reducible apply Lg.w_isS)
  | (with_reducible apply Lg.w_nsN)
  | (with_reducible apply Lg.w_nsR)
  | (with_reducible apply Lg.w_nsI)
  | (with_reducible apply Lg.w_nsS)
  | (with_reducible apply Lg.w_int)
  | (with_reducible apply Lg.w_intb)
  | (with_reducible apply Lg.w_ord1)
  | (with_reducible apply Lg.w_tyS)
  | (with_reducible apply Lg.w_inSg)
  | (with_reducible apply Lg.w_ninSg)
  | ((with_reducible show NewL _ _ _); (with_reducible refine Lg.w_newL (by assumption) (by walk_at "isall") (by simp) ?_); (intro p' H' hS'))
  | ((with_reducible show NewT _ _ _); (with_reducible refine Lg.w_newT (by assumption) (by walk_at "isall") (by simp) ?_); (intro p' H' hS'))
  | ((with_reducible show TyThen _ _ (V.ref _) _ _); (with_reducible refine Lg.w_tyL (by assumption) (by walk_at "lsin") ?_))
  | ((with_reducible show rLenX _ [V.ref _] _ _); (with_reducible refine Lg.w_lenL (by assumption) (by walk_at "lsin") ?_))
  | ((with_reducible show rLenX _ [V.ref _] _ _); (with_reducible refine Lg.w_lenT (by assumption) (by walk_at "is") ?_))
  | ((with_reducible show spDraw _ _ _ _ _); (with_reducible refine Lg.w_draw (by assumption) (by walk_at "mem") (by first | decide | omega) ?_); (intro k' H' hk0' hk1' hS'))
  | ((with_reducible show rSlX _ (V.ref _) _ _ _ _); (with_reducible refine Lg.w_slL (by assumption) (by walk_at "lsin") ?_); (intro p' H' hS'))
  | ((with_reducible show rListOf _ [V.ref _] _ _); (with_reducible refine Lg.w_listL (by assumption) (by walk_at "lsin") ?_); (intro p' H' hS'))
  | (with_reducible apply Lg.w_for)
  | (with_reducible apply Lg.w_lc)
  | ((with_reducible show iAny _ (tVar _) _ _ _); (with_reducible refine Lg.w_anyVar (by walk_at "gt") ?_))
  | (with_reducible apply Lg.w_anyC)
  | (with_reducible apply Lg.w_vS)
  | (with_reducible apply Lg.w_itS)
  | ((with_reducible show AnyV _ (V.ref _) _ _); (with_reducible refine Lg.w_vL (by assumption) (by walk_at "lsin") ?_))
  | ((with_reducible show AnyL _ (V.ref _) _ _); (with_reducible refine Lg.w_itL (by assumption) (by walk_at "lsin") ?_))
  | ((with_reducible show AnyV _ (V.ref _) _ _); (with_reducible refine Lg.w_vT (by assumption) (by walk_at "is") ?_))
  | ((with_reducible show AnyT _ (V.ref _) _ _); (with_reducible refine Lg.w_itT (by assumption) (by walk_at "is") ?_))
  | ((with_reducible show Enu _ [V.ref _] _ _); (with_reducible refine Lg.w_itE (by assumption) (by walk_at "lsin") ?_))
  | ((with_reducible show rPlus _ (V.ref _) (V.ref _) _ _); (with_reducible refine Lg.w_plusL (by assumption) (by walk_at "lsin") (by walk_at "lsin") (by walk_at "ar") ?_); (intro p' H' hS'))
  | ((with_reducible show rTimes (V.ref _) (V.int _) _ _); (with_reducible refine Lg.w_repLs (by assumption) (by walk_at "lsin") (by walk_at "ar") (by walk_at "ar") (by walk_at "ar") ?_); (intro p' H' hS'))
  | ((with_reducible show rLenX _ [V.str (S _)] _ _); (with_reducible refine Lg.w_lenSS (by walk_at "ar") ?_))
  | ((with_reducible show rLenX _ [V.str _] _ _); (with_reducible refine Lg.w_lenS (by walk_at "ar") ?_))
  | ((with_reducible show rSlX _ (V.str _) _ _ _ _); (with_reducible refine Lg.w_slS (by walk_at "ar") ?_))
  | (with_reducible apply Lg.w_rng1)
  | (with_reducible apply Lg.w_rng2)
  | (with_reducible apply Lg.w_rng3)
  | (with_reducible apply Lg.w_enum)
  | ((with_reducible show Rng1 _ _ _); (with_reducible refine Lg.w_itR1 (by omega) ?_))
  | ((with_reducible show Rng2 _ _ _); (with_reducible refine Lg.w_itR2 (by omega) (by omega) ?_))
  | ((with_reducible show rIx _ (V.ref _) (V.int _) _ _); (with_reducible refine Lg.w_ixN (by assumption) (by walk_at "lsin") (by walk_at "ar") (by walk_at "ar") ?_))
  | ((with_reducible show rPlus _ (V.str (S _)) (V.str (S _)) _ _); (with_reducible refine Lg.w_addSS (by walk_at "ar") ?_))
  | ((with_reducible show rTimes (V.str (S _)) (V.int _) _ _); (with_reducible refine Lg.w_repSS (by walk_at "ar") (by walk_at "ar") (by walk_at "ar") ?_))
  | ((with_reducible show rIsi _ [V.ref _, V.ty "list"] _ _); (with_reducible refine Lg.w_isLL (by assumption) (by walk_at "lsin") ?_))
  | ((with_reducible show rIsi _ [V.ref _, V.ty "tuple"] _ _); (with_reducible refine Lg.w_isTT (by assumption) (by walk_at "is") ?_))
  | (with_reducible apply Lg.w_isII)
  | (with_reducible apply Lg.w_isSI)
  | (with_reducible apply Lg.w_isSS)
  | (with_reducible apply Lg.w_isIS)
  | (with_reducible apply Lg.w_ifexp)
  | (with_reducible apply Lg.w_chain)
  | ((with_reducible show ChainK _ _ _ _ _ _ _); (with_reducible refine Lg.w_chainLe (by (intro R' hR'; walk_at "w"; exact hR')) ?_))
  | ((with_reducible show ChainK _ _ _ _ _ _ _); (with_reducible refine Lg.w_chainLt (by (intro R' hR'; walk_at "w"; exact hR')) ?_))
  | ((with_reducible show tAnd _ _ _ _ _); (with_reducible refine Lg.w_andP (by (intro R' hR'; walk_at "w"; exact hR')) (by (intro hb' R' hR'; walk_at "w"; exact hR')) ?_))
  | ((with_reducible show tOr _ _ _ _ _); (with_reducible refine Lg.w_orP (by (intro R' hR'; walk_at "w"; exact hR')) (by (intro hb' R' hR'; walk_at "w"; exact hR')) ?_))
  | ((with_reducible show tAndV _ _ _ _ _); (with_reducible refine Lg.w_andVP (by (intro R' hR'; walk_at "w"; exact hR')) (by (intro hb' R' hR'; walk_at "w"; exact hR')) ?_))
  | ((with_reducible show tOrV _ _ _ _ _); (with_reducible refine Lg.w_orVP (by (intro R' hR'; walk_at "w"; exact hR')) (by (intro hb' R' hR'; walk_at "w"; exact hR')) ?_))
  | (with_reducible apply Lg.w_notV))
local macro_rules | `(tactic| walk_at "w") => `(tactic| repeat (walk_at "w1"))
local macro_rules | `(tactic| walk_at "k") => `(tactic| repeat (first | walk_at "w1" | ((with_reducible show (if _ = true then _ else _ : Prop)); (first | (refine Lg.w_bt (by first | rfl | decide | (simp; done) | fail) ?_) | (refine Lg.w_bf (by first | rfl | decide | (simp; done) | fail) ?_) | fail))))
local macro_rules | `(tactic| walk_at "z") => `(tactic| simp only [z_0, z_1, z_2, z_3, z_4, z_5, z_6, z_7, z_8, z_9, z_10, z_11, z_12, z_13, z_14, z_15, z_16, z_17, z_18, z_19, z_20, z_21, z_22, z_23, z_24, z_25, z_26, z_27, z_28, z_29, z_30, z_31, z_32, z_33, z_34, z_35, z_36, z_37, z_38, z_39, z_40, z_41, z_42, z_43, z_44, z_45, z_46, z_47, z_48, z_49, z_50, z_51, z_52, z_53, z_54, z_55, z_56, z_57, z_58, z_59, z_60, z_61, z_62, z_63, z_64, z_65, z_66, z_67, z_68, z_69, z_70, z_71, z_72, z_73, z_74, z_75, z_76, z_77])
section
variable {K : PySem.W.Frag}
theorem to_br {n : Nat} {t u : Tr} (h : TO (n + 1) t) (hu : u ∈ t.br) : TO n u := by
  cases h with
  | num h => simp [Tr.br] at hu
  | str h => simp [Tr.br] at hu
  | nam h => simp [Tr.br] at hu
  | op h a b => simp [Tr.br] at hu; rcases hu with rfl | rfl <;> assumption
  | ite a b c => simp [Tr.br] at hu; rcases hu with rfl | rfl | rfl <;> assumption
  | set h e => simp [Tr.br] at hu; subst hu; assumption
  | thn a b => simp [Tr.br] at hu; rcases hu with rfl | rfl <;> assumption
  | call h hn ht => exact ht u hu
theorem to_pos {n : Nat} {t : Tr} (h : TO n t) : ∃ m, n = m + 1 := by cases h <;> exact ⟨_, rfl⟩
theorem sh_br {n : Nat} {t : Tr} (h : TO n t) (hn : n ≤ 5) : SeqAt.shaped (.list (t.br.map Tr.d)) = true := by
  refine (sh_list (n := 10) (w := 60 * 4 ^ 5) (m := (t.br.map Tr.d).length * (60 * 4 ^ 5 + 1)) (fun d hd => ?_) (Nat.le_refl _)).shaped (by decide)
  obtain ⟨u, hu, rfl⟩ := List.mem_map.mp hd
  obtain ⟨m, rfl⟩ := to_pos h
  exact ((to_br h hu).le (m := 5) (by omega)).shw
def spLHeight (d : Nat) (K : PySem.W.Frag) : Sp := fun vs H Q _ => ∃ (L : List Ent) (v : V) (t : Tr) (n : Nat), vs = [v] ∧ St K L H ∧ Lg.dat v t.d ∈ L ∧ TO n t ∧ n ≤ d ∧ n ≤ 5 ∧ ∀ H', St K L H' → Q (.int (t.ht : Nat)) H'
theorem p_lheight (d : Nat) (vs : List V) (H : Hp) (Q : VK) (E : XK) (h : spLHeight (d + 1) K vs H Q E) : vs.length = 1 ∧ t_l_height K (spLHeight d K) { nx := fun _ H' => Q .non H', rt := Q } (start N_l_height vs) H := by
  obtain ⟨L, v, t, n, rfl, hS, hm, hT, hnd, hn5, hQ⟩ := h
  refine ⟨rfl, ?_⟩
  unfold t_l_height
  walk_at "z"
  obtain ⟨q, rfl⟩ := tr_ref_of hS hm
  obtain ⟨m, rfl⟩ := to_pos hT
  show tSeq _ _ _ [some (.ref q), none, none] H
  obtain ⟨ds, hd⟩ := kz_hd t
  have hI : Is L (.ref q) (.tuple (.str (S t.kz) :: ds)) := .dat (hd ▸ hm)
  walk_at "w"
  refine w_ixTs (k := 0) (m := S t.kz) hS hI rfl rfl ?_
  walk_at "w"
  rename_i q1 H1 hS1
  refine w_inTS (ys := [znumber, zstring, zname]) hS1 (.dat (.head _)) ?_
  have hS2 := hS1.tail
  clear hS1
  walk_at "w"
  have hwd := hT.wd
  have fin : ∀ (q2 : Addr) (H2 : Hp), St K (Lg.ls K q2 (t.br.map Tr.d) :: L) H2 → tSeq (tIfS (tTest (tOp (rEqX K) (tVar 1) (tLst tNil))) (tRet (tC (.int 1))) tNext)
      (tRet (tOp (rPlus K) (tC (.int 1)) (tCB (rMax K) (tCons (tLc (iAny K (tVar 1)) (gName 2) tYes (tCall (spLHeight d K) [] C8.E0 (tCons (tVar 2) tNil)) [2]) tNil)))) { nx := fun _ H' => Q .non H', rt := Q } [some (.ref q), some (.ref q2), none] H2 := by
    intro q2 H2 hS3
    walk_at "w"
    rename_i q4 H4 hS4
    refine w_eqD hS4 (.own (.tail _ (.head _))) (.own (.head _)) (sh_br hT hn5) sh_nil ?_
    rw [eqv_nil]
    have hS5 := hS4.tail
    by_cases hb : t.br = []
    · have e : (t.br.map Tr.d).isEmpty = true := by rw [hb]; rfl
      rw [e]
      walk_at "w"
      have := hQ _ hS5.tail
      rw [ht_br, hb] at this
      exact this
    · have e : (t.br.map Tr.d).isEmpty = false := by
        cases hz : t.br with
        | nil => exact absurd hz hb
        | cons x r => rfl
      rw [e]
      walk_at "w"
      have hbl := br_len t
      refine w_lcL (R := fun i e => ∃ u, t.br[i]? = some u ∧ e = .int (u.ht : Nat)) hS5 (by walk_at "lsin") (by rw [List.length_map]; omega) ?_ ?_
      · intro i dd q6 es v2 H6 hd hlen hS6 Z hZ
        obtain ⟨u, hu, rfl⟩ := map_at hd
        show gName 2 v2 [some (.ref q), some (.ref q2), none] H6 _
        walk_at "w"
        refine ⟨rfl, ?_⟩
        walk_at "w"
        have hmem : u ∈ t.br := List.mem_of_getElem? hu
        refine ⟨_, _, u, m, rfl, hS6, .head _, to_br hT hmem, by omega, by omega, fun H7 hS7 => ?_⟩
        exact hZ _ _ _ ⟨u, hu, rfl⟩ (hS7.tail.learn .int)
      · intro q6 es H6 hlen hR hS6
        obtain rfl := ints_at (ns := t.br.map fun u => (u.ht : Int)) (by rw [hlen]; simp) fun i e he => by
          obtain ⟨u, hu, rfl⟩ := hR i e he
          exact ⟨_, by rw [List.getElem?_map, hu]; rfl, rfl⟩
        walk_at "w"
        refine w_maxL hS6 (by walk_at "lsin") (by rw [List.length_map]; exact List.length_pos_iff.mpr hb) fun m h0 h1 => ?_
        walk_at "w"
        have := hQ _ (hS6.to (by walk_at "pick"))
        rw [ht_br] at this
        rw [hts_max h0 h1]
        simpa using this
  by_cases hk : t.kz ∈ [znumber, zstring, zname]
  · refine w_bt (decide_eq_true hk) ?_
    walk_at "w"
    have := hQ _ hS2
    have e : t.ht = 1 := by
      cases t with
      | num k => rfl
      | str z => rfl
      | nam z => rfl
      | op c a b => simp [Tr.kz] at hk
      | _ => exact absurd hk (by simp only [Tr.kz]; decide)
    rw [e] at this
    exact this
  refine w_bf (decide_eq_false hk) ?_
  walk_at "w"
  have e1 : Lg.cutD (.str (S t.kz) :: ds) (some 1) none = ds := by
    unfold Lg.cutD
    have e1 : HT.sIx (PyData.str (S t.kz) :: ds).length 0 (some 1) = 1 := by simp [HT.sIx]
    have e2 : HT.sIx (PyData.str (S t.kz) :: ds).length (PyData.str (S t.kz) :: ds).length none = (PyData.str (S t.kz) :: ds).length := by simp [HT.sIx]
    rw [e1, e2, List.drop_one, List.tail_cons]
    simp
  refine w_slT hS2 hI fun v1 H3 hS3 => ?_
  rw [e1] at hS3
  obtain ⟨q3, rfl⟩ := hS3.tup_of
  walk_at "w"
  refine w_listT hS3 (.dat (.head _)) fun q4 H4 hS4 => ?_
  walk_at "w"
  refine w_cut0 ?_
  walk_at "w"
  refine w_ixTs (k := 0) (m := S t.kz) hS4 hI.cons.cons rfl rfl ?_
  walk_at "w"
  cases t with
  | num k => exact absurd (by simp [Tr.kz]) hk
  | str z => exact absurd (by simp [Tr.kz]) hk
  | nam z => exact absurd (by simp [Tr.kz]) hk
  | call z ts =>
    refine w_bt rfl ?_
    have hm' := hm
    rw [Tr.d] at hm'
    walk_at "w"
    refine w_ixT (k := 2) hS4 (.dat (.tail _ (.tail _ hm'))) rfl rfl fun v5 hS5 => ?_
    obtain ⟨q5, rfl⟩ := hS5.tup_of
    walk_at "w"
    refine w_listT hS5 (.dat (.head _)) fun q6 H6 hS6 => ?_
    walk_at "w"
    refine w_cut (fun σ' H' => ∃ q2, σ' = [some (.ref q), some (.ref q2), none] ∧ St K (Lg.ls K q2 ((Tr.call z ts).br.map Tr.d) :: L) H') ?_ (fun σ' H' h => by obtain ⟨q2, rfl, hS9⟩ := h; exact fin q2 _ hS9)
    walk_at "w"
    refine w_ixTs (k := 0) (m := S zcall) hS6 (.dat (.tail _ (.tail _ (.tail _ (.tail _ hm'))))) rfl rfl ?_
    walk_at "k"
    rw [ds_eq] at hS6
    exact ⟨_, rfl, hS6.to (by walk_at "pick")⟩
  | set z e =>
    refine w_bf rfl ?_
    have hm' := hm
    rw [Tr.d] at hm'
    walk_at "w"
    refine w_cut (fun σ' H' => ∃ q2, σ' = [some (.ref q), some (.ref q2), none] ∧ St K (Lg.ls K q2 ((Tr.set z e).br.map Tr.d) :: L) H') ?_ (fun σ' H' h => by obtain ⟨q2, rfl, hS9⟩ := h; exact fin q2 _ hS9)
    walk_at "w"
    refine w_ixTs (k := 0) (m := S zset) hS4 (.dat (.tail _ (.tail _ hm'))) rfl rfl ?_
    walk_at "k"
    refine w_ixT (k := 2) hS4 (.dat (.tail _ (.tail _ hm'))) rfl rfl fun v5 hS5 => ?_
    walk_at "w"
    rename_i q6 H6 hS6
    exact ⟨_, rfl, hS6.to (by walk_at "pick")⟩
  | op c a b =>
    have hm' := hm
    rw [Tr.d] at hm' hd
    obtain rfl : ds = [a.d, b.d] := by injection hd with h; injection h with _ h; exact h.symm
    have hkz : (Tr.op c a b).kz = [c] := rfl
    rw [hkz]
    walk_at "k"
    refine w_cut (fun σ' H' => ∃ q2, σ' = [some (.ref q), some (.ref q2), none] ∧ St K (Lg.ls K q2 ((Tr.op c a b).br.map Tr.d) :: L) H') ?_ (fun σ' H' h => by obtain ⟨q2, rfl, hS9⟩ := h; exact fin q2 _ hS9)
    walk_at "w"
    refine w_ixTs (k := 0) (m := S [c]) hS4 (.dat (.tail _ (.tail _ hm'))) rfl rfl ?_
    walk_at "k"
    exact ⟨_, rfl, hS4.to (by walk_at "pick")⟩
  | ite a b c =>
    have hm' := hm
    rw [Tr.d] at hm' hd
    obtain rfl : ds = [a.d, b.d, c.d] := by injection hd with h; injection h with _ h; exact h.symm
    walk_at "k"
    refine w_cut (fun σ' H' => ∃ q2, σ' = [some (.ref q), some (.ref q2), none] ∧ St K (Lg.ls K q2 ((Tr.ite a b c).br.map Tr.d) :: L) H') ?_ (fun σ' H' h => by obtain ⟨q2, rfl, hS9⟩ := h; exact fin q2 _ hS9)
    walk_at "w"
    refine w_ixTs (k := 0) (m := S zif) hS4 (.dat (.tail _ (.tail _ hm'))) rfl rfl ?_
    walk_at "k"
    exact ⟨_, rfl, hS4.to (by walk_at "pick")⟩
  | thn a b =>
    have hm' := hm
    rw [Tr.d] at hm' hd
    obtain rfl : ds = [a.d, b.d] := by injection hd with h; injection h with _ h; exact h.symm
    walk_at "k"
    refine w_cut (fun σ' H' => ∃ q2, σ' = [some (.ref q), some (.ref q2), none] ∧ St K (Lg.ls K q2 ((Tr.thn a b).br.map Tr.d) :: L) H') ?_ (fun σ' H' h => by obtain ⟨q2, rfl, hS9⟩ := h; exact fin q2 _ hS9)
    walk_at "w"
    refine w_ixTs (k := 0) (m := S zthen) hS4 (.dat (.tail _ (.tail _ hm'))) rfl rfl ?_
    walk_at "k"
    exact ⟨_, rfl, hS4.to (by walk_at "pick")⟩
theorem to_wo {n : Nat} {t : Tr} (h : TO n t) (hn : n ≤ 5) : Wo t := by
  refine ⟨h.okT, Nat.le_trans h.can.1.2 ?_⟩
  have : 4 ^ n ≤ 4 ^ 5 := Nat.pow_le_pow_right (by decide) hn
  omega
def spLLoose (d : Nat) (K : PySem.W.Frag) : Sp := fun vs H Q _ => ∃ (L : List Ent) (b : Addr) (v : V) (t : Tr) (l : Int) (n m : Nat), vs = [.ref b, v, .int l] ∧ l = (n : Nat) ∧ n ≤ 4 ∧ St K L H ∧ bx K b ∈ L ∧ Lg.dat v t.d ∈ L ∧ TO m t ∧ m ≤ d ∧ m ≤ 5 ∧
  ∀ z H', Lo m n t z → St K L H' → Q (.str (S z)) H'
theorem los_at {m : Nat} {ts : List Tr} : ∀ {es : List PyData}, es.length = ts.length → (∀ (i : Nat) (e : PyData), es[i]? = some e → ∃ u z, ts[i]? = some u ∧ e = PyData.str (S z) ∧ Lo m 0 u z) →
    ∃ ps : List (Tr × List Nat), ps.map Prod.fst = ts ∧ es = (ps.map Prod.snd).map (fun y => PyData.str (S y)) ∧ ∀ p ∈ ps, Lo m 0 p.1 p.2 := by
  induction ts with
  | nil => intro es hl _; exact ⟨[], rfl, List.length_eq_zero_iff.mp hl, fun _ h => by cases h⟩
  | cons t ts ih =>
    intro es hl h
    cases es with
    | nil => simp at hl
    | cons e es =>
      obtain ⟨u, z, h1, rfl, h2⟩ := h 0 e rfl
      obtain rfl : t = u := by simpa using h1
      obtain ⟨ps, rfl, rfl, h3⟩ := ih (es := es) (by simpa using hl) fun i e he => by
        have := h (i + 1) e (by simpa using he)
        simpa using this
      refine ⟨(t, z) :: ps, rfl, rfl, fun p hp => ?_⟩
      rcases List.mem_cons.mp hp with rfl | hp
      · exact h2
      · exact h3 p hp
theorem p_lloose (d : Nat) (vs : List V) (H : Hp) (Q : VK) (E : XK) (h : spLLoose (d + 1) K vs H Q E) : vs.length = 3 ∧ t_l_loose K (spLLevel K) (spDraw K) (spLWrite 75 K) (spLLoose d K) { nx := fun _ H' => Q .non H', rt := Q } (start N_l_loose vs) H := by
  obtain ⟨L, b, v, t, l, n, m, rfl, hln, hn4, hS, hb, hm, hT, hmd, hm5, hQ⟩ := h
  refine ⟨rfl, ?_⟩
  unfold t_l_loose
  walk_at "z"
  obtain ⟨q, rfl⟩ := tr_ref_of hS hm
  obtain ⟨m, rfl⟩ := to_pos hT
  have h4m : 4 ^ (m + 1) ≤ 4 ^ 5 := Nat.pow_le_pow_right (by decide) hm5
  show tSeq _ _ _ [some (.ref b), some (.ref q), some (.int l), none, none, none, none] H
  walk_at "w"
  obtain ⟨ds, hd⟩ := kz_hd t
  refine w_ixTs (k := 0) (m := S t.kz) hS (.dat (hd ▸ hm)) rfl rfl ?_
  walk_at "w"
  refine w_cut (fun σ' H' => ∃ v5 z, σ' = [some (.ref b), some (.ref q), some (.int l), some (.str (S t.kz)), some (.str (S z)), v5, none] ∧ (Wt (2 * m + 1) t.lvl t z ∧ z.length + 3 ≤ 40 * 4 ^ (m + 1)) ∧ St K L H') ?_ ?_
  · walk_at "w"
    rename_i q1 H1 hS1
    refine w_inTS (ys := [znumber, zstring, zname]) hS1 (.dat (.head _)) ?_
    have hS2 := hS1.tail
    clear hS1 hS
    walk_at "w"
    have leaf : ∀ (hb : t.br = []) (hc : ∀ z ts, t ≠ .call z ts), ∀ H2, St K L H2 → spLWrite 75 K [.ref q, .int 0] H2 (fun x H1 => gName 4 x [some (.ref b), some (.ref q), some (.int l), some (.str (S t.kz)), some (.str (S [])), none, none] H1
        fun σ' H' => ∃ v5 z, σ' = [some (.ref b), some (.ref q), some (.int l), some (.str (S t.kz)), some (.str (S z)), v5, none] ∧ (Wt (2 * m + 1) t.lvl t z ∧ z.length + 3 ≤ 40 * 4 ^ (m + 1)) ∧ St K L H') C8.E0 := by
      intro hb2 hc H2 hS3
      refine ⟨L, _, t, 0, 0, rfl, rfl, hS3, hm, to_wo hT hm5, ?_, fun H4 hS4 => ?_⟩
      · have := hT.ht
        omega
      · rw [wr0]
        walk_at "w"
        exact ⟨_, _, rfl, lo_leaf hT hb2 hc, hS4⟩
    -- a call for a part
    have part : ∀ (u : Tr) (j : Nat) (L' : List Ent) (w : V) (H' : Hp) (Q' : VK) (E' : XK), u ∈ t.br → (∀ x ∈ L, x ∈ L') → Lg.dat w u.d ∈ L' → j ≤ 4 → St K L' H' → (∀ z H2, Lo m j u z → St K L' H2 → Q' (.str (S z)) H2) → ∀ i : Int, i = (j : Nat) → spLLoose d K [.ref b, w, .int i] H' Q' E' :=
      fun u j L' w H' Q' E' hu hm hw hj hS' h i hi => ⟨L', b, w, u, i, j, m, rfl, hi, hj, hS', hm _ hb, hw, to_br hT hu, by omega, by omega, h⟩
    cases t with
    | num k =>
      refine w_bt rfl ?_
      walk_at "w"
      exact leaf rfl (by simp) _ hS2
    | str z =>
      refine w_bt rfl ?_
      walk_at "w"
      exact leaf rfl (by simp) _ hS2
    | nam z =>
      refine w_bt rfl ?_
      walk_at "w"
      exact leaf rfl (by simp) _ hS2
    | call z ts =>
      clear leaf
      have hz : isName z = true ∧ ts.length ≤ 3 := by cases hT; exact ⟨‹_›, ‹_›⟩
      have hz6 := (name_ok hz.1).2.1
      rw [Tr.d] at hm
      refine w_bf rfl ?_
      walk_at "k"
      refine w_ixTs (k := 1) (m := S z) hS2 (.dat hm) rfl rfl ?_
      walk_at "w"
      refine w_anyT1 ?_
      walk_at "w"
      refine w_ixT (k := 2) hS2 (.dat hm) rfl rfl fun v1 hS3 => ?_
      obtain ⟨q3, rfl⟩ := hS3.tup_of
      obtain ⟨xs, _, hS4⟩ := hS3.tupF (.dat (.head _))
      refine w_itT hS4 (.dat (.tail _ (.head _))) ?_
      refine w_lcT (R := fun i e => ∃ u z, ts[i]? = some u ∧ e = PyData.str (S z) ∧ Lo m 0 u z) hS4 (by walk_at "mem") (by rw [ds_eq, List.length_map]; omega) ?_ ?_
      · intro i dd q5 es v2 H5 hd hlen hS5 Z hZ
        rw [ds_eq] at hd
        obtain ⟨u, hu, rfl⟩ := map_at hd
        have hmem : u ∈ ts := List.mem_of_getElem? hu
        show gName 6 v2 [some (.ref b), some (.ref q), some (.int l), some (.str (S zcall)), some (.str (S [])), none, none] H5 _
        walk_at "w"
        refine ⟨rfl, ?_⟩
        walk_at "w"
        exact part u 0 _ _ _ _ _ (by simpa [Tr.br] using hmem) (fun x h => .tail _ (.tail _ (.tail _ (.tail _ h)))) (.head _) (by omega) hS5 (fun z H6 hz hS6 => hZ _ _ _ ⟨u, z, hu, rfl, hz⟩ (hS6.tail.learn .str)) _ rfl
      · intro q5 es H5 hlen hR hS5
        obtain ⟨ps, rfl, rfl, hps⟩ := los_at (by rw [hlen, ds_eq]; simp) hR
        have hlc := lo_call hz.1 (by simpa using hz.2) hps
        have hj := joinW_sum [44] (zs := ps.map Prod.snd)
        have hl0 := hlc.2
        simp only [List.length_append, List.length_cons, List.length_nil] at hl0 hj
        walk_at "w"
        refine w_joinSS hS5 (by walk_at "lsin") (by simp only [List.length_cons, List.length_nil]; omega) ?_
        rw [joinL_eq]
        walk_at "w"
        exact ⟨_, _, rfl, hlc, hS5.to (by walk_at "pick")⟩
    | thn x y =>
      clear leaf
      have hm' := hm
      rw [Tr.d] at hm'
      refine w_bf rfl ?_
      walk_at "k"
      refine w_ixT (k := 1) hS2 (.dat hm') rfl rfl fun v1 hS3 => ?_
      walk_at "w"
      refine part x 0 _ _ _ _ _ (by simp [Tr.br]) (fun x h => .tail _ h) (.head _) (by omega) hS3 (fun z1 H4 hz1 hS4 => ?_) _ rfl
      have hl1 := hz1.len
      have h4m1 : 4 ^ m ≤ 4 ^ 5 := Nat.pow_le_pow_right (by decide) (by omega)
      walk_at "w"
      refine w_ixT (k := 2) hS4.tail (.dat hm') rfl rfl fun v2 hS5 => ?_
      walk_at "w"
      refine part y 0 _ _ _ _ _ (by simp [Tr.br]) (fun x h => .tail _ h) (.head _) (by omega) hS5 (fun z2 H6 hz2 hS6 => ?_) _ rfl
      have hl2 := hz2.len
      walk_at "w"
      exact ⟨_, _, rfl, lo_thn hz1 hz2, hS6.tail⟩
    | ite x y w =>
      clear leaf
      have hm' := hm
      rw [Tr.d] at hm'
      refine w_bf rfl ?_
      walk_at "k"
      refine w_ixT (k := 1) hS2 (.dat hm') rfl rfl fun v1 hS3 => ?_
      walk_at "w"
      refine part x 0 _ _ _ _ _ (by simp [Tr.br]) (fun x h => .tail _ h) (.head _) (by omega) hS3 (fun z1 H4 hz1 hS4 => ?_) _ rfl
      have hl1 := hz1.len
      have h4m1 : 4 ^ m ≤ 4 ^ 4 := Nat.pow_le_pow_right (by decide) (by omega)
      walk_at "w"
      refine w_ixT (k := 2) hS4.tail (.dat hm') rfl rfl fun v2 hS5 => ?_
      walk_at "w"
      refine part y 0 _ _ _ _ _ (by simp [Tr.br]) (fun x h => .tail _ h) (.head _) (by omega) hS5 (fun z2 H6 hz2 hS6 => ?_) _ rfl
      have hl2 := hz2.len
      walk_at "w"
      refine w_ixT (k := 3) hS6.tail (.dat hm') rfl rfl fun v3 hS7 => ?_
      walk_at "w"
      refine part w 0 _ _ _ _ _ (by simp [Tr.br]) (fun x h => .tail _ h) (.head _) (by omega) hS7 (fun z3 H8 hz3 hS8 => ?_) _ rfl
      have hl3 := hz3.len
      walk_at "w"
      exact ⟨_, _, rfl, lo_ite hz1 hz2 hz3, hS8.tail⟩
    | set z e =>
      clear leaf
      have hz : isName z = true := by cases hT; assumption
      have hz6 := (name_ok hz).2.1
      have hm' := hm
      rw [Tr.d] at hm'
      refine w_bf rfl ?_
      walk_at "k"
      refine w_ixTs (k := 1) (m := S z) hS2 (.dat hm') rfl rfl ?_
      walk_at "w"
      refine w_ixT (k := 2) hS2 (.dat hm') rfl rfl fun v1 hS3 => ?_
      walk_at "w"
      refine part e 0 _ _ _ _ _ (by simp [Tr.br]) (fun x h => .tail _ h) (.head _) (by omega) hS3 (fun z1 H4 hz1 hS4 => ?_) _ rfl
      have hl1 := hz1.len
      have h4m1 : 4 ^ m ≤ 4 ^ 5 := Nat.pow_le_pow_right (by decide) (by omega)
      walk_at "w"
      exact ⟨_, _, rfl, lo_set hz hz1, hS4.tail⟩
    | op c x y =>
      clear leaf
      have hc : c ∈ [43, 45, 42, 60, 61] := by cases hT; assumption
      have hm' := hm
      rw [Tr.d] at hm'
      have hkz : (Tr.op c x y).kz = [c] := rfl
      generalize (Tr.op c x y).kz = z0 at hkz ⊢
      subst hkz
      walk_at "k"
      refine ⟨_, _, .op c x y, rfl, hS2, hm, hT.okT, fun H3 hS3 => ?_⟩
      walk_at "w"
      refine w_ixT (k := 1) hS3 (.dat hm') rfl rfl fun v1 hS4 => ?_
      walk_at "w"
      refine w_intB2 ?_
      walk_at "w"
      have el : ((Tr.op c x y).lvl : Nat) = opl c := rfl
      have hlf := lef_le c
      have hol := opl_le c
      refine part x (lef c) _ _ _ _ _ (by simp [Tr.br]) (fun x h => .tail _ h) (.head _) (by omega) hS4 (fun z1 H5 hz1 hS5 => ?_) _ ?_
      · have hl1 := hz1.len
        have h4m1 : 4 ^ m ≤ 4 ^ 5 := Nat.pow_le_pow_right (by decide) (by omega)
        walk_at "w"
        refine w_ixT (k := 2) hS5.tail (.dat hm') rfl rfl fun v2 hS6 => ?_
        walk_at "w"
        refine part y (opl c + 1) _ _ _ _ _ (by simp [Tr.br]) (fun x h => .tail _ h) (.head _) (by omega) hS6 (fun z2 H7 hz2 hS7 => ?_) _ (by rw [el]; omega)
        have hl2 := hz2.len
        walk_at "w"
        have e : z1 ++ [c] ++ [32] ++ z2 = z1 ++ [c, 32] ++ z2 := by simp
        rw [e]
        exact ⟨_, _, rfl, lo_op hc hz1 hz2, hS7.tail⟩
      · rw [el]
        unfold lef
        by_cases h1 : opl c = 1
        · rw [h1]; rfl
        · rw [if_neg h1, if_neg (by simp; omega)]
          omega
  · rintro σ' H' ⟨v5, z, rfl, ⟨hz1, hz2⟩, hS2⟩
    obtain ⟨lo1, lo2⟩ := Lo.mk' hz1 hn4 hz2
    walk_at "w"
    refine w_or3 (St K L) (fun H3 hS3 => ?_) (fun rest => ?_)
    · walk_at "w"
      exact hQ _ _ lo1 hS3
    · walk_at "w"
      refine ⟨_, _, t, rfl, hS2, hm, hT.okT, fun H3 hS3 => ?_⟩
      walk_at "w"
      refine w_ifd (fun e => rest _ hS3) (fun e => ?_)
      walk_at "w"
      rename_i k4 H4 h40 h41 hS4
      refine w_ifd (fun e => rest _ hS4) (fun e2 => ?_)
      walk_at "w"
      exact hQ _ _ (lo2 (by omega)) hS4
end
end K02

/-! k02: rings, fixed texts, the law -/
namespace K02
open PySem PySem.Spec PyProof.Rows L2 Lg Tok Xp PySem.NumText
local macro_rules | `(tactic| walk_at "ar") => `(tactic| first | omega | (simp; done) | (simp; omega) | (simp only [S_len]; omega) | (simp [Lg.repL_len]; done) | (simp [Lg.repL_len]; omega))
local macro_rules | `(tactic| walk_at "gt") => `(tactic| repeat (first | exact GetAt.here | apply GetAt.there))
local macro_rules | `(tactic| walk_at "st") => `(tactic| repeat (first | exact SetAt.here | apply SetAt.there))
local macro_rules | `(tactic| walk_at "mem") => `(tactic| first | assumption | exact List.mem_cons_self | (apply List.mem_cons_of_mem; walk_at "mem"))
local macro_rules | `(tactic| walk_at "put") => `(tactic| repeat (first | exact Put.here | apply Put.there))
local macro_rules | `(tactic| walk_at "rem") => `(tactic| repeat (first | exact Rem.here | apply Rem.there))
local macro_rules | `(tactic| walk_at "pick") => `(tactic| first | exact Pick.refl | exact Pick.cons (by walk_at "rem") (by walk_at "pick") | (apply Pick.drop; walk_at "pick") | exact Pick.nil)
local macro_rules | `(tactic| walk_at "is") => `(tactic| first | exact Is.int | exact Is.str | exact Is.bl | exact Is.non | assumption | exact Is.dat (by walk_at "mem") | (apply Is.cons; walk_at "is"))
local macro_rules | `(tactic| walk_at "isall") => `(tactic| first | exact IsAll.nil | exact IsAll.cons (by walk_at "is") (by walk_at "isall"))
local macro_rules | `(tactic| walk_at "lsin") => `(tactic| first | assumption | exact LsIn.own (by walk_at "mem") | exact LsIn.dat (by walk_at "mem") | (apply LsIn.cons; walk_at "lsin"))
local macro_rules | `(tactic| walk_at "see") => `(tactic| first | exact See.own (by walk_at "mem") | exact See.is (by walk_at "is"))
local macro_rules | `(tactic| walk_at "w1") => `(tactic| first
  | (with_reducible apply Lg.w_seq)
  | (with_reducible apply Lg.w_asg)
  | ((with_reducible show gName _ _ _ _ _); (with_reducible refine Lg.w_name (by walk_at "st") ?_))
  | ((with_reducible show tVar _ _ _ _); (with_reducible refine Lg.w_var (by walk_at "gt") ?_))
  | (with_reducible apply Lg.w_c)
  | (with_reducible apply Lg.w_op)
  | (with_reducible apply Lg.w_un)
  | (with_reducible apply Lg.w_nil)
  | (with_reducible apply Lg.w_cons)
  | (with_reducible apply Lg.w_call)
  | (with_reducible apply Lg.w_cb)
  | (with_reducible apply Lg.w_tup)
  | (with_reducible apply Lg.w_lst)
  | (with_reducible apply Lg.w_bm)
  | (with_reducible apply Lg.w_bm0)
  | (with_reducible apply Lg.w_sl)
  | (with_reducible apply Lg.w_nopart)
  | (with_reducible apply Lg.w_part)
  | (with_reducible apply Lg.w_isint)
  | (with_reducible apply Lg.w_test)
  | (with_reducible apply Lg.w_tB)
  | (with_reducible apply Lg.w_isbl')
  | (with_reducible apply Lg.w_not)
  | (with_reducible apply Lg.w_tru)
  | (with_reducible apply Lg.w_truI)
  | (with_reducible apply Lg.w_truB)
  | (with_reducible apply Lg.w_ifs)
  | (with_reducible apply Lg.w_next)
  | (with_reducible apply Lg.w_break)
  | (with_reducible apply Lg.w_cont)
  | (with_reducible apply Lg.w_ret)
  | (with_reducible apply Lg.w_retn)
  | (with_reducible apply Lg.w_drop)
  | (with_reducible apply Lg.w_sub)
  | (with_reducible apply Lg.w_gnil)
  | (with_reducible apply Lg.w_gcons)
  | (with_reducible apply Lg.w_ifT)
  | (with_reducible apply Lg.w_ifF)
  | (with_reducible apply Lg.w_add)
  | (with_reducible apply Lg.w_sub2)
  | ((with_reducible show rTimes (V.int _) (V.int _) _ _); (with_reducible refine Lg.w_mulR (by omega) ?_))
  | ((with_reducible show rTimes (V.int _) (V.int _) _ _); (with_reducible refine Lg.w_mulL (by omega) ?_))
  | ((with_reducible show rMod (V.int _) (V.int _) _ _); (with_reducible refine Lg.w_mod (by first | decide | omega) ?_))
  | ((with_reducible show rFdiv (V.int _) (V.int _) _ _); (with_reducible refine Lg.w_fdiv (by first | decide | omega) ?_))
  | (with_reducible apply Lg.w_band)
  | (with_reducible apply Lg.w_lt)
  | (with_reducible apply Lg.w_le)
  | (with_reducible apply Lg.w_gt)
  | (with_reducible apply Lg.w_ge)
  | (with_reducible apply Lg.w_eqI)
  | (with_reducible apply Lg.w_neI)
  | (with_reducible apply Lg.w_intI2)
  | (with_reducible apply Lg.w_neg)
  | (with_reducible apply Lg.w_inSS)
  | (with_reducible apply Lg.w_ninSS)
  | (with_reducible apply Lg.w_inSS')
  | (with_reducible apply Lg.w_neSS)
  | (with_reducible apply Lg.w_strS)
  | (with_reducible apply Lg.w_fldE)
  | (with_reducible apply Lg.w_sfldE)
  | (with_reducible apply Lg.w_makeE)
  | (with_reducible apply Lg.w_methE)
  | (with_reducible apply Lg.w_methSE)
  | (with_reducible apply Lg.w_callS)
  | (with_reducible apply Lg.w_raiseO)
  | (with_reducible apply Lg.w_raiseB)
  | (with_reducible apply Lg.w_try)
  | (with_reducible apply Lg.w_strS)
  | (with_reducible apply Lg.w_eqSS)
  | (with_reducible apply Lg.w_eqS)
  | (with_reducible apply Lg.w_neS)
  | (with_reducible apply Lg.w_isN)
  | (with_reducible apply Lg.w_isR)
  | (with_reducible apply Lg.w_isI)
  | (with_reducible apply Lg.w_isS)
  | (with_reducible apply Lg.w_nsN)
  | (with_reducible apply Lg.w_nsR)
  | (with_reducible apply Lg.w_nsI)
  | (with_reducible apply Lg.w_nsS)
  | (with_reducible apply Lg.w_int)
  | (with_reducible apply Lg.w_intb)
  | (with_reducible apply Lg.w_ord1)
  | (with_reducible apply Lg.w_tyS)
  | (with_reducible apply Lg.w_inSg)
  | (with_reducible apply Lg.w_ninSg)
  | ((with_reducible show NewL _ _ _); (with_reducible refine Lg.w_newL (by assumption) (by walk_at "isall") (by simp) ?_); (intro p' H' hS'))
  | ((with_reducible show NewT _ _ _); (with_reducible refine Lg.w_newT (by assumption) (by walk_at "isall") (by simp) ?_); (intro p' H' hS'))
  | ((with_reducible show TyThen _ _ (V.ref _) _ _); (with_reducible refine Lg.w_tyL (by assumption) (by walk_at "lsin") ?_))
  | ((with_reducible show rLenX _ [V.ref _] _ _); (with_reducible refine Lg.w_lenL (by assumption) (by walk_at "lsin") ?_))
  | ((with_reducible show rLenX _ [V.ref _] _ _); (with_reducible refine Lg.w_lenT (by assumption) (by walk_at "is") ?_))
  | ((with_reducible show spDraw _ _ _ _ _); (with_reducible refine Lg.w_draw (by assumption) (by walk_at "mem") (by first | decide | omega) ?_); (intro k' H' hk0' hk1' hS'))
  | ((with_reducible show rSlX _ (V.ref _) _ _ _ _); (with_reducible refine Lg.w_slL (by assumption) (by walk_at "lsin") ?_); (intro p' H' hS'))
  | ((with_reducible show rListOf _ [V.ref _] _ _); (with_reducible refine Lg.w_listL (by assumption) (by walk_at "lsin") ?_); (intro p' H' hS'))
  | (with_reducible apply Lg.w_for)
  | (with_reducible apply Lg.w_lc)
  | ((with_reducible show iAny _ (tVar _) _ _ _); (with_reducible refine Lg.w_anyVar (by walk_at "gt") ?_))
  | (with_reducible apply Lg.w_anyC)
  | (with_reducible apply Lg.w_vS)
  | (with_reducible apply Lg.w_itS)
  | ((with_reducible show AnyV _ (V.ref _) _ _); (with_reducible refine Lg.w_vL (by assumption) (by walk_at "lsin") ?_))
  | ((with_reducible show AnyL _ (V.ref _) _ _); (with_reducible refine Lg.w_itL (by assumption) (by walk_at "lsin") ?_))
  | ((with_reducible show AnyV _ (V.ref _) _ _); (with_reducible refine Lg.w_vT (by assumption) (by walk_at "is") ?_))
  | ((with_reducible show AnyT _ (V.ref _) _ _); (with_reducible refine Lg.w_itT (by assumption) (by walk_at "is") ?_))
  | ((with_reducible show Enu _ [V.ref _] _ _); (with_reducible refine Lg.w_itE (by assumption) (by walk_at "lsin") ?_))
  | ((with_reducible show rPlus _ (V.ref _) (V.ref _) _ _); (with_reducible refine Lg.w_plusL (by assumption) (by walk_at "lsin") (by walk_at "lsin") (by walk_at "ar") ?_); (intro p' H' hS'))
  | ((with_reducible show rTimes (V.ref _) (V.int _) _ _); (with_reducible refine Lg.w_repLs (by assumption) (by walk_at "lsin") (by walk_at "ar") (by walk_at "ar") (by walk_at "ar") ?_); (intro p' H' hS'))
  | ((with_reducible show rLenX _ [V.str (S _)] _ _); (with_reducible refine Lg.w_lenSS (by walk_at "ar") ?_))
  | ((with_reducible show rLenX _ [V.str _] _ _); (with_reducible refine Lg.w_lenS (by walk_at "ar") ?_))
  | ((with_reducible show rSlX _ (V.str _) _ _ _ _); (with_reducible refine Lg.w_slS (by walk_at "ar") ?_))
  | (with_reducible apply Lg.w_rng1)
  | (with_reducible apply Lg.w_rng2)
  | (with_reducible apply Lg.w_rng3)
  | (with_reducible apply Lg.w_enum)
  | ((with_reducible show Rng1 _ _ _); (with_reducible refine Lg.w_itR1 (by omega) ?_))
  | ((with_reducible show Rng2 _ _ _); (with_reducible refine Lg.w_itR2 (by omega) (by omega) ?_))
  | ((with_reducible show rIx _ (V.ref _) (V.int _) _ _); (with_reducible refine Lg.w_ixN (by assumption) (by walk_at "lsin") (by walk_at "ar") (by walk_at "ar") ?_))
  | ((with_reducible show rPlus _ (V.str (S _)) (V.str (S _)) _ _); (with_reducible refine Lg.w_addSS (by walk_at "ar") ?_))
  | ((with_reducible show rTimes (V.str (S _)) (V.int _) _ _); (with_reducible refine Lg.w_repSS (by walk_at "ar") (by walk_at "ar") (by walk_at "ar") ?_))
  | ((with_reducible show rIsi _ [V.ref _, V.ty "list"] _ _); (with_reducible refine Lg.w_isLL (by assumption) (by walk_at "lsin") ?_))
  | ((with_reducible show rIsi _ [V.ref _, V.ty "tuple"] _ _); (with_reducible refine Lg.w_isTT (by assumption) (by walk_at "is") ?_))
  | (with_reducible apply Lg.w_isII)
  | (with_reducible apply Lg.w_isSI)
  | (with_reducible apply Lg.w_isSS)
  | (with_reducible apply Lg.w_isIS)
  | (with_reducible apply Lg.w_ifexp)
  | (with_reducible apply Lg.w_chain)
  | ((with_reducible show ChainK _ _ _ _ _ _ _); (with_reducible refine Lg.w_chainLe (by (intro R' hR'; walk_at "w"; exact hR')) ?_))
  | ((with_reducible show ChainK _ _ _ _ _ _ _); (with_reducible refine Lg.w_chainLt (by (intro R' hR'; walk_at "w"; exact hR')) ?_))
  | ((with_reducible show tAnd _ _ _ _ _); (with_reducible refine Lg.w_andP (by (intro R' hR'; walk_at "w"; exact hR')) (by (intro hb' R' hR'; walk_at "w"; exact hR')) ?_))
  | ((with_reducible show tOr _ _ _ _ _); (with_reducible refine Lg.w_orP (by (intro R' hR'; walk_at "w"; exact hR')) (by (intro hb' R' hR'; walk_at "w"; exact hR')) ?_))
  | ((with_reducible show tAndV _ _ _ _ _); (with_reducible refine Lg.w_andVP (by (intro R' hR'; walk_at "w"; exact hR')) (by (intro hb' R' hR'; walk_at "w"; exact hR')) ?_))
  | ((with_reducible show tOrV _ _ _ _ _); (with_reducible refine Lg.w_orVP (by (intro R' hR'; walk_at "w"; exact hR')) (by (intro hb' R' hR'; walk_at "w"; exact hR')) ?_))
  | (with_reducible apply Lg.w_notV))
local macro_rules | `(tactic| walk_at "w") => `(tactic| repeat (walk_at "w1"))
local macro_rules | `(tactic| walk_at "k") => `(tactic| repeat (first | walk_at "w1" | ((with_reducible show (if _ = true then _ else _ : Prop)); (first | (refine Lg.w_bt (by first | rfl | decide | (simp; done) | fail) ?_) | (refine Lg.w_bf (by first | rfl | decide | (simp; done) | fail) ?_) | fail))))
local macro_rules | `(tactic| walk_at "z") => `(tactic| simp only [z_0, z_1, z_2, z_3, z_4, z_5, z_6, z_7, z_8, z_9, z_10, z_11, z_12, z_13, z_14, z_15, z_16, z_17, z_18, z_19, z_20, z_21, z_22, z_23, z_24, z_25, z_26, z_27, z_28, z_29, z_30, z_31, z_32, z_33, z_34, z_35, z_36, z_37, z_38, z_39, z_40, z_41, z_42, z_43, z_44, z_45, z_46, z_47, z_48, z_49, z_50, z_51, z_52, z_53, z_54, z_55, z_56, z_57, z_58, z_59, z_60, z_61, z_62, z_63, z_64, z_65, z_66, z_67, z_68, z_69, z_70, z_71, z_72, z_73, z_74, z_75, z_76, z_77])
section
variable {K : PySem.W.Frag}
/-! ### defs that call themselves: their promises by depth (shared) -/
section
variable {P : Program} {w : World} {mg : Str → Option Value} {base : Heap}
theorem ring_height (g : G w K mg) (c : He.SaysD hfa hfn K) (m : mg "height" = some (.ref (He.ga K "height"))) (c_branches : C8.Cal P w K mg base 1 "_branches" (spBranches K) []) : ∀ d : Nat, C8.Cal P w K mg base (2 + d) "height" (spHeight d K) []
  | 0 => cal_imp (zz_height g _ (fd_height c) m) fun vs H Q E h => by
    obtain ⟨L, v, t, _, _, _, h, _⟩ := h
    have := ht_pos t
    omega
  | d + 1 => ok_height g (n := 2 + d) (by omega) c_branches (ring_height g c m c_branches d) (fd_height c) m fun vs H Q E h => p_height d vs H Q E h
structure RingR (P : Program) (w : World) (K : PySem.W.Frag) (mg : Str → Option Value) (base : Heap) (d : Nat) : Prop where
  whole : C8.Met P w K mg base (5 + d) (He.ga K "Reader") "whole" (spPF 0 (lev d).whole K) []
  choice : C8.Met P w K mg base (5 + d) (He.ga K "Reader") "_choice" (spPF 0 (lev d).choice K) []
  comp : C8.Met P w K mg base (5 + d) (He.ga K "Reader") "_compared" (spPF 0 (lev d).comp K) []
  sum : C8.Met P w K mg base (5 + d) (He.ga K "Reader") "_sum" (spPF 0 (lev d).sum K) []
  prod : C8.Met P w K mg base (5 + d) (He.ga K "Reader") "_product" (spPF 0 (lev d).prod K) []
  atom : C8.Met P w K mg base (5 + d) (He.ga K "Reader") "_atom" (spPF 0 (lev d).atom K) []
  parts : C8.Met P w K mg base (5 + d) (He.ga K "Reader") "_parts" (spRParts (lev d).parts K) []
  call : C8.Met P w K mg base (5 + d) (He.ga K "Reader") "_call" (spRCall (lev d).call K) []
  seq : C8.Met P w K mg base (5 + d) (He.ga K "Reader") "_sequence" (spPF 1 (lev d).seq K) []
theorem ring_reader (g : G w K mg) (cf : CF K) (c : He.SaysD hfa hfn K) (c_Reader_at_end : C8.Met P w K mg base 1 (He.ga K "Reader") "at_end" (spAtEnd K) []) (c_Reader_is : C8.Met P w K mg base 2 (He.ga K "Reader") "_is" (spIs K) [])
    (c_Reader_skips : C8.Met P w K mg base 3 (He.ga K "Reader") "_skips" (spSkips K) []) (c_Reader_name : C8.Met P w K mg base 2 (He.ga K "Reader") "_name" (spRName K) []) (c_Reader_sign : C8.Met P w K mg base 4 (He.ga K "Reader") "_sign" (spRSign K) []) : ∀ d : Nat, RingR P w K mg base d
  | 0 => by
    have no : ∀ (lo : Nat) (vs : List V) (H : Hp) (Q : VK) (E : XK), spPF lo (fun _ _ => none) K vs H Q E → False := fun lo vs H Q E h => by
      obtain ⟨L, a, dx, p, ts, i, k, _, _, _, _, h, _⟩ := h
      exact h rfl
    refine ⟨met_imp (zz_Reader_whole g _ (fd_Reader_whole c)) (no 0), met_imp (zz_Reader_choice g _ (fd_Reader_choice c)) (no 0), met_imp (zz_Reader_compared g _ (fd_Reader_compared c)) (no 0), met_imp (zz_Reader_sum g _ (fd_Reader_sum c)) (no 0),
      met_imp (zz_Reader_product g _ (fd_Reader_product c)) (no 0), met_imp (zz_Reader_atom g _ (fd_Reader_atom c)) (no 0), met_imp (zz_Reader_parts g _ (fd_Reader_parts c)) fun vs H Q E h => ?_, met_imp (zz_Reader_call g _ (fd_Reader_call c)) fun vs H Q E h => ?_, met_imp (zz_Reader_sequence g _ (fd_Reader_sequence c)) (no 1)⟩
    · obtain ⟨L, a, dx, p, ts, i, k, s, _, _, _, _, _, h, _⟩ := h
      exact h rfl
    · obtain ⟨L, a, dx, p, ts, i, k, z, _, _, _, _, h, _⟩ := h
      exact h rfl
  | d + 1 => by
    have R := ring_reader g cf c c_Reader_at_end c_Reader_is c_Reader_skips c_Reader_name c_Reader_sign d
    exact ⟨ok_Reader_whole g (n := 5 + d) (by omega) R.comp c_Reader_skips R.whole c_Reader_name R.choice (fd_Reader_whole c) fun vs H Q E h => p_whole cf (lev d) vs H Q E h,
      ok_Reader_choice g (n := 5 + d) (by omega) R.whole c_Reader_skips (fd_Reader_choice c) fun vs H Q E h => p_choice cf (lev d) vs H Q E h,
      ok_Reader_compared g (n := 5 + d) (by omega) R.sum c_Reader_sign (fd_Reader_compared c) fun vs H Q E h => p_compared cf (lev d) vs H Q E h,
      ok_Reader_sum g (n := 5 + d) (by omega) c_Reader_sign R.prod (fd_Reader_sum c) fun vs H Q E h => p_sum cf (lev d) vs H Q E h,
      ok_Reader_product g (n := 5 + d) (by omega) c_Reader_sign R.atom (fd_Reader_product c) fun vs H Q E h => p_product cf (lev d) vs H Q E h,
      ok_Reader_atom g (n := 5 + d) (by omega) c_Reader_is R.call c_Reader_name R.seq c_Reader_at_end (fd_Reader_atom c) fun vs H Q E h => p_atom cf (lev d) vs H Q E h,
      ok_Reader_parts g (n := 5 + d) (by omega) c_Reader_skips R.whole (fd_Reader_parts c) fun vs H Q E h => p_parts cf (lev d) vs H Q E h,
      ok_Reader_call g (n := 5 + d) (by omega) R.parts (fd_Reader_call c) fun vs H Q E h => p_rcall cf (lev d) vs H Q E h,
      ok_Reader_sequence g (n := 5 + d) (by omega) R.parts (fd_Reader_sequence c) fun vs H Q E h => p_sequence cf (lev d) vs H Q E h⟩
structure RingW (P : Program) (w : World) (K : PySem.W.Frag) (mg : Str → Option Value) (base : Heap) (d : Nat) : Prop where
  write : C8.Cal P w K mg base (1 + d) "write" (spWrite d K) []
  written : C8.Cal P w K mg base (1 + d) "_written" (spWritten d K) []
  atom : C8.Cal P w K mg base (1 + d) "_atom_text" (spAtomT d K) []
  seq : C8.Cal P w K mg base (1 + d) "_sequence_text" (spSeqT d K) []
theorem wr_no {k : Nat} {f : Tr → List Nat} {Pp : Tr → Prop} {rank : Tr → Nat} (vs : List V) (H : Hp) (Q : VK) (E : XK) (h : spWr k 0 f Pp rank K vs H Q E) : False := by
  obtain ⟨L, v, t, _, _, _, _, _, h, _⟩ := h
  omega
theorem ring_write (g : G w K mg) (cf : CF K) (c : He.SaysD hfa hfn K) (m1 : mg "write" = some (.ref (He.ga K "write"))) (m2 : mg "_written" = some (.ref (He.ga K "_written"))) (m3 : mg "_atom_text" = some (.ref (He.ga K "_atom_text"))) (m4 : mg "_sequence_text" = some (.ref (He.ga K "_sequence_text"))) : ∀ d : Nat, RingW P w K mg base d
  | 0 => ⟨cal_imp (zz_write g _ (fd_write c) m1) wr_no, cal_imp (zz_written g _ (fd_written c) m2) fun vs H Q E h => by
      obtain ⟨L, v, t, l, _, _, _, _, h, _⟩ := h
      omega, cal_imp (zz_atom_text g _ (fd_atom_text c) m3) wr_no, cal_imp (zz_sequence_text g _ (fd_sequence_text c) m4) wr_no⟩
  | d + 1 => by
    have R := ring_write g cf c m1 m2 m3 m4 d
    exact ⟨ok_write g (n := 1 + d) (by omega) R.written (fd_write c) m1 fun vs H Q E h => p_write d vs H Q E h,
      ok_written g (n := 1 + d) (by omega) R.write R.written R.atom (fd_written c) m2 fun vs H Q E h => p_written cf d vs H Q E h,
      ok_atom_text g (n := 1 + d) (by omega) R.write R.seq (fd_atom_text c) m3 fun vs H Q E h => p_atomT d vs H Q E h,
      ok_sequence_text g (n := 1 + d) (by omega) R.write R.seq (fd_sequence_text c) m4 fun vs H Q E h => p_seqT d vs H Q E h⟩
theorem ring_ltree (g : G w K mg) (c : He.SaysD hfa hfn K) (m : mg "_law_tree" = some (.ref (He.ga K "_law_tree"))) (c_l_draw : C8.Cal P w K mg base 1 "_law_draw" (spDraw K) []) (c_l_atom : C8.Cal P w K mg base 2 "_law_atom" (spLAtom K) []) : ∀ d : Nat, C8.Cal P w K mg base (3 + d) "_law_tree" (spLTree d K) []
  | 0 => cal_imp (zz_l_tree g _ (fd_l_tree c) m) fun vs H Q E h => by
    obtain ⟨L, b, p, q, ns, cs, i, dp, _, _, h, _⟩ := h
    omega
  | d + 1 => ok_l_tree g (n := 3 + d) (by omega) (ring_ltree g c m c_l_draw c_l_atom d) c_l_draw c_l_atom (fd_l_tree c) m fun vs H Q E h => p_ltree d vs H Q E h
end
section
variable {P : Program} {w : World} {mg : Str → Option Value} {base : Heap}
structure RingLW (P : Program) (w : World) (K : PySem.W.Frag) (mg : Str → Option Value) (base : Heap) (d : Nat) : Prop where
  write : C8.Cal P w K mg base (2 + d) "_law_write" (spLWrite d K) []
  rest : C8.Cal P w K mg base (2 + d) "_law_rest" (spLRest d K) []
theorem ring_lwrite (g : G w K mg) (c : He.SaysD hfa hfn K) (m1 : mg "_law_write" = some (.ref (He.ga K "_law_write"))) (m2 : mg "_law_rest" = some (.ref (He.ga K "_law_rest"))) (c_l_level : C8.Cal P w K mg base 1 "_law_level" (spLLevel K) []) : ∀ d : Nat, RingLW P w K mg base d
  | 0 => ⟨cal_imp (zz_l_write g _ (fd_l_write c) m1) fun vs H Q E h => by
      obtain ⟨L, v, t, l, n, _, _, _, _, _, h, _⟩ := h
      omega, cal_imp (zz_l_rest g _ (fd_l_rest c) m2) wr_no⟩
  | d + 1 => by
    have R := ring_lwrite g c m1 m2 c_l_level d
    exact ⟨ok_l_write g (n := 2 + d) (by omega) c_l_level R.write R.rest (fd_l_write c) m1 fun vs H Q E h => p_lwrite d vs H Q E h,
      ok_l_rest g (n := 2 + d) (by omega) R.write R.rest (fd_l_rest c) m2 fun vs H Q E h => p_lrest d vs H Q E h⟩
end
section
variable {P : Program} {w : World} {mg : Str → Option Value} {base : Heap}
theorem ring_lheight (g : G w K mg) (c : He.SaysD hfa hfn K) (m : mg "_law_height" = some (.ref (He.ga K "_law_height"))) : ∀ d : Nat, C8.Cal P w K mg base (1 + d) "_law_height" (spLHeight d K) []
  | 0 => cal_imp (zz_l_height g _ (fd_l_height c) m) fun vs H Q E h => by
    obtain ⟨L, v, t, n, _, _, _, hT, h, _⟩ := h
    obtain ⟨m, rfl⟩ := to_pos hT
    omega
  | d + 1 => ok_l_height g (n := 1 + d) (by omega) (ring_lheight g c m d) (fd_l_height c) m fun vs H Q E h => p_lheight d vs H Q E h
theorem ring_lloose (g : G w K mg) (c : He.SaysD hfa hfn K) (m : mg "_law_loose" = some (.ref (He.ga K "_law_loose"))) (c_l_level : C8.Cal P w K mg base 1 "_law_level" (spLLevel K) []) (c_l_draw : C8.Cal P w K mg base 1 "_law_draw" (spDraw K) []) (c_l_write : C8.Cal P w K mg base 77 "_law_write" (spLWrite 75 K) []) : ∀ d : Nat, C8.Cal P w K mg base (78 + d) "_law_loose" (spLLoose d K) []
  | 0 => cal_imp (zz_l_loose g _ (fd_l_loose c) m) fun vs H Q E h => by
    obtain ⟨L, b, v, t, l, n, m, _, _, _, _, _, _, hT, h, _⟩ := h
    obtain ⟨m, rfl⟩ := to_pos hT
    omega
  | d + 1 => ok_l_loose g (n := 78 + d) (by omega) c_l_level c_l_draw c_l_write (ring_lloose g c m c_l_level c_l_draw c_l_write d) (fd_l_loose c) m fun vs H Q E h => p_lloose d vs H Q E h
end
end
end K02

/-! k02: the bounds -/
namespace K02
open PySem PySem.Spec PyProof.Rows L2 Lg Tok Xp PySem.NumText
local macro_rules | `(tactic| walk_at "ar") => `(tactic| first | omega | (simp; done) | (simp; omega) | (simp only [S_len]; omega) | (simp [Lg.repL_len]; done) | (simp [Lg.repL_len]; omega))
local macro_rules | `(tactic| walk_at "gt") => `(tactic| repeat (first | exact GetAt.here | apply GetAt.there))
local macro_rules | `(tactic| walk_at "st") => `(tactic| repeat (first | exact SetAt.here | apply SetAt.there))
local macro_rules | `(tactic| walk_at "mem") => `(tactic| first | assumption | exact List.mem_cons_self | (apply List.mem_cons_of_mem; walk_at "mem"))
local macro_rules | `(tactic| walk_at "put") => `(tactic| repeat (first | exact Put.here | apply Put.there))
local macro_rules | `(tactic| walk_at "rem") => `(tactic| repeat (first | exact Rem.here | apply Rem.there))
local macro_rules | `(tactic| walk_at "pick") => `(tactic| first | exact Pick.refl | exact Pick.cons (by walk_at "rem") (by walk_at "pick") | (apply Pick.drop; walk_at "pick") | exact Pick.nil)
local macro_rules | `(tactic| walk_at "is") => `(tactic| first | exact Is.int | exact Is.str | exact Is.bl | exact Is.non | assumption | exact Is.dat (by walk_at "mem") | (apply Is.cons; walk_at "is"))
local macro_rules | `(tactic| walk_at "isall") => `(tactic| first | exact IsAll.nil | exact IsAll.cons (by walk_at "is") (by walk_at "isall"))
local macro_rules | `(tactic| walk_at "lsin") => `(tactic| first | assumption | exact LsIn.own (by walk_at "mem") | exact LsIn.dat (by walk_at "mem") | (apply LsIn.cons; walk_at "lsin"))
local macro_rules | `(tactic| walk_at "see") => `(tactic| first | exact See.own (by walk_at "mem") | exact See.is (by walk_at "is"))
local macro_rules | `(tactic| walk_at "w1") => `(tactic| first
  | (with_reducible apply Lg.w_seq)
  | (with_reducible apply Lg.w_asg)
  | ((with_reducible show gName _ _ _ _ _); (with_reducible refine Lg.w_name (by walk_at "st") ?_))
  | ((with_reducible show tVar _ _ _ _); (with_reducible refine Lg.w_var (by walk_at "gt") ?_))
  | (with_reducible apply Lg.w_c)
  | (with_reducible apply Lg.w_op)
  | (with_reducible apply Lg.w_un)
  | (with_reducible apply Lg.w_nil)
  | (with_reducible apply Lg.w_cons)
  | (with_reducible apply Lg.w_call)
  | (with_reducible apply Lg.w_cb)
  | (with_reducible apply Lg.w_tup)
  | (with_reducible apply Lg.w_lst)
  | (with_reducible apply Lg.w_bm)
  | (with_reducible apply Lg.w_bm0)
  | (with_reducible apply Lg.w_sl)
  | (with_reducible apply Lg.w_nopart)
  | (with_reducible apply Lg.w_part)
  | (with_reducible apply Lg.w_isint)
  | (with_reducible apply Lg.w_test)
  | (with_reducible apply Lg.w_tB)
  | (with_reducible apply Lg.w_isbl')
  | (with_reducible apply Lg.w_not)
  | (with_reducible apply Lg.w_tru)
  | (with_reducible apply Lg.w_truI)
  | (with_reducible apply Lg.w_truB)
  | (with_reducible apply Lg.w_ifs)
  | (with_reducible apply Lg.w_next)
  | (with_reducible apply Lg.w_break)
  | (with_reducible apply Lg.w_cont)
  | (with_reducible apply Lg.w_ret)
  | (with_reducible apply Lg.w_retn)
  | (with_reducible apply Lg.w_drop)
  | (with_reducible apply Lg.w_sub)
  | (with_reducible apply Lg.w_gnil)
  | (with_reducible apply Lg.w_gcons)
  | (with_reducible apply Lg.w_ifT)
  | (with_reducible apply Lg.w_ifF)
  | (with_reducible apply Lg.w_add)
  | (with_reducible apply Lg.w_sub2)
  | ((with_reducible show rTimes (V.int _) (V.int _) _ _); (with_reducible refine Lg.w_mulR (by omega) ?_))
  | ((with_reducible show rTimes (V.int _) (V.int _) _ _); (with_reducible refine Lg.w_mulL (by omega) ?_))
  | ((with_reducible show rMod (V.int _) (V.int _) _ _); (with_reducible refine Lg.w_mod (by first | decide | omega) ?_))
  | ((with_reducible show rFdiv (V.int _) (V.int _) _ _); (with_reducible refine Lg.w_fdiv (by first | decide | omega) ?_))
  | (with_reducible apply Lg.w_band)
  | (with_reducible apply Lg.w_lt)
  | (with_reducible apply Lg.w_le)
  | (with_reducible apply Lg.w_gt)
  | (with_reducible apply Lg.w_ge)
  | (with_reducible apply Lg.w_eqI)
  | (with_reducible apply Lg.w_neI)
  | (with_reducible apply Lg.w_intI2)
  | (with_reducible apply Lg.w_neg)
  | (with_reducible apply Lg.w_inSS)
  | (with_reducible apply Lg.w_ninSS)
  | (with_reducible apply Lg.w_inSS')
  | (with_reducible apply Lg.w_neSS)
  | (with_reducible apply Lg.w_strS)
  | (with_reducible apply Lg.w_fldE)
  | (with_reducible apply Lg.w_sfldE)
  | (with_reducible apply Lg.w_makeE)
  | (with_reducible apply Lg.w_methE)
  | (with_reducible apply Lg.w_methSE)
  | (with_reducible apply Lg.w_callS)
  | (with_reducible apply Lg.w_raiseO)
  | (with_reducible apply Lg.w_raiseB)
  | (with_reducible apply Lg.w_try)
  | (with_reducible apply Lg.w_strS)
  | (with_reducible apply Lg.w_eqSS)
  | (with_reducible apply Lg.w_eqS)
  | (with_reducible apply Lg.w_neS)
  | (with_reducible apply Lg.w_isN)
  | (with_reducible apply Lg.w_isR)
  | (with_reducible apply Lg.w_isI)
  | (with_reducible apply Lg.w_isS)
  | (with_reducible apply Lg.w_nsN)
  | (with_reducible apply Lg.w_nsR)
  | (with_reducible apply Lg.w_nsI)
  | (with_reducible apply Lg.w_nsS)
  | (with_reducible apply Lg.w_int)
  | (with_reducible apply Lg.w_intb)
  | (with_reducible apply Lg.w_ord1)
  | (with_reducible apply Lg.w_tyS)
  | (with_reducible apply Lg.w_inSg)
  | (with_reducible apply Lg.w_ninSg)
  | ((with_reducible show NewL _ _ _); (with_reducible refine Lg.w_newL (by assumption) (by walk_at "isall") (by simp) ?_); (intro p' H' hS'))
  | ((with_reducible show NewT _ _ _); (with_reducible refine Lg.w_newT (by assumption) (by walk_at "isall") (by simp) ?_); (intro p' H' hS'))
  | ((with_reducible show TyThen _ _ (V.ref _) _ _); (with_reducible refine Lg.w_tyL (by assumption) (by walk_at "lsin") ?_))
  | ((with_reducible show rLenX _ [V.ref _] _ _); (with_reducible refine Lg.w_lenL (by assumption) (by walk_at "lsin") ?_))
  | ((with_reducible show rLenX _ [V.ref _] _ _); (with_reducible refine Lg.w_lenT (by assumption) (by walk_at "is") ?_))
  | ((with_reducible show spDraw _ _ _ _ _); (with_reducible refine Lg.w_draw (by assumption) (by walk_at "mem") (by first | decide | omega) ?_); (intro k' H' hk0' hk1' hS'))
  | ((with_reducible show rSlX _ (V.ref _) _ _ _ _); (with_reducible refine Lg.w_slL (by assumption) (by walk_at "lsin") ?_); (intro p' H' hS'))
  | ((with_reducible show rListOf _ [V.ref _] _ _); (with_reducible refine Lg.w_listL (by assumption) (by walk_at "lsin") ?_); (intro p' H' hS'))
  | (with_reducible apply Lg.w_for)
  | (with_reducible apply Lg.w_lc)
  | ((with_reducible show iAny _ (tVar _) _ _ _); (with_reducible refine Lg.w_anyVar (by walk_at "gt") ?_))
  | (with_reducible apply Lg.w_anyC)
  | (with_reducible apply Lg.w_vS)
  | (with_reducible apply Lg.w_itS)
  | ((with_reducible show AnyV _ (V.ref _) _ _); (with_reducible refine Lg.w_vL (by assumption) (by walk_at "lsin") ?_))
  | ((with_reducible show AnyL _ (V.ref _) _ _); (with_reducible refine Lg.w_itL (by assumption) (by walk_at "lsin") ?_))
  | ((with_reducible show AnyV _ (V.ref _) _ _); (with_reducible refine Lg.w_vT (by assumption) (by walk_at "is") ?_))
  | ((with_reducible show AnyT _ (V.ref _) _ _); (with_reducible refine Lg.w_itT (by assumption) (by walk_at "is") ?_))
  | ((with_reducible show Enu _ [V.ref _] _ _); (with_reducible refine Lg.w_itE (by assumption) (by walk_at "lsin") ?_))
  | ((with_reducible show rPlus _ (V.ref _) (V.ref _) _ _); (with_reducible refine Lg.w_plusL (by assumption) (by walk_at "lsin") (by walk_at "lsin") (by walk_at "ar") ?_); (intro p' H' hS'))
  | ((with_reducible show rTimes (V.ref _) (V.int _) _ _); (with_reducible refine Lg.w_repLs (by assumption) (by walk_at "lsin") (by walk_at "ar") (by walk_at "ar") (by walk_at "ar") ?_); (intro p' H' hS'))
  | ((with_reducible show rLenX _ [V.str (S _)] _ _); (with_reducible refine Lg.w_lenSS (by walk_at "ar") ?_))
  | ((with_reducible show rLenX _ [V.str _] _ _); (with_reducible refine Lg.w_lenS (by walk_at "ar") ?_))
  | ((with_reducible show rSlX _ (V.str _) _ _ _ _); (with_reducible refine Lg.w_slS (by walk_at "ar") ?_))
  | (with_reducible apply Lg.w_rng1)
  | (with_reducible apply Lg.w_rng2)
  | (with_reducible apply Lg.w_rng3)
  | (with_reducible apply Lg.w_enum)
  | ((with_reducible show Rng1 _ _ _); (with_reducible refine Lg.w_itR1 (by omega) ?_))
  | ((with_reducible show Rng2 _ _ _); (with_reducible refine Lg.w_itR2 (by omega) (by omega) ?_))
  | ((with_reducible show rIx _ (V.ref _) (V.int _) _ _); (with_reducible refine Lg.w_ixN (by assumption) (by walk_at "lsin") (by walk_at "ar") (by walk_at "ar") ?_))
  | ((with_reducible show rPlus _ (V.str (S _)) (V.str (S _)) _ _); (with_reducible refine Lg.w_addSS (by walk_at "ar") ?_))
  | ((with_reducible show rTimes (V.str (S _)) (V.int _) _ _); (with_reducible refine Lg.w_repSS (by walk_at "ar") (by walk_at "ar") (by walk_at "ar") ?_))
  | ((with_reducible show rIsi _ [V.ref _, V.ty "list"] _ _); (with_reducible refine Lg.w_isLL (by assumption) (by walk_at "lsin") ?_))
  | ((with_reducible show rIsi _ [V.ref _, V.ty "tuple"] _ _); (with_reducible refine Lg.w_isTT (by assumption) (by walk_at "is") ?_))
  | (with_reducible apply Lg.w_isII)
  | (with_reducible apply Lg.w_isSI)
  | (with_reducible apply Lg.w_isSS)
  | (with_reducible apply Lg.w_isIS)
  | (with_reducible apply Lg.w_ifexp)
  | (with_reducible apply Lg.w_chain)
  | ((with_reducible show ChainK _ _ _ _ _ _ _); (with_reducible refine Lg.w_chainLe (by (intro R' hR'; walk_at "w"; exact hR')) ?_))
  | ((with_reducible show ChainK _ _ _ _ _ _ _); (with_reducible refine Lg.w_chainLt (by (intro R' hR'; walk_at "w"; exact hR')) ?_))
  | ((with_reducible show tAnd _ _ _ _ _); (with_reducible refine Lg.w_andP (by (intro R' hR'; walk_at "w"; exact hR')) (by (intro hb' R' hR'; walk_at "w"; exact hR')) ?_))
  | ((with_reducible show tOr _ _ _ _ _); (with_reducible refine Lg.w_orP (by (intro R' hR'; walk_at "w"; exact hR')) (by (intro hb' R' hR'; walk_at "w"; exact hR')) ?_))
  | ((with_reducible show tAndV _ _ _ _ _); (with_reducible refine Lg.w_andVP (by (intro R' hR'; walk_at "w"; exact hR')) (by (intro hb' R' hR'; walk_at "w"; exact hR')) ?_))
  | ((with_reducible show tOrV _ _ _ _ _); (with_reducible refine Lg.w_orVP (by (intro R' hR'; walk_at "w"; exact hR')) (by (intro hb' R' hR'; walk_at "w"; exact hR')) ?_))
  | (with_reducible apply Lg.w_notV))
local macro_rules | `(tactic| walk_at "w") => `(tactic| repeat (walk_at "w1"))
local macro_rules | `(tactic| walk_at "k") => `(tactic| repeat (first | walk_at "w1" | ((with_reducible show (if _ = true then _ else _ : Prop)); (first | (refine Lg.w_bt (by first | rfl | decide | (simp; done) | fail) ?_) | (refine Lg.w_bf (by first | rfl | decide | (simp; done) | fail) ?_) | fail))))
local macro_rules | `(tactic| walk_at "z") => `(tactic| simp only [z_0, z_1, z_2, z_3, z_4, z_5, z_6, z_7, z_8, z_9, z_10, z_11, z_12, z_13, z_14, z_15, z_16, z_17, z_18, z_19, z_20, z_21, z_22, z_23, z_24, z_25, z_26, z_27, z_28, z_29, z_30, z_31, z_32, z_33, z_34, z_35, z_36, z_37, z_38, z_39, z_40, z_41, z_42, z_43, z_44, z_45, z_46, z_47, z_48, z_49, z_50, z_51, z_52, z_53, z_54, z_55, z_56, z_57, z_58, z_59, z_60, z_61, z_62, z_63, z_64, z_65, z_66, z_67, z_68, z_69, z_70, z_71, z_72, z_73, z_74, z_75, z_76, z_77])
section
variable {K : PySem.W.Frag}
/-! ### parse of what split gave (shared) -/
theorem split_fix {L : List Ent} {H : Hp} {Q : VK} {E : XK} {x : List Nat} {ts : List Tk} (hS : St K L H) (e : spl x = some ts) (hl : x.length ≤ 100000) (h : ∀ q H1, St K (Lg.dat (.ref q) (tkL ts) :: L) H1 → Q (.ref q) H1) : spSplit K [.str (S x)] H Q E :=
  ⟨L, x, rfl, hS, hl, fun e2 => (by rw [e] at e2; cases e2), fun ts' p H' e2 hS' => (by rw [e] at e2; cases e2; exact h p H' hS'.freeze)⟩
theorem parse_no {L : List Ent} {H : Hp} {Q : VK} {E : XK} {q : Addr} {ts : List Tk} (hS : St K L H) (hq : Lg.dat (.ref q) (tkL ts) ∈ L) (hr : resE K ∈ L) (ok : ROK ts) (hp : pars ts = some none) (h : ∀ H', St K L H' → Q .non H') : spParse K [.ref q] H Q E :=
  ⟨L, q, ts, rfl, hS, hq, hr, ok, (by rw [hp]; simp), fun _ => h, fun t e => (by rw [hp] at e; cases e)⟩
theorem parse_tr {L : List Ent} {H : Hp} {Q : VK} {E : XK} {q : Addr} {ts : List Tk} {t : Tr} (hS : St K L H) (hq : Lg.dat (.ref q) (tkL ts) ∈ L) (hr : resE K ∈ L) (ok : ROK ts) (hp : pars ts = some (some t)) (h : ∀ v H', St K (Lg.dat v t.d :: L) H' → Q v H') : spParse K [.ref q] H Q E :=
  ⟨L, q, ts, rfl, hS, hq, hr, ok, (by rw [hp]; simp), fun e => (by rw [hp] at e; cases e), fun u e => (by rw [hp] at e; cases e; exact h)⟩
theorem fix_rok {x : List Nat} {ts : List Tk} (F : Fix x ts) (hl : x.length ≤ 100000) : ROK ts := ⟨F.ok, Nat.le_trans (spl_len F.spl) hl⟩
def spLBounds (K : PySem.W.Frag) : Sp := fun vs H Q _ => ∃ (L : List Ent), vs = [] ∧ St K L H ∧ resE K ∈ L ∧ ∀ H', St K L H' → Q (.bl true) H'
theorem p_lbounds (vs : List V) (H : Hp) (Q : VK) (E : XK) (h : spLBounds K vs H Q E) : vs.length = 0 ∧ t_l_bounds K (spHeight 45 K) (spParse K) (spSplit K) { nx := fun _ H' => Q .non H', rt := Q } (start N_l_bounds vs) H := by
  obtain ⟨L, rfl, hS, hres, hQ⟩ := h
  refine ⟨rfl, ?_⟩
  unfold t_l_bounds
  walk_at "z"
  show tSeq _ _ _ [none, none, none, none, none] H
  walk_at "w"
  rename_i p0 H0 hS0 p1 H1 hS1
  have ea : (Tr.nam [97]).d = .tuple [.str (S [110, 97, 109, 101]), .str (S [97])] := by rw [Tr.d]
  have n1 : (Tr.num 1).d = .tuple [.str (S [110, 117, 109, 98, 101, 114]), .int 1] := by rw [Tr.d]; rfl
  refine w_forR (fun i σ H' => ∃ v1 v2, σ = [some (.ref p0), some v1, v2, none, none] ∧ St K (Lg.dat v1 (hiT i).d :: Lg.dat (.ref p0) (Tr.nam [97]).d :: L) H') ⟨_, _, rfl, ?_⟩ (fun i σ H' hi hI => ?_) (fun σ H' hI => ?_)
  · rw [hiT, ea]
    exact hS1.to (by walk_at "pick")
  · obtain ⟨v1, v2, rfl, hS2⟩ := hI
    walk_at "w"
    rename_i p3 H3 hS3 p4 H4 hS4
    refine ⟨_, _, rfl, ?_⟩
    have eo : (Tr.op 43 (Tr.num 1) (hiT i)).d = .tuple [.str (S [43]), (Tr.num 1).d, (hiT i).d] := Tr.d.eq_4 _ _ _
    rw [hiT, eo, n1]
    exact hS4.to (by walk_at "pick")
  obtain ⟨v1, v2, rfl, hS2⟩ := hI
  have e11 : Int.toNat 11 = 11 := rfl
  rw [e11] at hS2
  walk_at "w"
  refine w_or ?_
  walk_at "w"
  have ed : repL [40] (Int.toNat 10) ++ [97] ++ repL [41] (Int.toNat 10) = deepX := rfl
  rw [ed]
  have hdl : deepX.length = 21 := by decide
  obtain ⟨t1, F1, hp1⟩ := deep_tree
  refine split_fix hS2 F1.spl (by decide) fun q3 H3 hS3 => ?_
  walk_at "w"
  refine parse_tr hS3 (.head _) (.tail _ (.tail _ (.tail _ hres))) (fix_rok F1 (by decide)) hp1 fun v4 H4 hS4 => ?_
  walk_at "w"
  have hTa : TO 1 (.nam [97]) := .nam (by decide)
  refine w_ne1 (d := (Tr.nam [97]).d) hS4 (.is (.dat (.head _))) (.is (.dat (by walk_at "mem"))) (hTa.shw.shaped (by decide)) ?_
  have hS5 := hS4.tail.tail
  clear hS3 hS4
  walk_at "w"
  refine w_or ?_
  walk_at "w"
  obtain ⟨t2, F2, hp2⟩ := fix_no deeper_no
  refine split_fix hS5 F2.spl (by decide) fun q3 H3 hS3 => ?_
  walk_at "w"
  refine parse_no hS3 (.head _) (.tail _ (.tail _ (.tail _ hres))) (fix_rok F2 (by decide)) hp2 fun H4 hS4 => ?_
  have hS6 := hS4.tail
  clear hS3 hS4 hS5
  walk_at "w"
  have ef : repL [102, 40] (Int.toNat 10) ++ repL [41] (Int.toNat 10) = repL [102, 40] 10 ++ repL [41] 10 := rfl
  rw [ef]
  obtain ⟨t3, u3, F3, hp3, _⟩ := fix_ht calls_is
  refine split_fix hS6 F3.spl (by decide) fun q3 H3 hS3 => ?_
  walk_at "w"
  refine parse_tr hS3 (.head _) (.tail _ (.tail _ (.tail _ hres))) (fix_rok F3 (by decide)) hp3 fun v4 H4 hS4 => ?_
  obtain ⟨q4, rfl⟩ := tr_ref hS4
  have hS7 := hS4.tail.tail
  clear hS3 hS4 hS6
  walk_at "w"
  refine w_or ?_
  walk_at "w"
  have eg : repL [102, 40] (Int.toNat 11) ++ repL [41] (Int.toNat 11) = repL [102, 40] 11 ++ repL [41] 11 := rfl
  rw [eg]
  obtain ⟨t4, F4, hp4⟩ := fix_no calls_no
  refine split_fix hS7 F4.spl (by decide) fun q3 H3 hS3 => ?_
  walk_at "w"
  refine parse_no hS3 (.head _) (.tail _ (.tail _ (.tail _ hres))) (fix_rok F4 (by decide)) hp4 fun H4 hS4 => ?_
  have hS8 := hS4.tail
  clear hS3 hS4 hS7
  walk_at "w"
  refine ⟨_, v1, hiT 11, rfl, hS8, .head _, by rw [hiT_ht]; decide, by rw [hiT_wd]; decide, fun H5 hS9 => ?_⟩
  rw [hiT_ht]
  walk_at "w"
  refine w_bf rfl ?_
  walk_at "w"
  refine w_andV ?_
  walk_at "w"
  have eh : [49] ++ repL [32, 43, 32, 49] (Int.toNat 11) = rowX := rfl
  rw [eh]
  have hrl : rowX.length = 45 := by decide
  obtain ⟨t5, u5, F5, hp5, hh5⟩ := fix_ht rowX_is
  refine split_fix hS9 F5.spl (by decide) fun q3 H3 hS3 => ?_
  walk_at "w"
  have hb5 : u5.wd ≤ 1000 := by
    unfold pars at hp5
    split at hp5
    · cases hp5
    · cases hp5
    · rename_i t e
      by_cases hb : t.ht ≤ 45 ∧ t.wd ≤ 1000
      · rw [if_pos hb] at hp5
        split at hp5
        · cases hp5; exact hb.2
        · cases hp5
      · rw [if_neg hb] at hp5; cases hp5
    · cases hp5
  refine parse_tr hS3 (.head _) (.tail _ (.tail _ (.tail _ hres))) (fix_rok F5 (by decide)) hp5 fun v4 H4 hS4 => ?_
  walk_at "w"
  refine ⟨_, v4, u5, rfl, hS4, .head _, by rw [hh5]; decide, hb5, fun H6 hS6 => ?_⟩
  rw [hh5]
  have hS10 := hS6.tail.tail
  clear hS3 hS4 hS6 hS8 hS9
  walk_at "w"
  refine w_bt rfl ?_
  walk_at "w"
  obtain ⟨t6, F6, hp6⟩ := fix_no rowX_no
  refine split_fix hS10 F6.spl (by decide) fun q3 H3 hS3 => ?_
  walk_at "w"
  refine parse_no hS3 (.head _) (.tail _ (.tail _ (.tail _ hres))) (fix_rok F6 (by decide)) hp6 fun H4 hS4 => ?_
  walk_at "w"
  exact hQ _ hS4.tail.tail.tail
end
end K02

/-! k02: the law -/
namespace K02
open PySem PySem.Spec PyProof.Rows L2 Lg Tok Xp PySem.NumText
local macro_rules | `(tactic| walk_at "ar") => `(tactic| first | omega | (simp; done) | (simp; omega) | (simp only [S_len]; omega) | (simp [Lg.repL_len]; done) | (simp [Lg.repL_len]; omega))
local macro_rules | `(tactic| walk_at "gt") => `(tactic| repeat (first | exact GetAt.here | apply GetAt.there))
local macro_rules | `(tactic| walk_at "st") => `(tactic| repeat (first | exact SetAt.here | apply SetAt.there))
local macro_rules | `(tactic| walk_at "mem") => `(tactic| first | assumption | exact List.mem_cons_self | (apply List.mem_cons_of_mem; walk_at "mem"))
local macro_rules | `(tactic| walk_at "put") => `(tactic| repeat (first | exact Put.here | apply Put.there))
local macro_rules | `(tactic| walk_at "rem") => `(tactic| repeat (first | exact Rem.here | apply Rem.there))
local macro_rules | `(tactic| walk_at "pick") => `(tactic| first | exact Pick.refl | exact Pick.cons (by walk_at "rem") (by walk_at "pick") | (apply Pick.drop; walk_at "pick") | exact Pick.nil)
local macro_rules | `(tactic| walk_at "is") => `(tactic| first | exact Is.int | exact Is.str | exact Is.bl | exact Is.non | assumption | exact Is.dat (by walk_at "mem") | (apply Is.cons; walk_at "is"))
local macro_rules | `(tactic| walk_at "isall") => `(tactic| first | exact IsAll.nil | exact IsAll.cons (by walk_at "is") (by walk_at "isall"))
local macro_rules | `(tactic| walk_at "lsin") => `(tactic| first | assumption | exact LsIn.own (by walk_at "mem") | exact LsIn.dat (by walk_at "mem") | (apply LsIn.cons; walk_at "lsin"))
local macro_rules | `(tactic| walk_at "see") => `(tactic| first | exact See.own (by walk_at "mem") | exact See.is (by walk_at "is"))
local macro_rules | `(tactic| walk_at "w1") => `(tactic| first
  | (with_reducible apply Lg.w_seq)
  | (with_reducible apply Lg.w_asg)
  | ((with_reducible show gName _ _ _ _ _); (with_reducible refine Lg.w_name (by walk_at "st") ?_))
  | ((with_reducible show tVar _ _ _ _); (with_reducible refine Lg.w_var (by walk_at "gt") ?_))
  | (with_reducible apply Lg.w_c)
  | (with_reducible apply Lg.w_op)
  | (with_reducible apply Lg.w_un)
  | (with_reducible apply Lg.w_nil)
  | (with_reducible apply Lg.w_cons)
  | (with_reducible apply Lg.w_call)
  | (with_reducible apply Lg.w_cb)
  | (with_reducible apply Lg.w_tup)
  | (with_reducible apply Lg.w_lst)
  | (with_reducible apply Lg.w_bm)
  | (with_reducible apply Lg.w_bm0)
  | (with_reducible apply Lg.w_sl)
  | (with_reducible apply Lg.w_nopart)
  | (with_reducible apply Lg.w_part)
  | (with_reducible apply Lg.w_isint)
  | (with_reducible apply Lg.w_test)
  | (with_reducible apply Lg.w_tB)
  | (with_reducible apply Lg.w_isbl')
  | (with_reducible apply Lg.w_not)
  | (with_reducible apply Lg.w_tru)
  | (with_reducible apply Lg.w_truI)
  | (with_reducible apply Lg.w_truB)
  | (with_reducible apply Lg.w_ifs)
  | (with_reducible apply Lg.w_next)
  | (with_reducible apply Lg.w_break)
  | (with_reducible apply Lg.w_cont)
  | (with_reducible apply Lg.w_ret)
  | (with_reducible apply Lg.w_retn)
  | (with_reducible apply Lg.w_drop)
  | (with_reducible apply Lg.w_sub)
  | (with_reducible apply Lg.w_gnil)
  | (with_reducible apply Lg.w_gcons)
  | (with_reducible apply Lg.w_ifT)
  | (with_reducible apply Lg.w_ifF)
  | (with_reducible apply Lg.w_add)
  | (with_reducible apply Lg.w_sub2)
  | ((with_reducible show rTimes (V.int _) (V.int _) _ _); (with_reducible refine Lg.w_mulR (by omega) ?_))
  | ((with_reducible show rTimes (V.int _) (V.int _) _ _); (with_reducible refine Lg.w_mulL (by omega) ?_))
  | ((with_reducible show rMod (V.int _) (V.int _) _ _); (with_reducible refine Lg.w_mod (by first | decide | omega) ?_))
  | ((with_reducible show rFdiv (V.int _) (V.int _) _ _); (with_reducible refine Lg.w_fdiv (by first | decide | omega) ?_))
  | (with_reducible apply Lg.w_band)
  | (with_reducible apply Lg.w_lt)
  | (with_reducible apply Lg.w_le)
  | (with_reducible apply Lg.w_gt)
  | (with_reducible apply Lg.w_ge)
  | (with_reducible apply Lg.w_eqI)
  | (with_reducible apply Lg.w_neI)
  | (with_reducible apply Lg.w_intI2)
  | (with_reducible apply Lg.w_neg)
  | (with_reducible apply Lg.w_inSS)
  | (with_reducible apply Lg.w_ninSS)
  | (with_reducible apply Lg.w_inSS')
  | (with_reducible apply Lg.w_neSS)
  | (with_reducible apply Lg.w_strS)
  | (with_reducible apply Lg.w_fldE)
  | (with_reducible apply Lg.w_sfldE)
  | (with_reducible apply Lg.w_makeE)
  | (with_reducible apply Lg.w_methE)
  | (with_reducible apply Lg.w_methSE)
  | (with_reducible apply Lg.w_callS)
  | (with_reducible apply Lg.w_raiseO)
  | (with_reducible apply Lg.w_raiseB)
  | (with_reducible apply Lg.w_try)
  | (with_reducible apply Lg.w_strS)
  | (with_reducible apply Lg.w_eqSS)
  | (with_reducible apply Lg.w_eqS)
  | (with_reducible apply Lg.w_neS)
  | (with_reducible apply Lg.w_isN)
  | (with_reducible apply Lg.w_isR)
  | (with_reducible apply Lg.w_isI)
  | (with_reducible apply Lg.w_isS)
  | (with_reducible apply Lg.w_nsN)
  | (with_reducible apply Lg.w_nsR)
  | (with_reducible apply Lg.w_nsI)
  | (with_reducible apply Lg.w_nsS)
  | (with_reducible apply Lg.w_int)
  | (with_reducible apply Lg.w_intb)
  | (with_reducible apply Lg.w_ord1)
  | (with_reducible apply Lg.w_tyS)
  | (with_reducible apply Lg.w_inSg)
  | (with_reducible apply Lg.w_ninSg)
  | ((with_reducible show NewL _ _ _); (with_reducible refine Lg.w_newL (by assumption) (by walk_at "isall") (by simp) ?_); (intro p' H' hS'))
  | ((with_reducible show NewT _ _ _); (with_reducible refine Lg.w_newT (by assumption) (by walk_at "isall") (by simp) ?_); (intro p' H' hS'))
  | ((with_reducible show TyThen _ _ (V.ref _) _ _); (with_reducible refine Lg.w_tyL (by assumption) (by walk_at "lsin") ?_))
  | ((with_reducible show rLenX _ [V.ref _] _ _); (with_reducible refine Lg.w_lenL (by assumption) (by walk_at "lsin") ?_))
  | ((with_reducible show rLenX _ [V.ref _] _ _); (with_reducible refine Lg.w_lenT (by assumption) (by walk_at "is") ?_))
  | ((with_reducible show spDraw _ _ _ _ _); (with_reducible refine Lg.w_draw (by assumption) (by walk_at "mem") (by first | decide | omega) ?_); (intro k' H' hk0' hk1' hS'))
  | ((with_reducible show rSlX _ (V.ref _) _ _ _ _); (with_reducible refine Lg.w_slL (by assumption) (by walk_at "lsin") ?_); (intro p' H' hS'))
  | ((with_reducible show rListOf _ [V.ref _] _ _); (with_reducible refine Lg.w_listL (by assumption) (by walk_at "lsin") ?_); (intro p' H' hS'))
  | (with_reducible apply Lg.w_for)
  | (with_reducible apply Lg.w_lc)
  | ((with_reducible show iAny _ (tVar _) _ _ _); (with_reducible refine Lg.w_anyVar (by walk_at "gt") ?_))
  | (with_reducible apply Lg.w_anyC)
  | (with_reducible apply Lg.w_vS)
  | (with_reducible apply Lg.w_itS)
  | ((with_reducible show AnyV _ (V.ref _) _ _); (with_reducible refine Lg.w_vL (by assumption) (by walk_at "lsin") ?_))
  | ((with_reducible show AnyL _ (V.ref _) _ _); (with_reducible refine Lg.w_itL (by assumption) (by walk_at "lsin") ?_))
  | ((with_reducible show AnyV _ (V.ref _) _ _); (with_reducible refine Lg.w_vT (by assumption) (by walk_at "is") ?_))
  | ((with_reducible show AnyT _ (V.ref _) _ _); (with_reducible refine Lg.w_itT (by assumption) (by walk_at "is") ?_))
  | ((with_reducible show Enu _ [V.ref _] _ _); (with_reducible refine Lg.w_itE (by assumption) (by walk_at "lsin") ?_))
  | ((with_reducible show rPlus _ (V.ref _) (V.ref _) _ _); (with_reducible refine Lg.w_plusL (by assumption) (by walk_at "lsin") (by walk_at "lsin") (by walk_at "ar") ?_); (intro p' H' hS'))
  | ((with_reducible show rTimes (V.ref _) (V.int _) _ _); (with_reducible refine Lg.w_repLs (by assumption) (by walk_at "lsin") (by walk_at "ar") (by walk_at "ar") (by walk_at "ar") ?_); (intro p' H' hS'))
  | ((with_reducible show rLenX _ [V.str (S _)] _ _); (with_reducible refine Lg.w_lenSS (by walk_at "ar") ?_))
  | ((with_reducible show rLenX _ [V.str _] _ _); (with_reducible refine Lg.w_lenS (by walk_at "ar") ?_))
  | ((with_reducible show rSlX _ (V.str _) _ _ _ _); (with_reducible refine Lg.w_slS (by walk_at "ar") ?_))
  | (with_reducible apply Lg.w_rng1)
  | (with_reducible apply Lg.w_rng2)
  | (with_reducible apply Lg.w_rng3)
  | (with_reducible apply Lg.w_enum)
  | ((with_reducible show Rng1 _ _ _); (with_reducible refine Lg.w_itR1 (by omega) ?_))
  | ((with_reducible show Rng2 _ _ _); (with_reducible refine Lg.w_itR2 (by omega) (by omega) ?_))
  | ((with_reducible show rIx _ (V.ref _) (V.int _) _ _); (with_reducible refine Lg.w_ixN (by assumption) (by walk_at "lsin") (by walk_at "ar") (by walk_at "ar") ?_))
  | ((with_reducible show rPlus _ (V.str (S _)) (V.str (S _)) _ _); (with_reducible refine Lg.w_addSS (by walk_at "ar") ?_))
  | ((with_reducible show rTimes (V.str (S _)) (V.int _) _ _); (with_reducible refine Lg.w_repSS (by walk_at "ar") (by walk_at "ar") (by walk_at "ar") ?_))
  | ((with_reducible show rIsi _ [V.ref _, V.ty "list"] _ _); (with_reducible refine Lg.w_isLL (by assumption) (by walk_at "lsin") ?_))
  | ((with_reducible show rIsi _ [V.ref _, V.ty "tuple"] _ _); (with_reducible refine Lg.w_isTT (by assumption) (by walk_at "is") ?_))
  | (with_reducible apply Lg.w_isII)
  | (with_reducible apply Lg.w_isSI)
  | (with_reducible apply Lg.w_isSS)
  | (with_reducible apply Lg.w_isIS)
  | (with_reducible apply Lg.w_ifexp)
  | (with_reducible apply Lg.w_chain)
  | ((with_reducible show ChainK _ _ _ _ _ _ _); (with_reducible refine Lg.w_chainLe (by (intro R' hR'; walk_at "w"; exact hR')) ?_))
  | ((with_reducible show ChainK _ _ _ _ _ _ _); (with_reducible refine Lg.w_chainLt (by (intro R' hR'; walk_at "w"; exact hR')) ?_))
  | ((with_reducible show tAnd _ _ _ _ _); (with_reducible refine Lg.w_andP (by (intro R' hR'; walk_at "w"; exact hR')) (by (intro hb' R' hR'; walk_at "w"; exact hR')) ?_))
  | ((with_reducible show tOr _ _ _ _ _); (with_reducible refine Lg.w_orP (by (intro R' hR'; walk_at "w"; exact hR')) (by (intro hb' R' hR'; walk_at "w"; exact hR')) ?_))
  | ((with_reducible show tAndV _ _ _ _ _); (with_reducible refine Lg.w_andVP (by (intro R' hR'; walk_at "w"; exact hR')) (by (intro hb' R' hR'; walk_at "w"; exact hR')) ?_))
  | ((with_reducible show tOrV _ _ _ _ _); (with_reducible refine Lg.w_orVP (by (intro R' hR'; walk_at "w"; exact hR')) (by (intro hb' R' hR'; walk_at "w"; exact hR')) ?_))
  | (with_reducible apply Lg.w_notV))
local macro_rules | `(tactic| walk_at "w") => `(tactic| repeat (walk_at "w1"))
local macro_rules | `(tactic| walk_at "k") => `(tactic| repeat (first | walk_at "w1" | ((with_reducible show (if _ = true then _ else _ : Prop)); (first | (refine Lg.w_bt (by first | rfl | decide | (simp; done) | fail) ?_) | (refine Lg.w_bf (by first | rfl | decide | (simp; done) | fail) ?_) | fail))))
local macro_rules | `(tactic| walk_at "z") => `(tactic| simp only [z_0, z_1, z_2, z_3, z_4, z_5, z_6, z_7, z_8, z_9, z_10, z_11, z_12, z_13, z_14, z_15, z_16, z_17, z_18, z_19, z_20, z_21, z_22, z_23, z_24, z_25, z_26, z_27, z_28, z_29, z_30, z_31, z_32, z_33, z_34, z_35, z_36, z_37, z_38, z_39, z_40, z_41, z_42, z_43, z_44, z_45, z_46, z_47, z_48, z_49, z_50, z_51, z_52, z_53, z_54, z_55, z_56, z_57, z_58, z_59, z_60, z_61, z_62, z_63, z_64, z_65, z_66, z_67, z_68, z_69, z_70, z_71, z_72, z_73, z_74, z_75, z_76, z_77])
section
variable {K : PySem.W.Frag}
def moreT : List Tk := [.n 1, .g 41, .g 43, .g 40, .w zthen, .g 59]
theorem tok_sh {ts : List Tk} (h : ∀ t ∈ ts, t.ok) : SeqAt.shaped (.list (ts.map Tk.d)) = true := by
  refine (sh_list (n := 2) (w := 100) (m := (ts.map Tk.d).length * 101) (fun d hd => ?_) (Nat.le_refl _)).shaped (by decide)
  obtain ⟨t, ht, rfl⟩ := List.mem_map.mp hd
  exact (sh_tk (h t ht)).mono (by decide) (by decide)
def bad12 : List (List Nat) := badT.take 12
theorem cutD_lastT (s : List Tk) : Lg.cutD (s.map Tk.d) none (some (-1)) = s.dropLast.map Tk.d := by
  unfold Lg.cutD
  have e1 : HT.sIx (s.map Tk.d).length 0 none = 0 := by simp [HT.sIx]
  have e2 : HT.sIx (s.map Tk.d).length (s.map Tk.d).length (some (-1)) = s.length - 1 := by
    unfold HT.sIx
    simp
    omega
  rw [e1, e2, List.drop_zero, Nat.sub_zero, ← List.map_take, List.dropLast_eq_take]
def spLaw (K : PySem.W.Frag) : Sp := fun vs H Q _ => ∃ (a : Addr) (ns : List Int), vs = [.ref a] ∧ Only H ∧ SqL K H a (ns.map V.int) ∧ CF K ∧ ∀ H', Q (.bl true) H'
theorem p_law (vs : List V) (H : Hp) (Q : VK) (E : XK) (h : spLaw K vs H Q E) : vs.length = 1 ∧ t_law K (spParse K) (spSplit K) (spDraw K) (spAlike K) (spLLoose 15 K) (spLHeight 15 K) (spHeight 45 K) (spWrite 75 K) (spLWrite 75 K) (spLTree 10 K) (spLBounds K) (spDigits K) { nx := fun _ H' => Q .non H', rt := Q } (start N_law vs) H := by
  obtain ⟨a, ns, rfl, hO, hs, cf, hQ⟩ := h
  refine ⟨rfl, ?_⟩
  have hS0 := (St.begin hO hs).tupK (ys := resL) (tab_ok cf)
  unfold t_law
  walk_at "z"
  show tSeq _ _ _ [some (.ref a), none, none, none, none, none, none, none, none] H
  walk_at "w"
  refine ⟨_, a, ns, 0, 63, rfl, hS0, by walk_at "mem", by decide, by decide, by decide, by decide, fun p ms H1 hS1 => ?_⟩
  walk_at "w"
  refine w_newBox hS1 fun b H2 hS2 => ?_
  walk_at "w"
  refine w_or ?_
  walk_at "w"
  rename_i q3 H3 hS3 q4 H4 hS4
  refine w_ne1 (d := .tuple [.int 10, .int 12]) hS4 (by walk_at "see") (by walk_at "see") (by decide +kernel) ?_
  have hS5 := hS4.to (L' := [resE K, bx K b]) (by walk_at "pick")
  clear hS0 hS1 hS2 hS3 hS4
  walk_at "w"
  refine ⟨_, rfl, hS5, by walk_at "mem", fun H6 hS6 => ?_⟩
  clear hS5
  walk_at "k"
  refine w_forR (fun i σ H' => (∃ v2 v3 v4 v5 v6 v7 v8, σ = [some (.ref a), some (.ref b), v2, v3, v4, v5, v6, v7, v8]) ∧ St K [resE K, bx K b] H') ⟨⟨_, _, _, _, _, _, _, rfl⟩, hS6⟩ ?_ ?_
  · rintro i σ H7 hi ⟨⟨v2, v3, v4, v5, v6, v7, v8, rfl⟩, hS7⟩
    walk_at "w"
    rename_i qn Hn hSn qf Hf hSf qg Hg hSg qh Hh hSh qc Hc hSc
    refine ⟨_, b, qn, qc, [[97], [98], [120, 121]], [([102], 0), ([103], 1), ([104], 3)], 4, 4, rfl, rfl, by decide, by decide, hSc, by walk_at "mem", .own (by walk_at "mem"), by decide, by decide, .own (by walk_at "mem"), by decide, by decide, fun t vt H8 hT hS8 => ?_⟩
    have hS9 := hS8.to (L' := [Lg.dat vt t.d, resE K, bx K b]) (by walk_at "pick")
    clear hS7 hSn hSf hSg hSh hSc hS8
    have hT5 : TO 5 t := hT
    have wo := to_wo hT5 (by decide)
    have hht := hT5.ht
    have hwd := hT5.wd
    have hshw := hT5.shw
    obtain ⟨qt, rfl⟩ := tr_ref hS9
    walk_at "w"
    refine ⟨_, _, t, 0, 0, rfl, rfl, hS9, by walk_at "mem", wo, by omega, fun H10 hS10 => ?_⟩
    rw [wr0]
    walk_at "w"
    refine ⟨_, _, t, rfl, hS10, by walk_at "mem", wo, trivial, by (try dsimp only); omega, fun H11 hS11 => ?_⟩
    walk_at "w"
    refine ⟨_, _, t, rfl, hS11, by walk_at "mem", by omega, by omega, fun H12 hS12 => ?_⟩
    walk_at "w"
    rename_i q13 H13 hS13
    refine ⟨_, _, t, 5, rfl, hS13, by walk_at "mem", hT5, by decide, by decide, fun H14 hS14 => ?_⟩
    walk_at "w"
    rename_i q15 H15 hS15
    have hasc := hT5.asc false
    refine ⟨_, _, .tuple [.str (S (t.tx false)), .int (t.ht : Nat)], 2, 110000, rfl, (See.is (.dat (by walk_at "mem"))).dp hS15, (See.is (.dat (by walk_at "mem"))).dp hS15, ?_, by decide, by decide, ?_⟩
    · refine sh_tuple (n := 1) (w := 50000) (fun d hd => ?_) (by simp)
      · simp only [List.mem_cons, List.not_mem_nil, or_false] at hd
        rcases hd with rfl | rfl
        · exact sh_str _ hasc wo.len
        · exact sh_int _ (by omega) (by omega)
    have hS16 := hS15.to (L' := [Lg.dat (.ref qt) t.d, resE K, bx K b]) (by walk_at "pick")
    clear hS9 hS10 hS11 hS12 hS13 hS14 hS15
    walk_at "k"
    obtain ⟨⟨hcan, _⟩, _⟩ := hT5.can
    obtain ⟨s, es, xs, ps, oks⟩ := (hcan.ups (Nat.zero_le _)).parse (by decide) hT5 (by decide)
    have hlen := wo.len
    have rs : ROK s := ⟨oks, by have := spl_len es; omega⟩
    refine split_fix hS16 es (by omega) fun q17 H17 hS17 => ?_
    walk_at "w"
    refine parse_tr hS17 (.head _) (by walk_at "mem") rs ps fun v18 H18 hS18 => ?_
    walk_at "w"
    refine ⟨_, _, t.d, 10, 60 * 4 ^ 5, rfl, (See.is (.dat (.head _))).dp hS18, (See.is (.dat (by walk_at "mem"))).dp hS18, hshw, by decide, by decide, ?_⟩
    have hS19 := hS18.tail
    clear hS16 hS17 hS18
    walk_at "k"
    refine ⟨_, b, _, t, 0, 0, 5, rfl, rfl, by decide, hS19, by walk_at "mem", by walk_at "mem", hT5, by decide, by decide, fun z H20 hz hS20 => ?_⟩
    walk_at "w"
    obtain ⟨s2, es2, xs2, ps2, oks2⟩ := hz.wt.parse (by decide) hT5 (by decide)
    have hzl := hz.len
    have hzl2 : z.length ≤ 40960 := hzl
    refine split_fix hS20 es2 (by omega) fun q21 H21 hS21 => ?_
    walk_at "w"
    refine parse_tr hS21 (.head _) (by walk_at "mem") ⟨oks2, by have := spl_len es2; omega⟩ ps2 fun v22 H22 hS22 => ?_
    walk_at "w"
    refine ⟨_, _, t.d, 10, 60 * 4 ^ 5, rfl, (See.is (.dat (.head _))).dp hS22, (See.is (.dat (by walk_at "mem"))).dp hS22, hshw, by decide, by decide, ?_⟩
    have hS23 := hS22.to (L' := [Lg.dat (.ref q17) (tkL s), resE K, bx K b]) (by walk_at "pick")
    clear hS19 hS20 hS21 hS22
    have hwf := xs.wf (by decide)
    have hif : ifs s ≤ 50 := by
      have h1 := hT5.nIf
      have h2 := xs.ifs
      omega
    have hsl : s.length ≤ 50000 := by have := spl_len es; omega
    walk_at "k"
    rename_i qa Ha hSa qb Hb hSb qc2 Hc2 hSc2 qd Hd hSd qe He hSe qf2 Hf2 hSf2 ql Hl hSl kd Hk hk0 hk1 hSk
    refine w_ixLD (P := fun d => ∃ m ∈ moreT, d = m.d) hSk (.own (by walk_at "mem")) hk0 (by simp; omega) (fun d hd => ?_) fun v d hd hS24 => ?_
    · have hd : d ∈ moreT.map Tk.d := hd
      obtain ⟨m, hm, rfl⟩ := List.mem_map.mp hd
      exact ⟨m, hm, rfl⟩
    obtain ⟨m, hm, rfl⟩ := hd
    have hmo : m.ok := by
      have : ∀ m ∈ moreT, okTB m = true := by decide
      exact okTB_ok (this m hm)
    have hS25 := hS24.to (L' := [Lg.dat v m.d, Lg.dat (.ref q17) (tkL s), resE K, bx K b]) (by walk_at "pick")
    clear hS23 hSa hSb hSc2 hSd hSe hSf2 hSl hSk hS24
    walk_at "w"
    refine w_or ?_
    walk_at "w"
    rename_i qg2 Hg2 hSg2
    rw [cutD_lastT] at hSg2
    refine parse_no hSg2.freeze (.head _) (by walk_at "mem") ⟨fun u hu => oks u ((List.dropLast_sublist s).subset hu), by rw [List.length_dropLast]; omega⟩ (pars_less hwf hif) fun H26 hS26 => ?_
    have hS27 := hS26.tail
    clear hSg2 hS26 hS25
    walk_at "w"
    refine w_or ?_
    walk_at "w"
    rename_i qh2 Hh2 hSh2 qi Hi hSi
    have e27 : s.map Tk.d ++ [m.d] = (s ++ [m]).map Tk.d := by simp
    rw [e27] at hSi
    refine parse_no hSi.freeze (.head _) (by walk_at "mem") ⟨fun u hu => by
      rcases List.mem_append.mp hu with hu | hu
      · exact oks u hu
      · rw [List.mem_singleton.mp hu]; exact hmo, by simp; omega⟩ (pars_more hwf hif hm) fun H28 hS28 => ?_
    have hS29 := hS28.to (L' := [Lg.dat (.ref q17) (tkL s), resE K, bx K b]) (by walk_at "pick")
    clear hSh2 hSi hS27 hS28
    walk_at "w"
    rename_i qj Hj hSj qk Hk2 hSk2 qm Hm hSm
    have e29 : [PyData.tuple [.str (S [115, 105, 103, 110]), .str (S [42])]] ++ s.map Tk.d = (Tk.g 42 :: s).map Tk.d := rfl
    rw [e29] at hSm
    refine parse_no hSm.freeze (.head _) (by walk_at "mem") ⟨fun u hu => by
      rcases List.mem_cons.mp hu with rfl | hu
      · show 42 ∈ sgns
        decide
      · exact oks u hu, by simp; omega⟩ (pars_star s) fun H30 hS30 => ?_
    have hS31 := hS30.to (L' := [resE K, bx K b]) (by walk_at "pick")
    clear hSj hSk2 hSm hS29 hS30
    walk_at "k"
    exact ⟨⟨_, _, _, _, _, _, _, rfl⟩, hS31⟩
  · rintro σ H7 ⟨⟨v2, v3, v4, v5, v6, v7, v8, rfl⟩, hS7⟩
    walk_at "w"
    refine w_anyL1 ?_
    walk_at "w"
    rename_i q8 H8 hS8
    replace hS8 : St K (Lg.ls K q8 (bad12.map nmD) :: [resE K, bx K b]) H8 := hS8
    refine w_forL (ds := bad12.map nmD) (fun i σ H' => (∃ v8, σ = [some (.ref a), some (.ref b), v2, v3, v4, v5, v6, v7, v8]) ∧ St K (Lg.ls K q8 (bad12.map nmD) :: [resE K, bx K b]) H') ⟨⟨_, rfl⟩, hS8⟩ (fun i σ H' _ hI => ?_) (fun i d v σ H' hd hI hlrn => ?_) (fun σ H' hI => ?_)
    · obtain ⟨_, hS9⟩ := hI
      exact ⟨_, hS9, .own (.head _)⟩
    · obtain ⟨⟨v8, rfl⟩, hS9⟩ := hI
      obtain ⟨x, hx, rfl⟩ := map_at hd
      have hS10 := hlrn _ hS9 (.own (.head _))
      clear hlrn
      obtain rfl := hS10.str_of
      obtain ⟨hb1, hb2⟩ := badT_no x (List.mem_of_mem_take (List.mem_of_getElem? hx))
      obtain ⟨ts, F, hp⟩ := fix_no hb1
      walk_at "w"
      refine split_fix hS9 F.spl (by omega) fun q11 H11 hS11 => ?_
      walk_at "w"
      refine parse_no hS11 (.head _) (by walk_at "mem") (fix_rok F (by omega)) hp fun H12 hS12 => ?_
      walk_at "k"
      exact ⟨⟨_, rfl⟩, hS12.tail⟩
    · obtain ⟨⟨v8, rfl⟩, hS9⟩ := hI
      have hS10 := hS9.tail
      clear hS7 hS8 hS9
      have last : ∀ (x : List Nat) (H' : Hp) (R : VK), St K [resE K, bx K b] H' → x ∈ badT → (∀ H2, St K [resE K, bx K b] H2 → R (.bl true) H2) →
          spSplit K [.str (S x)] H' (fun x H1 => tNil [some (.ref a), some (.ref b), v2, v3, v4, v5, v6, v7, v8] H1 fun xs H2 => spParse K (x :: xs) H2 (fun x H1 => tC .non [some (.ref a), some (.ref b), v2, v3, v4, v5, v6, v7, v8] H1 fun y H2 => rIsNo x y H2 R) C8.E0) C8.E0 := by
        intro x H' R hS' hx hR
        obtain ⟨hb1, hb2⟩ := badT_no x hx
        obtain ⟨ts, F, hp⟩ := fix_no hb1
        refine split_fix hS' F.spl (by omega) fun q11 H11 hS11 => ?_
        walk_at "w"
        refine parse_no hS11 (.head _) (by walk_at "mem") (fix_rok F (by omega)) hp fun H12 hS12 => ?_
        walk_at "w"
        exact hR _ hS12.tail
      walk_at "w"
      refine w_andV ?_
      walk_at "w"
      rename_i q11 H11 hS11
      refine parse_no (ts := []) hS11.freeze (.head _) (by walk_at "mem") ⟨fun u hu => (by cases hu), (by decide)⟩ pars_nil fun H12 hS12 => ?_
      have hS13 := hS12.tail
      walk_at "k"
      refine w_andV ?_
      walk_at "w"
      refine last [97, 32, 61, 32, 98, 32, 61, 32, 99] _ _ hS13 (by decide) fun H14 hS14 => ?_
      refine ⟨true, rfl, ?_⟩
      walk_at "k"
      refine w_andV ?_
      walk_at "w"
      refine last [108, 101, 116] _ _ hS14 (by decide) fun H15 hS15 => ?_
      refine ⟨true, rfl, ?_⟩
      walk_at "k"
      refine w_andV ?_
      walk_at "w"
      refine last [102, 40, 97, 44, 41] _ _ hS15 (by decide) fun H16 hS16 => ?_
      refine ⟨true, rfl, ?_⟩
      walk_at "k"
      refine last [40, 41] _ _ hS16 (by decide) fun H17 hS17 => ?_
      exact hQ _
end
end K02

/-! ### the end (printed by tools/fin2.py) -/
namespace K02
open PySem PySem.Spec PyProof.Rows L2 Lg Tok Xp
theorem facts {P : Program} {w : World} {K : PySem.W.Frag} {h : Heap} {mg : Str → Option Value} {f : Addr} (X : K.In h) (N : h.Ns mainGlobals mg) (hf : mg ("law" : Str) = some (.ref f)) (ct : He.SaysT hfa hfn hts w K) (cx : tabs K = true) :
    ∃ fd : FuncData, (∀ (s : Shared) (v : Value), BindsTo s fd ⟨[v], []⟩ [("_law_script", v)]) ∧ ∀ base : Heap, K.In base → base.Ns mainGlobals mg → FnG P w K mg base CX0 198 f fd ["_law_script"] (spLaw K) := by
  have c := ct.d
  have g := mk_G X N c ct cx
  have cf := mk_CF c cx
  obtain ⟨fd, F⟩ := fd_law c
  have e := hf.symm.trans (mg_law X N c)
  cases e
  refine ⟨fd, fun s v => (F.bindsA (ps := ["_law_script"]) fun _ _ _ _ _ _ us hl => match us, hl with | [_], _ => rfl) s [v] rfl, fun base _ _ => ?_⟩
  have c_is_name : C8.Cal P w K mg base 1 "is_name" (spName K) [] := ok_is_name g (fd_is_name c) (mg_is_name X N c) (fun vs H Q E h => p_name vs H Q E h)
  have c_run_of : C8.Cal P w K mg base 1 "_run_of" (spRun K) [] := ok_run_of g (fd_run_of c) (mg_run_of X N c) (fun vs H Q E h => p_run vs H Q E h)
  have c_token : C8.Cal P w K mg base 2 "_token" (spTok K) [] := ok_token g c_run_of (fd_token c) (mg_token X N c) (fun vs H Q E h => p_tok vs H Q E h)
  have c_split : C8.Cal P w K mg base 3 "split" (spSplit K) [] := ok_split g c_token (fd_split c) (mg_split X N c) (fun vs H Q E h => p_split vs H Q E h)
  have c_branches : C8.Cal P w K mg base 1 "_branches" (spBranches K) [] := ok_branches g (fd_branches c) (mg_branches X N c) (fun vs H Q E h => p_branches vs H Q E h)
  have c_height : C8.Cal P w K mg base 47 "height" (spHeight 45 K) [] := ring_height g c (mg_height X N c) c_branches 45
  have c_Reader_at_end : C8.Met P w K mg base 1 (He.ga K "Reader") "at_end" (spAtEnd K) [] := ok_Reader_at_end g (fd_Reader_at_end c) (fun vs H Q E h => p_at_end cf vs H Q E h)
  have c_Reader_is : C8.Met P w K mg base 2 (He.ga K "Reader") "_is" (spIs K) [] := ok_Reader_is g c_Reader_at_end (fd_Reader_is c) (fun vs H Q E h => p_is cf vs H Q E h)
  have c_Reader_skips : C8.Met P w K mg base 3 (He.ga K "Reader") "_skips" (spSkips K) [] := ok_Reader_skips g c_Reader_is (fd_Reader_skips c) (fun vs H Q E h => p_skips cf vs H Q E h)
  have c_Reader_name : C8.Met P w K mg base 2 (He.ga K "Reader") "_name" (spRName K) [] := ok_Reader_name g c_Reader_at_end c_is_name (fd_Reader_name c) (fun vs H Q E h => p_rname cf vs H Q E h)
  have c_Reader_sign : C8.Met P w K mg base 4 (He.ga K "Reader") "_sign" (spRSign K) [] := ok_Reader_sign g c_Reader_skips (fd_Reader_sign c) (fun vs H Q E h => p_rsign cf vs H Q E h)
  have c_Reader_whole : C8.Met P w K mg base 195 (He.ga K "Reader") "whole" (spPF 0 (lev 190).whole K) [] := (ring_reader g cf c c_Reader_at_end c_Reader_is c_Reader_skips c_Reader_name c_Reader_sign 190).whole
  have c_Reader_init : C8.Mak P w K mg base 1 "Reader" (He.ga K "Reader") (spRInit K) [] := ok_Reader_init g (fd_Reader_init c) (fun vs H Q E h => p_rinit cf vs H Q E h)
  have c_parse : C8.Cal P w K mg base 196 "parse" (spParse K) [] := ok_parse g c_Reader_at_end c_height c_Reader_whole c_Reader_init (fd_parse c) (mg_parse X N c) (fun vs H Q E h => p_parse vs H Q E h)
  have c_write : C8.Cal P w K mg base 76 "write" (spWrite 75 K) [] := (ring_write g cf c (mg_write X N c) (mg_written X N c) (mg_atom_text X N c) (mg_sequence_text X N c) 75).write
  have c_l_cell : C8.Cal P w K mg base 1 "_law_cell" (Lg.spCell K) [] := ok_l_cell g (fd_l_cell c) (mg_l_cell X N c) (fun vs H Q E h => p_cell vs H Q E h)
  have c_l_digits : C8.Cal P w K mg base 2 "_law_digits" (spDigits K) [] := ok_l_digits g c_l_cell (fd_l_digits c) (mg_l_digits X N c) (fun vs H Q E h => p_digits vs H Q E h)
  have c_l_draw : C8.Cal P w K mg base 1 "_law_draw" (spDraw K) [] := ok_l_draw g (fd_l_draw c) (mg_l_draw X N c) (fun vs H Q E h => p_draw vs H Q E h)
  have c_l_atom : C8.Cal P w K mg base 2 "_law_atom" (spLAtom K) [] := ok_l_atom g c_l_draw (fd_l_atom c) (mg_l_atom X N c) (fun vs H Q E h => p_latom vs H Q E h)
  have c_l_tree : C8.Cal P w K mg base 13 "_law_tree" (spLTree 10 K) [] := ring_ltree g c (mg_l_tree X N c) c_l_draw c_l_atom 10
  have c_l_level : C8.Cal P w K mg base 1 "_law_level" (spLLevel K) [] := ok_l_level g (fd_l_level c) (mg_l_level X N c) (fun vs H Q E h => p_llevel vs H Q E h)
  have c_l_write : C8.Cal P w K mg base 77 "_law_write" (spLWrite 75 K) [] := (ring_lwrite g c (mg_l_write X N c) (mg_l_rest X N c) c_l_level 75).write
  have c_l_alike : CalG P w K mg base 1 "_law_alike" (spAlike K) [] := ok_l_alike g (fd_l_alike c) (mg_l_alike X N c) (fun vs H Q E h => p_alike vs H Q E h)
  have c_l_height : C8.Cal P w K mg base 16 "_law_height" (spLHeight 15 K) [] := ring_lheight g c (mg_l_height X N c) 15
  have c_l_loose : C8.Cal P w K mg base 93 "_law_loose" (spLLoose 15 K) [] := ring_lloose g c (mg_l_loose X N c) c_l_level c_l_draw c_l_write 15
  have c_l_bounds : C8.Cal P w K mg base 197 "_law_bounds" (spLBounds K) [] := ok_l_bounds g c_height c_parse c_split (fd_l_bounds c) (mg_l_bounds X N c) (fun vs H Q E h => p_lbounds vs H Q E h)
  exact okG F sc_law (fun vs H Q E h => (p_law vs H Q E h).1) (fun cdv A outer s H vs Q E hr hgd h => ⟨_, PSs.nox (d_law g c_parse c_split c_l_draw c_l_alike c_l_loose c_l_height c_height c_write c_l_write c_l_tree c_l_bounds c_l_digits hr hgd), (p_law vs H Q E h).2⟩)
end K02
open PySem PySem.W PySem.Calls PyProof.Rows
theorem PySem.Challenge.cw_sameasnew_k02_expressions_read_and_writt_holds : PySem.Challenge.rw_sameasnew_k02_expressions_read_and_writt.Holds := by
  refine PySem.Challenge.early_sameasnew_k02_expressions_read_and_writt ?_
  refine Lg.walk_ofG (l := PySem.Challenge.rw_sameasnew_k02_expressions_read_and_writt) (n := 63) (k := 198) (x := "_law_script") (CX := L2.CX0) rfl (by decide) (by kernel_rfl) ⟨rfl, by decide, by decide⟩ ?F (fun _ _ _ _ z => z)
  intro w mg fa h Y G hmg0
  obtain ⟨K, KX, c, cx⟩ := Y
  have hmg : mg ("law" : PySem.Str) = some (.ref fa) := by
    rw [← PySem.Challenge.defname_sameasnew_k02_expressions_read_and_writt]
    exact hmg0
  obtain ⟨fd, hb, hF⟩ := K02.facts (P := (PySem.Challenge.rw_sameasnew_k02_expressions_read_and_writt).prog) (w := w) KX G hmg c cx
  exact ⟨K, fd, K02.spLaw K, KX, hb, fun H a ns hl hO hS => ⟨a, ns, rfl, hO, hS, K02.mk_CF c.d cx, fun _ => rfl⟩, hF⟩

