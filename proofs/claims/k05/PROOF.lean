import PyProof.Rows.All
import Wide.All
import OpenK.AllK
import Wide.FinOn
import KE.KStateDown
import Lean
import HandS.ForMost
import HandS.ForExc
import HandS.Defaults
import HandS.Codes
import HandS.IsInst
import HandS.NoneIn
import HandS.TupAny
import HandS.TryOnly
import HandS.Flow
import HandS.Deep
import HandS.Head0
import HandS.Head1
import HandS.Head2
import HandS.HeadEnd
import HandS.HeadHook1
import HandS.HeadHook2
import HandS.Walk
import KE.KIntText
import HandS.StrMore
import HandS.RaiseMore
import HandS.TryMany
import HandS.ExcField
import HandS.ExcIs
import HandS.ExcInit
import HandS.ExcOwn
import HandS.Replace
import HandS.ReplaceLit
import HandS.ReplaceList
import HandS.StrSplit
import HandS.FStr
import PyProof.Rows.CountFlat
import HandS.HeadHook3
import HandS.More
import HandS.TupMul
import HandS.ClsMeth
import PyProof.StrReplace2
import HandS.Text
import HandS.Dict
import HandS.Nested
import HandS.EndTab
import HandS.HeadHook4
import HandS.NestedK
import PySem.Challenge.RW_sameasnew_k05_names_followed
set_option Elab.async false
set_option linter.all false
set_option maxRecDepth 100000
set_option maxHeartbeats 4000000
/-! A ledger over the abstract heap: what is owned, what is data. -/
namespace Lg
open PySem PySem.Spec PyProof.Rows L2

abbrev Ex (H H' : Hp) : Prop := ∀ a o, H a = some o → H' a = some o
theorem Ex.rfl {H : Hp} : Ex H H := fun _ _ h => h
theorem Ex.tr {H H1 H2 : Hp} (a : Ex H H1) (b : Ex H1 H2) : Ex H H2 := fun x o h => b x o (a x o h)
theorem Ex.none {H H' : Hp} (e : Ex H H') {a : Addr} (h : H' a = Option.none) : H a = Option.none := by
  cases q : H a with
  | none => rfl
  | some o => rw [e a o q] at h; cases h
theorem Ex.upd {F H : Hp} (e : Ex F H) {p : Addr} {o : HO} (h : F p = Option.none) : Ex F (upd H p o) := fun a u ha => by
  rw [upd_ne (ne_of_none ha h)]; exact e a u ha
theorem Ex.both {F H : Hp} (e : Ex F H) {p : Addr} {o : HO} : Ex (L2.upd F p o) (L2.upd H p o) := fun a u ha => by
  by_cases h : a = p
  · subst h; rw [upd_same] at ha ⊢; exact ha
  · rw [upd_ne h] at ha ⊢; exact e a u ha
theorem Ex.new {H : Hp} {p : Addr} {o : HO} (h : H p = Option.none) : Ex H (L2.upd H p o) := Ex.upd Ex.rfl h
theorem Ex.rd {H H' : Hp} {a : Addr} {u : HO} (e : Ex H H') (h : Rd H a u) : Rd H' a u := by
  rcases h with h | ⟨o, h⟩
  · exact Or.inl (e a _ h)
  · exact Or.inr ⟨o, e a _ h⟩
theorem Ex.sqT {K : PySem.W.Frag} {H H' : Hp} {a : Addr} {xs : List V} (e : Ex H H') (h : SqT K H a xs) : SqT K H' a xs := by
  rcases h with h | h
  · exact Or.inl (e.rd h)
  · exact Or.inr h
theorem Ex.sqL {K : PySem.W.Frag} {H H' : Hp} {a : Addr} {xs : List V} (e : Ex H H') (h : SqL K H a xs) : SqL K H' a xs := by
  rcases h with h | h
  · exact Or.inl (e.rd h)
  · exact Or.inr h

/-! ### data -/
mutual
inductive Dv (K : PySem.W.Frag) (F : Hp) : V → PyData → Prop
  | non : Dv K F .non .none
  | bl (b : Bool) : Dv K F (.bl b) (.bool b)
  | int (i : Int) : Dv K F (.int i) (.int i)
  | str (x : Str) : Dv K F (.str x) (.str x)
  | lst {a : Addr} {xs : List V} {ds : List PyData} : F a = some (.lst xs) → DvAll K F xs ds → Dv K F (.ref a) (.list ds)
  | tup {a : Addr} {xs : List V} {ds : List PyData} : SqT K F a xs → DvAll K F xs ds → Dv K F (.ref a) (.tuple ds)
inductive DvAll (K : PySem.W.Frag) (F : Hp) : List V → List PyData → Prop
  | nil : DvAll K F [] []
  | cons {v : V} {vs : List V} {d : PyData} {ds : List PyData} : Dv K F v d → DvAll K F vs ds → DvAll K F (v :: vs) (d :: ds)
end
section
variable {K : PySem.W.Frag} {F F' : Hp}
mutual
theorem Dv.mono (e : Ex F F') : ∀ (d : PyData) (v : V), Dv K F v d → Dv K F' v d
  | .none, _, h => by cases h; exact .non
  | .bool b, _, h => by cases h; exact .bl b
  | .int i, _, h => by cases h; exact .int i
  | .str x, _, h => by cases h; exact .str x
  | .list ds, _, h => by
    cases h with
    | lst hs ha => exact .lst (e _ _ hs) (DvAll.mono e ds _ ha)
  | .tuple ds, _, h => by
    cases h with
    | tup hs ha => exact .tup (e.sqT hs) (DvAll.mono e ds _ ha)
  | .dict _, _, h => by cases h
theorem DvAll.mono (e : Ex F F') : ∀ (ds : List PyData) (vs : List V), DvAll K F vs ds → DvAll K F' vs ds
  | [], _, h => by cases h; exact .nil
  | d :: ds, _, h => by
    cases h with
    | cons h1 h2 => exact .cons (Dv.mono e d _ h1) (DvAll.mono e ds _ h2)
end
mutual
theorem Dv.dp : ∀ (d : PyData) (v : V), Dv K F v d → Dp K F v d
  | .none, _, h => by cases h; exact .non
  | .bool b, _, h => by cases h; exact .bl b
  | .int i, _, h => by cases h; exact .int i
  | .str x, _, h => by cases h; exact .str x
  | .list ds, _, h => by
    cases h with
    | lst hs ha => exact .lst (SqL.of hs) (DvAll.dp ds _ ha)
  | .tuple ds, _, h => by
    cases h with
    | tup hs ha => exact .tup hs (DvAll.dp ds _ ha)
  | .dict _, _, h => by cases h
theorem DvAll.dp : ∀ (ds : List PyData) (vs : List V), DvAll K F vs ds → DpAll K F vs ds
  | [], _, h => by cases h; exact .nil
  | d :: ds, _, h => by
    cases h with
    | cons h1 h2 => exact .cons (Dv.dp d _ h1) (DvAll.dp ds _ h2)
end
theorem DvAll.len : ∀ {vs : List V} {ds : List PyData}, DvAll K F vs ds → vs.length = ds.length
  | _, [], h => by cases h; rfl
  | _, d :: ds, h => by
    cases h with
    | cons h1 h2 => simp [DvAll.len h2]
theorem DvAll.get : ∀ {vs : List V} {ds : List PyData} {i : Nat} {d : PyData}, DvAll K F vs ds → ds[i]? = some d → ∃ v, vs[i]? = some v ∧ Dv K F v d
  | _, [], i, d, h, e => by simp at e
  | _, d0 :: ds, 0, d, h, e => by
    cases h with
    | cons h1 h2 => simp at e; subst e; exact ⟨_, rfl, h1⟩
  | _, d0 :: ds, i + 1, d, h, e => by
    cases h with
    | cons h1 h2 => simp at e; obtain ⟨v, q, r⟩ := DvAll.get h2 e; exact ⟨v, by simpa using q, r⟩
theorem DvAll.get' : ∀ {vs : List V} {ds : List PyData} {i : Nat} {v : V}, DvAll K F vs ds → vs[i]? = some v → ∃ d, ds[i]? = some d ∧ Dv K F v d
  | _, [], i, d, h, e => by cases h; simp at e
  | _, d0 :: ds, 0, d, h, e => by
    cases h with
    | cons h1 h2 => simp at e; subst e; exact ⟨_, rfl, h1⟩
  | _, d0 :: ds, i + 1, d, h, e => by
    cases h with
    | cons h1 h2 => simp at e; obtain ⟨v, q, r⟩ := DvAll.get' h2 e; exact ⟨v, by simpa using q, r⟩
theorem DvAll.app : ∀ {vs ws : List V} {ds es : List PyData}, DvAll K F vs ds → DvAll K F ws es → DvAll K F (vs ++ ws) (ds ++ es)
  | _, _, [], _, h, h' => by cases h; exact h'
  | _, _, d :: ds, _, h, h' => by
    cases h with
    | cons h1 h2 => exact .cons h1 (DvAll.app h2 h')
theorem DvAll.take : ∀ {vs : List V} {ds : List PyData} (n : Nat), DvAll K F vs ds → DvAll K F (vs.take n) (ds.take n)
  | _, [], n, h => by cases h; simp; exact .nil
  | _, d :: ds, 0, h => by simp; exact .nil
  | _, d :: ds, n + 1, h => by
    cases h with
    | cons h1 h2 => exact .cons h1 (DvAll.take n h2)
theorem DvAll.drop : ∀ {vs : List V} {ds : List PyData} (n : Nat), DvAll K F vs ds → DvAll K F (vs.drop n) (ds.drop n)
  | _, [], n, h => by cases h; simp; exact .nil
  | _, d :: ds, 0, h => h
  | _, d :: ds, n + 1, h => by
    cases h with
    | cons h1 h2 => exact DvAll.drop n h2
theorem DvAll.set : ∀ {vs : List V} {ds : List PyData} {v : V} {d : PyData} (n : Nat), DvAll K F vs ds → Dv K F v d → DvAll K F (vs.set n v) (ds.set n d)
  | _, [], _, _, n, h, _ => by cases h; simp; exact .nil
  | _, d :: ds, _, _, 0, h, q => by
    cases h with
    | cons h1 h2 => exact .cons q h2
  | _, d :: ds, _, _, n + 1, h, q => by
    cases h with
    | cons h1 h2 => exact .cons h1 (DvAll.set n h2 q)
theorem DvAll.ints : ∀ (ns : List Int), DvAll K F (ns.map V.int) (ns.map PyData.int)
  | [] => .nil
  | n :: ns => .cons (.int n) (DvAll.ints ns)
theorem DvAll.ints_inv : ∀ {ns : List Int} {vs : List V}, DvAll K F vs (ns.map PyData.int) → vs = ns.map V.int
  | [], _, h => by cases h; rfl
  | n :: ns, _, h => by
    cases h with
    | cons h1 h2 => cases h1; simp [DvAll.ints_inv h2]
theorem DvAll.strs : ∀ (ns : List Str), DvAll K F (ns.map V.str) (ns.map PyData.str)
  | [] => .nil
  | n :: ns => .cons (.str n) (DvAll.strs ns)
theorem DvAll.strs_inv : ∀ {ns : List Str} {vs : List V}, DvAll K F vs (ns.map PyData.str) → vs = ns.map V.str
  | [], _, h => by cases h; rfl
  | n :: ns, _, h => by
    cases h with
    | cons h1 h2 => cases h1; simp [DvAll.strs_inv h2]
theorem DvAll.bls : ∀ (ns : List Bool), DvAll K F (ns.map V.bl) (ns.map PyData.bool)
  | [] => .nil
  | n :: ns => .cons (.bl n) (DvAll.bls ns)
theorem DvAll.bls_inv : ∀ {ns : List Bool} {vs : List V}, DvAll K F vs (ns.map PyData.bool) → vs = ns.map V.bl
  | [], _, h => by cases h; rfl
  | n :: ns, _, h => by
    cases h with
    | cons h1 h2 => cases h1; simp [DvAll.bls_inv h2]
theorem DvAll.rep {v : V} {d : PyData} (h : Dv K F v d) : ∀ n, DvAll K F (List.replicate n v) (List.replicate n d)
  | 0 => .nil
  | n + 1 => .cons h (DvAll.rep h n)
theorem DvAll.flat {vs : List V} {ds : List PyData} (h : DvAll K F vs ds) : ∀ n, DvAll K F (List.replicate n vs).flatten (List.replicate n ds).flatten
  | 0 => .nil
  | n + 1 => by
    rw [List.replicate_succ, List.replicate_succ, List.flatten_cons, List.flatten_cons]
    exact h.app (DvAll.flat h n)
end

/-! ### the ledger -/
structure Pr where
  p : Hp → HO → Prop
  mono : ∀ F F' o, Ex F F' → p F o → p F' o
def Pr.eq (o : HO) : Pr := ⟨fun _ x => x = o, fun _ _ _ _ h => h⟩
def Pr.ls (K : PySem.W.Frag) (ds : List PyData) : Pr := ⟨fun F x => ∃ xs, x = .lst xs ∧ DvAll K F xs ds, fun _ _ _ e ⟨xs, h, q⟩ => ⟨xs, h, DvAll.mono e _ _ q⟩⟩
def Pr.box (K : PySem.W.Frag) : Pr := ⟨fun F x => ∃ (d : Addr) (at_ : Int) (ns : List Int), x = .lst [.ref d, .int at_] ∧ 0 ≤ at_ ∧ F d = some (.lst (ns.map V.int)), fun _ _ _ e ⟨d, i, ns, h, q, r⟩ => ⟨d, i, ns, h, q, e _ _ r⟩⟩
/-- what stays true -/
structure Fr where
  p : Hp → Prop
  mono : ∀ F F', Ex F F' → p F → p F'
def Fr.seq (K : PySem.W.Frag) (a : Addr) (ns : List Int) : Fr := ⟨fun F => SqL K F a (ns.map V.int), fun _ _ e h => e.sqL h⟩
inductive Ent where
  | cell (a : Addr) (φ : Pr)
  | dat (v : V) (d : PyData)
  | fact (φ : Fr)
/-- owned: what stands there, a list of data, the law's box of draws -/
abbrev own (a : Addr) (o : HO) : Ent := .cell a (.eq o)
abbrev ls (K : PySem.W.Frag) (a : Addr) (ds : List PyData) : Ent := .cell a (.ls K ds)
abbrev bx (K : PySem.W.Frag) (a : Addr) : Ent := .cell a (.box K)
abbrev dat (v : V) (d : PyData) : Ent := .dat v d
def Ent.adr : Ent → Option Addr
  | .cell a _ => some a
  | .dat _ _ => none
  | .fact _ => none
def Ent.ok (K : PySem.W.Frag) (F H : Hp) : Ent → Prop
  | .cell a φ => F a = none ∧ ∃ o, H a = some o ∧ φ.p F o
  | .dat v d => Dv K F v d
  | .fact φ => φ.p F
structure St (K : PySem.W.Frag) (L : List Ent) (H : Hp) : Prop where
  ex : ∃ F, Ex F H ∧ ∀ e ∈ L, e.ok K F H
  nd : (L.filterMap Ent.adr).Nodup

/-- L' is L with e turned to e' -/
inductive Put : List Ent → Ent → Ent → List Ent → Prop
  | here {e e' : Ent} {L : List Ent} : Put (e :: L) e e' (e' :: L)
  | there {x e e' : Ent} {L L' : List Ent} : Put L e e' L' → Put (x :: L) e e' (x :: L')
/-- L is e beside L' -/
inductive Rem : List Ent → Ent → List Ent → Prop
  | here {e : Ent} {L : List Ent} : Rem (e :: L) e L
  | there {x e : Ent} {L L' : List Ent} : Rem L e L' → Rem (x :: L) e (x :: L')
inductive Pick : List Ent → List Ent → Prop
  | nil {L : List Ent} : Pick [] L
  | refl {L : List Ent} : Pick L L
  | drop {x : Ent} {L L' : List Ent} : Pick L' L → Pick L' (x :: L)
  | cons {e : Ent} {L L' L1 : List Ent} : Rem L e L1 → Pick L' L1 → Pick (e :: L') L
theorem Put.mem {L L' : List Ent} {e e' : Ent} (h : Put L e e' L') : e ∈ L := by
  induction h with
  | here => exact .head _
  | there _ ih => exact .tail _ ih
theorem Rem.perm {L L' : List Ent} {e : Ent} (h : Rem L e L') : L.Perm (e :: L') := by
  induction h with
  | here => exact .refl _
  | there _ ih => exact (List.Perm.cons _ ih).trans (List.Perm.swap _ _ _)
theorem Put.perm {L L' : List Ent} {e e' : Ent} (h : Put L e e' L') : ∃ R, L.Perm (e :: R) ∧ L'.Perm (e' :: R) := by
  induction h with
  | here => exact ⟨_, .refl _, .refl _⟩
  | @there x _ _ _ _ _ ih =>
    obtain ⟨R, h1, h2⟩ := ih
    exact ⟨x :: R, (List.Perm.cons _ h1).trans (List.Perm.swap _ _ _), (List.Perm.cons _ h2).trans (List.Perm.swap _ _ _)⟩
section
variable {K : PySem.W.Frag} {L L' : List Ent} {H : Hp} {a p : Addr} {φ ψ : Pr} {o : HO} {v : V} {d : PyData}
theorem St.perm (h : St K L H) (q : L.Perm L') : St K L' H := by
  obtain ⟨F, h1, h2⟩ := h.ex
  exact ⟨⟨F, h1, fun e he => h2 e (q.mem_iff.mpr he)⟩, (q.filterMap _).nodup_iff.mp h.nd⟩
theorem St.tail {e : Ent} (h : St K (e :: L) H) : St K L H := by
  obtain ⟨F, h1, h2⟩ := h.ex
  refine ⟨⟨F, h1, fun e he => h2 e (.tail _ he)⟩, ?_⟩
  have := h.nd
  cases e with
  | cell a φ => exact (List.nodup_cons.mp this).2
  | dat v d => exact this
  | fact φ => exact this
theorem St.pick (q : Pick L' L) : ∀ {A : List Ent}, St K (A ++ L) H → St K (A ++ L') H := by
  induction q with
  | @nil L => 
    intro A h
    rw [List.append_nil]
    obtain ⟨F, h1, h2⟩ := h.ex
    refine ⟨⟨F, h1, fun e he => h2 e (List.mem_append_left _ he)⟩, ?_⟩
    have := h.nd
    rw [List.filterMap_append] at this
    exact (List.nodup_append.mp this).1
  | refl => intro A h; exact h
  | @drop x L L' _ ih =>
    intro A h
    exact ih (h.perm (List.perm_middle)).tail
  | @cons e L L' L1 hr _ ih =>
    intro A h
    have h1 : St K (A ++ (e :: L1)) H := h.perm (List.Perm.append_left A hr.perm)
    have h2 : St K ((A ++ [e]) ++ L1) H := by rw [List.append_assoc]; exact h1
    have h3 := ih h2
    rw [List.append_assoc] at h3
    exact h3
theorem St.to (h : St K L H) (q : Pick L' L) : St K L' H := by
  have := St.pick (A := []) q h
  exact this
theorem St.put_to {e e' : Ent} (h : St K L H) (q : Put L e e' L') : ∃ R, St K (e :: R) H ∧ L'.Perm (e' :: R) := by
  obtain ⟨R, h1, h2⟩ := q.perm
  exact ⟨R, h.perm h1, h2⟩
theorem St.cell (h : St K L H) (m : Ent.cell a φ ∈ L) : ∃ F o, Ex F H ∧ F a = none ∧ H a = some o ∧ φ.p F o := by
  obtain ⟨F, h1, h2⟩ := h.ex
  obtain ⟨h3, o, h4, h5⟩ := h2 _ m
  exact ⟨F, o, h1, h3, h4, h5⟩
theorem St.own (h : St K L H) (m : Lg.own a o ∈ L) : H a = some o := by
  obtain ⟨F, x, _, _, h4, rfl⟩ := h.cell m
  exact h4
theorem St.ls (h : St K L H) {ds : List PyData} (m : Lg.ls K a ds ∈ L) : ∃ F xs, Ex F H ∧ H a = some (.lst xs) ∧ DvAll K F xs ds := by
  obtain ⟨F, x, h1, _, h4, xs, rfl, h5⟩ := h.cell m
  exact ⟨F, xs, h1, h4, h5⟩
/-- a new cell -/
theorem St.alloc (h : St K L H) (hp : H p = none) (q : ∀ F, Ex F H → (∀ e ∈ L, e.ok K F H) → φ.p F o) : St K (.cell p φ :: L) (upd H p o) := by
  obtain ⟨F, h1, h2⟩ := h.ex
  have hF : F p = none := h1.none hp
  refine ⟨⟨F, h1.upd hF, fun e he => ?_⟩, ?_⟩
  · cases he with
    | head => exact ⟨hF, o, upd_same, q F h1 h2⟩
    | tail _ he =>
      have := h2 e he
      cases e with
      | cell a φ =>
        obtain ⟨h3, o', h4, h5⟩ := this
        exact ⟨h3, o', by rw [upd_ne (ne_of_none h4 hp)]; exact h4, h5⟩
      | dat v d => exact this
      | fact φ => exact this
  · show (p :: L.filterMap Ent.adr).Nodup
    refine List.nodup_cons.mpr ⟨fun m => ?_, h.nd⟩
    obtain ⟨e, he, q⟩ := List.mem_filterMap.mp m
    cases e with
    | cell a φ =>
      cases q
      obtain ⟨_, o', h4, _⟩ := h2 _ he
      rw [hp] at h4; cases h4
    | dat v d => cases q
    | fact φ => cases q
/-- a cell is written -/
theorem St.write (h : St K (.cell a φ :: L) H) (q : ∀ F x, Ex F H → (∀ e ∈ Ent.cell a φ :: L, e.ok K F H) → H a = some x → φ.p F x → ψ.p F o) : St K (.cell a ψ :: L) (upd H a o) := by
  obtain ⟨F, h1, h2⟩ := h.ex
  obtain ⟨h3, x, h4, h5⟩ := h2 _ (.head _)
  refine ⟨⟨F, h1.upd h3, fun e he => ?_⟩, h.nd⟩
  cases he with
  | head => exact ⟨h3, o, upd_same, q F x h1 h2 h4 h5⟩
  | tail _ he =>
    have := h2 e (.tail _ he)
    cases e with
    | cell b φ' =>
      obtain ⟨h6, o', h7, h8⟩ := this
      have hne : b ≠ a := fun z => by
        have hn := h.nd
        have hn' : (a :: L.filterMap Ent.adr).Nodup := hn
        exact (List.nodup_cons.mp hn').1 (List.mem_filterMap.mpr ⟨_, he, by rw [z]; rfl⟩)
      exact ⟨h6, o', by rw [upd_ne hne]; exact h7, h8⟩
    | dat v d => exact this
    | fact φ => exact this
theorem St.writeP (h : St K L H) (m : Put L (.cell a φ) (.cell a ψ) L') (q : ∀ F x, Ex F H → (∀ e ∈ L, e.ok K F H) → H a = some x → φ.p F x → ψ.p F o) : St K L' (upd H a o) := by
  obtain ⟨R, h1, h2⟩ := m.perm
  exact ((h.perm h1).write (ψ := ψ) (o := o) fun F x e hd hx hφ => q F x e (fun u m => hd u (h1.mem_iff.mp m)) hx hφ).perm h2.symm
/-- a cell within, its word kept -/
theorem St.turn (h : St K L H) (m : Ent.cell a φ ∈ L) (q : ∀ F x, Ex F H → H a = some x → φ.p F x → φ.p F o) : St K L (upd H a o) := by
  obtain ⟨A, B, rfl⟩ := List.append_of_mem m
  have p1 : (A ++ .cell a φ :: B).Perm (.cell a φ :: (A ++ B)) := List.perm_middle
  exact ((h.perm p1).write fun F x e _ => q F x e).perm p1.symm
/-- a new frozen object -/
theorem St.fresh (h : St K L H) (hp : H p = none) (q : ∀ F, F p = none → Ex F H → (∀ e ∈ L, e.ok K F H) → Dv K (upd F p o) v d) : St K (.dat v d :: L) (upd H p o) := by
  obtain ⟨F, h1, h2⟩ := h.ex
  have hF : F p = none := h1.none hp
  refine ⟨⟨upd F p o, h1.both, fun e he => ?_⟩, h.nd⟩
  cases he with
  | head => exact q F hF h1 h2
  | tail _ he =>
    have := h2 e he
    cases e with
    | cell a φ =>
      obtain ⟨h3, o', h4, h5⟩ := this
      have hne : a ≠ p := ne_of_none h4 hp
      exact ⟨by rw [upd_ne hne]; exact h3, o', by rw [upd_ne hne]; exact h4, φ.mono _ _ _ (Ex.new hF) h5⟩
    | dat v d => exact Dv.mono (Ex.new hF) _ _ this
    | fact φ => exact φ.mono _ _ (Ex.new hF) this
/-- an owned list becomes data -/
theorem St.freeze {ds : List PyData} (h : St K (.cell a (.ls K ds) :: L) H) : St K (.dat (.ref a) (.list ds) :: L) H := by
  obtain ⟨F, h1, h2⟩ := h.ex
  obtain ⟨h3, x, h4, xs, rfl, h5⟩ := h2 _ (.head _)
  refine ⟨⟨upd F a (.lst xs), fun b o hb => ?_, fun e he => ?_⟩, h.tail.nd⟩
  · by_cases z : b = a
    · subst z; rw [upd_same] at hb; rw [h4]; exact hb
    · rw [upd_ne z] at hb; exact h1 _ _ hb
  · cases he with
    | head => exact .lst upd_same (DvAll.mono (Ex.new h3) _ _ h5)
    | tail _ he =>
      have := h2 e (.tail _ he)
      cases e with
      | cell b φ' =>
        obtain ⟨h6, o', h7, h8⟩ := this
        have hne : b ≠ a := fun z => by
          have hn := h.nd
          have hn' : (a :: L.filterMap Ent.adr).Nodup := hn
          exact (List.nodup_cons.mp hn').1 (List.mem_filterMap.mpr ⟨_, he, by rw [z]; rfl⟩)
        exact ⟨by rw [upd_ne hne]; exact h6, o', h7, φ'.mono _ _ _ (Ex.new h3) h8⟩
      | dat v d => exact Dv.mono (Ex.new h3) _ _ this
      | fact φ => exact φ.mono _ _ (Ex.new h3) this
/-- an owned thing told otherwise -/
theorem St.data (h : St K L H) (m : Put L (.cell a φ) (.cell a ψ) L') (q : ∀ F x, Ex F H → (∀ e ∈ L, e.ok K F H) → H a = some x → φ.p F x → ψ.p F x) : St K L' H := by
  obtain ⟨R, h1, h2⟩ := m.perm
  have h' := h.perm h1
  obtain ⟨F, e1, e2⟩ := h'.ex
  obtain ⟨h3, x, h4, h5⟩ := e2 _ (.head _)
  refine St.perm (L := .cell a ψ :: R) ⟨⟨F, e1, fun e he => ?_⟩, h'.nd⟩ h2.symm
  cases he with
  | head => exact ⟨h3, x, h4, q F x e1 (fun u m => e2 _ (h1.mem_iff.mp m)) h4 h5⟩
  | tail _ he => exact e2 e (.tail _ he)
/-- one more thing known as data -/
theorem St.know (h : St K L H) (q : ∀ F, Ex F H → (∀ e ∈ L, e.ok K F H) → Dv K F v d) : St K (.dat v d :: L) H := by
  obtain ⟨F, h1, h2⟩ := h.ex
  refine ⟨⟨F, h1, fun e he => ?_⟩, h.nd⟩
  cases he with
  | head => exact q F h1 h2
  | tail _ he => exact h2 e he
end

/-- v is d, as L says -/
inductive Is (L : List Ent) : V → PyData → Prop
  | non : Is L .non .none
  | bl {b : Bool} : Is L (.bl b) (.bool b)
  | int {i : Int} : Is L (.int i) (.int i)
  | str {x : Str} : Is L (.str x) (.str x)
  | dat {v : V} {d : PyData} : Ent.dat v d ∈ L → Is L v d
inductive IsAll (L : List Ent) : List V → List PyData → Prop
  | nil : IsAll L [] []
  | cons {v : V} {d : PyData} {vs : List V} {ds : List PyData} : Is L v d → IsAll L vs ds → IsAll L (v :: vs) (d :: ds)
section
variable {K : PySem.W.Frag} {L L' : List Ent} {H F : Hp} {v : V} {d : PyData}
theorem Is.dv (h : Is L v d) (q : ∀ e ∈ L, e.ok K F H) : Dv K F v d := by
  cases h with
  | non => exact .non
  | bl => exact .bl _
  | int => exact .int _
  | str => exact .str _
  | dat m => exact q _ m
theorem IsAll.dv (q : ∀ e ∈ L, e.ok K F H) : ∀ {vs : List V} {ds : List PyData}, IsAll L vs ds → DvAll K F vs ds
  | _, _, .nil => .nil
  | _, _, .cons h t => .cons (h.dv q) (IsAll.dv q t)
theorem Is.more (s : ∀ e ∈ L, e ∈ L') (h : Is L v d) : Is L' v d := by
  cases h with
  | non => exact .non
  | bl => exact .bl
  | int => exact .int
  | str => exact .str
  | dat m => exact .dat (s _ m)
theorem Is.cons {e : Ent} (h : Is L v d) : Is (e :: L) v d := h.more fun _ m => .tail _ m
theorem IsAll.more (s : ∀ e ∈ L, e ∈ L') : ∀ {vs : List V} {ds : List PyData}, IsAll L vs ds → IsAll L' vs ds
  | _, _, .nil => .nil
  | _, _, .cons h t => .cons (h.more s) (IsAll.more s t)
theorem St.is_of (h : St K L H) (q : Is L v d) : ∃ F, Ex F H ∧ Dv K F v d := by
  obtain ⟨F, h1, h2⟩ := h.ex
  exact ⟨F, h1, q.dv h2⟩
theorem St.dp (h : St K L H) (q : Is L v d) : Dp K H v d := by
  obtain ⟨F, h1, h2⟩ := h.is_of q
  exact Dv.dp _ _ (Dv.mono h1 _ _ h2)
theorem St.learn (h : St K L H) (q : Is L v d) : St K (.dat v d :: L) H := h.know fun F _ hd => q.dv hd
theorem St.mono_mem (h : St K L H) (s : ∀ e ∈ L', e ∈ L) (n : (L'.filterMap Ent.adr).Nodup) : St K L' H := by
  obtain ⟨F, h1, h2⟩ := h.ex
  exact ⟨⟨F, h1, fun e he => h2 e (s e he)⟩, n⟩
/-- a frozen tuple, a frozen list: its parts -/
theorem St.tup_parts (h : St K L H) {a : Addr} {ds : List PyData} (q : Is L (.ref a) (.tuple ds)) : ∃ xs : List V, SqT K H a xs ∧ xs.length = ds.length ∧ ∀ (i : Nat) (d : PyData), ds[i]? = some d → ∃ v, xs[i]? = some v ∧ St K (.dat v d :: L) H := by
  obtain ⟨F, h1, h2⟩ := h.ex
  have := q.dv h2
  cases this with
  | tup hs ha =>
    refine ⟨_, h1.sqT hs, ha.len, fun i d e => ?_⟩
    obtain ⟨v, h3, h4⟩ := ha.get e
    refine ⟨v, h3, ⟨⟨F, h1, fun e he => ?_⟩, h.nd⟩⟩
    cases he with
    | head => exact h4
    | tail _ he => exact h2 e he
end
end Lg

/-! The operators by one relation each, and how each is answered over the ledger. -/
namespace Lg
open PySem PySem.Spec PyProof.Rows L2

/-! ### relations -/
def rAddI : R2 := rI0 fun i j => .int (i + j)
def rAddS : R2 := fun x y H Q => ∃ i j, x = .str i ∧ y = .str j ∧ i.length + j.length ≤ sizeLine ∧ Q (.str (i ++ j)) H
def rPlus (K : PySem.W.Frag) : R2 := fun x y H Q => rAddI x y H Q ∨ (rAddS x y H Q ∨ (rCat x y H Q ∨ rCatA K x y H Q))
def rMinus : R2 := rI0 fun i j => .int (i - j)
def rMulI : R2 := rI CMul fun i j => .int (i * j)
def repL (l : List Nat) (n : Nat) : List Nat := (List.replicate n l).flatten
def rRepS : R2 := fun x y H Q => ∃ (z : Str) (k : Int), x = .str z ∧ y = .int k ∧ 0 ≤ k ∧ k ≤ 100000 ∧ z.length ≤ 100 ∧ Q (.str ⟨(repL z.cps.toList k.toNat).toArray⟩) H
def rTimes : R2 := fun x y H Q => rMulI x y H Q ∨ (rRep x y H Q ∨ rRepS x y H Q)
def rFdiv : R2 := rI CDiv fun i j => .int (i / j)
def rMod : R2 := rI (fun _ j => 0 < j) fun i j => .int (i % j)
def rAnd : R2 := rI0 fun i j => .int (Builtin.bitAnd i j)
def rLt : R2 := rI0 fun i j => .bl (decide (i < j))
def rLe : R2 := rI0 fun i j => .bl (decide (i ≤ j))
def rGt : R2 := rI0 fun i j => .bl (decide (j < i))
def rGe : R2 := rI0 fun i j => .bl (decide (j ≤ i))
def rEqX (K : PySem.W.Frag) : R2 := fun x y H Q => rEq x y H Q ∨ rEqD K x y H Q
def rNeX (K : PySem.W.Frag) : R2 := fun x y H Q => rNe x y H Q ∨ rNeD K x y H Q
def rInSign (neg : Bool) : R2 := fun x y H Q => ∃ (c : Nat) (z : Str), x = .str ⟨#[c]⟩ ∧ y = .str z ∧ Q (.bl (if neg then !decide (c ∈ z.cps.toList) else decide (c ∈ z.cps.toList))) H
def rInX (K : PySem.W.Frag) (neg : Bool) : R2 := fun x y H Q => rIn K neg x y H Q ∨ rInSign neg x y H Q
def rIsNo : R2 := fun x y H Q => y = .non ∧ Q (.bl (decide (x = .non))) H
def rNotNo : R2 := fun x y H Q => y = .non ∧ Q (.bl (!decide (x = .non))) H
def rLenX (K : PySem.W.Frag) : List V → Hp → VK → Prop := fun xs H Q => ∃ x n, xs = [x] ∧ LenV K x H n ∧ Q (.int n) H
def rIntX : List V → Hp → VK → Prop := fun xs H Q => (∃ i, xs = [.int i] ∧ Q (.int i) H) ∨ ∃ k, xs = [.bl k] ∧ Q (.int (if k then 1 else 0)) H
def rOrd : List V → Hp → VK → Prop := fun xs H Q => ∃ x, xs = [.str x] ∧ x.length = 1 ∧ Q (.int (x.cps.getD 0 0 : Nat)) H
def rListOf (K : PySem.W.Frag) : List V → Hp → VK → Prop := fun xs H Q => ∃ p ys, xs = [.ref p] ∧ (SqL K H p ys ∨ SqT K H p ys) ∧ ∀ l, H l = none → Q (.ref l) (upd H l (.lst ys))
def rTupOf (K : PySem.W.Frag) : List V → Hp → VK → Prop := fun xs H Q => ∃ p ys, xs = [.ref p] ∧ ((SqL K H p ys ∧ ∀ l, H l = none → Q (.ref l) (upd H l (.tup ys))) ∨ (SqT K H p ys ∧ Q (.ref p) H))
def trV : V → Bool
  | .int i => i != 0
  | .bl b => b
  | _ => false
def flatIB : V → Bool
  | .int _ => true
  | .bl _ => true
  | _ => false
def rAnyX (K : PySem.W.Frag) : List V → Hp → VK → Prop := fun vs H Q => ∃ (a : Addr) (xs : List V), vs = [V.ref a] ∧ SqL K H a xs ∧ xs.all flatIB = true ∧ Q (.bl (xs.any trV)) H
def rAllX (K : PySem.W.Frag) : List V → Hp → VK → Prop := fun vs H Q => ∃ (a : Addr) (xs : List V), vs = [V.ref a] ∧ SqL K H a xs ∧ xs.all flatIB = true ∧ Q (.bl (xs.all trV)) H
def rSlX (K : PySem.W.Frag) : V → Option Int → Option Int → Hp → VK → Prop := fun x lo hi H Q => rSlL K x lo hi H Q ∨ (rSlS x lo hi H Q ∨ rSlA K x lo hi H Q)
def rJoin (K : PySem.W.Frag) : V → List V → Hp → VK → Prop := fun x xs H Q => ∃ a p, ∃ ys : List Str, x = .str a ∧ xs = [.ref p] ∧ (SqL K H p (ys.map V.str) ∨ SqT K H p (ys.map V.str)) ∧ (ys.map (·.length)).sum + ys.length * a.length ≤ 16777216 ∧ Q (.str (Txt.join a ys)) H
def tTruX (K : PySem.W.Frag) (ta : TE) : TT := fun σ H Q => ta σ H fun x H' => ∃ k, TruV K x H' k ∧ Q k H'

section
variable {X : Cx}
theorem o_plus : OpR X (binaryOp .Add) (rPlus X.K) := OpR.or op_add (OpR.or op_add_str (OpR.or op_cat op_catA))
theorem o_minus : OpR X (binaryOp .Sub) rMinus := op_sub
theorem mulok_of {z : Str} {k : Int} (h0 : 0 ≤ k) (h1 : k ≤ 100000) (h2 : z.length ≤ 100) : MulOk z k := by
  refine ⟨?_, fun h _ => ?_, fun h _ => ?_⟩
  · rw [Bool.or_eq_false_iff]
    exact ⟨decide_eq_false (by omega), decide_eq_false (by omega)⟩
  · have hk : 0 < k := by omega
    intro q
    have h3 : (9223372036854775807 : Int) / 100000 ≤ (2 ^ 63 - 1) / k := by
      rw [show ((2 : Int) ^ 63 - 1) = 9223372036854775807 by decide]
      refine (Int.le_ediv_iff_mul_le hk).mpr ?_
      have : (9223372036854775807 : Int) / 100000 = 92233720368547 := by decide
      rw [this]
      omega
    have : (9223372036854775807 : Int) / 100000 = 92233720368547 := by decide
    omega
  · unfold Builtin.Str.tooLong
    have h4 : z.length * k.toNat ≤ 100 * 100000 := Nat.mul_le_mul h2 (by omega)
    have := sizeLine_eq
    simp
    omega
theorem rep_fold (a : Array Nat) : ∀ (n : Nat) (b : Array Nat), (List.replicate n a).foldl (· ++ ·) b = (b.toList ++ repL a.toList n).toArray
  | 0, b => by simp [repL]
  | n + 1, b => by
    rw [List.replicate_succ, List.foldl_cons, rep_fold a n]
    simp [repL, List.replicate_succ]
theorem repL_nil (n : Nat) : repL [] n = [] := by simp [repL]
theorem mul_txt {z : Str} {k : Int} (h0 : 0 ≤ k) : Txt.mul z k = ⟨(repL z.cps.toList k.toNat).toArray⟩ := by
  unfold Txt.mul
  by_cases h1 : k < 1
  · rw [if_pos h1]
    have : k = 0 := by omega
    subst this
    rfl
  · rw [if_neg h1]
    by_cases h2 : (k == 1 || z.length == 0) = true
    · rw [if_pos h2]
      rw [Bool.or_eq_true] at h2
      rcases h2 with h2 | h2
      · have e : k = 1 := by simpa using h2
        subst e
        show z = ⟨([z.cps.toList].flatten).toArray⟩
        simp
      · have e : z.cps.size = 0 := by simpa [PySem.Str.length] using h2
        have e2 : z.cps.toList = [] := by
          have : z.cps.toList.length = 0 := by simpa using e
          exact List.length_eq_zero_iff.mp this
        rw [e2, repL_nil]
        have e3 : z.cps = #[] := by
          rw [← Array.toList_inj, e2]
        cases z
        simp at e3
        rw [e3]
    · rw [if_neg h2, rep_fold]
      simp
theorem op_repS : OpR X (binaryOp .Mult) rRepS := by
  intro pins s σ H x y v u Q I rx ry h
  obtain ⟨z, k, rfl, rfl, h0, h1, h2, q⟩ := h
  obtain ⟨t, rfl⟩ := rx
  obtain ⟨t', rfl⟩ := ry
  refine SB.mul (mulok_of h0 h1 h2) fun t2 tk => ?_
  rw [mul_txt h0]
  exact ⟨.str _, H, I.tok _, ⟨_, rfl⟩, q⟩
theorem o_times : OpR X (binaryOp .Mult) rTimes := OpR.or op_mul (OpR.or op_rep op_repS)
theorem o_fdiv : OpR X (binaryOp .FloorDiv) rFdiv := op_fdiv
theorem o_mod : OpR X (binaryOp .Mod) rMod := op_mod
theorem o_and : OpR X (binaryOp .BitAnd) rAnd := op_and
theorem o_lt : OpR X (compareOp .Lt) rLt := op_lt
theorem o_le : OpR X (compareOp .LtE) rLe := op_le
theorem o_gt : OpR X (compareOp .Gt) rGt := op_gt
theorem o_ge : OpR X (compareOp .GtE) rGe := op_ge
theorem o_eq (hu : X.A.units + 64 < cLine) : OpR X (compareOp .Eq) (rEqX X.K) := OpR.or op_eq (op_eqD hu)
theorem o_ne (hu : X.A.units + 64 < cLine) : OpR X (compareOp .NotEq) (rNeX X.K) := OpR.or op_ne (op_neD hu)
theorem o_in : OpR X (compareOp .In) (rInX X.K false) := OpR.or op_in_seq op_in_sign
theorem o_notin : OpR X (compareOp .NotIn) (rInX X.K true) := OpR.or op_notIn_seq op_notIn_sign
theorem o_is : OpR X (compareOp .Is) rIsNo := op_isN
theorem o_isnot : OpR X (compareOp .IsNot) rNotNo := op_notN
theorem c_len : CallR X (.builtin "len") (rLenX X.K) := call_len
theorem c_int : CallR X (.type "int") rIntX := call_int1
theorem c_ord : CallR X (.builtin "ord") rOrd := call_ord
theorem c_list : CallR X (.type "list") (rListOf X.K) := call_list_of
theorem c_tuple : CallR X (.type "tuple") (rTupOf X.K) := call_tuple_of
theorem truth_ib {prog : Program} {w : World} {A : Around} {xs : List V} {its : List Value} (r : Vals xs its) (h : xs.all flatIB = true) :
    TruthOf prog w A (fun i v => its.toArray[i]? = some v) (fun i => (xs.map trV).getD i false) := fun i v s Q E hv hq => by
  have hv' : its[i]? = some v := by simpa using hv
  have hi : i < its.length := (List.getElem?_eq_some_iff.mp hv').1
  have hi' : i < xs.length := by rw [r.length]; exact hi
  obtain ⟨u, hu, ru⟩ := r.get (i := i) (x := xs[i]) (by simp [hi'])
  rw [hv'] at hu
  cases hu
  have hg : (xs.map trV).getD i false = trV xs[i] := by simp [List.getD_eq_getElem?_getD, hi']
  have hq' : Q ((xs.map trV).getD i false) s := hq
  rw [hg] at hq'
  have hf : flatIB xs[i] = true := List.all_eq_true.mp h _ (List.getElem_mem hi')
  revert ru hq' hf
  generalize xs[i] = x
  intro ru hq' hf
  cases x with
  | int j =>
    obtain ⟨t, rfl⟩ := ru
    exact truthy_int hq'
  | bl b =>
    cases (show v = Value.bool b from ru)
    exact wpAny_truthy_bool hq'
  | _ => cases hf
theorem c_any (hc : X.calm = true) : CallR X (.builtin "any") (rAnyX X.K) := by
  intro pins s σ H vs us Q I r h
  obtain ⟨a, xs, rfl, hs, hf, q⟩ := h
  obtain ⟨its, rv, hl, _⟩ := I.list hs
  rw [Vals.ref1 r]
  refine call_any_walk (iter_any hl.isList fun s₂ e2 st hne => ?_)
  subst e2
  refine ⟨_, _, _, _, _, _, _, rfl, Walks.list (A := X.A.in1) (I.ok.hd hc) _ a hne its.toArray, st, truth_ib rv hf, fun h' tk hk => ?_⟩
  refine ⟨.bl _, H, I.kept fun b o eo => hk b o (fun hmem => ?_) (Heap.get?_push_of_some _ eo), ?_, q⟩
  · rcases List.mem_cons.mp hmem with e1 | hmem
    · exact absurd (e1 ▸ Heap.lt_size eo) (Nat.lt_irrefl _)
    · cases hmem
  · show Value.bool _ = Value.bool _
    have := any_range (xs.map trV)
    rw [List.length_map] at this
    rw [List.size_toArray, ← rv.length, this, List.any_map]
    rfl
theorem c_all (hc : X.calm = true) : CallR X (.builtin "all") (rAllX X.K) := by
  intro pins s σ H vs us Q I r h
  obtain ⟨a, xs, rfl, hs, hf, q⟩ := h
  obtain ⟨its, rv, hl, _⟩ := I.list hs
  rw [Vals.ref1 r]
  refine call_all_walk (iter_any hl.isList fun s₂ e2 st hne => ?_)
  subst e2
  refine ⟨_, _, _, _, _, _, _, rfl, Walks.list (A := X.A.in1) (I.ok.hd hc) _ a hne its.toArray, st, truth_ib rv hf, fun h' tk hk => ?_⟩
  refine ⟨.bl _, H, I.kept fun b o eo => hk b o (fun hmem => ?_) (Heap.get?_push_of_some _ eo), ?_, q⟩
  · rcases List.mem_cons.mp hmem with e1 | hmem
    · exact absurd (e1 ▸ Heap.lt_size eo) (Nat.lt_irrefl _)
    · cases hmem
  · show Value.bool _ = Value.bool _
    have := all_range (xs.map trV)
    rw [List.length_map] at this
    rw [List.size_toArray, ← rv.length, this, List.all_map]
    rfl
theorem c_isi : CallR X (.builtin "isinstance") (rIsi X.K) := call_isi
theorem sl_any : SlR X (rSlX X.K) := SlR.or sl_list (SlR.or sl_str sl_tupA)
theorem m_join : MtR X "str.join" (rJoin X.K) := mt_join
theorem pt_tru {a : Expr} {ta : TE} (ha : PE X a ta) (hs : ∀ whole, isTrue a X.env whole = (do let v ← whole; standAt a.pos; holding [v] (truthy v)) := by intro _; rfl) : PT X a (tTruX X.K ta) := pt_truth ha hs
end
end Lg

/-! The steps. -/
namespace Lg
open PySem PySem.Spec PyProof.Rows L2

inductive SetAt : L2.St → Nat → V → L2.St → Prop
  | here {x : Option V} {r : L2.St} {v : V} : SetAt (x :: r) 0 v (some v :: r)
  | there {x : Option V} {r r' : L2.St} {n : Nat} {v : V} : SetAt r n v r' → SetAt (x :: r) (n + 1) v (x :: r')
theorem SetAt.eq {σ σ' : L2.St} {i : Nat} {v : V} (h : SetAt σ i v σ') : σ.set i (some v) = σ' := by
  induction h with
  | here => rfl
  | there _ ih => show _ :: _ = _; rw [ih]
inductive GetAt : L2.St → Nat → V → Prop
  | here {r : L2.St} {v : V} : GetAt (some v :: r) 0 v
  | there {x : Option V} {r : L2.St} {n : Nat} {v : V} : GetAt r n v → GetAt (x :: r) (n + 1) v
theorem GetAt.eq {σ : L2.St} {i : Nat} {v : V} (h : GetAt σ i v) : σ[i]? = some (some v) := by
  induction h with
  | here => rfl
  | there _ ih => simpa using ih

/-- a list that L tells as data, owned or frozen; a list or a tuple -/
inductive LsIn (K : PySem.W.Frag) (L : List Ent) (a : Addr) (ds : List PyData) : Prop
  | own (h : Lg.ls K a ds ∈ L)
  | dat (h : Lg.dat (.ref a) (.list ds) ∈ L)
inductive See (K : PySem.W.Frag) (L : List Ent) : V → PyData → Prop
  | is {v : V} {d : PyData} (h : Is L v d) : See K L v d
  | own {a : Addr} {ds : List PyData} (h : Lg.ls K a ds ∈ L) : See K L (.ref a) (.list ds)
section
variable {K : PySem.W.Frag} {L L' : List Ent} {H F : Hp} {a p : Addr} {ds es : List PyData} {d e : PyData} {v : V}
theorem LsIn.ok (h : LsIn K L a ds) (e : Ex F H) (q : ∀ e ∈ L, e.ok K F H) : ∃ xs, H a = some (.lst xs) ∧ DvAll K F xs ds := by
  cases h with
  | own m =>
    obtain ⟨_, x, h1, xs, rfl, h2⟩ := q _ m
    exact ⟨xs, h1, h2⟩
  | dat m =>
    have h1 : Dv K F (.ref a) (.list ds) := q _ m
    cases h1 with
    | lst h2 h3 => exact ⟨_, e _ _ h2, h3⟩
theorem LsIn.more (h : LsIn K L a ds) (s : ∀ e ∈ L, e ∈ L') : LsIn K L' a ds := by
  cases h with
  | own m => exact .own (s _ m)
  | dat m => exact .dat (s _ m)
theorem LsIn.cons {e : Ent} (h : LsIn K L a ds) : LsIn K (e :: L) a ds := h.more fun _ m => .tail _ m
theorem St.lsin (hS : St K L H) (h : LsIn K L a ds) : ∃ F xs, Ex F H ∧ (∀ e ∈ L, e.ok K F H) ∧ H a = some (.lst xs) ∧ DvAll K F xs ds := by
  obtain ⟨F, h1, h2⟩ := hS.ex
  obtain ⟨xs, h3, h4⟩ := h.ok h1 h2
  exact ⟨F, xs, h1, h2, h3, h4⟩
theorem See.dp (hS : St K L H) (h : See K L v d) : Dp K H v d := by
  cases h with
  | is h => exact hS.dp h
  | own m =>
    obtain ⟨F, xs, h1, _, h3, h4⟩ := hS.lsin (.own m)
    exact .lst (SqL.of h3) (DpAll.of (DvAll.mono h1 _ _ h4))
where DpAll.of {xs : List V} {ds : List PyData} (h : DvAll K H xs ds) : DpAll K H xs ds := DvAll.dp _ _ h
theorem St.lenl (hS : St K L H) (h : LsIn K L a ds) : ∃ xs, H a = some (.lst xs) ∧ xs.length = ds.length := by
  obtain ⟨F, xs, _, _, h3, h4⟩ := hS.lsin h
  exact ⟨xs, h3, h4.len⟩
/-- the value of a scalar -/
theorem St.int_of {i : Int} (h : St K (.dat v (.int i) :: L) H) : v = .int i := by
  obtain ⟨F, _, h2⟩ := h.ex
  have : Dv K F v (.int i) := h2 _ (.head _)
  cases this; rfl
theorem St.str_of {x : Str} (h : St K (.dat v (.str x) :: L) H) : v = .str x := by
  obtain ⟨F, _, h2⟩ := h.ex
  have : Dv K F v (.str x) := h2 _ (.head _)
  cases this; rfl
theorem St.bl_of {b : Bool} (h : St K (.dat v (.bool b) :: L) H) : v = .bl b := by
  obtain ⟨F, _, h2⟩ := h.ex
  have : Dv K F v (.bool b) := h2 _ (.head _)
  cases this; rfl
theorem St.non_of (h : St K (.dat v .none :: L) H) : v = .non := by
  obtain ⟨F, _, h2⟩ := h.ex
  have : Dv K F v .none := h2 _ (.head _)
  cases this; rfl
theorem St.tup_of (h : St K (.dat v (.tuple ds) :: L) H) : ∃ a, v = .ref a := by
  obtain ⟨F, _, h2⟩ := h.ex
  have : Dv K F v (.tuple ds) := h2 _ (.head _)
  cases this; exact ⟨_, rfl⟩
theorem St.lst_of (h : St K (.dat v (.list ds) :: L) H) : ∃ a, v = .ref a := by
  obtain ⟨F, _, h2⟩ := h.ex
  have : Dv K F v (.list ds) := h2 _ (.head _)
  cases this; exact ⟨_, rfl⟩
end

/-! ### readings -/
def NewL (vs : List V) (H : Hp) (Q : VK) : Prop := vs.length ≤ sizeLine ∧ ∀ p, H p = none → Q (.ref p) (upd H p (.lst vs))
def NewT (vs : List V) (H : Hp) (Q : VK) : Prop := vs.length ≤ sizeLine ∧ ∀ p, H p = none → Q (.ref p) (upd H p (.tup vs))
def TyThen (K : PySem.W.Frag) (T : String) (x : V) (H : Hp) (P : Prop) : Prop := tyV K T x H ∧ P
def ChainK (b : Bool) (tc : TE) (r : R2) (y : V) (σ : L2.St) (H : Hp) (Q : VK) : Prop := if b = true then tc σ H fun w H4 => r y w H4 Q else Q (.bl false) H
section
variable {K : PySem.W.Frag} {L L' : List Ent} {H : Hp} {σ σ' : L2.St} {D : Ends} {Q : VK} {E : XK} {ta tb tc te : TE} {tt tu : TT} {t u : TS} {g : TG} {i j : Int} {x y v : V} {b c : Bool} {a p : Addr} {ds es : List PyData} {d e : PyData} {n : Nat}
theorem w_seq (h : t { D with nx := u D } σ H) : tSeq t u D σ H := h
theorem w_cut0 (h : t { D with nx := u D } σ H) : C8.tCut t u D σ H := ⟨u D, h, fun _ _ q => q⟩
theorem w_cut (Mid : L2.St → Hp → Prop) (h : t { D with nx := Mid } σ H) (k : ∀ σ' H', Mid σ' H' → u D σ' H') : C8.tCut t u D σ H := ⟨Mid, h, k⟩
theorem w_asg (h : te σ H fun x H1 => g x σ H1 D.nx) : tAsg te g D σ H := h
theorem w_name {R : L2.St → Hp → Prop} (q : SetAt σ n v σ') (h : R σ' H) : gName n v σ H R := by
  show R (σ.set n (some v)) H
  rw [q.eq]; exact h
theorem w_var (q : GetAt σ n v) (h : Q v H) : tVar n σ H Q := ⟨v, q.eq, h⟩
theorem w_c (h : Q v H) : tC v σ H Q := h
theorem w_op {r : R2} (h : ta σ H fun x H1 => tb σ H1 fun y H2 => r x y H2 Q) : tOp r ta tb σ H Q := h
theorem w_un {r : V → Hp → VK → Prop} (h : ta σ H fun x H1 => r x H1 Q) : tUn r ta σ H Q := h
theorem w_nil {R : List V → Hp → Prop} (h : R [] H) : tNil σ H R := h
theorem w_cons {tr : TA} {R : List V → Hp → Prop} (h : ta σ H fun x H1 => tr σ H1 fun xs H2 => R (x :: xs) H2) : tCons ta tr σ H R := h
theorem w_call {sp : Sp} {tr : TA} (h : tr σ H fun vs H1 => sp vs H1 Q E) : tCall sp [] E tr σ H Q := by
  show tr σ H fun vs H1 => sp (vs ++ []) H1 Q E
  simpa using h
theorem w_cb {r : List V → Hp → VK → Prop} {tr : TA} (h : tr σ H fun vs H1 => r vs H1 Q) : tCB r tr σ H Q := h
theorem w_tup {tr : TA} (h : tr σ H fun xs H1 => NewT xs H1 Q) : tTup tr σ H Q := h
theorem w_lst {tr : TA} (h : tr σ H fun xs H1 => NewL xs H1 Q) : tLst tr σ H Q := h
theorem w_bm {T : String} {r : V → List V → Hp → VK → Prop} {tr : TA} (h : ta σ H fun x H1 => TyThen K T x H1 (tr σ H1 fun xs H2 => r x xs H2 Q)) : tBM K T r ta tr σ H Q := h
theorem w_bm0 {T : String} {r : V → List V → Hp → VK → Prop} (h : ta σ H fun x H1 => TyThen K T x H1 (r x [] H1 Q)) : tBM0 K T r ta σ H Q := h
theorem w_sl {r : V → Option Int → Option Int → Hp → VK → Prop} {tl th : TO} (h : te σ H fun x H1 => tl σ H1 fun l H2 => th σ H2 fun u H3 => r x l u H3 Q) : tSl r te tl th σ H Q := h
theorem w_nopart {R : Option Int → Hp → Prop} (h : R none H) : tNoPart σ H R := h
theorem w_part {R : Option Int → Hp → Prop} (h : te σ H fun x H1 => ∃ i, x = .int i ∧ R (some i) H1) : tPart te σ H R := h
theorem w_isint {G : Int → Prop} (h : G i) : ∃ k, V.int i = .int k ∧ G k := ⟨i, rfl, h⟩
theorem w_test {R : Bool → Hp → Prop} (h : te σ H fun x H' => ∃ k, x = .bl k ∧ R k H') : tTest te σ H R := h
theorem w_tB {R : Bool → Hp → Prop} (h : te σ H fun x H' => ∃ k, x = .bl k ∧ R k H') : tB te σ H R := h
theorem w_isbl {R : Bool → Hp → Prop} (h : R b H) : ∃ k, V.bl b = .bl k ∧ R k H := ⟨b, rfl, h⟩
theorem w_isbl' {G : Bool → Prop} (h : G b) : ∃ k, V.bl b = .bl k ∧ G k := ⟨b, rfl, h⟩
theorem w_and {R : Bool → Hp → Prop} (h : tt σ H fun c H1 => if c = true then tu σ H1 R else R false H1) : tAnd tt tu σ H R := h
theorem w_or {R : Bool → Hp → Prop} (h : tt σ H fun c H1 => if c = true then R true H1 else tu σ H1 R) : tOr tt tu σ H R := h
theorem w_not {R : Bool → Hp → Prop} (h : tt σ H fun c H1 => R (!c) H1) : tNot tt σ H R := h
/-- both tests leave the heap -/
theorem w_andP {R : Bool → Hp → Prop} (h1 : ∀ R' : Bool → Hp → Prop, R' b H → tt σ H R') (h2 : b = true → ∀ R' : Bool → Hp → Prop, R' c H → tu σ H R') (h : R (b && c) H) : tAnd tt tu σ H R := by
  refine h1 _ ?_
  cases b with
  | true => exact h2 rfl _ h
  | false => exact h
theorem w_orP {R : Bool → Hp → Prop} (h1 : ∀ R' : Bool → Hp → Prop, R' b H → tt σ H R') (h2 : b = false → ∀ R' : Bool → Hp → Prop, R' c H → tu σ H R') (h : R (b || c) H) : tOr tt tu σ H R := by
  refine h1 _ ?_
  cases b with
  | true => exact h
  | false => exact h2 rfl _ h
theorem w_ifexp (h : tt σ H fun c H1 => if c = true then ta σ H1 Q else tb σ H1 Q) : tIf tt ta tb σ H Q := h
theorem w_andV (h : ta σ H fun x H1 => ∃ c, x = .bl c ∧ if c = true then tb σ H1 Q else Q (.bl false) H1) : tAndV ta tb σ H Q := h
theorem w_orV (h : ta σ H fun x H1 => ∃ c, x = .bl c ∧ if c = true then Q (.bl true) H1 else tb σ H1 Q) : tOrV ta tb σ H Q := h
theorem w_andVP (h1 : ∀ R' : VK, R' (.bl b) H → ta σ H R') (h2 : b = true → ∀ R' : VK, R' (.bl c) H → tb σ H R') (h : Q (.bl (b && c)) H) : tAndV ta tb σ H Q := by
  refine h1 _ ⟨b, rfl, ?_⟩
  cases b with
  | true => exact h2 rfl _ h
  | false => exact h
theorem w_orVP (h1 : ∀ R' : VK, R' (.bl b) H → ta σ H R') (h2 : b = false → ∀ R' : VK, R' (.bl c) H → tb σ H R') (h : Q (.bl (b || c)) H) : tOrV ta tb σ H Q := by
  refine h1 _ ⟨b, rfl, ?_⟩
  cases b with
  | true => exact h
  | false => exact h2 rfl _ h
theorem w_notV (h : ta σ H fun x H1 => ∃ c, x = .bl c ∧ Q (.bl (!c)) H1) : tNotV ta σ H Q := h
theorem w_tru {R : Bool → Hp → Prop} (h : ta σ H fun x H' => ∃ k, TruV K x H' k ∧ R k H') : tTruX K ta σ H R := h
theorem w_truI {R : Bool → Hp → Prop} (h : R (i != 0) H) : ∃ k, TruV K (.int i) H k ∧ R k H := ⟨_, rfl, h⟩
theorem w_truB {R : Bool → Hp → Prop} (h : R b H) : ∃ k, TruV K (.bl b) H k ∧ R k H := ⟨_, rfl, h⟩
theorem w_ifs (h : tt σ H fun b H1 => if b = true then t D σ H1 else u D σ H1) : tIfS tt t u D σ H := h
theorem w_next (h : D.nx σ H) : tNext D σ H := h
theorem w_break (h : D.bk σ H) : tBreak D σ H := h
theorem w_cont (h : D.ct σ H) : tCont D σ H := h
theorem w_ret (h : te σ H D.rt) : tRet te D σ H := h
theorem w_retn (h : D.rt .non H) : tRetN D σ H := h
theorem w_drop (h : te σ H fun _ H1 => D.nx σ H1) : tDrop te D σ H := h
theorem w_sub {to ti : TE} {ts : TSet} {R : L2.St → Hp → Prop} (h : to σ H fun o H1 => ti σ H1 fun i H2 => ts o i v H2 fun H3 => R σ H3) : gSub to ti ts v σ H R := h
theorem w_gnil {R : L2.St → Hp → Prop} (h : R σ H) : gNil [] σ H R := ⟨rfl, h⟩
theorem w_gcons {tg : TG} {tu : TGs} {r : List V} {R : L2.St → Hp → Prop} (h : tg v σ H fun σ' H' => tu r σ' H' R) : gCons tg tu (v :: r) σ H R := ⟨v, r, rfl, h⟩
/-! branches -/
theorem w_ite {A B : Prop} (h1 : b = true → A) (h2 : b = false → B) : if b = true then A else B := by
  cases b with
  | true => exact h1 rfl
  | false => exact h2 rfl
theorem w_ifd {P A B : Prop} [Decidable P] (h1 : P → A) (h2 : ¬ P → B) : if decide P = true then A else B := by
  by_cases h : P
  · rw [if_pos (decide_eq_true h)]; exact h1 h
  · rw [if_neg (by simp [h])]; exact h2 h
theorem w_ifnd {P A B : Prop} [Decidable P] (h1 : ¬ P → A) (h2 : P → B) : if (!decide P) = true then A else B := by
  by_cases h : P
  · rw [if_neg (by simp [h])]; exact h2 h
  · rw [if_pos (by simp [h])]; exact h1 h
theorem w_ifT {A B : Prop} (h : A) : if true = true then A else B := by rw [if_pos rfl]; exact h
theorem w_ifF {A B : Prop} (h : B) : if false = true then A else B := by rw [if_neg Bool.false_ne_true]; exact h
theorem w_ifp {P A B : Prop} [Decidable P] (hp : P) (h : A) : if decide P = true then A else B := by rw [if_pos (decide_eq_true hp)]; exact h
theorem w_ifq {P A B : Prop} [Decidable P] (hp : ¬ P) (h : B) : if decide P = true then A else B := by rw [if_neg (by simp [hp])]; exact h
theorem w_bt {A B : Prop} (hb : b = true) (h : A) : if b = true then A else B := by rw [if_pos hb]; exact h
theorem w_bf {A B : Prop} (hb : b = false) (h : B) : if b = true then A else B := by rw [if_neg (by simp [hb])]; exact h
/-! ints -/
theorem w_add (h : Q (.int (i + j)) H) : rPlus K (.int i) (.int j) H Q := .inl ⟨i, j, rfl, rfl, h⟩
theorem w_sub2 (h : Q (.int (i - j)) H) : rMinus (.int i) (.int j) H Q := ⟨i, j, rfl, rfl, h⟩
theorem w_mulL (hi : -(2 ^ 64) < i ∧ i < 2 ^ 64) (h : Q (.int (i * j)) H) : rTimes (.int i) (.int j) H Q := .inl ⟨i, j, rfl, rfl, .inl hi, h⟩
theorem w_mulR (hi : -(2 ^ 64) < j ∧ j < 2 ^ 64) (h : Q (.int (i * j)) H) : rTimes (.int i) (.int j) H Q := .inl ⟨i, j, rfl, rfl, .inr hi, h⟩
theorem w_mod (hj : 0 < j) (h : Q (.int (i % j)) H) : rMod (.int i) (.int j) H Q := ⟨i, j, rfl, rfl, hj, h⟩
theorem w_fdiv (hj : 0 < j ∧ j < 1073741824) (h : Q (.int (i / j)) H) : rFdiv (.int i) (.int j) H Q := ⟨i, j, rfl, rfl, hj, h⟩
theorem w_band (h : Q (.int (Builtin.bitAnd i j)) H) : rAnd (.int i) (.int j) H Q := ⟨i, j, rfl, rfl, h⟩
theorem w_lt (h : Q (.bl (decide (i < j))) H) : rLt (.int i) (.int j) H Q := ⟨i, j, rfl, rfl, h⟩
theorem w_le (h : Q (.bl (decide (i ≤ j))) H) : rLe (.int i) (.int j) H Q := ⟨i, j, rfl, rfl, h⟩
theorem w_gt (h : Q (.bl (decide (j < i))) H) : rGt (.int i) (.int j) H Q := ⟨i, j, rfl, rfl, h⟩
theorem w_ge (h : Q (.bl (decide (j ≤ i))) H) : rGe (.int i) (.int j) H Q := ⟨i, j, rfl, rfl, h⟩
theorem dI (i j : Int) : decide (V.int i = V.int j) = decide (i = j) := by by_cases h : i = j <;> simp [h]
theorem dS (i j : Str) : decide (V.str i = V.str j) = decide (i = j) := by by_cases h : i = j <;> simp [h]
theorem w_eqI (h : Q (.bl (decide (i = j))) H) : rEqX K (.int i) (.int j) H Q := .inl ⟨rfl, by rw [dI]; exact h⟩
theorem w_neI (h : Q (.bl (!decide (i = j))) H) : rNeX K (.int i) (.int j) H Q := .inl ⟨rfl, by rw [dI]; exact h⟩
theorem w_eqS {i j : Str} (h : Q (.bl (decide (i = j))) H) : rEqX K (.str i) (.str j) H Q := .inl ⟨rfl, by rw [dS]; exact h⟩
theorem w_neS {i j : Str} (h : Q (.bl (!decide (i = j))) H) : rNeX K (.str i) (.str j) H Q := .inl ⟨rfl, by rw [dS]; exact h⟩
theorem w_is (h : Q (.bl (decide (x = .non))) H) : rIsNo x .non H Q := ⟨rfl, h⟩
theorem w_isnot (h : Q (.bl (!decide (x = .non))) H) : rNotNo x .non H Q := ⟨rfl, h⟩
theorem w_isN (h : Q (.bl true) H) : rIsNo .non .non H Q := ⟨rfl, h⟩
theorem w_isR (h : Q (.bl false) H) : rIsNo (.ref a) .non H Q := ⟨rfl, h⟩
theorem w_isI (h : Q (.bl false) H) : rIsNo (.int i) .non H Q := ⟨rfl, h⟩
theorem w_isS {z : Str} (h : Q (.bl false) H) : rIsNo (.str z) .non H Q := ⟨rfl, h⟩
theorem w_nsN (h : Q (.bl false) H) : rNotNo .non .non H Q := ⟨rfl, h⟩
theorem w_nsR (h : Q (.bl true) H) : rNotNo (.ref a) .non H Q := ⟨rfl, h⟩
theorem w_nsI (h : Q (.bl true) H) : rNotNo (.int i) .non H Q := ⟨rfl, h⟩
theorem w_nsS {z : Str} (h : Q (.bl true) H) : rNotNo (.str z) .non H Q := ⟨rfl, h⟩
theorem w_int (h : Q (.int i) H) : rIntX [.int i] H Q := .inl ⟨i, rfl, h⟩
theorem w_intb (h : Q (.int (if b then 1 else 0)) H) : rIntX [.bl b] H Q := .inr ⟨b, rfl, h⟩
theorem w_chainLe (hc : ∀ R' : VK, R' (.int j) H → tc σ H R') (h : Q (.bl (b && decide (i ≤ j))) H) : ChainK b tc rLe (.int i) σ H Q := by
  unfold ChainK
  cases b with
  | true => rw [if_pos rfl]; exact hc _ ⟨i, j, rfl, rfl, h⟩
  | false => rw [if_neg Bool.false_ne_true]; exact h
theorem w_chainLt (hc : ∀ R' : VK, R' (.int j) H → tc σ H R') (h : Q (.bl (b && decide (i < j))) H) : ChainK b tc rLt (.int i) σ H Q := by
  unfold ChainK
  cases b with
  | true => rw [if_pos rfl]; exact hc _ ⟨i, j, rfl, rfl, h⟩
  | false => rw [if_neg Bool.false_ne_true]; exact h
theorem w_chain {r r' : R2} (h : ta σ H fun x H1 => tb σ H1 fun y H2 => r x y H2 fun z H3 => ∃ k, z = .bl k ∧ ChainK k tc r' y σ H3 Q) : tChain r r' ta tb tc σ H Q := h
/-! texts -/
theorem w_addS {y z : Str} (hl : y.length + z.length ≤ 100000) (h : Q (.str (y ++ z)) H) : rPlus K (.str y) (.str z) H Q := .inr (.inl ⟨y, z, rfl, rfl, Nat.le_trans hl (by decide), h⟩)
theorem w_repS {z : Str} (h0 : 0 ≤ i) (h1 : i ≤ 100000) (h2 : z.length ≤ 100) (h : Q (.str ⟨(repL z.cps.toList i.toNat).toArray⟩) H) : rTimes (.str z) (.int i) H Q := .inr (.inr ⟨z, i, rfl, rfl, h0, h1, h2, h⟩)
theorem w_lenS {z : Str} (hl : z.length ≤ 100000) (h : Q (.int z.length) H) : rLenX K [.str z] H Q := ⟨.str z, z.length, rfl, ⟨Nat.le_trans hl (by decide), rfl⟩, h⟩
theorem w_ord {z : Str} (hz : z.length = 1) (h : Q (.int (z.cps.getD 0 0 : Nat)) H) : rOrd [.str z] H Q := ⟨z, rfl, hz, h⟩
theorem w_ord1 {k : Nat} (h : Q (.int (k : Int)) H) : rOrd [.str ⟨#[k]⟩] H Q := ⟨_, rfl, rfl, h⟩
theorem w_ixS {z : Str} {k : Nat} (hl : z.length ≤ 100000) (hk : i = (k : Int)) {c : Nat} (hc : z.cps.toList[k]? = some c) (h : Q (.str ⟨#[c]⟩) H) : rIx K (.str z) (.int i) H Q :=
  .inr (.inr ⟨z, i, c, rfl, rfl, Nat.le_trans hl (by decide), by rw [hk]; exact atI_nat hc, h⟩)
theorem w_slS {z : Str} {lo hi : Option Int} (hl : z.length ≤ 100000) (h : Q (.str (cutS z lo hi)) H) : rSlX K (.str z) lo hi H Q := .inr (.inl ⟨z, rfl, Nat.le_trans hl (by decide), h⟩)
theorem w_tyS {z : Str} {P : Prop} (h : P) : TyThen K "str" (.str z) H P := ⟨rfl, h⟩
theorem w_inSg {k : Nat} {z : Str} (h : Q (.bl (decide (k ∈ z.cps.toList))) H) : rInX K false (.str ⟨#[k]⟩) (.str z) H Q := .inr ⟨k, z, rfl, rfl, h⟩
theorem w_ninSg {k : Nat} {z : Str} (h : Q (.bl (!decide (k ∈ z.cps.toList))) H) : rInX K true (.str ⟨#[k]⟩) (.str z) H Q := .inr ⟨k, z, rfl, rfl, h⟩
/-! lists -/
theorem w_newL {vs : List V} (hS : St K L H) (hv : IsAll L vs ds) (hn : vs.length ≤ 1000) (h : ∀ p H', St K (Lg.ls K p ds :: L) H' → Q (.ref p) H') : NewL vs H Q :=
  ⟨Nat.le_trans hn (by decide), fun p hp => h p _ (hS.alloc hp fun F _ q => ⟨vs, rfl, hv.dv q⟩)⟩
theorem w_newLr {vs : List V} (hS : St K L H) (hn : vs.length ≤ 1000) (h : ∀ p H', St K (Lg.own p (.lst vs) :: L) H' → Q (.ref p) H') : NewL vs H Q :=
  ⟨Nat.le_trans hn (by decide), fun p hp => h p _ (hS.alloc hp fun F _ q => rfl)⟩
theorem w_newT {vs : List V} (hS : St K L H) (hv : IsAll L vs ds) (hn : vs.length ≤ 1000) (h : ∀ p H', St K (Lg.dat (.ref p) (.tuple ds) :: L) H' → Q (.ref p) H') : NewT vs H Q :=
  ⟨Nat.le_trans hn (by decide), fun p hp => h p _ (hS.fresh hp fun F hF _ q => .tup (SqT.of upd_same) (DvAll.mono (Ex.new hF) _ _ (hv.dv q)))⟩
theorem w_newTr {vs : List V} (hS : St K L H) (hn : vs.length ≤ 1000) (h : ∀ p H', St K (Lg.own p (.tup vs) :: L) H' → Q (.ref p) H') : NewT vs H Q :=
  ⟨Nat.le_trans hn (by decide), fun p hp => h p _ (hS.alloc hp fun F _ q => rfl)⟩
theorem w_tyL {P : Prop} (hS : St K L H) (hl : LsIn K L a ds) (h : P) : TyThen K "list" (.ref a) H P := by
  obtain ⟨F, xs, _, _, h3, _⟩ := hS.lsin hl
  exact ⟨.inl ⟨rfl, _, SqL.of h3⟩, h⟩
theorem w_app (hS : St K L H) (hp : Put L (Lg.ls K a ds) (Lg.ls K a (ds ++ [d])) L') (hv : Is L v d) (hn : ds.length ≤ 100000) (h : ∀ H', St K L' H' → Q .non H') : rAppend (.ref a) [v] H Q := by
  obtain ⟨F, xs, h1, h2, h3, h4⟩ := hS.lsin (.own hp.mem)
  refine ⟨a, xs, v, rfl, rfl, h3, ?_, h _ (hS.writeP hp fun F' x e q hx hφ => ?_)⟩
  · rw [h4.len]; exact Nat.lt_of_le_of_lt hn (by decide)
  · obtain ⟨ys, rfl, hys⟩ := hφ
    rw [h3] at hx
    cases hx
    exact ⟨_, rfl, hys.app (.cons (hv.dv q) .nil)⟩
theorem w_pop (hS : St K L H) (hp : Put L (Lg.ls K a (ds ++ [d])) (Lg.ls K a ds) L') (h : ∀ v H', St K (.dat v d :: L') H' → Q v H') : rPop (.ref a) [] H Q := by
  obtain ⟨F, xs, h1, h2, h3, h4⟩ := hS.lsin (.own hp.mem)
  have hlen := h4.len
  obtain ⟨v, hv, hd⟩ := h4.get (i := ds.length) (d := d) (by simp)
  have hxs : xs.length - 1 = ds.length := by rw [hlen]; simp
  refine ⟨a, xs, v, rfl, rfl, h3, by rw [hxs]; exact hv, h _ _ ?_⟩
  have hS' := hS.know (v := v) (d := d) fun F' e q => by
    obtain ⟨ys, h5, h6⟩ := LsIn.ok (.own hp.mem) e q
    rw [h3] at h5
    cases h5
    obtain ⟨v', hv', hd'⟩ := h6.get (i := ds.length) (d := d) (by simp)
    rw [hv] at hv'
    cases hv'
    exact hd'
  refine hS'.writeP (.there hp) fun F' x e q hx hφ => ?_
  obtain ⟨ys, rfl, hys⟩ := hφ
  rw [h3] at hx
  cases hx
  refine ⟨_, rfl, ?_⟩
  have := hys.take ds.length
  rw [List.take_left] at this
  rw [List.dropLast_eq_take, hxs]
  exact this
theorem w_setL {k : Nat} (hS : St K L H) (hp : Put L (Lg.ls K a ds) (Lg.ls K a (ds.set k d)) L') (hv : Is L v d) (hk : i = (k : Int)) (hn : k < ds.length) {R : Hp → Prop} (h : ∀ H', St K L' H' → R H') : rSetL (.ref a) (.int i) v H R := by
  obtain ⟨F, xs, h1, h2, h3, h4⟩ := hS.lsin (.own hp.mem)
  refine ⟨a, xs, i, k, rfl, rfl, h3, ?_, h _ (hS.writeP hp fun F' x e q hx hφ => ?_)⟩
  · rw [hk]
    unfold ixN
    rw [if_pos (by omega), if_pos (by rw [h4.len]; omega)]
    simp
  · obtain ⟨ys, rfl, hys⟩ := hφ
    rw [h3] at hx
    cases hx
    exact ⟨_, rfl, hys.set _ (hv.dv q)⟩
theorem w_lenL (hS : St K L H) (hl : LsIn K L a ds) (h : Q (.int ds.length) H) : rLenX K [.ref a] H Q := by
  obtain ⟨F, xs, h1, h2, h3, h4⟩ := hS.lsin hl
  exact ⟨.ref a, ds.length, rfl, .inl ⟨xs, SqL.of h3, h4.len.symm⟩, h⟩
theorem w_lenT (hS : St K L H) (hl : Is L (.ref a) (.tuple ds)) (h : Q (.int ds.length) H) : rLenX K [.ref a] H Q := by
  obtain ⟨xs, h1, h2, _⟩ := hS.tup_parts hl
  exact ⟨.ref a, ds.length, rfl, .inr ⟨xs, h1, h2.symm⟩, h⟩
theorem St.item (hS : St K L H) (hl : LsIn K L a ds) {k : Nat} (hd : ds[k]? = some d) : ∃ xs v, H a = some (.lst xs) ∧ xs[k]? = some v ∧ xs.length = ds.length ∧ St K (.dat v d :: L) H := by
  obtain ⟨F, xs, h1, h2, h3, h4⟩ := hS.lsin hl
  obtain ⟨v, h5, h6⟩ := h4.get hd
  refine ⟨xs, v, h3, h5, h4.len, hS.know fun F' e q => ?_⟩
  obtain ⟨ys, h7, h8⟩ := hl.ok e q
  rw [h3] at h7
  cases h7
  obtain ⟨v', h9, h10⟩ := h8.get hd
  rw [h5] at h9
  cases h9
  exact h10
theorem w_ixL {k : Nat} (hS : St K L H) (hl : LsIn K L a ds) (hk : i = (k : Int)) (hd : ds[k]? = some d) (h : ∀ v, St K (.dat v d :: L) H → Q v H) : rIx K (.ref a) (.int i) H Q := by
  obtain ⟨xs, v, h3, h5, _, h6⟩ := hS.item hl hd
  exact .inl ⟨a, xs, i, v, rfl, rfl, SqL.of h3, by rw [hk]; exact at_of rfl h5, h v h6⟩
theorem w_ixLi {k : Nat} {m : Int} (hS : St K L H) (hl : LsIn K L a ds) (hk : i = (k : Int)) (hd : ds[k]? = some (.int m)) (h : Q (.int m) H) : rIx K (.ref a) (.int i) H Q :=
  w_ixL hS hl hk hd fun v h6 => by rw [h6.int_of]; exact h
theorem w_ixLs {k : Nat} {m : Str} (hS : St K L H) (hl : LsIn K L a ds) (hk : i = (k : Int)) (hd : ds[k]? = some (.str m)) (h : Q (.str m) H) : rIx K (.ref a) (.int i) H Q :=
  w_ixL hS hl hk hd fun v h6 => by rw [h6.str_of]; exact h
theorem w_ixT {k : Nat} (hS : St K L H) (hl : Is L (.ref a) (.tuple ds)) (hk : i = (k : Int)) (hd : ds[k]? = some d) (h : ∀ v, St K (.dat v d :: L) H → Q v H) : rIx K (.ref a) (.int i) H Q := by
  obtain ⟨xs, h1, h2, h3⟩ := hS.tup_parts hl
  obtain ⟨v, h4, h5⟩ := h3 _ _ hd
  exact .inr (.inl ⟨a, xs, i, v, rfl, rfl, h1, by rw [hk]; exact at_of rfl h4, h v h5⟩)
theorem w_ixTi {k : Nat} {m : Int} (hS : St K L H) (hl : Is L (.ref a) (.tuple ds)) (hk : i = (k : Int)) (hd : ds[k]? = some (.int m)) (h : Q (.int m) H) : rIx K (.ref a) (.int i) H Q :=
  w_ixT hS hl hk hd fun v h6 => by rw [h6.int_of]; exact h
theorem w_ixTs {k : Nat} {m : Str} (hS : St K L H) (hl : Is L (.ref a) (.tuple ds)) (hk : i = (k : Int)) (hd : ds[k]? = some (.str m)) (h : Q (.str m) H) : rIx K (.ref a) (.int i) H Q :=
  w_ixT hS hl hk hd fun v h6 => by rw [h6.str_of]; exact h
theorem w_plusL (hS : St K L H) (h1 : LsIn K L a ds) (h2 : LsIn K L p es) (hn : ds.length + es.length ≤ 100000) (h : ∀ q H', St K (Lg.ls K q (ds ++ es) :: L) H' → Q (.ref q) H') : rPlus K (.ref a) (.ref p) H Q := by
  obtain ⟨F, xs, g1, g2, g3, g4⟩ := hS.lsin h1
  obtain ⟨ys, g5, g6⟩ := h2.ok g1 g2
  refine .inr (.inr (.inl ⟨a, p, xs, ys, rfl, rfl, g3, g5, ?_, fun q hq => h q _ (hS.alloc hq fun F' e w => ?_)⟩))
  · rw [g4.len, g6.len]; exact Nat.le_trans hn (by decide)
  · obtain ⟨xs', k1, k2⟩ := h1.ok e w
    obtain ⟨ys', k3, k4⟩ := h2.ok e w
    rw [g3] at k1; cases k1
    rw [g5] at k3; cases k3
    exact ⟨_, rfl, k2.app k4⟩
theorem w_repLs (hS : St K L H) (h1 : LsIn K L a ds) (h0 : i ≤ 100000) (h0' : -100000 ≤ i) (hn : ds.length * i.toNat ≤ 100000) (h : ∀ q H', St K (Lg.ls K q (List.replicate i.toNat ds).flatten :: L) H' → Q (.ref q) H') : rTimes (.ref a) (.int i) H Q := by
  obtain ⟨F, xs, g1, g2, g3, g4⟩ := hS.lsin h1
  refine .inr (.inl ⟨a, i, xs, rfl, rfl, g3, by omega, by omega, ?_, fun q hq => h q _ (hS.alloc hq fun F' e w => ?_)⟩)
  · rw [g4.len]; exact Nat.le_trans hn (by decide)
  · obtain ⟨xs', k1, k2⟩ := h1.ok e w
    rw [g3] at k1; cases k1
    exact ⟨_, rfl, k2.flat _⟩
def cutD (ds : List PyData) (lo hi : Option Int) : List PyData := (ds.drop (HT.sIx ds.length 0 lo)).take (HT.sIx ds.length ds.length hi - HT.sIx ds.length 0 lo)
theorem w_slL {lo hi : Option Int} (hS : St K L H) (h1 : LsIn K L a ds) (h : ∀ q H', St K (Lg.ls K q (cutD ds lo hi) :: L) H' → Q (.ref q) H') : rSlX K (.ref a) lo hi H Q := by
  obtain ⟨F, xs, g1, g2, g3, g4⟩ := hS.lsin h1
  refine .inl ⟨a, xs, rfl, SqL.of g3, fun q hq => h q _ (hS.alloc hq fun F' e w => ?_)⟩
  obtain ⟨xs', k1, k2⟩ := h1.ok e w
  rw [g3] at k1; cases k1
  refine ⟨_, rfl, ?_⟩
  unfold cutV cutD
  rw [g4.len]
  exact (k2.drop _).take _
theorem w_listL (hS : St K L H) (h1 : LsIn K L a ds) (h : ∀ q H', St K (Lg.ls K q ds :: L) H' → Q (.ref q) H') : rListOf K [.ref a] H Q := by
  obtain ⟨F, xs, g1, g2, g3, g4⟩ := hS.lsin h1
  refine ⟨a, xs, rfl, .inl (SqL.of g3), fun q hq => h q _ (hS.alloc hq fun F' e w => ?_)⟩
  obtain ⟨xs', k1, k2⟩ := h1.ok e w
  rw [g3] at k1; cases k1
  exact ⟨_, rfl, k2⟩
theorem w_tupL (hS : St K L H) (h1 : LsIn K L a ds) (h : ∀ q H', St K (Lg.dat (.ref q) (.tuple ds) :: L) H' → Q (.ref q) H') : rTupOf K [.ref a] H Q := by
  obtain ⟨F, xs, g1, g2, g3, g4⟩ := hS.lsin h1
  refine ⟨a, xs, rfl, .inl ⟨SqL.of g3, fun q hq => h q _ (hS.fresh hq fun F' hF' e w => ?_)⟩⟩
  obtain ⟨xs', k1, k2⟩ := h1.ok e w
  rw [g3] at k1; cases k1
  exact .tup (SqT.of upd_same) (DvAll.mono (Ex.new hF') _ _ k2)
theorem w_eqD (hS : St K L H) (h1 : See K L x d) (h2 : See K L y e) (s1 : SeqAt.shaped d = true) (s2 : SeqAt.shaped e = true) (h : Q (.bl (PyData.eqv d e)) H) : rEqX K x y H Q :=
  .inr ⟨d, e, h1.dp hS, h2.dp hS, s1, s2, h⟩
theorem w_neD (hS : St K L H) (h1 : See K L x d) (h2 : See K L y e) (s1 : SeqAt.shaped d = true) (s2 : SeqAt.shaped e = true) (h : Q (.bl (!PyData.eqv d e)) H) : rNeX K x y H Q :=
  .inr ⟨d, e, h1.dp hS, h2.dp hS, s1, s2, h⟩
theorem shaped_self (s1 : SeqAt.shaped d = true) : PyData.eqv d d = true := SeqAt.eqv_refl d (SeqAt.canLay_of_shaped s1)
theorem w_eq1 (hS : St K L H) (h1 : See K L x d) (h2 : See K L y d) (s1 : SeqAt.shaped d = true) (h : Q (.bl true) H) : rEqX K x y H Q :=
  w_eqD hS h1 h2 s1 s1 (by rw [shaped_self s1]; exact h)
theorem w_ne1 (hS : St K L H) (h1 : See K L x d) (h2 : See K L y d) (s1 : SeqAt.shaped d = true) (h : Q (.bl false) H) : rNeX K x y H Q :=
  w_neD hS h1 h2 s1 s1 (by rw [shaped_self s1]; exact h)
theorem ints_ib (ns : List Int) : (ns.map V.int).all flatIB = true := by simp [flatIB]
theorem bls_ib (ns : List Bool) : (ns.map V.bl).all flatIB = true := by simp [flatIB]
theorem w_anyB {bs : List Bool} (hS : St K L H) (h1 : LsIn K L a (bs.map PyData.bool)) (h : Q (.bl (bs.any id)) H) : rAnyX K [.ref a] H Q := by
  obtain ⟨F, xs, g1, g2, g3, g4⟩ := hS.lsin h1
  have e := g4.bls_inv
  subst e
  refine ⟨a, _, rfl, SqL.of g3, bls_ib bs, ?_⟩
  have : (bs.map V.bl).any trV = bs.any id := by rw [List.any_map]; rfl
  rw [this]; exact h
theorem w_allB {bs : List Bool} (hS : St K L H) (h1 : LsIn K L a (bs.map PyData.bool)) (h : Q (.bl (bs.all id)) H) : rAllX K [.ref a] H Q := by
  obtain ⟨F, xs, g1, g2, g3, g4⟩ := hS.lsin h1
  have e := g4.bls_inv
  subst e
  refine ⟨a, _, rfl, SqL.of g3, bls_ib bs, ?_⟩
  have : (bs.map V.bl).all trV = bs.all id := by rw [List.all_map]; rfl
  rw [this]; exact h
theorem w_anyI {ns : List Int} (hS : St K L H) (h1 : LsIn K L a (ns.map PyData.int)) (h : Q (.bl (ns.any (· != 0))) H) : rAnyX K [.ref a] H Q := by
  obtain ⟨F, xs, g1, g2, g3, g4⟩ := hS.lsin h1
  have e := g4.ints_inv
  subst e
  refine ⟨a, _, rfl, SqL.of g3, ints_ib ns, ?_⟩
  have : (ns.map V.int).any trV = ns.any (· != 0) := by rw [List.any_map]; rfl
  rw [this]; exact h
theorem w_join {z : Str} {ys : List Str} (hS : St K L H) (h1 : LsIn K L a (ys.map PyData.str)) (hn : (ys.map (·.length)).sum + ys.length * z.length ≤ 100000) (h : Q (.str (Txt.join z ys)) H) : rJoin K (.str z) [.ref a] H Q := by
  obtain ⟨F, xs, g1, g2, g3, g4⟩ := hS.lsin h1
  exact ⟨z, a, ys, rfl, rfl, .inl (by rw [← g4.strs_inv]; exact SqL.of g3), Nat.le_trans hn (by decide), h⟩
/-! isinstance -/
theorem w_isi {T U : String} (hT : TyX K H x (.type T)) (hk : kitB T U = some b) (h : Q (.bl b) H) : rIsi K [x, .ty U] H Q := ⟨x, .ty U, .type T, .type U, b, rfl, .ty U, hT, kit_ty hk, h⟩
theorem w_isiL {U : String} (hS : St K L H) (hl : LsIn K L a ds) (hk : kitB "list" U = some b) (h : Q (.bl b) H) : rIsi K [.ref a, .ty U] H Q := by
  obtain ⟨F, xs, _, _, h3, _⟩ := hS.lsin hl
  exact w_isi (.base (.lst h3)) hk h
theorem w_isiI {U : String} (hk : kitB "int" U = some b) (h : Q (.bl b) H) : rIsi K [.int i, .ty U] H Q := w_isi (.base (.int i)) hk h
theorem w_isiS {z : Str} {U : String} (hk : kitB "str" U = some b) (h : Q (.bl b) H) : rIsi K [.str z, .ty U] H Q := w_isi (.base (.str z)) hk h
theorem w_isiN {U : String} (hk : kitB "NoneType" U = some b) (h : Q (.bl b) H) : rIsi K [.non, .ty U] H Q := w_isi (.base .non) hk h
theorem w_isiT {U : String} (hS : St K L H) (hl : Is L (.ref a) (.tuple ds)) (hk : kitB "tuple" U = some b) (h : Q (.bl b) H) : rIsi K [.ref a, .ty U] H Q := by
  obtain ⟨xs, h1, h2, _⟩ := hS.tup_parts hl
  rcases h1 with (h1 | ⟨o, h1⟩) | ⟨o, its, n, h1, hc, _⟩
  · exact w_isi (.base (.tup h1)) hk h
  · exact w_isi (.fTuple h1) hk h
  · exact w_isi (.kTuple h1 hc) hk h
end
end Lg

/-! Loops, comprehensions, the draws. -/
namespace Lg
open PySem PySem.Spec PyProof.Rows L2

def iAny (K : PySem.W.Frag) (tl : TE) : TI := fun σ H R => iList K tl σ H R ∨ (iTup K tl σ H R ∨ iStr tl σ H R)
def gUnp (K : PySem.W.Frag) (n : Nat) (t : TGs) : TG := fun v σ H Q => gTup K n t v σ H Q ∨ gUnl K n t v σ H Q
section
variable {X : Cx}
theorem PI.or {tg iter : Expr} {w1 w2 : TI} (h1 : PI X tg iter w1) (h2 : PI X tg iter w2) : PI X tg iter (fun σ H R => w1 σ H R ∨ w2 σ H R) :=
  ⟨fun pins s σ H R I h => h.elim (fun q => h1.run pins s σ H R I q) fun q => h2.run pins s σ H R I q⟩
theorem pi_any {tg l : Expr} {tl : TE} (hl : PE X l tl) : PI X tg l (iAny X.K tl) := PI.or (pi_list hl) (PI.or (pi_tup hl) (pi_str hl))
theorem PG.or {target : Expr} {t u : TG} (h1 : PG X target t) (h2 : PG X target u) : PG X target (fun v σ H Q => t v σ H Q ∨ u v σ H Q) :=
  ⟨fun pins s σ H v w Q I r h => h.elim (fun q => h1.run pins s σ H v w Q I r q) fun q => h2.run pins s σ H v w Q I r q⟩
theorem pg_unp {es : List Expr} {k : Nat} {t : TGs} {n : Nat} {pos : Pos} (hc : X.calm = true) (h : PGs X es t)
    (hn : (assignEach es X.env).length = n := by rfl) (hst : (assignEach es X.env).findIdx? (·.1) = none := by rfl) : PG X (.Tuple es k pos) (gUnp X.K n t) := PG.or (pg_tup hc h hn hst) (pg_unl hc h hn hst)
end

def Rng1 (vs : List V) (H1 : Hp) (R : It → Hp → Prop) : Prop := ∃ j : Int, vs = [.int j] ∧ -(2 ^ 62) ≤ j ∧ j < 2 ^ 62 ∧ R (Itr 0 j.toNat) H1
def Rng2 (vs : List V) (H1 : Hp) (R : It → Hp → Prop) : Prop := ∃ i j : Int, vs = [.int i, .int j] ∧ (-(2 ^ 62) ≤ i ∧ i < 2 ^ 62 ∧ -(2 ^ 62) ≤ j ∧ j < 2 ^ 62) ∧ R (Itr i (j - i).toNat) H1
def Rng3 (vs : List V) (H1 : Hp) (R : It → Hp → Prop) : Prop := ∃ (i j c : Int) (n : Nat), vs = [.int i, .int j, .int c] ∧ RgC i j c n ∧ R (Itc i c n) H1
def Enu (K : PySem.W.Frag) (vs : List V) (H1 : Hp) (R : It → Hp → Prop) : Prop := ∃ a xs, vs = [.ref a] ∧ SqL K H1 a xs ∧ R (Ite K a) H1
def AnyL (K : PySem.W.Frag) (x : V) (H1 : Hp) (R : It → Hp → Prop) : Prop := ∃ a, x = .ref a ∧ (∃ xs, SqL K H1 a xs) ∧ R (Itl K a) H1
def AnyT (K : PySem.W.Frag) (x : V) (H1 : Hp) (R : It → Hp → Prop) : Prop := ∃ a, x = .ref a ∧ (∃ xs, SqT K H1 a xs) ∧ R (Itt K a) H1
def AnyS (v : V) (H1 : Hp) (R : It → Hp → Prop) : Prop := ∃ x, v = .str x ∧ R (Its x) H1
def AnyV (K : PySem.W.Frag) (v : V) (H1 : Hp) (R : It → Hp → Prop) : Prop := AnyL K v H1 R ∨ (AnyT K v H1 R ∨ AnyS v H1 R)
def ForW (J : It) (g : TG) (tb : TS) (D : Ends) (σ : L2.St) (H1 : Hp) : Prop := ∃ W : Nat → Nat → L2.St → Hp → Prop, (∃ m, W 0 m σ H1) ∧ ∀ i m σ H, W i m σ H →
  (J.stop i H ∧ D.nx σ H) ∨ (J.go i H ∧ ∃ N : L2.St → Hp → Prop, (∀ σ' H', N σ' H' → ∃ m', m' < m ∧ W (i + 1) m' σ' H') ∧ ∀ x H', J.yld i H x H' → g x σ H' fun σ2 H2 => tb { D with nx := N, ct := N, bk := D.nx } σ2 H2)
def LcW (J : It) (g : TG) (tt : TT) (te : TE) (vs : List Nat) (σ : L2.St) (H1 : Hp) (Q : VK) : Prop := ∀ D, H1 D = none → ∃ W : Nat → Nat → Hp → Prop, (∃ m, W 0 m (upd H1 D (.lst []))) ∧ ∀ i m H, W i m H →
  (J.stop i H ∧ Q (.ref D) H) ∨ (J.go i H ∧ ∃ Nx : Hp → Prop, (∀ H', Nx H' → ∃ m', m' < m ∧ W (i + 1) m' H') ∧ ∀ x H', J.yld i H x H' → g x (wipe σ vs) H' fun σ2 H2 => wipe σ2 vs = wipe σ vs ∧ tt σ2 H2 fun b H3 =>
    if b = true then te σ2 H3 fun y H4 => ∃ acc, H4 D = some (.lst acc) ∧ acc.length < sizeLine ∧ Nx (upd H4 D (.lst (acc ++ [y]))) else Nx H3)
section
variable {K : PySem.W.Frag} {L L' : List Ent} {H : Hp} {σ σ' : L2.St} {D : Ends} {Q : VK} {E : XK} {ta tb tc te tl : TE} {tt tu : TT} {t u tbody : TS} {g : TG} {i j : Int} {x y v : V} {b c : Bool} {a p : Addr} {ds es : List PyData} {d e : PyData} {n : Nat} {vs : List Nat} {wi : TI}
theorem w_for (h : wi σ H fun J H1 => ForW J g tbody D σ H1) : tFor wi g tbody D σ H := h
theorem w_lc (h : wi σ H fun J H1 => LcW J g tt te vs σ H1 Q) : tLc wi g tt te vs σ H Q := h
/-! the walked thing -/
theorem w_anyL1 {R : It → Hp → Prop} (h : tl σ H fun x H1 => AnyL K x H1 R) : iAny K tl σ H R := .inl h
theorem w_anyT1 {R : It → Hp → Prop} (h : tl σ H fun x H1 => AnyT K x H1 R) : iAny K tl σ H R := .inr (.inl h)
theorem w_anyS1 {R : It → Hp → Prop} (h : tl σ H fun v H1 => AnyS v H1 R) : iAny K tl σ H R := .inr (.inr h)
theorem w_anyVar {n : Nat} {R : It → Hp → Prop} (q : GetAt σ n v) (h : AnyV K v H R) : iAny K (tVar n) σ H R := by
  rcases h with h | h | h
  · exact .inl ⟨v, q.eq, h⟩
  · exact .inr (.inl ⟨v, q.eq, h⟩)
  · exact .inr (.inr ⟨v, q.eq, h⟩)
theorem w_anyC {R : It → Hp → Prop} (h : AnyV K v H R) : iAny K (tC v) σ H R := h
theorem w_vS {z : Str} {R : It → Hp → Prop} (h : R (Its z) H) : AnyV K (.str z) H R := .inr (.inr ⟨z, rfl, h⟩)
theorem w_vL {R : It → Hp → Prop} (hS : St K L H) (hl : LsIn K L a ds) (h : R (Itl K a) H) : AnyV K (.ref a) H R := by
  obtain ⟨F, xs, _, _, h3, _⟩ := hS.lsin hl
  exact .inl ⟨a, rfl, ⟨xs, SqL.of h3⟩, h⟩
theorem w_vT {R : It → Hp → Prop} (hS : St K L H) (hl : Is L (.ref a) (.tuple ds)) (h : R (Itt K a) H) : AnyV K (.ref a) H R := by
  obtain ⟨xs, h1, _⟩ := hS.tup_parts hl
  exact .inr (.inl ⟨a, rfl, ⟨xs, h1⟩, h⟩)
theorem w_itL {R : It → Hp → Prop} (hS : St K L H) (hl : LsIn K L a ds) (h : R (Itl K a) H) : AnyL K (.ref a) H R := by
  obtain ⟨F, xs, _, _, h3, _⟩ := hS.lsin hl
  exact ⟨a, rfl, ⟨xs, SqL.of h3⟩, h⟩
theorem w_itT {R : It → Hp → Prop} (hS : St K L H) (hl : Is L (.ref a) (.tuple ds)) (h : R (Itt K a) H) : AnyT K (.ref a) H R := by
  obtain ⟨xs, h1, _⟩ := hS.tup_parts hl
  exact ⟨a, rfl, ⟨xs, h1⟩, h⟩
theorem w_itS {R : It → Hp → Prop} {z : Str} (h : R (Its z) H) : AnyS (.str z) H R := ⟨z, rfl, h⟩
theorem w_rng1 {ta : TA} {R : It → Hp → Prop} (h : ta σ H fun vs H1 => Rng1 vs H1 R) : iRng1 ta σ H R := h
theorem w_rng2 {ta : TA} {R : It → Hp → Prop} (h : ta σ H fun vs H1 => Rng2 vs H1 R) : iRng2 ta σ H R := h
theorem w_rng3 {ta : TA} {R : It → Hp → Prop} (h : ta σ H fun vs H1 => Rng3 vs H1 R) : iRng3 ta σ H R := h
theorem w_itR1 {R : It → Hp → Prop} (hj : -100000 ≤ j ∧ j ≤ 100000000) (h : R (Itr 0 j.toNat) H) : Rng1 [.int j] H R := ⟨j, rfl, by omega, by omega, h⟩
theorem w_itR2 {R : It → Hp → Prop} (hi : -100000 ≤ i ∧ i ≤ 100000000) (hj : -100000 ≤ j ∧ j ≤ 100000000) (h : R (Itr i (j - i).toNat) H) : Rng2 [.int i, .int j] H R :=
  ⟨i, j, rfl, by omega, h⟩
theorem w_itR3 {R : It → Hp → Prop} {k : Int} {n : Nat} (hc : RgC i j k n) (h : R (Itc i k n) H) : Rng3 [.int i, .int j, .int k] H R := ⟨i, j, k, n, rfl, hc, h⟩
theorem w_enum {ta : TA} {R : It → Hp → Prop} (h : ta σ H fun vs H1 => Enu K vs H1 R) : iEnum K ta σ H R := h
theorem w_itE {R : It → Hp → Prop} (hS : St K L H) (hl : LsIn K L a ds) (h : R (Ite K a) H) : Enu K [.ref a] H R := by
  obtain ⟨F, xs, _, _, h3, _⟩ := hS.lsin hl
  exact ⟨a, xs, rfl, SqL.of h3, h⟩
/-! for -/
theorem w_forL (I : Nat → L2.St → Hp → Prop) (h0 : I 0 σ H) (hI : ∀ i σ H, i ≤ ds.length → I i σ H → ∃ L, St K L H ∧ LsIn K L a ds)
    (hs : ∀ i d v σ H, ds[i]? = some d → I i σ H → (∀ L, St K L H → LsIn K L a ds → St K (.dat v d :: L) H) → g v σ H fun σ2 H2 => tbody { D with nx := I (i + 1), ct := I (i + 1), bk := D.nx } σ2 H2)
    (hd : ∀ σ H, I ds.length σ H → D.nx σ H) : ForW (Itl K a) g tbody D σ H := by
  refine ⟨fun i m σ H => m = ds.length - i ∧ i ≤ ds.length ∧ I i σ H, ⟨ds.length, by simp, Nat.zero_le _, h0⟩, ?_⟩
  rintro i m σ H ⟨rfl, hi, p⟩
  obtain ⟨L, hS, hl⟩ := hI i σ H hi p
  by_cases hlt : i < ds.length
  · obtain ⟨xs, v, h3, h5, hlen, h6⟩ := hS.item hl (k := i) (d := ds[i]) (by simp [hlt])
    refine .inr ⟨⟨xs, v, SqL.of h3, h5⟩, I (i + 1), fun σ' H' p' => ⟨ds.length - (i + 1), by omega, rfl, hlt, p'⟩, fun x H' y => ?_⟩
    obtain ⟨rfl, y⟩ := y
    have hx : xs[i]? = some x := y xs (SqL.of h3)
    have hxv : v = x := by rw [h5] at hx; exact Option.some.inj hx
    subst hxv
    refine hs i ds[i] v σ H' (by simp [hlt]) p fun L2 hS2 hl2 => ?_
    obtain ⟨xs2, v2, k3, k5, _, k6⟩ := hS2.item hl2 (k := i) (d := ds[i]) (by simp [hlt])
    rw [h3] at k3
    cases k3
    rw [h5] at k5
    cases k5
    exact k6
  · have e : i = ds.length := by omega
    subst e
    obtain ⟨xs, h3, h4⟩ := hS.lenl hl
    exact .inl ⟨⟨xs, SqL.of h3, Nat.le_of_eq h4⟩, hd σ H p⟩
theorem w_forT {xs : List V} (hx : xs.length = ds.length) (I : Nat → L2.St → Hp → Prop) (h0 : I 0 σ H) (hI : ∀ i σ H, i ≤ ds.length → I i σ H → SqT K H a xs)
    (hs : ∀ i d v σ H, ds[i]? = some d → xs[i]? = some v → I i σ H → g v σ H fun σ2 H2 => tbody { D with nx := I (i + 1), ct := I (i + 1), bk := D.nx } σ2 H2)
    (hd : ∀ σ H, I ds.length σ H → D.nx σ H) : ForW (Itt K a) g tbody D σ H := by
  refine for_tup (xs := xs) I h0 (fun i σ H hi p => hI i σ H (by omega) p) (fun i x σ H hv p => ?_) (fun σ H p => hd σ H (by rw [← hx]; exact p))
  have hlt : i < ds.length := by
    rw [← hx]
    exact (List.getElem?_eq_some_iff.mp hv).1
  exact hs i ds[i] x σ H (by simp [hlt]) hv p
theorem w_forR {lo : Int} {n : Nat} (I : Nat → L2.St → Hp → Prop) (h0 : I 0 σ H)
    (hs : ∀ i σ H, i < n → I i σ H → g (.int (lo + i)) σ H fun σ2 H2 => tbody { D with nx := I (i + 1), ct := I (i + 1), bk := D.nx } σ2 H2) (hd : ∀ σ H, I n σ H → D.nx σ H) : ForW (Itr lo n) g tbody D σ H :=
  for_range I h0 hs hd
theorem w_forS {z : Str} (I : Nat → L2.St → Hp → Prop) (h0 : I 0 σ H)
    (hs : ∀ i c σ H, z.cps.toList[i]? = some c → I i σ H → g (.str ⟨#[c]⟩) σ H fun σ2 H2 => tbody { D with nx := I (i + 1), ct := I (i + 1), bk := D.nx } σ2 H2) (hd : ∀ σ H, I z.cps.toList.length σ H → D.nx σ H) : ForW (Its z) g tbody D σ H := by
  refine for_it walk_str I h0 (fun _ _ _ _ _ => trivial) (fun i x σ H H' hi p y => ?_) (fun σ H p => hd σ H (by simpa using p))
  obtain ⟨rfl, c, hc, rfl⟩ := y
  exact hs i c σ H' (by simpa using hc) p
/-! comprehensions without tests -/
theorem lc_mk {J : It} {N : Nat} (R : Nat → PyData → Prop) (hN : N ≤ 100000) (hS : St K L H)
    (hgo : ∀ i H es q, i < N → St K (.cell q (.ls K es) :: L) H → J.go i H) (hst : ∀ H es q, St K (.cell q (.ls K es) :: L) H → J.stop N H)
    (hs : ∀ i q es H x H', i < N → es.length = i → St K (.cell q (.ls K es) :: L) H → J.yld i H x H' → ∀ Z : VK, (∀ y e H3, R i e → St K (.dat y e :: .cell q (.ls K es) :: L) H3 → Z y H3) → g x (wipe σ vs) H' fun σ2 H2 => wipe σ2 vs = wipe σ vs ∧ te σ2 H2 Z)
    (h : ∀ q es H', es.length = N → (∀ i e, es[i]? = some e → R i e) → St K (.cell q (.ls K es) :: L) H' → Q (.ref q) H') : LcW J g tYes te vs σ H Q := by
  intro q hq
  refine ⟨fun i m H => m = N - i ∧ i ≤ N ∧ ∃ es, es.length = i ∧ (∀ j e, es[j]? = some e → R j e) ∧ St K (.cell q (.ls K es) :: L) H, ⟨N, by simp, Nat.zero_le _, [], rfl, fun j e z => by simp at z, hS.alloc hq fun F _ _ => ⟨[], rfl, .nil⟩⟩, ?_⟩
  rintro i m H ⟨rfl, hi, es, hlen, hR, hS1⟩
  by_cases hlt : i < N
  · refine .inr ⟨hgo i H es q hlt hS1, fun H' => i + 1 ≤ N ∧ ∃ es, es.length = i + 1 ∧ (∀ j e, es[j]? = some e → R j e) ∧ St K (.cell q (.ls K es) :: L) H', fun H' w => ⟨N - (i + 1), by omega, rfl, w⟩, fun x H' y => ?_⟩
    refine hs i q es H x H' hlt hlen hS1 y _ fun y e H3 hRe hS3 => ?_
    obtain ⟨F, xs, h1, h2, h3, h4⟩ := hS3.lsin (.own (.tail _ (.head _)))
    refine ⟨xs, h3, ?_, by omega, es ++ [e], by simp [hlen], fun j e' he => ?_, ?_⟩
    · rw [h4.len, hlen]
      exact Nat.lt_of_lt_of_le (Nat.lt_of_lt_of_le hlt hN) (by decide)
    · by_cases hj : j < es.length
      · rw [List.getElem?_append_left hj] at he
        exact hR j e' he
      · rw [List.getElem?_append_right (by omega)] at he
        have hj0 : j - es.length = 0 := by
          cases hz : j - es.length with
          | zero => rfl
          | succ n => rw [hz] at he; simp at he
        rw [hj0] at he
        have : j = i := by omega
        subst this
        simp at he
        subst he
        exact hRe
    · have hS4 := hS3.writeP (o := .lst (xs ++ [y])) (ψ := .ls K (es ++ [e])) (.there .here) fun F' x e' q hx hφ => ?_
      · exact hS4.tail
      · obtain ⟨ys, rfl, hys⟩ := hφ
        rw [h3] at hx
        cases hx
        exact ⟨_, rfl, hys.app (.cons (q _ (.head _)) .nil)⟩
  · have e : i = N := by omega
    subst e
    exact .inl ⟨hst H es q hS1, h q es H hlen hR hS1⟩
theorem w_lcL {R : Nat → PyData → Prop} (hS : St K L H) (hl : LsIn K L a ds) (hn : ds.length ≤ 100000)
    (hs : ∀ i d q es v H, ds[i]? = some d → es.length = i → St K (.dat v d :: .cell q (.ls K es) :: L) H → ∀ Z : VK, (∀ y e H3, R i e → St K (.dat y e :: .cell q (.ls K es) :: L) H3 → Z y H3) → g v (wipe σ vs) H fun σ2 H2 => wipe σ2 vs = wipe σ vs ∧ te σ2 H2 Z)
    (h : ∀ q es H', es.length = ds.length → (∀ i e, es[i]? = some e → R i e) → St K (.cell q (.ls K es) :: L) H' → Q (.ref q) H') : LcW (Itl K a) g tYes te vs σ H Q := by
  refine lc_mk R hn hS (fun i H es q hi h1 => ?_) (fun H es q h1 => ?_) (fun i q es H x H' hi hlen h1 y Z hZ => ?_) h
  · obtain ⟨xs, v, h3, h5, _, _⟩ := h1.item hl.cons (k := i) (d := ds[i]) (by simp [hi])
    exact ⟨xs, v, SqL.of h3, h5⟩
  · obtain ⟨xs, h3, h4⟩ := h1.lenl hl.cons
    exact ⟨xs, SqL.of h3, Nat.le_of_eq h4⟩
  · obtain ⟨rfl, y⟩ := y
    obtain ⟨xs, v, h3, h5, _, h6⟩ := h1.item hl.cons (k := i) (d := ds[i]) (by simp [hi])
    have hx := y xs (SqL.of h3)
    rw [h5] at hx
    have hvx := Option.some.inj hx
    subst hvx
    exact hs i ds[i] q es _ H' (by simp [hi]) hlen h6 Z hZ
theorem w_lcR {lo : Int} {n : Nat} {R : Nat → PyData → Prop} (hS : St K L H) (hn : n ≤ 100000)
    (hs : ∀ i q es H, i < n → es.length = i → St K (.cell q (.ls K es) :: L) H → ∀ Z : VK, (∀ y e H3, R i e → St K (.dat y e :: .cell q (.ls K es) :: L) H3 → Z y H3) → g (.int (lo + i)) (wipe σ vs) H fun σ2 H2 => wipe σ2 vs = wipe σ vs ∧ te σ2 H2 Z)
    (h : ∀ q es H', es.length = n → (∀ i e, es[i]? = some e → R i e) → St K (.cell q (.ls K es) :: L) H' → Q (.ref q) H') : LcW (Itr lo n) g tYes te vs σ H Q := by
  refine lc_mk R hn hS (fun i H es q hi h1 => hi) (fun H es q h1 => Nat.le_refl _) (fun i q es H x H' hi hlen h1 y Z hZ => ?_) h
  obtain ⟨rfl, rfl⟩ := y
  exact hs i q es H' hi hlen h1 Z hZ
theorem w_lcR3 {lo c : Int} {n : Nat} {R : Nat → PyData → Prop} (hS : St K L H) (hn : n ≤ 100000)
    (hs : ∀ i q es H, i < n → es.length = i → St K (.cell q (.ls K es) :: L) H → ∀ Z : VK, (∀ y e H3, R i e → St K (.dat y e :: .cell q (.ls K es) :: L) H3 → Z y H3) → g (.int (lo + (i : Nat) * c)) (wipe σ vs) H fun σ2 H2 => wipe σ2 vs = wipe σ vs ∧ te σ2 H2 Z)
    (h : ∀ q es H', es.length = n → (∀ i e, es[i]? = some e → R i e) → St K (.cell q (.ls K es) :: L) H' → Q (.ref q) H') : LcW (Itc lo c n) g tYes te vs σ H Q := by
  refine lc_mk R hn hS (fun i H es q hi h1 => hi) (fun H es q h1 => Nat.le_refl _) (fun i q es H x H' hi hlen h1 y Z hZ => ?_) h
  obtain ⟨rfl, rfl⟩ := y
  exact hs i q es H' hi hlen h1 Z hZ
theorem w_lcS {z : Str} {R : Nat → PyData → Prop} (hS : St K L H) (hn : z.length ≤ 100000)
    (hs : ∀ i k q es H, z.cps.toList[i]? = some k → es.length = i → St K (.cell q (.ls K es) :: L) H → ∀ Z : VK, (∀ y e H3, R i e → St K (.dat y e :: .cell q (.ls K es) :: L) H3 → Z y H3) → g (.str ⟨#[k]⟩) (wipe σ vs) H fun σ2 H2 => wipe σ2 vs = wipe σ vs ∧ te σ2 H2 Z)
    (h : ∀ q es H', es.length = z.cps.toList.length → (∀ i e, es[i]? = some e → R i e) → St K (.cell q (.ls K es) :: L) H' → Q (.ref q) H') : LcW (Its z) g tYes te vs σ H Q := by
  refine lc_mk (N := z.cps.size) R hn hS (fun i H es q hi h1 => hi) (fun H es q h1 => Nat.le_refl _) (fun i q es H x H' hi hlen h1 y Z hZ => ?_) (fun q es H' h1 => h q es H' (by simpa using h1))
  obtain ⟨rfl, k, hk, rfl⟩ := y
  exact hs i k q es H' (by simpa using hk) hlen h1 Z hZ
/-- enumerate: the pair is a new tuple -/
theorem w_lcE {R : Nat → PyData → Prop} (hS : St K L H) (hl : LsIn K L a ds) (hn : ds.length ≤ 100000)
    (hs : ∀ i d q es T H, ds[i]? = some d → es.length = i → St K (.dat (.ref T) (.tuple [.int (i : Nat), d]) :: .cell q (.ls K es) :: L) H → ∀ Z : VK, (∀ y e H3, R i e → St K (.dat y e :: .cell q (.ls K es) :: L) H3 → Z y H3) → g (.ref T) (wipe σ vs) H fun σ2 H2 => wipe σ2 vs = wipe σ vs ∧ te σ2 H2 Z)
    (h : ∀ q es H', es.length = ds.length → (∀ i e, es[i]? = some e → R i e) → St K (.cell q (.ls K es) :: L) H' → Q (.ref q) H') : LcW (Ite K a) g tYes te vs σ H Q := by
  refine lc_mk R hn hS (fun i H es q hi h1 => ?_) (fun H es q h1 => ?_) (fun i q es H x H' hi hlen h1 y Z hZ => ?_) h
  · obtain ⟨xs, v, h3, h5, _, _⟩ := h1.item hl.cons (k := i) (d := ds[i]) (by simp [hi])
    exact ⟨xs, v, SqL.of h3, h5⟩
  · obtain ⟨xs, h3, h4⟩ := h1.lenl hl.cons
    exact ⟨xs, SqL.of h3, Nat.le_of_eq h4⟩
  · obtain ⟨T, x', rfl, hT, rfl, y⟩ := y
    obtain ⟨xs, v, h3, h5, _, h6⟩ := h1.item hl.cons (k := i) (d := ds[i]) (by simp [hi])
    have hx := y xs (SqL.of h3)
    rw [h5] at hx
    have hvx := Option.some.inj hx
    subst hvx
    have h7 := h6.fresh (o := .tup [.int (i : Nat), v]) (v := .ref T) (d := .tuple [.int (i : Nat), ds[i]]) hT fun F hF e q => .tup (SqT.of upd_same) (.cons (.int _) (.cons (Dv.mono (Ex.new hF) _ _ (q _ (.head _))) .nil))
    exact hs i ds[i] q es T _ (by simp [hi]) hlen (h7.to (.cons .here (.cons (.there .here) (.drop .refl)))) Z hZ
/-- targets that unpack -/
theorem zip_ok {F : Hp} : ∀ {xs : List V} {ds : List PyData}, DvAll K F xs ds → ∀ e ∈ List.zipWith Ent.dat xs ds, e.ok K F H
  | _, [], h, e, he => by cases h; cases he
  | _, d :: ds, h, e, he => by
    cases h with
    | cons h1 h2 =>
      rw [List.zipWith_cons_cons] at he
      cases he with
      | head => exact h1
      | tail _ he => exact zip_ok h2 e he
theorem zip_adr : ∀ {xs : List V} {ds : List PyData}, (List.zipWith Ent.dat xs ds ++ L).filterMap Ent.adr = L.filterMap Ent.adr
  | [], _ => rfl
  | _ :: _, [] => rfl
  | x :: xs, d :: ds => zip_adr (xs := xs) (ds := ds)
theorem St.zip {F : Hp} {xs : List V} (hS : St K L H) (h1 : Ex F H) (h2 : ∀ e ∈ L, e.ok K F H) (h3 : DvAll K F xs ds) : St K (List.zipWith Ent.dat xs ds ++ L) H :=
  ⟨⟨F, h1, fun e he => by
    rcases List.mem_append.mp he with he | he
    · exact zip_ok h3 e he
    · exact h2 e he⟩, by rw [zip_adr]; exact hS.nd⟩
theorem St.tup_all (hS : St K L H) (hl : Is L (.ref a) (.tuple ds)) : ∃ xs, SqT K H a xs ∧ xs.length = ds.length ∧ St K (List.zipWith Ent.dat xs ds ++ L) H := by
  obtain ⟨F, h1, h2⟩ := hS.ex
  have := hl.dv h2
  cases this with
  | tup g1 g2 => exact ⟨_, h1.sqT g1, g2.len, hS.zip h1 h2 g2⟩
theorem St.lst_all (hS : St K L H) (hl : LsIn K L a ds) : ∃ xs, H a = some (.lst xs) ∧ xs.length = ds.length ∧ St K (List.zipWith Ent.dat xs ds ++ L) H := by
  obtain ⟨F, xs, h1, h2, h3, h4⟩ := hS.lsin hl
  exact ⟨xs, h3, h4.len, hS.zip h1 h2 h4⟩
theorem w_unpT {tgs : TGs} {R : L2.St → Hp → Prop} (hS : St K L H) (hl : Is L (.ref a) (.tuple ds)) (hn : ds.length = n) (h : ∀ xs, xs.length = ds.length → St K (List.zipWith Ent.dat xs ds ++ L) H → tgs xs σ H R) : gUnp K n tgs (.ref a) σ H R := by
  obtain ⟨xs, h1, h2, h3⟩ := hS.tup_all hl
  exact .inl ⟨a, xs, rfl, h1, by rw [h2, hn], h xs h2 h3⟩
theorem w_unpL {tgs : TGs} {R : L2.St → Hp → Prop} (hS : St K L H) (hl : LsIn K L a ds) (hn : ds.length = n) (h : ∀ xs, xs.length = ds.length → St K (List.zipWith Ent.dat xs ds ++ L) H → tgs xs σ H R) : gUnp K n tgs (.ref a) σ H R := by
  obtain ⟨xs, h1, h2, h3⟩ := hS.lst_all hl
  exact .inr ⟨a, xs, rfl, SqL.of h1, by rw [h2, hn], h xs h2 h3⟩
theorem w_unpT2 {tgs : TGs} {d1 d2 : PyData} {R : L2.St → Hp → Prop} (hS : St K L H) (hl : Is L (.ref a) (.tuple [d1, d2])) (h : ∀ v1 v2, St K (.dat v1 d1 :: .dat v2 d2 :: L) H → tgs [v1, v2] σ H R) : gUnp K 2 tgs (.ref a) σ H R :=
  w_unpT hS hl rfl fun xs hx h3 => match xs, hx, h3 with
    | [_, _], _, h3 => h _ _ h3
theorem w_unpT3 {tgs : TGs} {d1 d2 d3 : PyData} {R : L2.St → Hp → Prop} (hS : St K L H) (hl : Is L (.ref a) (.tuple [d1, d2, d3])) (h : ∀ v1 v2 v3, St K (.dat v1 d1 :: .dat v2 d2 :: .dat v3 d3 :: L) H → tgs [v1, v2, v3] σ H R) : gUnp K 3 tgs (.ref a) σ H R :=
  w_unpT hS hl rfl fun xs hx h3 => match xs, hx, h3 with
    | [_, _, _], _, h3 => h _ _ _ h3

/-! ### the draws of a law -/
def spDraw (K : PySem.W.Frag) : Sp := fun vs H Q _ => ∃ (L : List Ent) (b : Addr) (m : Int), vs = [.ref b, .int m] ∧ St K L H ∧ bx K b ∈ L ∧ 0 < m ∧ ∀ k H', 0 ≤ k → k < m → St K L H' → Q (.int k) H'
theorem w_draw {m : Int} {E : XK} (hS : St K L H) (hb : bx K a ∈ L) (hm : 0 < m) (h : ∀ k H', 0 ≤ k → k < m → St K L H' → Q (.int k) H') : spDraw K [.ref a, .int m] H Q E := ⟨L, a, m, rfl, hS, hb, hm, h⟩
end
end Lg

/-! A law's own cell, digits, draw. -/
namespace Lg
open PySem PySem.Spec PyProof.Rows L2
local macro_rules | `(tactic| walk_at "ar") => `(tactic| first | omega | (simp; done) | (simp; omega) | (simp only [S_len]; omega))
local macro_rules | `(tactic| walk_at "gt") => `(tactic| repeat (first | exact GetAt.here | apply GetAt.there))
local macro_rules | `(tactic| walk_at "st") => `(tactic| repeat (first | exact SetAt.here | apply SetAt.there))
local macro_rules | `(tactic| walk_at "mem") => `(tactic| first | assumption | exact List.mem_cons_self | (apply List.mem_cons_of_mem; walk_at "mem"))
local macro_rules | `(tactic| walk_at "put") => `(tactic| repeat (first | exact Put.here | apply Put.there))
local macro_rules | `(tactic| walk_at "rem") => `(tactic| repeat (first | exact Rem.here | apply Rem.there))
local macro_rules | `(tactic| walk_at "pick") => `(tactic| first | exact Pick.refl | exact Pick.cons (by walk_at "rem") (by walk_at "pick") | (apply Pick.drop; walk_at "pick") | exact Pick.nil)
local macro_rules | `(tactic| walk_at "is") => `(tactic| first | exact Is.int | exact Is.str | exact Is.bl | exact Is.non | assumption | exact Is.dat (by walk_at "mem") | (apply Is.cons; walk_at "is"))
local macro_rules | `(tactic| walk_at "isall") => `(tactic| first | exact IsAll.nil | exact IsAll.cons (by walk_at "is") (by walk_at "isall"))
local macro_rules | `(tactic| walk_at "lsin") => `(tactic| first | assumption | exact LsIn.own (by walk_at "mem") | exact LsIn.dat (by walk_at "mem") | (apply LsIn.cons; walk_at "lsin"))
local macro_rules | `(tactic| walk_at "see") => `(tactic| first | exact See.own (by walk_at "mem") | exact See.is (by walk_at "is"))
local macro_rules | `(tactic| walk_at "w1") => `(tactic| first
  | (with_reducible apply Lg.w_seq)
  | (with_reducible apply Lg.w_asg)
  | ((with_reducible show gName _ _ _ _ _); (with_reducible refine Lg.w_name (by walk_at "st") ?_))
  | ((with_reducible show tVar _ _ _ _); (with_reducible refine Lg.w_var (by walk_at "gt") ?_))
  | (with_reducible apply Lg.w_c)
  | (with_reducible apply Lg.w_op)
  | (with_reducible apply Lg.w_un)
  | (with_reducible apply Lg.w_nil)
  | (with_reducible apply Lg.w_cons)
  | (with_reducible apply Lg.w_call)
  | (with_reducible apply Lg.w_cb)
  | (with_reducible apply Lg.w_tup)
  | (with_reducible apply Lg.w_lst)
  | (with_reducible apply Lg.w_bm)
  | (with_reducible apply Lg.w_bm0)
  | (with_reducible apply Lg.w_sl)
  | (with_reducible apply Lg.w_nopart)
  | (with_reducible apply Lg.w_part)
  | (with_reducible apply Lg.w_isint)
  | (with_reducible apply Lg.w_test)
  | (with_reducible apply Lg.w_tB)
  | (with_reducible apply Lg.w_isbl')
  | (with_reducible apply Lg.w_not)
  | (with_reducible apply Lg.w_tru)
  | (with_reducible apply Lg.w_truI)
  | (with_reducible apply Lg.w_truB)
  | (with_reducible apply Lg.w_ifs)
  | (with_reducible apply Lg.w_next)
  | (with_reducible apply Lg.w_break)
  | (with_reducible apply Lg.w_cont)
  | (with_reducible apply Lg.w_ret)
  | (with_reducible apply Lg.w_retn)
  | (with_reducible apply Lg.w_drop)
  | (with_reducible apply Lg.w_sub)
  | (with_reducible apply Lg.w_gnil)
  | (with_reducible apply Lg.w_gcons)
  | (with_reducible apply Lg.w_ifT)
  | (with_reducible apply Lg.w_ifF)
  | (with_reducible apply Lg.w_add)
  | (with_reducible apply Lg.w_sub2)
  | ((with_reducible show rTimes (V.int _) (V.int _) _ _); (with_reducible refine Lg.w_mulR (by omega) ?_))
  | ((with_reducible show rTimes (V.int _) (V.int _) _ _); (with_reducible refine Lg.w_mulL (by omega) ?_))
  | ((with_reducible show rMod (V.int _) (V.int _) _ _); (with_reducible refine Lg.w_mod (by first | decide | omega) ?_))
  | ((with_reducible show rFdiv (V.int _) (V.int _) _ _); (with_reducible refine Lg.w_fdiv (by first | decide | omega) ?_))
  | (with_reducible apply Lg.w_band)
  | (with_reducible apply Lg.w_lt)
  | (with_reducible apply Lg.w_le)
  | (with_reducible apply Lg.w_gt)
  | (with_reducible apply Lg.w_ge)
  | (with_reducible apply Lg.w_eqI)
  | (with_reducible apply Lg.w_neI)
  | (with_reducible apply Lg.w_eqS)
  | (with_reducible apply Lg.w_neS)
  | (with_reducible apply Lg.w_isN)
  | (with_reducible apply Lg.w_isR)
  | (with_reducible apply Lg.w_isI)
  | (with_reducible apply Lg.w_isS)
  | (with_reducible apply Lg.w_nsN)
  | (with_reducible apply Lg.w_nsR)
  | (with_reducible apply Lg.w_nsI)
  | (with_reducible apply Lg.w_nsS)
  | (with_reducible apply Lg.w_int)
  | (with_reducible apply Lg.w_intb)
  | (with_reducible apply Lg.w_ord1)
  | (with_reducible apply Lg.w_tyS)
  | (with_reducible apply Lg.w_inSg)
  | (with_reducible apply Lg.w_ninSg)
  | ((with_reducible show NewL _ _ _); (with_reducible refine Lg.w_newL (by assumption) (by walk_at "isall") (by simp) ?_); (intro p' H' hS'))
  | ((with_reducible show NewT _ _ _); (with_reducible refine Lg.w_newT (by assumption) (by walk_at "isall") (by simp) ?_); (intro p' H' hS'))
  | ((with_reducible show TyThen _ _ (V.ref _) _ _); (with_reducible refine Lg.w_tyL (by assumption) (by walk_at "lsin") ?_))
  | ((with_reducible show rLenX _ [V.ref _] _ _); (with_reducible refine Lg.w_lenL (by assumption) (by walk_at "lsin") ?_))
  | ((with_reducible show rLenX _ [V.ref _] _ _); (with_reducible refine Lg.w_lenT (by assumption) (by walk_at "is") ?_))
  | ((with_reducible show spDraw _ _ _ _ _); (with_reducible refine Lg.w_draw (by assumption) (by walk_at "mem") (by first | decide | omega) ?_); (intro k' H' hk0' hk1' hS'))
  | ((with_reducible show rSlX _ (V.ref _) _ _ _ _); (with_reducible refine Lg.w_slL (by assumption) (by walk_at "lsin") ?_); (intro p' H' hS'))
  | ((with_reducible show rListOf _ [V.ref _] _ _); (with_reducible refine Lg.w_listL (by assumption) (by walk_at "lsin") ?_); (intro p' H' hS'))
  | (with_reducible apply Lg.w_for)
  | (with_reducible apply Lg.w_lc)
  | ((with_reducible show iAny _ (tVar _) _ _ _); (with_reducible refine Lg.w_anyVar (by walk_at "gt") ?_))
  | (with_reducible apply Lg.w_anyC)
  | (with_reducible apply Lg.w_vS)
  | (with_reducible apply Lg.w_itS)
  | ((with_reducible show AnyV _ (V.ref _) _ _); (with_reducible refine Lg.w_vL (by assumption) (by walk_at "lsin") ?_))
  | ((with_reducible show AnyL _ (V.ref _) _ _); (with_reducible refine Lg.w_itL (by assumption) (by walk_at "lsin") ?_))
  | ((with_reducible show AnyV _ (V.ref _) _ _); (with_reducible refine Lg.w_vT (by assumption) (by walk_at "is") ?_))
  | ((with_reducible show AnyT _ (V.ref _) _ _); (with_reducible refine Lg.w_itT (by assumption) (by walk_at "is") ?_))
  | ((with_reducible show Enu _ [V.ref _] _ _); (with_reducible refine Lg.w_itE (by assumption) (by walk_at "lsin") ?_))
  | ((with_reducible show rPlus _ (V.ref _) (V.ref _) _ _); (with_reducible refine Lg.w_plusL (by assumption) (by walk_at "lsin") (by walk_at "lsin") (by walk_at "ar") ?_); (intro p' H' hS'))
  | ((with_reducible show rTimes (V.ref _) (V.int _) _ _); (with_reducible refine Lg.w_repLs (by assumption) (by walk_at "lsin") (by walk_at "ar") (by walk_at "ar") (by walk_at "ar") ?_); (intro p' H' hS'))
  | ((with_reducible show rLenX _ [V.str _] _ _); (with_reducible refine Lg.w_lenS (by walk_at "ar") ?_))
  | ((with_reducible show rSlX _ (V.str _) _ _ _ _); (with_reducible refine Lg.w_slS (by walk_at "ar") ?_))
  | (with_reducible apply Lg.w_rng1)
  | (with_reducible apply Lg.w_rng2)
  | (with_reducible apply Lg.w_rng3)
  | (with_reducible apply Lg.w_enum)
  | ((with_reducible show Rng1 _ _ _); (with_reducible refine Lg.w_itR1 (by omega) ?_))
  | ((with_reducible show Rng2 _ _ _); (with_reducible refine Lg.w_itR2 (by omega) (by omega) ?_))
  | (with_reducible apply Lg.w_ifexp)
  | (with_reducible apply Lg.w_chain)
  | ((with_reducible show ChainK _ _ _ _ _ _ _); (with_reducible refine Lg.w_chainLe (by (intro R' hR'; walk_at "w"; exact hR')) ?_))
  | ((with_reducible show ChainK _ _ _ _ _ _ _); (with_reducible refine Lg.w_chainLt (by (intro R' hR'; walk_at "w"; exact hR')) ?_))
  | ((with_reducible show tAnd _ _ _ _ _); (with_reducible refine Lg.w_andP (by (intro R' hR'; walk_at "w"; exact hR')) (by (intro hb' R' hR'; walk_at "w"; exact hR')) ?_))
  | ((with_reducible show tOr _ _ _ _ _); (with_reducible refine Lg.w_orP (by (intro R' hR'; walk_at "w"; exact hR')) (by (intro hb' R' hR'; walk_at "w"; exact hR')) ?_))
  | ((with_reducible show tAndV _ _ _ _ _); (with_reducible refine Lg.w_andVP (by (intro R' hR'; walk_at "w"; exact hR')) (by (intro hb' R' hR'; walk_at "w"; exact hR')) ?_))
  | ((with_reducible show tOrV _ _ _ _ _); (with_reducible refine Lg.w_orVP (by (intro R' hR'; walk_at "w"; exact hR')) (by (intro hb' R' hR'; walk_at "w"; exact hR')) ?_))
  | (with_reducible apply Lg.w_notV))
local macro_rules | `(tactic| walk_at "w") => `(tactic| repeat (walk_at "w1"))
section
variable {K : PySem.W.Frag}
def t_cell (K : PySem.W.Frag) : TS :=
    (tSeq (tIfS (tTest (tOp rLt (tVar 1) (tCB (rLenX K) (tCons (tVar 0) tNil)))) (tRet (tOp (rIx K) (tVar 0) (tVar 1))) tNext)
    (tRet (tC (.int 0))))
def t_digits (K : PySem.W.Frag) (sp_l_cell : Sp) : TS :=
    (tSeq (tAsg (tLst tNil) (gName 3))
    (tSeq (tFor (iRng2 (tCons (tVar 1) (tCons (tVar 2) tNil))) (gName 4) (tSeq (tAsg (tCall sp_l_cell [] C8.E0 (tCons (tVar 0) (tCons (tVar 4) tNil))) (gName 5))
    (C8.tCut (tIfS (tTest (tOp rLt (tVar 5) (tC (.int 0)))) (tAsg (tOp rMinus (tC (.int 1)) (tOp rTimes (tC (.int 2)) (tVar 5))) (gName 5)) tNext)
    (tIfS (tTest (tOp rGe (tVar 5) (tC (.int 1000000000000000000)))) (tFor (iRng1 (tCons (tC (.int 60)) tNil)) (gName 6) (tIfS (tTest (tOp rGt (tVar 5) (tC (.int 0)))) (tSeq (tDrop (tBM K "list" rAppend (tVar 3) (tCons (tOp rMod (tCB (rIntX) (tCons (tVar 5) tNil)) (tC (.int 1000))) tNil)))
    (tAsg (tOp rFdiv (tVar 5) (tC (.int 1000))) (gName 5))) tNext)) (tSeq (tAsg (tOp rMod (tCB (rIntX) (tCons (tOp (rPlus K) (tOp (rPlus K) (tOp rTimes (tVar 5) (tC (.int 40692))) (tOp rTimes (tVar 4) (tC (.int 52774)))) (tC (.int 17))) tNil)) (tC (.int 2147483399))) (gName 7))
    (tFor (iRng1 (tCons (tC (.int 12)) tNil)) (gName 6) (tSeq (tAsg (tOp rMod (tCB (rIntX) (tCons (tOp (rPlus K) (tOp (rPlus K) (tOp rTimes (tVar 7) (tC (.int 40014))) (tOp rTimes (tC (.int 5)) (tVar 6))) (tC (.int 3))) tNil)) (tC (.int 2147483563))) (gName 7))
    (tDrop (tBM K "list" rAppend (tVar 3) (tCons (tOp rMod (tCB (rIntX) (tCons (tOp rFdiv (tVar 7) (tC (.int 1009))) tNil)) (tC (.int 1000))) tNil))))))))))
    (tRet (tVar 3))))
def t_draw (K : PySem.W.Frag) : TS :=
    (tSeq (tAsg (tOp (rIx K) (tVar 0) (tC (.int 1))) (gName 2))
    (tSeq (tAsg (tOp (rPlus K) (tVar 2) (tC (.int 1))) (gSub (tVar 0) (tC (.int 1)) rSetL))
    (tSeq (tIfS (tTest (tOp rLt (tVar 2) (tCB (rLenX K) (tCons (tOp (rIx K) (tVar 0) (tC (.int 0))) tNil)))) (tRet (tOp rMod (tCB (rIntX) (tCons (tOp (rIx K) (tOp (rIx K) (tVar 0) (tC (.int 0))) (tVar 2)) tNil)) (tVar 1))) tNext)
    (tRet (tOp rMod (tCB (rIntX) (tCons (tOp (rPlus K) (tOp rTimes (tVar 2) (tC (.int 7))) (tC (.int 3))) tNil)) (tVar 1))))))
/-- some int -/
def spCell (K : PySem.W.Frag) : Sp := fun vs H Q _ => ∃ (a : Addr) (ns : List Int) (k : Int), vs = [.ref a, .int k] ∧ SqL K H a (ns.map V.int) ∧ 0 ≤ k ∧ ∀ n, Q (.int n) H
theorem p_cell (vs : List V) (H : Hp) (Q : VK) (E : XK) (h : spCell K vs H Q E) : vs.length = 2 ∧ t_cell K { nx := fun _ H' => Q .non H', rt := Q } (start ["_law_script", "_law_k"] vs) H := by
  obtain ⟨a, ns, k, rfl, hS, hk, hQ⟩ := h
  refine ⟨rfl, ?_⟩
  unfold t_cell
  show tSeq _ _ _ [some (.ref a), some (.int k)] H
  walk_at "w"
  refine ⟨.ref a, ns.length, rfl, .inl ⟨_, hS, by simp⟩, ?_⟩
  walk_at "w"
  refine w_ifd (fun h => ?_) (fun h => ?_)
  · walk_at "w"
    obtain ⟨j, rfl⟩ := Int.eq_ofNat_of_zero_le hk
    have hj : j < ns.length := by omega
    exact .inl ⟨a, _, _, .int ns[j], rfl, rfl, hS, atI_nat (by simp [hj]), hQ _⟩
  · walk_at "w"
    exact hQ 0
/-- some list of ints -/
def spDigits (K : PySem.W.Frag) : Sp := fun vs H Q _ => ∃ (L : List Ent) (a : Addr) (ns : List Int) (i j : Int), vs = [.ref a, .int i, .int j] ∧ St K L H ∧ Ent.fact (.seq K a ns) ∈ L ∧ 0 ≤ i ∧ i ≤ 100 ∧ -100 ≤ j ∧ j ≤ 100 ∧
  ∀ (p : Addr) (ms : List Int) (H' : Hp), St K (Lg.ls K p (ms.map PyData.int) :: L) H' → Q (.ref p) H'
theorem St.fact_of {L : List Ent} {H : Hp} {φ : Fr} (h : St K L H) (m : Ent.fact φ ∈ L) : φ.p H := by
  obtain ⟨F, h1, h2⟩ := h.ex
  exact φ.mono _ _ h1 (h2 _ m)
theorem p_digits (vs : List V) (H : Hp) (Q : VK) (E : XK) (h : spDigits K vs H Q E) :
    vs.length = 3 ∧ t_digits K (spCell K) { nx := fun _ H' => Q .non H', rt := Q } (start ["_law_script", "_law_first", "_law_last", "_law_digits_here", "_law_k", "_law_cell_here", "_law_turn", "_law_seed"] vs) H := by
  obtain ⟨L, a, ns, i, j, rfl, hS, hm, hi0, hi1, hj0, hj1, hQ⟩ := h
  refine ⟨rfl, ?_⟩
  unfold t_digits
  show tSeq _ _ _ [some (.ref a), some (.int i), some (.int j), none, none, none, none, none] H
  walk_at "w"
  rename_i p H1 hS1
  refine w_forR (fun n σ H' => ∃ (ms : List Int) (v4 v5 v6 v7 : Option V), σ = [some (.ref a), some (.int i), some (.int j), some (.ref p), v4, v5, v6, v7] ∧ St K (Lg.ls K p (ms.map PyData.int) :: L) H' ∧ ms.length ≤ 60 * n) ?_ ?_ ?_
  · exact ⟨[], _, _, _, _, rfl, hS1, by simp⟩
  · rintro n σ H' hn ⟨ms, v4, v5, v6, v7, rfl, hS1, hl⟩
    walk_at "w"
    refine ⟨a, ns, i + n, rfl, (hS1.tail).fact_of hm, by omega, fun c => ?_⟩
    walk_at "w"
    refine w_cut (fun σ H2 => ∃ (c : Int), σ = [some (.ref a), some (.int i), some (.int j), some (.ref p), some (.int (i + n)), some (.int c), v6, v7] ∧ H2 = H') ?_ ?_
    · walk_at "w"
      refine w_ifd (fun h => ?_) (fun h => ?_)
      · walk_at "w"
        exact ⟨_, rfl, rfl⟩
      · walk_at "w"
        exact ⟨_, rfl, rfl⟩
    · rintro σ H2 ⟨c, rfl, rfl⟩
      walk_at "w"
      refine w_ifd (fun h => ?_) (fun h => ?_)
      · walk_at "w"
        refine w_forR (fun m σ H' => ∃ (ms : List Int) (c : Int) (v6 : Option V), σ = [some (.ref a), some (.int i), some (.int j), some (.ref p), some (.int (i + n)), some (.int c), v6, v7] ∧ St K (Lg.ls K p (ms.map PyData.int) :: L) H' ∧ ms.length ≤ 60 * n + m) ?_ ?_ ?_
        · exact ⟨ms, c, _, rfl, hS1, by omega⟩
        · rintro m σ H' hm' ⟨ms, c, v6, rfl, hS1, hl⟩
          replace hm' : m < 60 := hm'
          walk_at "w"
          refine w_ifd (fun h => ?_) (fun h => ?_)
          · walk_at "w"
            refine w_app hS1 .here (d := .int (c % 1000)) .int (by simp; omega) fun H2 hS2 => ?_
            walk_at "w"
            exact ⟨ms ++ [c % 1000], _, _, rfl, by simpa using hS2, by simp; omega⟩
          · walk_at "w"
            exact ⟨ms, c, _, rfl, hS1, by omega⟩
        · rintro σ H' ⟨ms, c, v6, rfl, hS1, hl⟩
          replace hl : ms.length ≤ 60 * n + 60 := hl
          exact ⟨ms, _, _, _, _, rfl, hS1, by omega⟩
      · walk_at "w"
        refine w_forR (fun m σ H' => ∃ (ms : List Int) (c : Int) (v5 v6 : Option V), σ = [some (.ref a), some (.int i), some (.int j), some (.ref p), some (.int (i + n)), v5, v6, some (.int c)] ∧ St K (Lg.ls K p (ms.map PyData.int) :: L) H' ∧ ms.length ≤ 60 * n + m) ?_ ?_ ?_
        · exact ⟨ms, _, _, _, rfl, hS1, by omega⟩
        · rintro m σ H' hm' ⟨ms, c, v5, v6, rfl, hS1, hl⟩
          replace hm' : m < 12 := hm'
          walk_at "w"
          refine w_app hS1 .here (d := .int _) .int (by simp; omega) fun H2 hS2 => ?_
          walk_at "w"
          exact ⟨ms ++ [_], _, _, _, rfl, by simpa using hS2, by simp; omega⟩
        · rintro σ H' ⟨ms, c, v5, v6, rfl, hS1, hl⟩
          replace hl : ms.length ≤ 60 * n + 12 := hl
          exact ⟨ms, _, _, _, _, rfl, hS1, by omega⟩
  · rintro σ H' ⟨ms, v4, v5, v6, v7, rfl, hS1, hl⟩
    walk_at "w"
    exact hQ p ms H' hS1
theorem p_draw (vs : List V) (H : Hp) (Q : VK) (E : XK) (h : spDraw K vs H Q E) : vs.length = 2 ∧ t_draw K { nx := fun _ H' => Q .non H', rt := Q } (start ["_law_box", "_law_many", "_law_at"] vs) H := by
  obtain ⟨L, b, m, rfl, hS, hb, hm, hQ⟩ := h
  refine ⟨rfl, ?_⟩
  unfold t_draw
  show tSeq _ _ _ [some (.ref b), some (.int m), none] H
  obtain ⟨F, o, h1, h2, h3, d, at_, ns, rfl, h4, h5⟩ := hS.cell hb
  have hd : H d = some (.lst (ns.map V.int)) := h1 _ _ h5
  have hne : d ≠ b := fun z => by rw [z, h2] at h5; cases h5
  walk_at "w"
  refine .inl ⟨b, _, 1, .int at_, rfl, rfl, SqL.of h3, rfl, ?_⟩
  walk_at "w"
  refine ⟨b, _, 1, 1, rfl, rfl, h3, rfl, ?_⟩
  have hS2 : St K L (upd H b (.lst [.ref d, .int (at_ + 1)])) := hS.turn hb fun F' x e hx hφ => by
    obtain ⟨d', at', ns', rfl, q1, q2⟩ := hφ
    rw [h3] at hx
    cases hx
    exact ⟨_, _, _, rfl, by omega, q2⟩
  show tSeq _ _ _ _ (upd H b (.lst [.ref d, .int (at_ + 1)]))
  have hd2 : (upd H b (.lst [.ref d, .int (at_ + 1)])) d = some (.lst (ns.map V.int)) := by rw [upd_ne hne]; exact hd
  have hb2 : (upd H b (.lst [.ref d, .int (at_ + 1)])) b = some (.lst [.ref d, .int (at_ + 1)]) := upd_same
  revert hS2 hd2 hb2
  generalize upd H b (.lst [.ref d, .int (at_ + 1)]) = H2
  intro hS2 hd2 hb2
  walk_at "w"
  refine .inl ⟨b, _, 0, .ref d, rfl, rfl, SqL.of hb2, rfl, ?_⟩
  walk_at "w"
  refine ⟨.ref d, ns.length, rfl, .inl ⟨_, SqL.of hd2, by simp⟩, ?_⟩
  walk_at "w"
  refine w_ifd (fun h => ?_) (fun h => ?_)
  · walk_at "w"
    refine .inl ⟨b, _, 0, .ref d, rfl, rfl, SqL.of hb2, rfl, ?_⟩
    walk_at "w"
    obtain ⟨j, rfl⟩ := Int.eq_ofNat_of_zero_le h4
    have hj : j < ns.length := by omega
    refine .inl ⟨d, _, _, .int ns[j], rfl, rfl, SqL.of hd2, atI_nat (by simp [hj]), ?_⟩
    walk_at "w"
    exact hQ _ _ (Int.emod_nonneg _ (by omega)) (Int.emod_lt_of_pos _ hm) hS2
  · walk_at "w"
    exact hQ _ _ (Int.emod_nonneg _ (by omega)) (Int.emod_lt_of_pos _ hm) hS2
/-- [digits, 0]: the box -/
theorem w_newBox {L : List Ent} {H : Hp} {a : Addr} {ms : List Int} {Q : VK} (hS : St K (Lg.ls K a (ms.map PyData.int) :: L) H) (h : ∀ p H', St K (bx K p :: L) H' → Q (.ref p) H') : NewL [.ref a, .int 0] H Q := by
  refine ⟨by show 2 ≤ sizeLine; decide, fun p hp => h p _ ?_⟩
  have h1 := (hS.freeze).alloc (φ := .box K) (o := .lst [.ref a, .int 0]) hp fun F e q => by
    have h2 : Dv K F (.ref a) (.list (ms.map PyData.int)) := q _ (.head _)
    cases h2 with
    | lst g1 g2 => exact ⟨a, 0, ms, rfl, Int.le_refl _, by rw [← g2.ints_inv]; exact g1⟩
  exact h1.to (.cons .here (.drop .refl))
end
end Lg

/-! Texts as lists of codes; data that fits. -/
namespace Lg
open PySem PySem.Spec PyProof.Rows L2
abbrev S (l : List Nat) : Str := ⟨l.toArray⟩
theorem S_tl (l : List Nat) : (S l).cps.toList = l := rfl
theorem S_len (l : List Nat) : (S l).length = l.length := by simp [S, Str.length]
theorem S_app (a b : List Nat) : S a ++ S b = S (a ++ b) := SX.S_cat a b
theorem S_one (c : Nat) : (⟨#[c]⟩ : Str) = S [c] := rfl
theorem S_nil : ("" : Str) = S [] := by decide +kernel
theorem S_inj {a b : List Nat} (h : S a = S b) : a = b := congrArg (fun x : Str => x.cps.toList) h
theorem S_of (x : Str) : x = S x.cps.toList := by cases x; simp [S]
theorem sIx_nat' (n d k : Nat) (z : Int) (h : z = (k : Int)) : HT.sIx n d (some z) = min k n := by rw [h, HT.sIx_nat]
theorem cut_gen {α : Type} (l : List α) (a b : Nat) : (l.drop (min a l.length)).take (min b l.length - min a l.length) = (l.drop a).take (b - a) := by
  by_cases h : a ≤ l.length
  · rw [Nat.min_eq_left h]
    by_cases h2 : b ≤ l.length
    · rw [Nat.min_eq_left h2]
    · have h3 : l.length ≤ b := by omega
      rw [Nat.min_eq_right h3, List.take_of_length_le (l := l.drop a) (i := b - a) (by rw [List.length_drop]; omega), List.take_of_length_le (by rw [List.length_drop]; omega)]
  · have h3 : l.length ≤ a := by omega
    rw [Nat.min_eq_right h3, List.drop_of_length_le (Nat.le_refl _), List.drop_of_length_le h3]
    simp
theorem cutS_nn {l : List Nat} {i j : Int} {a b : Nat} (hi : i = (a : Int)) (hj : j = (b : Int)) : cutS (S l) (some i) (some j) = S ((l.drop a).take (b - a)) := by
  unfold cutS
  rw [S_len, sIx_nat' _ _ a _ hi, sIx_nat' _ _ b _ hj]
  show S ((l.drop (min a l.length)).take (min b l.length - min a l.length)) = S _
  rw [cut_gen]
theorem cutD_nn {ds : List PyData} {i j : Int} {a b : Nat} (hi : i = (a : Int)) (hj : j = (b : Int)) : cutD ds (some i) (some j) = (ds.drop a).take (b - a) := by
  unfold cutD
  rw [sIx_nat' _ _ a _ hi, sIx_nat' _ _ b _ hj, cut_gen]
theorem cutD_no {ds : List PyData} {j : Int} {b : Nat} (hj : j = (b : Int)) : cutD ds none (some j) = ds.take b := by
  unfold cutD
  rw [sIx_nat' _ _ b _ hj, HT.sIx_none]
  have := cut_gen ds 0 b
  simpa using this
theorem cutD_on {ds : List PyData} {i : Int} {a : Nat} (hi : i = (a : Int)) : cutD ds (some i) none = ds.drop a := by
  unfold cutD
  rw [sIx_nat' _ _ a _ hi, HT.sIx_none]
  by_cases h : a ≤ ds.length
  · rw [Nat.min_eq_left h, List.take_of_length_le (by rw [List.length_drop]; omega)]
  · have h3 : ds.length ≤ a := by omega
    rw [Nat.min_eq_right h3, List.drop_of_length_le (Nat.le_refl _), List.drop_of_length_le h3]
    simp
theorem cutD_all {ds : List PyData} : cutD ds none none = ds := by
  unfold cutD
  simp [HT.sIx_none]
theorem rgc_24 {n : Nat} (hn : n ≤ 100000) : RgC 0 (n : Int) 24 ((n + 23) / 24) := by
  refine ⟨by decide, by decide, ?_, ?_⟩
  · unfold Builtin.Range.small Builtin.Range.rangeSize Builtin.Range.rangeFitsLong
    simp
    omega
  · unfold Builtin.Range.rangeSize
    rw [if_pos (by decide)]
    by_cases h : (0 : Int) < n
    · rw [if_pos h]; omega
    · rw [if_neg h]; omega
/-! data of a depth -/
def Fit (n : Nat) (d : PyData) : Prop := d.canLay0 = true ∧ d.depth ≤ n
theorem Fit.shaped {n : Nat} {d : PyData} (h : Fit n d) (hn : n ≤ 64 := by decide) : SeqAt.shaped d = true := by
  show (d.canLay0 && decide (d.depth ≤ 64)) = true
  rw [h.1, Bool.true_and]
  exact decide_eq_true (Nat.le_trans h.2 hn)
theorem Fit.mono {n m : Nat} {d : PyData} (h : Fit n d) (hm : n ≤ m) : Fit m d := ⟨h.1, Nat.le_trans h.2 hm⟩
theorem fit_int (n : Nat) (i : Int) : Fit n (.int i) := ⟨by simp [PyData.canLay0], by simp [PyData.depth]⟩
theorem fit_bool (n : Nat) (i : Bool) : Fit n (.bool i) := ⟨by simp [PyData.canLay0], by simp [PyData.depth]⟩
theorem fit_none (n : Nat) : Fit n .none := ⟨by simp [PyData.canLay0], by simp [PyData.depth]⟩
/-- all codes below 1114112 -/
def Asc (l : List Nat) : Prop := ∀ c ∈ l, c < 1114112
theorem fit_str (n : Nat) {l : List Nat} (h : Asc l) : Fit n (.str (S l)) := by
  refine ⟨?_, by simp [PyData.depth]⟩
  simp only [PyData.canLay0, PyData.strOk]
  rw [← Array.all_toList, List.all_eq_true]
  intro c hc
  exact decide_eq_true (h c hc)
theorem layAll {ds : List PyData} {n : Nat} (h : ∀ d ∈ ds, Fit n d) : PyData.canLayAll0 ds = true ∧ PyData.depthAll ds ≤ n := by
  induction ds with
  | nil => exact ⟨by simp [PyData.canLayAll0], by simp [PyData.depthAll]⟩
  | cons d ds ih =>
    obtain ⟨h1, h2⟩ := ih fun d hd => h d (.tail _ hd)
    obtain ⟨h3, h4⟩ := h d (.head _)
    exact ⟨by simp [PyData.canLayAll0, h1, h3], by simp [PyData.depthAll]; omega⟩
theorem fit_list {n : Nat} {ds : List PyData} (h : ∀ d ∈ ds, Fit n d) : Fit (n + 1) (.list ds) := by
  obtain ⟨h1, h2⟩ := layAll h
  exact ⟨by simp only [PyData.canLay0]; exact h1, by simp only [PyData.depth]; omega⟩
theorem fit_tuple {n : Nat} {ds : List PyData} (h : ∀ d ∈ ds, Fit n d) : Fit (n + 1) (.tuple ds) := by
  obtain ⟨h1, h2⟩ := layAll h
  exact ⟨by simp only [PyData.canLay0]; exact h1, by simp only [PyData.depth]; omega⟩
theorem fit_ints (n : Nat) (ns : List Int) : Fit (n + 1) (.list (ns.map PyData.int)) := fit_list fun d hd => by
  obtain ⟨i, _, rfl⟩ := List.mem_map.mp hd
  exact fit_int n i
theorem Asc.drop {l : List Nat} (h : Asc l) (n : Nat) : Asc (l.drop n) := fun c hc => h c (List.mem_of_mem_drop hc)
theorem Asc.take {l : List Nat} (h : Asc l) (n : Nat) : Asc (l.take n) := fun c hc => h c (List.mem_of_mem_take hc)
theorem Asc.app {l m : List Nat} (h : Asc l) (h' : Asc m) : Asc (l ++ m) := fun c hc => (List.mem_append.mp hc).elim (h c) (h' c)
theorem Asc.rep {l : List Nat} (h : Asc l) (n : Nat) : Asc (repL l n) := fun c hc => by
  unfold repL at hc
  obtain ⟨a, ha, hc⟩ := List.mem_flatten.mp hc
  rw [List.eq_of_mem_replicate ha] at hc
  exact h c hc
theorem repL_len (l : List Nat) (n : Nat) : (repL l n).length = n * l.length := by simp [repL]
theorem repD_one (d : PyData) : ∀ n, (List.replicate n [d]).flatten = List.replicate n d
  | 0 => rfl
  | n + 1 => by rw [List.replicate_succ, List.flatten_cons, repD_one d n]; rfl
theorem rep_ints (i : Int) (n : Nat) : List.replicate n (PyData.int i) = (List.replicate n i).map PyData.int := by simp
theorem joinL_one : ∀ l : List Nat, TL.joinL [] (l.map fun c => [c]) = l
  | [] => rfl
  | [_] => rfl
  | c :: d :: l => by
    have := joinL_one (d :: l)
    show [c] ++ ([] ++ TL.joinL [] ((d :: l).map fun c => [c])) = _
    rw [this]; rfl
theorem join_one (l : List Nat) : Txt.join (S []) (l.map fun c => S [c]) = S l := by
  have := SX.join_S [] (l.map fun c => [c])
  rw [joinL_one, List.map_map] at this
  exact this
/-- a list is its items by place -/
theorem list_by {ds : List PyData} {n : Nat} {f : Nat → PyData} (hl : ds.length = n) (h : ∀ (i : Nat) (e : PyData), ds[i]? = some e → e = f i) : ds = (List.range n).map f := by
  apply List.ext_getElem?
  intro i
  by_cases hi : i < n
  · have h1 : ds[i]? = some ds[i] := by simp [hl, hi]
    rw [h1, h i _ h1]
    simp [hi]
  · rw [List.getElem?_eq_none (by omega), List.getElem?_eq_none (by simp; omega)]
section
variable {K : PySem.W.Frag} {L : List Ent} {H : Hp} {σ : L2.St} {Q : VK} {a : Addr} {i : Int} {n : Nat}
theorem w_ixN {ns : List Int} (hS : St K L H) (hl : LsIn K L a (ns.map PyData.int)) (h0 : 0 ≤ i) (h1 : i < ns.length) (h : Q (.int (ns.getD i.toNat 0)) H) : rIx K (.ref a) (.int i) H Q := by
  have hk : i.toNat < ns.length := by omega
  exact w_ixLi (k := i.toNat) hS hl (by omega) (by simp [List.getD_eq_getElem?_getD, hk]) h
theorem w_ixSg {l : List Nat} {c : Nat} (hl : l.length ≤ 100000) (h0 : 0 ≤ i) (hc : l[i.toNat]? = some c) (h : Q (.str (S [c])) H) : rIx K (.str (S l)) (.int i) H Q :=
  w_ixS (k := i.toNat) (by rw [S_len]; exact hl) (by omega) (by simpa using hc) h
theorem w_unpLi {ns : List Int} {tgs : TGs} {R : L2.St → Hp → Prop} (hS : St K L H) (hl : LsIn K L a (ns.map PyData.int)) (hn : ns.length = n) (h : tgs (ns.map V.int) σ H R) : gUnp K n tgs (.ref a) σ H R := by
  obtain ⟨F, xs, h1, h2, h3, h4⟩ := hS.lsin hl
  have e := h4.ints_inv
  subst e
  exact .inr ⟨a, _, rfl, SqL.of h3, by simpa using hn, h⟩
theorem w_addSS {y z : List Nat} (hl : y.length + z.length ≤ 100000) (h : Q (.str (S (y ++ z))) H) : rPlus K (.str (S y)) (.str (S z)) H Q :=
  w_addS (by rw [S_len, S_len]; exact hl) (by rw [S_app]; exact h)
theorem w_repSS {z : List Nat} (h0 : 0 ≤ i) (h1 : i ≤ 100000) (h2 : z.length ≤ 100) (h : Q (.str (S (repL z i.toNat))) H) : rTimes (.str (S z)) (.int i) H Q :=
  w_repS h0 h1 (by rw [S_len]; exact h2) h
theorem w_lenSS {l : List Nat} (hl : l.length ≤ 100000) (h : Q (.int l.length) H) : rLenX K [.str (S l)] H Q := w_lenS (by rw [S_len]; exact hl) (by rw [S_len]; exact h)
theorem w_eqSS {x y : List Nat} (h : Q (.bl (decide (x = y))) H) : rEqX K (.str (S x)) (.str (S y)) H Q := w_eqS (by
  have : decide (S x = S y) = decide (x = y) := by
    by_cases e : x = y
    · simp [e]
    · rw [decide_eq_false e, decide_eq_false (fun q => e (S_inj q))]
  rw [this]; exact h)
theorem w_joinSS {z : List Nat} {ys : List (List Nat)} (hS : St K L H) (h1 : LsIn K L a (ys.map fun y => PyData.str (S y))) (hn : (ys.map (·.length)).sum + ys.length * z.length ≤ 100000) (h : Q (.str (S (TL.joinL z ys))) H) : rJoin K (.str (S z)) [.ref a] H Q := by
  refine w_join (ys := ys.map S) hS (by simpa [Function.comp_def] using h1) ?_ ?_
  · rw [S_len]
    simpa [Function.comp_def, S_len] using hn
  · rw [SX.join_S]; exact h
theorem kit_ll : kitB "list" "list" = some true := by decide +kernel
theorem kit_tt : kitB "tuple" "tuple" = some true := by decide +kernel
theorem kit_ii : kitB "int" "int" = some true := by decide +kernel
theorem kit_si : kitB "str" "int" = some false := by decide +kernel
theorem kit_ss : kitB "str" "str" = some true := by decide +kernel
theorem kit_is : kitB "int" "str" = some false := by decide +kernel
theorem w_isLL {ds : List PyData} (hS : St K L H) (hl : LsIn K L a ds) (h : Q (.bl true) H) : rIsi K [.ref a, .ty "list"] H Q := w_isiL hS hl kit_ll h
theorem w_isTT {ds : List PyData} (hS : St K L H) (hl : Is L (.ref a) (.tuple ds)) (h : Q (.bl true) H) : rIsi K [.ref a, .ty "tuple"] H Q := w_isiT hS hl kit_tt h
theorem w_isII (h : Q (.bl true) H) : rIsi K [.int i, .ty "int"] H Q := w_isiI kit_ii h
theorem w_isSI {z : Str} (h : Q (.bl false) H) : rIsi K [.str z, .ty "int"] H Q := w_isiS kit_si h
theorem w_isSS {z : Str} (h : Q (.bl true) H) : rIsi K [.str z, .ty "str"] H Q := w_isiS kit_ss h
theorem w_isIS (h : Q (.bl false) H) : rIsi K [.int i, .ty "str"] H Q := w_isiI kit_is h
/-- some int item, with a property of all -/
theorem w_ixLP {ds : List PyData} {P : Int → Prop} (hS : St K L H) (hl : LsIn K L a ds) (h0 : 0 ≤ i) (h1 : i < ds.length) (hP : ∀ d ∈ ds, ∃ m, d = .int m ∧ P m) (h : ∀ m, P m → Q (.int m) H) : rIx K (.ref a) (.int i) H Q := by
  have hk : i.toNat < ds.length := by omega
  obtain ⟨m, hm, hp⟩ := hP ds[i.toNat] (List.getElem_mem hk)
  exact w_ixLi (k := i.toNat) hS hl (by omega) (by rw [List.getElem?_eq_getElem hk, hm]) (h m hp)
/-- the law begins -/
theorem St.begin {ns : List Int} (hO : Only H) (hs : SqL K H a (ns.map V.int)) : St K [Ent.fact (.seq K a ns)] H := by
  refine ⟨⟨H, Ex.rfl, fun e he => ?_⟩, List.nodup_nil⟩
  cases he with
  | head => exact hs
  | tail _ he => cases he
end
end Lg

/-! Raw lists that are owned, lists of owned lists, comprehensions with a test, truth values compared. -/
namespace Lg
open PySem PySem.Spec PyProof.Rows L2
section
variable {K : PySem.W.Frag} {L L' : List Ent} {H : Hp} {σ : L2.St} {Q : VK} {a b : Addr} {i : Int} {k : Nat} {v : V} {xs : List V} {tt : TT} {te : TE} {g : TG} {vs : List Nat}
theorem w_appR (hS : St K L H) (hp : Put L (Lg.own a (.lst xs)) (Lg.own a (.lst (xs ++ [v]))) L') (hn : xs.length ≤ 100000) (h : ∀ H', St K L' H' → Q .non H') : rAppend (.ref a) [v] H Q := by
  have h3 := hS.own hp.mem
  exact ⟨a, xs, v, rfl, rfl, h3, Nat.lt_of_le_of_lt hn (by decide), h _ (hS.writeP hp fun _ _ _ _ _ _ => rfl)⟩
theorem w_tyR {P : Prop} (hS : St K L H) (hm : Lg.own a (.lst xs) ∈ L) (h : P) : TyThen K "list" (.ref a) H P := ⟨.inl ⟨rfl, _, SqL.of (hS.own hm)⟩, h⟩
theorem w_ixR (hS : St K L H) (hm : Lg.own a (.lst xs) ∈ L) (hk : i = (k : Int)) (hx : xs[k]? = some v) (h : Q v H) : rIx K (.ref a) (.int i) H Q :=
  .inl ⟨a, xs, i, v, rfl, rfl, SqL.of (hS.own hm), by rw [hk]; exact at_of rfl hx, h⟩
theorem w_lenR (hS : St K L H) (hm : Lg.own a (.lst xs) ∈ L) (h : Q (.int xs.length) H) : rLenX K [.ref a] H Q :=
  ⟨.ref a, xs.length, rfl, .inl ⟨xs, SqL.of (hS.own hm), rfl⟩, h⟩
theorem w_setLi {ns : List Int} {m : Int} (hS : St K L H) (hp : Put L (Lg.ls K a (ns.map PyData.int)) (Lg.ls K a ((ns.set i.toNat m).map PyData.int)) L') (h0 : 0 ≤ i) (hn : i < ns.length) {R : Hp → Prop} (h : ∀ H', St K L' H' → R H') : rSetL (.ref a) (.int i) (.int m) H R :=
  w_setL (k := i.toNat) (d := .int m) hS (by rw [List.map_set] at hp; exact hp) .int (by omega) (by simp; omega) h
theorem w_setRaw {j : Nat} (hS : St K L H) (hp : Put L (Lg.own a (.lst xs)) (Lg.own a (.lst (xs.set j v))) L') (hj : i = (j : Int)) (hn : j < xs.length) {R : Hp → Prop} (h : ∀ H', St K L' H' → R H') : rSetL (.ref a) (.int i) v H R := by
  refine ⟨a, xs, i, j, rfl, rfl, hS.own hp.mem, ?_, h _ (hS.writeP hp fun _ _ _ _ _ _ => rfl)⟩
  rw [hj]
  unfold ixN
  rw [if_pos (by omega), if_pos (by omega)]
  simp
theorem dB (x y : Bool) : decide (V.bl x = V.bl y) = decide (x = y) := by cases x <;> cases y <;> decide
theorem w_eqB {x y : Bool} (h : Q (.bl (decide (x = y))) H) : rEqX K (.bl x) (.bl y) H Q := .inl ⟨rfl, by rw [dB]; exact h⟩
theorem w_neB {x y : Bool} (h : Q (.bl (!decide (x = y))) H) : rNeX K (.bl x) (.bl y) H Q := .inl ⟨rfl, by rw [dB]; exact h⟩
theorem See.ls {ds : List PyData} (h : LsIn K L a ds) : See K L (.ref a) (.list ds) := by
  cases h with
  | own m => exact .own m
  | dat m => exact .is (.dat m)
theorem St.raw0 (h : St K (Lg.ls K a [] :: L) H) : St K (Lg.own a (.lst []) :: L) H := h.data .here fun F x _ _ _ hφ => by
  obtain ⟨xs, rfl, hx⟩ := hφ
  have := hx.len
  cases xs with
  | nil => rfl
  | cons x xs => simp at this
/-- owned lists of ints, side by side -/
def lsL (K : PySem.W.Frag) (bs : List Addr) (ds : List (List Int)) : List Ent := List.zipWith (fun b (d : List Int) => Lg.ls K b (d.map PyData.int)) bs ds
theorem St.dropA : ∀ {A : List Ent}, St K (A ++ L) H → St K L H
  | [], h => h
  | _ :: _, h => St.dropA (St.tail h)
theorem St.pickL {bs : List Addr} {ds : List (List Int)} {d : List Int} (h : St K (lsL K bs ds ++ L) H) (hb : bs[k]? = some b) (hd : ds[k]? = some d) : St K (Lg.ls K b (d.map PyData.int) :: L) H := by
  have he : (lsL K bs ds)[k]? = some (Lg.ls K b (d.map PyData.int)) := by
    unfold lsL
    rw [List.getElem?_zipWith, hb, hd]
  obtain ⟨hk, e⟩ := List.getElem?_eq_some_iff.mp he
  have h1 : lsL K bs ds = (lsL K bs ds).take k ++ Lg.ls K b (d.map PyData.int) :: (lsL K bs ds).drop (k + 1) := by
    rw [← e, List.getElem_cons_drop, List.take_append_drop]
  rw [h1, List.append_assoc] at h
  have h2 := h.dropA
  have h3 : St K ((lsL K bs ds).drop (k + 1) ++ (Lg.ls K b (d.map PyData.int) :: L)) H := h2.perm (by
    rw [List.cons_append]
    exact List.perm_middle.symm)
  exact h3.dropA
theorem lsL_snoc {bs : List Addr} {ds : List (List Int)} {d : List Int} (h : bs.length = ds.length) : lsL K (bs ++ [b]) (ds ++ [d]) = lsL K bs ds ++ [Lg.ls K b (d.map PyData.int)] := by
  unfold lsL
  rw [List.zipWith_append h]
  rfl
/-- [x for x in ints if test] -/
theorem w_lcFI {ns : List Int} (p : Int → Bool) (hS : St K L H) (hl : LsIn K L a (ns.map PyData.int)) (hn : ns.length ≤ 100000)
    (hs : ∀ (n : Int) (H : Hp) (Z1 : VK) (Z2 : Hp → Prop), (p n = true → Z1 (.int n) H) → (p n = false → Z2 H) → g (.int n) (wipe σ vs) H fun σ2 H2 => wipe σ2 vs = wipe σ vs ∧ tt σ2 H2 fun b H3 => if b = true then te σ2 H3 Z1 else Z2 H3)
    (h : ∀ q H', St K (.cell q (.ls K ((ns.filter p).map PyData.int)) :: L) H' → Q (.ref q) H') : LcW (Itl K a) g tt te vs σ H Q := by
  intro q hq
  refine ⟨fun i m H => m = ns.length - i ∧ i ≤ ns.length ∧ St K (.cell q (.ls K (((ns.take i).filter p).map PyData.int)) :: L) H, ⟨ns.length, by simp, Nat.zero_le _, hS.alloc hq fun F _ _ => ⟨[], rfl, .nil⟩⟩, ?_⟩
  rintro i m H ⟨rfl, hi, hS1⟩
  by_cases hlt : i < ns.length
  · obtain ⟨xs, v, h3, h5, _, h6⟩ := hS1.item hl.cons (k := i) (d := .int ns[i]) (by simp [hlt])
    obtain rfl := h6.int_of
    refine .inr ⟨⟨xs, .int ns[i], SqL.of h3, h5⟩, fun H' => i + 1 ≤ ns.length ∧ St K (.cell q (.ls K (((ns.take (i + 1)).filter p).map PyData.int)) :: L) H', fun H' w => ⟨ns.length - (i + 1), by omega, rfl, w⟩, fun x H' y => ?_⟩
    obtain ⟨rfl, y⟩ := y
    have hx := y xs (SqL.of h3)
    rw [h5] at hx
    have hvx := Option.some.inj hx
    subst hvx
    have e : ns.take (i + 1) = ns.take i ++ [ns[i]] := by rw [List.take_add_one]; simp [hlt]
    refine hs ns[i] H' _ _ (fun hp => ?_) fun hp => ?_
    · obtain ⟨F, ys, h1, h2, h7, h8⟩ := hS1.lsin (.own (.head _))
      refine ⟨ys, h7, ?_, by omega, ?_⟩
      · rw [h8.len]
        refine Nat.lt_of_le_of_lt ?_ (show 100000 < sizeLine by decide)
        rw [List.length_map]
        exact Nat.le_trans (List.length_filter_le _ _) (by simp; omega)
      · refine hS1.writeP (.here) fun F' x e2 q2 hx hφ => ?_
        obtain ⟨zs, rfl, hzs⟩ := hφ
        rw [h7] at hx
        cases hx
        refine ⟨_, rfl, ?_⟩
        rw [e, List.filter_append, List.map_append]
        have : [ns[i]].filter p = [ns[i]] := by simp [hp]
        rw [this]
        exact hzs.app (.cons (.int _) .nil)
    · refine ⟨by omega, ?_⟩
      rw [e, List.filter_append]
      have : [ns[i]].filter p = [] := by simp [hp]
      rw [this, List.append_nil]
      exact hS1
  · have e : i = ns.length := by omega
    subst e
    rw [List.take_length] at hS1
    obtain ⟨xs, h3, h4⟩ := hS1.lenl hl.cons
    exact .inl ⟨⟨xs, SqL.of h3, by rw [h4]; simp⟩, h q H hS1⟩
end
end Lg

/-! repr of data. HandS' promise of a def says nothing of the objects that are just being shown (Around.guards); here it does: FnG, its call, its end. -/
namespace Lg
open PySem PySem.Spec PyProof.Rows L2
/-- a def's promise where nothing is being shown -/
structure FnG (P : Program) (w : World) (K : PySem.W.Frag) (mg : Str → Option Value) (base : Heap) (CX : CXT) (k : Nat) (f : Addr) (fd : FuncData) (ps : List Str) (sp : Sp) : Prop where
  len : ∀ vs H Q E, sp vs H Q E → vs.length = ps.length
  run : ∀ (A : Around) (outer : List Env) (s : Shared) (H : Hp) (args : Args) (us : List Value) (vs : List V) (Q : VK) (E : XK), Room k A → A.guards = some [] → Env0 P w K mg base A outer s H → BindsTo s fd args (ps.zip us) → Vals vs us → sp vs H Q E →
    codeAny (model P w) A (.call (.ref f) args) (CR CX outer P w H s Q E) s
section
variable {P : Program} {w : World} {K : PySem.W.Frag} {mg : Str → Option Value} {base : Heap} {x qual : Str} {params : Arguments} {body : List Stmt} {scope : Scope} {dvs : List V} {kws : List (Str × V)} {f : Addr} {fd : FuncData}
theorem deeper_guards {A : Around} {env : Env} (h : A.guards = some []) : (A.deeper env).guards = some [] := h
theorem okG {CX : CXT} {N ps : List Str} {k : Nat} {sp : Sp} (F : FunD K x qual params body scope dvs kws f fd) (S : FnScope N ps scope) (len : ∀ vs H Q E, sp vs H Q E → vs.length = ps.length)
    (hbody : ∀ (cdv : Value) (A : Around) (outer : List Env) (s : Shared) (H : Hp) (vs : List V) (Q : VK) (E : XK), Room k (A.deeper (envOfC qual scope s.heap.objs.size f cdv)) → (A.deeper (envOfC qual scope s.heap.objs.size f cdv)).guards = some [] → sp vs H Q E →
      ∃ t, PSs (cxOf CX P w K mg base N qual scope f cdv A outer s H E) body t ∧ t { nx := fun _ H' => Q .non H', rt := Q } (start N vs) H) : FnG P w K mg base CX (k + 1) f fd ps sp := by
  obtain ⟨oc, od, dV, kV, doc, pm, an, cdv, ct, osl, rfl, lk, hcd, _, _⟩ := F.ex
  constructor
  · exact len
  intro A outer s H args us vs Q E room still e0 bind rel prom
  have known : K.In s.heap := e0.mod.kin.keeps fun b o e => (e0.bs b o e).1
  have kinds : ∀ y ∈ ps.zip us, scope.names.lookup y.1 = some .local ∨ (scope.names.lookup y.1 = some .cell ∧ ((cellsFrom (s.heap.objs.size + 1) scope.names []).lookup y.1).isSome = true) := by
    intro y hy
    rcases S.par y.1 (List.of_mem_zip hy).1 with q | q
    · exact .inl q
    · exact .inr ⟨q, PySem.W.cellsFrom_some _ _ _ (.inl q)⟩
  refine codeAny_call_function room.depth (known _ _ lk) rfl S.co S.gen rfl (PySem.W.codeRec_of known hcd) (bind _ _ _ _ ?_)
  refine wpAny_newFunctionEnv_cells S.kind kinds fun env he s1 ic => ?_
  subst he
  refine ⟨(e0.mod.nolimit.keeps fun b o e => (e0.bs b o e).1).keeps ic.toInCall.keep, codeAny_func ?_⟩
  obtain ⟨t, ht, hq⟩ := hbody cdv A outer s H vs Q E (room.deeper _) still prom
  refine wpAny_mono (ht.run [] s1 (start N vs) H _ (inv_start S room.hd e0 (len _ _ _ _ prom) rel ic) hq) (fun fl s' hs => ?_) fun e s' hs => hs
  cases fl with
  | ret u =>
    obtain ⟨v, _, H', J, rv, q⟩ := hs
    exact ⟨v, H', J.os, J.bare, J.base, J.hok, rv, q⟩
  | next =>
    obtain ⟨_, H', J, q⟩ := hs
    exact ⟨V.non, H', J.os, J.bare, J.base, J.hok, rfl, q⟩
  | brk => exact hs.elim fun _ h => h.elim fun _ h => h.2.elim
  | cont => exact hs.elim fun _ h => h.elim fun _ h => h.2.elim
/-- a def that may be called where nothing is being shown -/
structure CalG (P : Program) (w : World) (K : PySem.W.Frag) (mg : Str → Option Value) (base : Heap) (k : Nat) (x : Str) (sp : Sp) (dvs : List V) : Prop where
  ex : ∃ (f : Addr) (fd : FuncData) (ps : List Str) (ds : List Value), FnG P w K mg base C8.CX0 k f fd ps sp ∧ mg x = some (.ref f) ∧ PySem.W.keepIn K (.ref f) = true ∧ Binds K fd ps ds ∧ Vals dvs ds
end
section
variable {X : Cx} {k j : Nat} {x : Str} {sp : Sp} {dvs : List V} {p pos : Pos} {e : Expr} {es : List Expr} {t : TA}
theorem pe_cG (c : CalG X.prog X.w X.K X.mg X.base k x sp dvs) (hr : Room j X.A) (hs : X.A.guards = some []) (hk : k ≤ j) (hg : Gl X x) (ha : PA X (e :: es) t)
    (hdb : (x == ("__debug__" : Str)) = false := by decide) (he : starEach (e :: es) X.env = (false, eval e X.env) :: starEach es X.env := by rfl) (hpl : (backTo pos (starEach es X.env)).any (·.1) = false := by rfl) :
    PE X (.Call (.Name x p) (e :: es) [] pos) (tCall sp dvs C8.E0 t) := by
  obtain ⟨f, fd, ps, ds, F, hm, kp, b, d⟩ := c.ex
  refine ⟨fun pins s σ H Q I h => ?_⟩
  refine wpAny_Call_Name_kw (ld_glob I hg hm ?_ hdb)
  refine PySem.W.callWith_K (h₀ := X.base) I.ok.mod.kin kp (thn (ha.run pos pins s σ H _ I h) fun us s1 ⟨vs, H1, I1, r, q⟩ => ⟨I1.kIn, ?_⟩) he hpl
  have r2 : Vals (vs ++ dvs) (us ++ ds) := r.append d
  have hl : (us ++ ds).length = ps.length := by rw [← r2.length]; exact F.len _ _ _ _ q
  refine wpAny_call (codeAny_mono (F.run X.A X.stack s1 H1 ⟨us, []⟩ (us ++ ds) (vs ++ dvs) Q C8.E0 (hr.mono hk) hs I1.env0 (b s1 us I1.kIn hl) r2 q) fun r s' hq => ?_)
  cases r with
  | error e => exact False.elim hq
  | ok fl =>
    cases fl with
    | ret u => exact I1.after hq
    | next => exact False.elim hq
    | brk => exact False.elim hq
    | cont => exact False.elim hq
end
/-- the law's call -/
theorem law_callG {P : Program} {w : World} {K : PySem.W.Frag} {mg mb : Str → Option Value} {CX : CXT} {k : Nat} {fa a : Addr} {fd : FuncData} {x : Str} {sp : Sp} {s₁ : Shared} {vs : List Value} {ns : List Int}
    (KX : K.In s₁.heap) (hns : s₁.heap.Ns mainGlobals mg) (hb : s₁.heap.Ns builtinsNs mb) (hbb : ∀ x : Str, x ≠ "__name__" → mb x = bootBuiltins x) (hlim : s₁.heap.NoLimit) (hg : s₁.gens = #[])
    (ha : s₁.heap.get? a = some { cls := .type "list", data := .seq vs.toArray }) (hi : IntsAre vs ns) (hl : ns.length ≤ sizeLine) (hr : Room k callerA)
    (F : ∀ base : Heap, K.In base → base.Ns mainGlobals mg → FnG P w K mg base CX k fa fd [x] sp) (hbind : ∀ (s : Shared) (u : Value), BindsTo s fd ⟨[u], []⟩ [(x, u)])
    (hsp : ∀ H : Hp, Only H → SqL K H a (ns.map V.int) → sp [.ref a] H (fun v _ => v = .bl true) fun _ _ _ => False)
    (hCX : ∀ H e s', CX [] H s₁ (fun _ _ _ => False) e s' → False) :
    codeAny (model P w) callerA (.call (.ref fa) ⟨[.ref a], []⟩) (fun r s' => r = .ok (.ret (.bool true)) ∧ OldK s₁.heap s'.heap ∧ s'.os = s₁.os ∧ AllBare s'.gens) s₁ := by
  have rv := vals_ints hi
  have main : ∀ H : Hp, Only H → SqL K H a (ns.map V.int) → HOk P w H s₁.heap → (∀ b, b ≠ a → H b = none) → (H a ≠ none → K.lookup a = none) →
      codeAny (model P w) callerA (.call (.ref fa) ⟨[.ref a], []⟩) (fun r s' => r = .ok (.ret (.bool true)) ∧ OldK s₁.heap s'.heap ∧ s'.os = s₁.os ∧ AllBare s'.gens) s₁ := by
    intro H hO hS hok one off
    have plain : ∀ {b : Addr} {o : Obj}, s₁.heap.get? b = some o → (∀ n, o.data ≠ .seq vs.toArray n) → H b = none := fun {b o} e hd => by
      by_cases q : b = a
      · subst q
        rw [ha] at e
        cases e
        exact absurd rfl (hd _)
      · exact one b q
    have ns' : ∀ {b : Addr} {m : Str → Option Value}, s₁.heap.Ns b m → (hidT s₁.heap H).Ns b m := fun {b m} ⟨o, es, ep, e, d, r⟩ => ⟨o, es, ep, hidT_get e (plain e fun n z => by rw [d] at z; cases z), d, r⟩
    have known : K.In (hidT s₁.heap H) := fun b o e => hidT_get (KX b o e) (by
      by_cases q : b = a
      · subst q
        cases z : H b with
        | none => rfl
        | some u => rw [off (by rw [z]; simp)] at e; cases e
      · exact one b q)
    have e0 : Env0 P w K mg (hidT s₁.heap H) callerA [] s₁ H := by
      refine ⟨rfl, ⟨known, ns' hns, ⟨mb, ns' hb, hbb⟩, ?_⟩, fun b o e => of_hidT e, Nat.le_of_eq (hidT_size _ _), trivial, fun b hb => absurd (show b ∈ ([] : List Addr) from hb) (by simp), hok, .of_eq hg⟩
      obtain ⟨mc, h1, h2⟩ := hlim
      exact ⟨mc, ns' h1, h2⟩
    refine codeAny_mono ((F _ known (ns' hns)).run callerA [] s₁ H ⟨[.ref a], []⟩ [.ref a] [.ref a] _ _ hr rfl e0 (hbind s₁ (.ref a)) (.cons rfl .nil) (hsp H hO hS)) fun r s' h => ?_
    match r, h with
    | .error e, h => exact (hCX H e s' h).elim
    | .ok .next, h => exact False.elim h
    | .ok .brk, h => exact False.elim h
    | .ok .cont, h => exact False.elim h
    | .ok (.ret u), h =>
      obtain ⟨v, H', os, bare, un, hok', r', q⟩ := h
      obtain rfl : v = .bl true := q
      obtain rfl : u = Value.bool true := r'
      refine ⟨rfl, OldK.of_keep fun b o e => ?_, os, bare⟩
      rcases hO b with z | ⟨ob, xs, z⟩
      · exact un.keep b o e z (by intro z; exact absurd (show b ∈ ([] : List Addr) from z) (by simp)) (by simp)
      · have e1 := (hok b _ z).1
        have e2 := (hok' b _ (un.frzs b ob _ z)).1
        rw [e] at e1
        cases e1
        exact e2
  cases hk : K.lookup a with
  | some o =>
    have e := KX a o hk
    rw [ha] at e
    cases e
    exact main (fun _ => none) (fun _ => .inl rfl) (.inr ⟨_, vs.toArray, _, hk, rfl, rfl, rfl, by rw [List.size_toArray, hi.length]; exact hl, by simpa using rv⟩) (fun b u z => by have z' : (none : Option HO) = some u := z; cases z') (fun _ _ => rfl) fun z => absurd rfl z
  | none =>
    have at_a : (if a = a then some (HO.frz { cls := .type "list", data := .seq vs.toArray } (.lst (ns.map V.int))) else none) = some (HO.frz { cls := .type "list", data := .seq vs.toArray } (.lst (ns.map V.int))) := if_pos rfl
    refine main (fun b => if b = a then some (.frz { cls := .type "list", data := .seq vs.toArray } (.lst (ns.map V.int))) else none) (fun b => ?_) (.inl (.inr ⟨_, at_a⟩)) (fun b u z => ?_) (fun b q => if_neg q) fun _ => hk
    · by_cases hb : b = a
      · exact .inr ⟨_, _, if_pos hb⟩
      · exact .inl (if_neg hb)
    · by_cases hb : b = a
      · subst hb
        have z' := at_a.symm.trans z
        cases z'
        exact ⟨ha, by rw [List.length_map]; exact hl, vs, _, rv, ha⟩
      · have z' := (if_neg hb).symm.trans z
        cases z'
/-- the end of a law whose defs show data -/
theorem walk_ofG {l : PySem.W.OpenLaw} {n k : Nat} {q : Program} {loose : List Str} {XP : (Str → Option Value) → Heap → Prop} {YP : World → Heap → Prop} {d : DefRec} {CX : CXT} {x : Str}
    (hn : l.most = some n) (hn2 : n ≤ sizeLine) (hdf : d.params.defaults = []) (hr : Room k callerA)
    (F : ∀ (w : World) (mg : Str → Option Value) (fa : Addr) (h : Heap), YP w h → h.Ns mainGlobals mg → mg d.name = some (.ref fa) →
      ∃ (K : PySem.W.Frag) (fd : FuncData) (sp : Sp), K.In h ∧ (∀ (s : Shared) (u : Value), BindsTo s fd ⟨[u], []⟩ [(x, u)]) ∧
        (∀ (H : Hp) (a : Addr) (ns : List Int), ns.length ≤ n → Only H → SqL K H a (ns.map V.int) → sp [.ref a] H (fun v _ => v = .bl true) fun _ _ _ => False) ∧
        ∀ base : Heap, K.In base → base.Ns mainGlobals mg → FnG l.prog w K mg base CX k fa fd [x] sp)
    (hCX : ∀ (H : Hp) (s : Shared) (e : Value) (s' : Shared), CX [] H s (fun _ _ _ => False) e s' → False) :
    PySem.W.WalkO q loose XP YP l.row.toRowW d [] (fun f vs => PySem.call f vs) := by
  refine Att.attach_call hn hdf fun w s₀ s₁ mg mb fa o pm cd doc a vs ns G Y ho hd hcd hmg hobj hints hlen hg => ?_
  obtain ⟨K, fd, sp, KX, hb, hsp, hF⟩ := F w mg fa _ Y G.T.g hmg
  exact law_callG KX G.T.g G.T.b G.T.builtins G.T.nolimit hg hobj hints (Nat.le_trans hlen hn2) hr hF hb (fun H hO hS => hsp H a ns hlen hO hS) fun H e s' => hCX H s₁ e s'
/-! ### repr -/
/-- what may be shown: no dict, ints short -/
structure Shw (n w : Nat) (d : PyData) : Prop where
  lay : d.canLay0 = true
  dep : d.depth ≤ n
  wgt : d.weight ≤ w
  ish : d.intsShort 13 = true
  shw : d.showable = true
theorem Shw.fits {n w : Nat} {d : PyData} (h : Shw n w d) (hn : n ≤ 60) (hw : w ≤ 1048576) : d.shown.length ≤ sizeLine := by
  refine PyData.shown_fits_of_layable0 (B := 13) (by decide) (by decide) ?_ h.ish
  have h1 := h.dep
  have h2 := h.wgt
  unfold PyData.layable0
  rw [h.lay, decide_eq_true (by omega), decide_eq_true (by omega)]
  rfl
theorem Shw.shaped {n w : Nat} {d : PyData} (h : Shw n w d) (hn : n ≤ 60) : SeqAt.shaped d = true := Fit.shaped (n := 60) ⟨h.lay, Nat.le_trans h.dep hn⟩
def rReprX (K : PySem.W.Frag) : List V → Hp → VK → Prop := fun xs H Q => ∃ (v : V) (d : PyData) (n w : Nat), xs = [v] ∧ Dp K H v d ∧ Shw n w d ∧ n ≤ 60 ∧ w ≤ 1048576 ∧ Q (.str d.shown) H
theorem c_repr {X : Cx} (hu : X.A.units + 64 < cLine) (hs : X.A.guards = some []) : CallR X (.builtin "repr") (rReprX X.K) := by
  intro pins s σ H xs us Q I r h
  obtain ⟨v, d, n, w, rfl, hd, sh, hn, hw, q⟩ := h
  obtain ⟨u, rfl, ru⟩ := vals1 r
  obtain ⟨as, rd⟩ := Dp.reads I d v u hd ru
  have hsz := sh.fits hn hw
  have hnd : d.hasDict = false := PyData.hasDict_of_canLay d sh.lay
  have hsw := sh.shw
  cases rd with
  | none => exact PySem.P.repr_of_none ⟨.str _, H, I.tok _, ⟨_, rfl⟩, by simpa only [PyData.shown] using q⟩
  | bool b => exact PySem.P.repr_of_bool ⟨.str _, H, I.tok _, ⟨_, rfl⟩, by simpa only [PyData.shown] using q⟩
  | int i t => exact PySem.P.repr_of_int (by simpa [PyData.showable] using hsw) ⟨.str _, H, I.tok _, ⟨_, rfl⟩, by simpa only [PyData.shown] using q⟩
  | str x t => exact PySem.P.repr_of_str ⟨.str _, H, I.tok _, ⟨_, rfl⟩, by simpa only [PyData.shown] using q⟩ (by simpa only [PyData.shown] using hsz)
  | list h1 h2 h3 h4 =>
    have hdp := sh.dep
    exact repr_of_reads' (.list h1 h2 h3 h4) hsw (PyData.noDict_hsm hnd) hs (by omega) (fun _ _ e => e) (fun h' u tk hk => ⟨.str _, H, I.kept hk, ⟨_, rfl⟩, q⟩) hsz
  | tuple h1 h2 h3 h4 =>
    have hdp := sh.dep
    exact repr_of_reads' (.tuple h1 h2 h3 h4) hsw (PyData.noDict_hsm hnd) hs (by omega) (fun _ _ e => e) (fun h' u tk hk => ⟨.str _, H, I.kept hk, ⟨_, rfl⟩, q⟩) hsz
  | dict => simp [PyData.hasDict] at hnd
section
variable {K : PySem.W.Frag} {L : List Ent} {H : Hp} {Q : VK} {v : V} {d : PyData}
theorem w_repr {n w : Nat} (hS : St K L H) (hv : See K L v d) (sh : Shw n w d) (hn : n ≤ 60) (hw : w ≤ 1048576) (h : Q (.str d.shown) H) : rReprX K [v] H Q := ⟨v, d, n, w, rfl, hv.dp hS, sh, hn, hw, h⟩
theorem log2_le {m k : Nat} (h : m < 2 ^ k) : m.log2 + 1 ≤ k + 1 := by
  refine Nat.succ_le_succ ?_
  rcases Nat.eq_zero_or_pos m with h0 | h0
  · rw [h0]
    exact Nat.le_trans (Nat.le_of_eq (show Nat.log2 0 = 0 by decide +kernel)) (Nat.zero_le _)
  · exact Nat.le_of_lt ((Nat.log2_lt (Nat.pos_iff_ne_zero.mp h0)).mpr h)
theorem sh_int (n : Nat) {w : Nat} {i : Int} (h : i.natAbs < 10 ^ 12) (hw : 42 ≤ w) : Shw n w (.int i) := by
  have h2 : i.natAbs < 2 ^ 40 := Nat.lt_of_lt_of_le h (by decide)
  have h3 := log2_le h2
  refine ⟨by simp [PyData.canLay0], by simp [PyData.depth], ?_, ?_, ?_⟩
  · unfold PyData.weight
    split
    · omega
    · omega
  · unfold PyData.intsShort
    exact decide_eq_true (PyData.shown_int_le h)
  · unfold PyData.showable
    exact decide_eq_true (by omega)
theorem sh_bool (n w : Nat) (b : Bool) : Shw n w (.bool b) := ⟨by simp [PyData.canLay0], by simp [PyData.depth], by simp [PyData.weight], by simp [PyData.intsShort], by simp [PyData.showable]⟩
theorem sh_none (n w : Nat) : Shw n w .none := ⟨by simp [PyData.canLay0], by simp [PyData.depth], by simp [PyData.weight], by simp [PyData.intsShort], by simp [PyData.showable]⟩
theorem sh_str (n : Nat) {w : Nat} {l : List Nat} (h : Asc l) (hw : l.length ≤ w) : Shw n w (.str (S l)) := ⟨(fit_str n h).1, by simp [PyData.depth], by simpa [PyData.weight, S] using hw, by simp [PyData.intsShort], by simp [PyData.showable]⟩
theorem sh_all {n w : Nat} : ∀ {ds : List PyData}, (∀ d ∈ ds, Shw n w d) → PyData.canLayAll0 ds = true ∧ PyData.depthAll ds ≤ n ∧ PyData.weightAll ds ≤ ds.length * (w + 1) ∧ PyData.intsShortAll 13 ds = true ∧ PyData.showableAll ds = true
  | [], _ => by simp [PyData.canLayAll0, PyData.depthAll, PyData.weightAll, PyData.intsShortAll, PyData.showableAll]
  | d :: ds, h => by
    obtain ⟨h1, h2, h3, h4, h5⟩ := sh_all fun e he => h e (.tail _ he)
    obtain ⟨g1, g2, g3, g4, g5⟩ := h d (.head _)
    simp only [PyData.canLayAll0, PyData.depthAll, PyData.weightAll, PyData.intsShortAll, PyData.showableAll, g1, h1, g4, h4, g5, h5, List.length_cons, Nat.add_mul, Bool.and_self]
    refine ⟨trivial, by omega, by omega, trivial, trivial⟩
theorem sh_list {n w m : Nat} {ds : List PyData} (h : ∀ d ∈ ds, Shw n w d) (hm : ds.length * (w + 1) ≤ m) : Shw (n + 1) m (.list ds) := by
  obtain ⟨h1, h2, h3, h4, h5⟩ := sh_all h
  exact ⟨by simpa [PyData.canLay0] using h1, by simp only [PyData.depth]; omega, by simp only [PyData.weight]; omega, by simpa [PyData.intsShort] using h4, by simpa [PyData.showable] using h5⟩
theorem sh_tuple {n w m : Nat} {ds : List PyData} (h : ∀ d ∈ ds, Shw n w d) (hm : ds.length * (w + 1) ≤ m) : Shw (n + 1) m (.tuple ds) := by
  obtain ⟨h1, h2, h3, h4, h5⟩ := sh_all h
  exact ⟨by simpa [PyData.canLay0] using h1, by simp only [PyData.depth]; omega, by simp only [PyData.weight]; omega, by simpa [PyData.intsShort] using h4, by simpa [PyData.showable] using h5⟩
theorem Shw.mono {n w n' w' : Nat} (h : Shw n w d) (hn : n ≤ n') (hw : w ≤ w') : Shw n' w' d := ⟨h.lay, Nat.le_trans h.dep hn, Nat.le_trans h.wgt hw, h.ish, h.shw⟩
end
end Lg

/-! Texts of numbers, find, while, membership in a tuple of flat things, the head with one more Bool. -/
namespace Lg
open PySem PySem.Spec PyProof.Rows L2 PySem.NumText
/-! ### the head: one more Bool of what is written -/
abbrev AlB : Type := He.AlD × Bool
def obsB (n : Nat) (fa : List He.Fa) (fn : List He.DefD) (ex : PySem.W.Frag → Bool) (g : Addr → Option Obj) : AlB := (He.obsDG n fa fn g, ex (He.frG g (He.asD g n)))
def hookB (n : Nat) (fa : List He.Fa) (fn : List He.DefD) (ex : PySem.W.Frag → Bool) : PySem.W.Hook where
  α := AlB
  obs := fun s => obsB n fa fn ex s.heap.get?
  val := fun _ => (He.valD fn, true)
  says := fun _ h => ∃ K : PySem.W.Frag, K.In h ∧ He.SaysD fa fn K ∧ ex K = true
  of := fun _ _ e => ⟨_, He.frG_in, congrArg (fun z : AlB => z.1) e, congrArg (fun z : AlB => z.2) e⟩
  keeps := fun _ _ _ ⟨K, hK, c⟩ k => ⟨K, PySem.W.Frag.In.keeps hK k, c⟩
theorem obsB_eq {n : Nat} {fa : List He.Fa} {fn : List He.DefD} {ex : PySem.W.Frag → Bool} {g : Addr → Option Obj} {s : Shared} (h : ∀ a, g a = s.heap.get? a) : obsB n fa fn ex g = (hookB n fa fn ex).obs s := by
  have e : g = s.heap.get? := funext h
  rw [e] <;> rfl
/-! ### relations -/
def rIntY : List V → Hp → VK → Prop := fun xs H Q => rIntX xs H Q ∨ ∃ a n, xs = [.str a] ∧ PySem.intText? a = some n ∧ a.length ≤ 640 ∧ Q (.int n) H
def rStrX : List V → Hp → VK → Prop := fun xs H Q => (∃ i, xs = [.int i] ∧ i.natAbs.log2 < 1920 ∧ Q (.str (Str.ofString (toString i))) H) ∨ ∃ a, xs = [.str a] ∧ Q (.str a) H
def rFind3 : V → List V → Hp → VK → Prop := fun x xs H Q => ∃ (a b : Str) (i : Int), x = .str a ∧ xs = [.str b, .int i] ∧ Q (.int (Txt.find3 a b i)) H
def rMax2 : List V → Hp → VK → Prop := fun xs H Q => ∃ i j, xs = [.int i, .int j] ∧ Q (.int (if j > i then j else i)) H
def rMin2 : List V → Hp → VK → Prop := fun xs H Q => ∃ i j, xs = [.int i, .int j] ∧ Q (.int (if j < i then j else i)) H
section
variable {X : Cx}
theorem c_int2 : CallR X (.type "int") rIntY := by
  intro pins s σ H xs us Q I r h
  rcases h with h | h
  · exact c_int pins s σ H xs us Q I r h
  · exact call_int_str pins s σ H xs us Q I r h
theorem c_str : CallR X (.type "str") rStrX := by
  intro pins s σ H xs us Q I r h
  rcases h with h | h
  · exact call_str_int pins s σ H xs us Q I r h
  · exact SkE.call_str_str pins s σ H xs us Q I r h
theorem m_find3 : MtR X "str.find" rFind3 := mt_find3
end
section
variable {K : PySem.W.Frag} {L L' : List Ent} {H : Hp} {σ : L2.St} {Q : VK} {a b : Addr} {i : Int} {k : Nat} {v : V} {d : PyData} {ds : List PyData}
theorem w_intI2 (h : Q (.int i) H) : rIntY [.int i] H Q := .inl (w_int h)
theorem w_intT {l : List Nat} {n : Int} (hn : PySem.intText? (S l) = some n) (hl : l.length ≤ 640) (h : Q (.int n) H) : rIntY [.str (S l)] H Q := .inr ⟨_, n, rfl, hn, by rw [S_len]; exact hl, h⟩
/-- the digits of a number -/
def dg (n : Nat) : List Nat := (Nat.toDigits 10 n).map Char.toNat
theorem dg_text (n : Nat) : Str.ofString (toString ((n : Nat) : Int)) = S (dg n) := by
  rw [S_of (Str.ofString (toString ((n : Nat) : Int)))]
  congr 1
  exact PySem.W.KIN.signs_num n
theorem w_strI {n : Nat} (hi : i = (n : Int)) (hn : n < 10 ^ 12) (h : Q (.str (S (dg n))) H) : rStrX [.int i] H Q := by
  refine .inl ⟨i, rfl, ?_, ?_⟩
  · have h2 : i.natAbs < 2 ^ 40 := by
      have : (10 : Nat) ^ 12 ≤ 2 ^ 40 := by decide
      omega
    have := log2_le h2
    omega
  · rw [hi, dg_text]
    exact h
theorem w_strS {z : Str} (h : Q (.str z) H) : rStrX [.str z] H Q := .inr ⟨z, rfl, h⟩
theorem dg_len {n k : Nat} (hk : 1 ≤ k) (hn : n < 10 ^ k) : (dg n).length ≤ k := by
  unfold dg
  rw [List.length_map]
  exact digits10_le hk hn
theorem dg_pos (n : Nat) : 1 ≤ (dg n).length := by
  unfold dg
  rw [List.length_map]
  exact tDigits_len_ge 10 n
theorem dg_ge {n k : Nat} (hn : 10 ^ k ≤ n) : k + 1 ≤ (dg n).length := by
  unfold dg
  rw [List.length_map]
  exact digits10_ge hn
theorem dg_val (n : Nat) : digitsVal (dg n) = n := PySem.W.KIN.val_back n
theorem dg_digits (n : Nat) : AllDigits (dg n) := by
  intro c hc
  obtain ⟨ch, hch, e⟩ := List.mem_map.mp hc
  rw [← e]
  have h := Nat.isDigit_of_mem_toDigits (b := 10) (by decide) (by decide) hch
  have h2 : ch.val ≥ '0'.val ∧ ch.val ≤ '9'.val := by
    simpa [Char.isDigit] using h
  exact ⟨h2.1, h2.2⟩
theorem digitsVal_le : ∀ (cs : List Nat) (acc : Nat), AllDigits cs → cs.foldl (fun acc c => acc * 10 + (c - 48)) acc < (acc + 1) * 10 ^ cs.length
  | [], acc, _ => by simp
  | c :: cs, acc, h => by
    have h1 := digitsVal_le cs (acc * 10 + (c - 48)) fun d hd => h d (.tail _ hd)
    have h2 := h c (.head _)
    refine Nat.lt_of_lt_of_le h1 ?_
    rw [List.length_cons, Nat.pow_succ, Nat.mul_comm (10 ^ cs.length) 10, ← Nat.mul_assoc]
    exact Nat.mul_le_mul_right _ (by omega)
/-- no zero ahead, but of zero -/
theorem dg_head {n : Nat} (h : (dg n).head? = some 48) : (dg n).length = 1 := by
  cases hd : dg n with
  | nil => rw [hd] at h; cases h
  | cons c cs =>
    rw [hd] at h
    have hc : c = 48 := Option.some.inj h
    have h1 := dg_digits n
    rw [hd] at h1
    have h2 := dg_val n
    rw [hd] at h2
    unfold digitsVal at h2
    rw [List.foldl_cons, hc] at h2
    have h3 := digitsVal_le cs 0 fun d hd => h1 d (.tail _ hd)
    have h4 : n < 10 ^ cs.length := by
      rw [← h2]
      simpa using h3
    have h5 : (dg n).length = cs.length + 1 := by rw [hd]; rfl
    rw [← hd, h5]
    by_cases h0 : cs.length = 0
    · omega
    · have := dg_len (n := n) (k := cs.length) (by omega) h4
      omega
theorem int_dg {n : Nat} (hn : n < 10 ^ 10) : PySem.intText? (S (dg n)) = some (n : Int) := by
  rw [← dg_text]
  exact PySem.W.KIN.num_reads (by omega) (by omega)
/-! ### find -/
/-- the place of the first c in l, from i on -/
theorem find_none {l : List Nat} {c k : Nat} (h : c ∉ l.drop k) (hk : k ≤ l.length) : Txt.find3 (S l) (S [c]) (k : Int) = -1 := by
  rcases StrLaws.find3_spec (S l) c (k : Int) with ⟨e, _⟩ | ⟨m, e, h1, h2, h3, _⟩
  · exact e
  · exfalso
    rw [S_len] at h2
    have hf : fromIndex (S l).length (k : Int) = k := by
      unfold fromIndex
      rw [S_len, if_neg (by omega)]
      omega
    rw [hf] at h1
    refine h ?_
    have h4 : l[m]? = some c := by
      have : (S l).cps.getD m 0 = c := h3
      have h5 : l[m]? = some l[m] := List.getElem?_eq_getElem h2
      rw [h5]
      congr 1
      rw [← this]
      simp [S, Array.getD, h2]
    refine List.mem_of_getElem? (i := m - k) ?_
    rw [List.getElem?_drop, show k + (m - k) = m by omega, h4]
theorem find_some {l r : List Nat} {c k m : Nat} (h : l.drop k = r) (hm : r[m]? = some c) (hn : c ∉ r.take m) (hk : k ≤ l.length) : Txt.find3 (S l) (S [c]) (k : Int) = ((k + m : Nat) : Int) := by
  have hml : m < r.length := (List.getElem?_eq_some_iff.mp hm).1
  have hrl : r.length = l.length - k := by rw [← h, List.length_drop]
  have hf : fromIndex (S l).length (k : Int) = k := by
    unfold fromIndex
    rw [S_len, if_neg (by omega)]
    omega
  have hget : ∀ j, j < l.length → (S l).cps.getD j 0 = l.getD j 0 := fun j hj => by simp [S, Array.getD, hj, List.getD_eq_getElem?_getD]
  have hr : ∀ j, r[j]? = l[k + j]? := fun j => by rw [← h, List.getElem?_drop]
  rcases StrLaws.find3_spec (S l) c (k : Int) with ⟨e, h1⟩ | ⟨q, e, h1, h2, h3, h4⟩
  · exfalso
    refine h1 (k + m) (by rw [hf]; omega) (by rw [S_len]; omega) ?_
    rw [hget _ (by omega), List.getD_eq_getElem?_getD, ← hr, hm]
    rfl
  · rw [e]
    rw [hf] at h1 h4
    rw [S_len] at h2
    have h5 : ¬ k + m < q := fun z => by
      refine h4 (k + m) (by omega) z ?_
      rw [hget _ (by omega), List.getD_eq_getElem?_getD, ← hr, hm]
      rfl
    have h6 : ¬ q < k + m := fun z => by
      refine hn ?_
      refine List.mem_of_getElem? (i := q - k) ?_
      rw [List.getElem?_take_of_lt (by omega), hr, show k + (q - k) = q by omega]
      have : l.getD q 0 = c := by rw [← hget _ h2]; exact h3
      rw [← this, List.getD_eq_getElem?_getD, List.getElem?_eq_getElem h2]
      rfl
    congr 1
    omega
theorem w_find3 {l : List Nat} {c : Nat} (h : Q (.int (Txt.find3 (S l) (S [c]) i)) H) : rFind3 (.str (S l)) [.str (S [c]), .int i] H Q := ⟨_, _, i, rfl, rfl, h⟩
/-! ### flat things -/
def dV : V → PyData
  | .int i => .int i
  | .str z => .str z
  | .bl b => .bool b
  | _ => .none
theorem dv_flat {F : Hp} : ∀ {x v : V}, flatV x = true → Dv K F v (dV x) → v = x
  | .int i, _, _, h => by cases h; rfl
  | .str i, _, _, h => by cases h; rfl
  | .bl i, _, _, h => by cases h; rfl
  | .non, _, _, h => by cases h; rfl
theorem dvs_flat {F : Hp} : ∀ {xs vs : List V}, xs.all flatV = true → DvAll K F vs (xs.map dV) → vs = xs
  | [], _, _, h => by cases h; rfl
  | x :: xs, _, f, h => by
    rw [List.all_cons, Bool.and_eq_true] at f
    cases h with
    | cons h1 h2 => rw [dv_flat f.1 h1, dvs_flat f.2 h2]
theorem St.flatT {xs : List V} (hS : St K L H) (hl : Is L (.ref a) (.tuple (xs.map dV))) (hf : xs.all flatV = true) : SqT K H a xs := by
  obtain ⟨F, h1, h2⟩ := hS.ex
  have := hl.dv h2
  cases this with
  | tup hs ha =>
    have e := dvs_flat hf ha
    rw [← e]
    exact h1.sqT hs
theorem w_inT {xs : List V} {x : V} {neg : Bool} (hS : St K L H) (hl : Is L (.ref a) (.tuple (xs.map dV))) (hx : flatV x = true) (hf : xs.all flatV = true) (h : Q (.bl (if neg then !inV x xs else inV x xs)) H) : rInX K neg x (.ref a) H Q :=
  .inl ⟨a, xs, rfl, .inr (hS.flatT hl hf), hx, hf, h⟩
def sV (ys : List (List Nat)) : List V := ys.map fun y => V.str (S y)
theorem inV_s (l : List Nat) : ∀ ys : List (List Nat), inV (.str (S l)) (sV ys) = decide (l ∈ ys)
  | [] => rfl
  | y :: ys => by
    show (eqV (.str (S y)) (.str (S l)) || inV (.str (S l)) (sV ys)) = _
    rw [inV_s l ys]
    show ((S y == S l) || decide (l ∈ ys)) = _
    rw [show (S y == S l) = decide (l = y) from by
      by_cases h : l = y
      · subst h
        simp
      · rw [decide_eq_false h, beq_eq_false_iff_ne]
        exact fun z => h (S_inj z).symm]
    rw [← Bool.decide_or]
    exact decide_eq_decide.mpr List.mem_cons.symm
theorem sV_flat (ys : List (List Nat)) : (sV ys).all flatV = true := by simp [sV, flatV]
theorem sV_dV (ys : List (List Nat)) : (sV ys).map dV = ys.map fun y => PyData.str (S y) := by simp [sV, dV]
theorem w_inTS {l : List Nat} {ys : List (List Nat)} (hS : St K L H) (hl : Is L (.ref a) (.tuple (ys.map fun y => PyData.str (S y)))) (h : Q (.bl (decide (l ∈ ys))) H) : rInX K false (.str (S l)) (.ref a) H Q :=
  w_inT (xs := sV ys) hS (by rw [sV_dV]; exact hl) rfl (sV_flat ys) (by rw [inV_s]; exact h)
theorem w_ninTS {l : List Nat} {ys : List (List Nat)} (hS : St K L H) (hl : Is L (.ref a) (.tuple (ys.map fun y => PyData.str (S y)))) (h : Q (.bl (!decide (l ∈ ys))) H) : rInX K true (.str (S l)) (.ref a) H Q :=
  w_inT (xs := sV ys) hS (by rw [sV_dV]; exact hl) rfl (sV_flat ys) (by rw [inV_s]; exact h)
/-- a tuple that stands in the written part -/
theorem dvs_of : ∀ {F : Hp} (ys : List (List Nat)), DvAll K F (sV ys) (ys.map fun y => PyData.str (S y))
  | _, [] => .nil
  | _, y :: ys => .cons (.str _) (dvs_of ys)
theorem St.tupK {ys : List (List Nat)} (hS : St K L H) (h : ∀ H, SqT K H a (sV ys)) : St K (.dat (.ref a) (.tuple (ys.map fun y => PyData.str (S y))) :: L) H := hS.know fun F _ _ => .tup (h F) (dvs_of ys)
/-! ### while -/
def WB (P : L2.St → Hp → Prop) (μ : L2.St → Nat) (m : Nat) (tb : TS) (D : Ends) (σ : L2.St) (b : Bool) (H1 : Hp) : Prop :=
  if b = true then ∃ N : L2.St → Hp → Prop, (∀ σ' H', N σ' H' → ∃ m', m' < m ∧ (m' = μ σ' ∧ P σ' H')) ∧ tb { D with nx := N, ct := N, bk := D.nx } σ H1 else D.nx σ H1
theorem w_wb {P : L2.St → Hp → Prop} {μ : L2.St → Nat} {m : Nat} {tb : TS} {D : Ends} {c : Bool} (h1 : c = true → tb { D with nx := fun σ' H' => μ σ' < m ∧ P σ' H', ct := fun σ' H' => μ σ' < m ∧ P σ' H', bk := D.nx } σ H) (h2 : c = false → D.nx σ H) : WB P μ m tb D σ c H := by
  unfold WB
  cases c with
  | true => exact ⟨_, fun σ' H' q => ⟨_, q.1, rfl, q.2⟩, h1 rfl⟩
  | false => exact h2 rfl
theorem w_while {c : TT} {tb : TS} {D : Ends} (P : L2.St → Hp → Prop) (μ : L2.St → Nat) (h0 : P σ H) (hs : ∀ σ H, P σ H → c σ H fun b H1 => WB P μ (μ σ) tb D σ b H1) : tWhile c tb D σ H := by
  refine ⟨fun m σ H => m = μ σ ∧ P σ H, ⟨_, rfl, h0⟩, ?_⟩
  rintro m σ H ⟨rfl, p⟩
  exact hs σ H p
end
end Lg

/-! Texts as lists of signs: membership; what is alike; small laws of lists. -/
namespace Lg
open PySem PySem.Spec PyProof.Rows L2 PySem.NumText
section
variable {K : PySem.W.Frag} {L L' : List Ent} {H : Hp} {σ : L2.St} {Q : VK} {a b : Addr} {i : Int} {k : Nat} {v : V} {d : PyData} {ds : List PyData}
theorem w_neg (h : Q (.int (-i)) H) : rU (fun i => .int (-i)) (.int i) H Q := ⟨i, rfl, h⟩
theorem w_inSS {c : Nat} {z : List Nat} (h : Q (.bl (decide (c ∈ z))) H) : rInX K false (.str (S [c])) (.str (S z)) H Q := w_inSg h
theorem w_ninSS {c : Nat} {z : List Nat} (h : Q (.bl (!decide (c ∈ z))) H) : rInX K true (.str (S [c])) (.str (S z)) H Q := w_ninSg h
theorem w_inSS' {c : Nat} {z : List Nat} (h : Q (.bl (decide (c ∈ z))) H) : rInX K false (.str ⟨#[c]⟩) (.str (S z)) H Q := w_inSg h
theorem w_neSS {x y : List Nat} (h : Q (.bl (!decide (x = y))) H) : rNeX K (.str (S x)) (.str (S y)) H Q := w_neS (by
  rw [show decide (S x = S y) = decide (x = y) from decide_eq_decide.mpr ⟨S_inj, fun e => by rw [e]⟩]
  exact h)
def Fr.tupf (K : PySem.W.Frag) (a : Addr) (xs : List V) (ds : List PyData) : Fr := ⟨fun F => SqT K F a xs ∧ DvAll K F xs ds, fun _ _ e h => ⟨e.sqT h.1, DvAll.mono e _ _ h.2⟩⟩
theorem St.tupF (hS : St K L H) (hl : Is L (.ref a) (.tuple ds)) : ∃ xs, SqT K H a xs ∧ St K (.fact (Fr.tupf K a xs ds) :: L) H := by
  obtain ⟨F, h1, h2⟩ := hS.ex
  have := hl.dv h2
  cases this with
  | tup hs ha =>
    refine ⟨_, h1.sqT hs, ⟨F, h1, fun e he => ?_⟩, hS.nd⟩
    cases he with
    | head => exact ⟨hs, ha⟩
    | tail _ he => exact h2 e he
theorem w_listT (hS : St K L H) (hl : Is L (.ref a) (.tuple ds)) (h : ∀ q H', St K (Lg.ls K q ds :: L) H' → Q (.ref q) H') : rListOf K [.ref a] H Q := by
  obtain ⟨xs, h1, hS'⟩ := hS.tupF hl
  refine ⟨a, xs, rfl, .inr h1, fun q hq => ?_⟩
  have h3 := hS'.alloc hq (φ := .ls K ds) (o := .lst xs) (fun F' _ w => ⟨xs, rfl, (w _ (.head _)).2⟩)
  exact h q _ (h3.to (.cons .here (.drop .refl)))
/-- an index that is drawn, into a list of texts -/
theorem w_ixLSP {P : List Nat → Prop} (hS : St K L H) (hl : LsIn K L a ds) (h0 : 0 ≤ i) (h1 : i < ds.length) (hP : ∀ d ∈ ds, ∃ m, d = .str (S m) ∧ P m) (h : ∀ m, P m → Q (.str (S m)) H) : rIx K (.ref a) (.int i) H Q := by
  have hk : i.toNat < ds.length := by omega
  obtain ⟨m, hm, hp⟩ := hP ds[i.toNat] (List.getElem_mem hk)
  exact w_ixLs (k := i.toNat) hS hl (by omega) (by rw [List.getElem?_eq_getElem hk, hm]) (h m hp)
/-- .. into a list of anything -/
theorem w_ixLD {P : PyData → Prop} (hS : St K L H) (hl : LsIn K L a ds) (h0 : 0 ≤ i) (h1 : i < ds.length) (hP : ∀ d ∈ ds, P d) (h : ∀ v d, P d → St K (.dat v d :: L) H → Q v H) : rIx K (.ref a) (.int i) H Q := by
  have hk : i.toNat < ds.length := by omega
  exact w_ixL (k := i.toNat) hS hl (by omega) (List.getElem?_eq_getElem hk) fun v hS2 => h v _ (hP _ (List.getElem_mem hk)) hS2
end
theorem takeWhile_take {α : Type} {p : α → Bool} : ∀ {r : List α} {m : Nat}, (∀ x ∈ r.take m, p x = true) → (∀ x, r[m]? = some x → p x = false) → r.takeWhile p = r.take m
  | [], m, _, _ => by simp
  | x :: r, 0, _, h => by
    have := h x rfl
    simp [this]
  | x :: r, m + 1, h1, h2 => by
    have hx := h1 x (by simp)
    rw [List.takeWhile_cons, if_pos hx, List.take_succ_cons, takeWhile_take (m := m) (fun y hy => h1 y (by rw [List.take_succ_cons]; exact .tail _ hy)) (fun y hy => h2 y (by simpa using hy))]
theorem takeWhile_app {α : Type} {p : α → Bool} {l x : List α} (h1 : ∀ c ∈ l, p c = true) (h2 : ∀ c, x.head? = some c → p c = false) : (l ++ x).takeWhile p = l := by
  rw [takeWhile_take (m := l.length), List.take_left]
  · rw [List.take_left]
    exact h1
  · intro c hc
    rw [List.getElem?_append_right (Nat.le_refl _), Nat.sub_self] at hc
    exact h2 c (by rw [List.head?_eq_getElem?]; exact hc)
end Lg

/-! try with several clauses, each with a name or without; methods that may raise. -/
namespace Lg
open PySem PySem.Spec PyProof.Rows L2
/-- a clause: the class, the slot of its name if it has one, its suite -/
structure Cl where
  c : Value
  i : Option Nat
  ts : Addr → Value → Option Addr → TS
def Cl.at_ (k : Cl) (a : Addr) (σ : L2.St) : L2.St := match k.i with
  | none => σ
  | some i => σ.set i (some (.ref a))
def Cl.off (k : Cl) (σ : L2.St) : L2.St := match k.i with
  | none => σ
  | some i => σ.set i none
def Cl.ends (k : Cl) (D : Ends) : Ends := { nx := fun σ H => D.nx (k.off σ) H, rt := D.rt, bk := fun σ H => D.bk (k.off σ) H, ct := fun σ H => D.ct (k.off σ) H }
/-- what a row of clauses wishes of an exception of the body -/
def wMix (K : PySem.W.Frag) (Wout : WX) (D : Ends) : List Cl → WX
  | [] => Wout
  | k :: r => fun cls d σ H => ∃ b, PySem.W.exmOne K cls k.c = some b ∧ (b = true → ∀ a, H a = none → k.ts a cls d (k.ends D) (k.at_ a σ) H) ∧ (b = false → wMix K Wout D r cls d σ H)
inductive HdsM (X : Cx) : List ExceptHandler → List Cl → Prop
  | nil : HdsM X [] []
  | bare {x : Str} {c : Value} {ts : Addr → Value → Option Addr → TS} {b₀ : Stmt} {suite : List Stmt} {np pos' : Pos} {hds : List ExceptHandler} {l : List Cl} (hc : Names X x c)
      (hsu : ∀ (a : Addr) (oe : Obj) (cls : Value) (d : Option Addr) (pn : List (Addr × Obj)), Zc cls d oe → (∃ vs, oe.data = .fields vs) → PSs (X.suite a ((a, oe) :: pn)) (b₀ :: suite) (ts a cls d)) (r : HdsM X hds l) :
      HdsM X (.ExceptHandler (some (.Name x np)) none (b₀ :: suite) pos' :: hds) (⟨c, none, ts⟩ :: l)
  | as {x n : Str} {i : Nat} {c : Value} {ts : Addr → Value → Option Addr → TS} {b₀ : Stmt} {suite : List Stmt} {np pos' : Pos} {hds : List ExceptHandler} {l : List Cl} (hi : X.N[i]? = some n) (hln : X.env.kindOf n = some .local) (hc : Names X x c)
      (hsu : ∀ (a : Addr) (oe : Obj) (cls : Value) (d : Option Addr) (pn : List (Addr × Obj)), Zc cls d oe → (∃ vs, oe.data = .fields vs) → PSs (X.suite a ((a, oe) :: pn)) (b₀ :: suite) (ts a cls d)) (r : HdsM X hds l) :
      HdsM X (.ExceptHandler (some (.Name x np)) (some n) (b₀ :: suite) pos' :: hds) (⟨c, some i, ts⟩ :: l)
section
variable {X : Cx} {body : List Stmt} {h₀ : ExceptHandler} {hds : List ExceptHandler} {l : List Cl} {pos : Pos} {tb : WX → TS} {Wout : WX}
theorem ps_try_mix (hs : X.stack = X.env :: X.outer) (hf : X.env.frame = some X.env.locals) (hN : X.N.Nodup) (tk : Takes X Wout)
    (hb : ∀ (W : WX) (pn : List (Addr × Obj)) (xe : Value → Shared → Prop), Takes (X.tr pn xe) W → PassesOwn (model X.prog X.w) X.A X.env xe → PSs (X.tr pn xe) body (tb W))
    (hh : HdsM X (h₀ :: hds) l) : PS X (.Try body (h₀ :: hds) [] [] pos) (fun D σ H => tb (wMix X.K Wout D l) D σ H) := by
  refine ⟨fun pins s σ H D I h => ?_⟩
  have ok := I.ok
  have fr : X.A.frames = some (X.env :: X.outer) := by rw [ok.frames, hs]
  have run := (hb (wMix X.K Wout D l) (X.pn ++ pins) (fun e s₁ => wpAny (model X.prog X.w) X.A (noteFrame e X.env) (fun _ s₂ => wpAny (model X.prog X.w) X.A (setFlight e none) (fun _ s₃ =>
    wpAny (model X.prog X.w) X.A (handleBy e X.env (h₀ :: hds)) (SP X pins D) X.xe s₃) X.xe s₂) X.xe s₁) (fun u s' xx => ?_) PassesOwn.looking).run [] s σ H D (I.toTry _) h
  · refine wpAny_Try_except (wpAny_mono run (fun f s1 hsp => ?_) fun e s1 he => he)
    match f, hsp with
    | .next, ⟨σ', H', J', q⟩ => exact wpAny_execs_nil ⟨σ', H', J'.ofTry ok, q⟩
    | .brk, ⟨σ', H', J', q⟩ => exact ⟨σ', H', J'.ofTry ok, q⟩
    | .cont, ⟨σ', H', J', q⟩ => exact ⟨σ', H', J'.ofTry ok, q⟩
    | .ret u, ⟨v, σ', H', J', r, q⟩ => exact ⟨v, σ', H', J'.ofTry ok, r, q⟩
  -- the exception lands here
  obtain ⟨a, B, sI, pins', σ', H', cls, d, rfl, J', nb, up, sky, na, os, ag, w⟩ := xx
  have J : Inv X pins σ' H' sI := J'.ofTry ok
  have sky' : Sky B (X.env :: X.outer) a (Zc cls d) X.env.locals s'.heap := by rw [← hs]; exact sky
  show wpAny (model X.prog X.w) X.A (noteFrame (.ref a) X.env) _ _ _
  refine Sky.land Zc.steady fr hf sky' fun h3 fl3 up3 => ?_
  have J3 : Inv X pins σ' H' { s' with heap := h3 } := J.landed nb fl3.1 (up.trans up3) os ag
  obtain ⟨oe3, vs3, he3, hz3, hd3⟩ := fl3.there
  have off : a ∉ frs (X.env :: X.outer) := fun hm => by
    obtain ⟨_, o', e', hnf⟩ := fl3.2.2.1.mem hm
    rw [he3] at e'
    cases e'
    exact hnf _ hd3
  have nL : a ≠ X.env.locals := fun z => off (List.mem_filterMap.mpr ⟨X.env, List.mem_cons_self, by rw [hf, z]⟩)
  have nF : a ∉ X.fs := fun hm => by
    obtain ⟨e, he, q⟩ := List.mem_filterMap.mp hm
    exact off (List.mem_filterMap.mpr ⟨e, List.mem_cons_of_mem _ he, q⟩)
  have S3 := J3.suite he3 hd3 na nL nF
  have LT : PySem.W.Looks (model X.prog X.w) h3 (typeOf (.ref a)) cls := fun A Q E s k q => wpAny_typeOf_ref (k _ _ he3) (by rw [hz3.1]; exact q)
  have test : ∀ {x : Str} {c : Value} {np : Pos}, Names X x c → ∀ {Q : Value → Shared → Prop} {E : Value → Shared → Prop}, Q c { s' with heap := h3 } → wpAny (model X.prog X.w) (X.A.mark (some (.ref a))) (eval (.Name x np) X.env) Q E { s' with heap := h3 } := fun {x c np} hc {Q E} q => by
    obtain ⟨hg, hdbg, hm | ⟨hm, hv, hnn⟩⟩ := hc
    · exact ld_glob (X := X.suite a ((a, oe3) :: (X.pn ++ pins))) S3 hg hm q hdbg
    · exact ld_blt (X := X.suite a ((a, oe3) :: (X.pn ++ pins))) S3 hg hm hv q hnn hdbg
  have go : ∀ {hds' : List ExceptHandler} {l' : List Cl}, HdsM X hds' l' → wMix X.K Wout D l' cls d σ' H' → wpAny (model X.prog X.w) X.A (handleBy (.ref a) X.env hds') (SP X pins D) X.xe { s' with heap := h3 } := by
    intro hds' l' hk
    induction hk with
    | nil =>
      intro w
      refine wpAny_handleBy_nil ?_
      obtain ⟨k1, k2, k3, oe, vs, T, oT, ts', he, hz, hd, h1, hr⟩ := id fl3
      unfold PySem.passOn
      refine wpAny_bind (wpAny_field he hd h1 ?_)
      rw [if_neg (show ¬ ((Value.ref T == Value.none) = true) from by simp)]
      have fin : wpAny (model X.prog X.w) X.A (setFlight (.ref a) X.env.frame) (fun _ s4 => wpAny (model X.prog X.w) X.A (throw (.ref a) : Sem Flow) (SP X pins D) X.xe s4) X.xe { s' with heap := h3 } := by
        rw [hf]
        refine HandSPX.setFlight_upZ fl3 fun h4 hh4 up4 => wpAny_throw (tk _ _ ?_)
        exact ⟨a, B, sI, pins, σ', H', cls, d, rfl, J, nb, (up.trans up3).trans up4, .inr (.inr (by rw [hs]; exact hh4)), na, os, ag, w⟩
      first
        | exact wpAny_bind (wpAny_pure (wpAny_bind fin))
        | exact wpAny_bind fin
    | @bare x c ts b₀ suite np pos' hds2 l2 hc hsu r ih =>
      rintro ⟨b, hb1, hyes, hno⟩
      refine wpAny_handleBy_cons (codeAny_handlers_test ?_) (by intro q; cases q)
      refine test hc ((PySem.W.exm_one (M := model X.prog X.w) (J3.kIn) LT hb1).here ?_)
      cases b with
      | false => exact ih (hno rfl)
      | true =>
        refine codeAny_handlers_suite ?_
        refine HandSPX.lands_againZ fl3 fun h4 fl4 up4 => ?_
        have J4 : Inv X pins σ' H' { s' with heap := h4 } := J.landed nb fl4.1 ((up.trans up3).trans up4) os ag
        obtain ⟨oe4, vs4, he4, hz4, hd4⟩ := fl4.there
        refine wpAny_mono ((hsu a oe4 cls d (X.pn ++ pins) hz4 ⟨_, hd4⟩).run [] _ _ H' _ (J4.suite he4 hd4 na nL nF) (hyes rfl a na)) (fun f s6 hsp => ?_) fun _ _ z => False.elim z
        match f, hsp with
        | .next, ⟨σ6, H6, S6, q6⟩ => exact ⟨_, _, S6.unsuite ok, q6⟩
        | .brk, ⟨σ6, H6, S6, q6⟩ => exact ⟨_, _, S6.unsuite ok, q6⟩
        | .cont, ⟨σ6, H6, S6, q6⟩ => exact ⟨_, _, S6.unsuite ok, q6⟩
        | .ret u, ⟨v6, σ6, H6, S6, r6, q6⟩ => exact ⟨_, _, _, S6.unsuite ok, r6, q6⟩
    | @as x n i c ts b₀ suite np pos' hds2 l2 hi hln hc hsu r ih =>
      rintro ⟨b, hb1, hyes, hno⟩
      refine wpAny_handleBy_cons (codeAny_handlers_test ?_) (by intro q; cases q)
      refine test hc ((PySem.W.exm_one (M := model X.prog X.w) (J3.kIn) LT hb1).here ?_)
      cases b with
      | false => exact ih (hno rfl)
      | true =>
        refine codeAny_handlers_suite_as ?_
        refine HandSPX.lands_againZ fl3 fun h4 fl4 up4 => ?_
        have J4 : Inv X pins σ' H' { s' with heap := h4 } := J.landed nb fl4.1 ((up.trans up3).trans up4) os ag
        obtain ⟨oe4, vs4, he4, hz4, hd4⟩ := fl4.there
        refine store_ok (X := X.suite a ((a, oe4) :: (X.pn ++ pins))) (v := .ref a) (J4.suite he4 hd4 na nL nF) hN hi (.inl hln) rfl (fun s5 S5 => ?_) (.inr hln)
        refine wpAny_mono ((hsu a oe4 cls d (X.pn ++ pins) hz4 ⟨_, hd4⟩).run [] s5 _ H' _ S5 (hyes rfl a na)) (fun f s6 hsp => ?_) fun _ _ z => False.elim z
        have gone : ∀ {σ6 : L2.St} {H6 : Hp} {Q : Shared → Prop}, Inv (X.suite a ((a, oe4) :: (X.pn ++ pins))) [] σ6 H6 s6 → (∀ s7, Inv X pins (σ6.set i none) H6 s7 → Q s7) →
            wpAny (model X.prog X.w) X.A (do bindName X.env n .none; unbindBehindTheSuite X.env n pos') (fun _ s7 => Q s7) X.xe s6 := fun {σ6 H6 Q} S6 hq => gone_ok (S6.unsuite ok) hN hi hln hq
        match f, hsp with
        | .next, ⟨σ6, H6, S6, q6⟩ => exact gone S6 fun s7 J7 => ⟨_, _, J7, q6⟩
        | .brk, ⟨σ6, H6, S6, q6⟩ => exact gone S6 fun s7 J7 => ⟨_, _, J7, q6⟩
        | .cont, ⟨σ6, H6, S6, q6⟩ => exact gone S6 fun s7 J7 => ⟨_, _, J7, q6⟩
        | .ret u, ⟨v6, σ6, H6, S6, r6, q6⟩ => exact gone S6 fun s7 J7 => ⟨_, _, _, J7, r6, q6⟩
  exact go hh w
end
/-! ### methods that may raise -/
def tMethS (C : Addr) (m : Str) (sp : Sp) (E : L2.St → XK) (ta : TE) (t : TA) : TE := fun σ H Q => ta σ H fun x H1 => ∃ a dx fs, x = .ref a ∧ H1 a = some (.ins C dx fs) ∧ fs.lookup m = none ∧ t σ H1 fun vs H2 => sp (x :: vs) H2 Q (E σ)
section
variable {X : Cx} {CX : CXT} {k : Nat} {f C : Addr} {fd : FuncData} {ps : List Str} {sp : Sp} {E : L2.St → XK} {x m : Str} {p pos apos : Pos} {e o : Expr} {es : List Expr} {ta : TE} {t : TA}
theorem pe_methS {pl : Sem Bool} (he : PE X o ta) (c : Cls X.K C) (hm : Meth X.K C m f) (F : FnOk X.prog X.w X.K X.mg X.base CX k f fd ps sp) (hr : Room k X.A) (hb : Binds X.K fd ps []) (hx : ∀ σ, PassesAt CX X σ (E σ)) (ha : PA X (e :: es) t)
    (hst : starEach (e :: es) X.env = (false, eval e X.env) :: starEach es X.env := by rfl) (hpl : (backTo pos (starEach es X.env)).any (·.1) = false := by rfl)
    (ht : eval (.Call (.Attribute o m apos) (e :: es) [] pos) X.env = (do
      let ov ← eval o X.env
      standAt apos.atName
      let (f, first) ← holding [ov] (getMethod ov m pl)
      callWith pos f first (backTo pos (starEach (e :: es) X.env)) (backToKw pos (keywordEach [] X.env))) := by rfl) :
    PE X (.Call (.Attribute o m apos) (e :: es) [] pos) (tMethS C m sp E ta t) := by
  refine ⟨fun pins s σ H Q I h => ?_⟩
  refine PySem.W.methodCall_KW (pl := pl) (thn (he.run pins s σ H _ I h) fun u s1 ⟨x, H1, I1, rx, a, dx, fs, ex, ea, l, q⟩ => ?_) ht
  subst ex
  obtain rfl : u = Value.ref a := rx
  refine getmeth_ok I1 ea c hm l ?_
  refine PySem.W.callWith_K (first := [.ref a]) (h₀ := X.base) I.ok.mod.kin hm.kp (thn (ha.run pos pins s1 σ H1 _ I1 q) fun us s2 ⟨vs, H2, I2, r, q2⟩ => ⟨I2.kIn, ?_⟩) hst hpl
  exact run_fnS (us := .ref a :: us) (vs := .ref a :: vs) F hr hb (hx σ) I2 (.cons rfl r) q2
theorem pe_methS0 {pl : Sem Bool} (he : PE X o ta) (c : Cls X.K C) (hm : Meth X.K C m f) (F : FnOk X.prog X.w X.K X.mg X.base CX k f fd ps sp) (hr : Room k X.A) (hb : Binds X.K fd ps []) (hx : ∀ σ, PassesAt CX X σ (E σ))
    (ht : eval (.Call (.Attribute o m apos) [] [] pos) X.env = (do
      let ov ← eval o X.env
      standAt apos.atName
      let (f, first) ← holding [ov] (getMethod ov m pl)
      callWith pos f first (backTo pos (starEach [] X.env)) (backToKw pos (keywordEach [] X.env))) := by rfl) :
    PE X (.Call (.Attribute o m apos) [] [] pos) (tMethS C m sp E ta tNil) := by
  refine ⟨fun pins s σ H Q I h => ?_⟩
  refine PySem.W.methodCall_KW (pl := pl) (thn (he.run pins s σ H _ I h) fun u s1 ⟨x, H1, I1, rx, a, dx, fs, ex, ea, l, q⟩ => ?_) ht
  subst ex
  obtain rfl : u = Value.ref a := rx
  refine getmeth_ok I1 ea c hm l ?_
  exact PySem.W.callWith_K0 (first := [.ref a]) I1.kIn hm.kp (run_fnS (us := [.ref a]) (vs := [.ref a]) F hr hb (hx σ) I1 (.cons rfl .nil) q)
/-- C(e, ..), its __init__ may raise -/
def tMakeS (C : Addr) (sp : Sp) (E : L2.St → XK) (t : TA) : TE := fun σ H Q => t σ H fun vs H1 => ∀ x dx, H1 x = none → H1 dx = none → dx ≠ x →
  sp (.ref x :: vs) (upd (upd H1 dx (.own x)) x (.ins C dx [])) (fun v H2 => v = .non ∧ Q (.ref x) H2) (E σ)
theorem pe_makeS (M : Mk X.K C f) (F : FnOk X.prog X.w X.K X.mg X.base CX k f fd ps sp) (hr : Room (k + 1) X.A) (hg : Gl X x) (hm : X.mg x = some (.ref C)) (hb : Binds X.K fd ps []) (hx : ∀ σ, PassesAt CX X σ (E σ))
    (ha : PA X (e :: es) t) (hdb : (x == ("__debug__" : Str)) = false := by decide) (he : starEach (e :: es) X.env = (false, eval e X.env) :: starEach es X.env := by rfl) (hpl : (backTo pos (starEach es X.env)).any (·.1) = false := by rfl) :
    PE X (.Call (.Name x p) (e :: es) [] pos) (tMakeS C sp E t) := by
  refine ⟨fun pins s σ H Q I h => ?_⟩
  refine wpAny_Call_Name_kw (ld_glob I hg hm ?_ hdb)
  refine PySem.W.callWith_K (h₀ := X.base) I.ok.mod.kin M.kp (thn (ha.run pos pins s σ H _ I h) fun us s1 ⟨vs, H1, I1, r, q⟩ => ⟨I1.kIn, ?_⟩) he hpl
  have hq := q (s1.heap.objs.size + 1) s1.heap.objs.size (I1.hok.fresh (Nat.le_succ _)) (I1.hok.fresh (Nat.le_refl _)) (Nat.ne_of_lt (Nat.lt_succ_self _))
  have I2 := Inv.made (C := C) I1
  have r2 : Vals (V.ref (s1.heap.objs.size + 1) :: vs) (Value.ref (s1.heap.objs.size + 1) :: us) := .cons rfl r
  have hl : (Value.ref (s1.heap.objs.size + 1) :: us).length = ps.length := by
    rw [← r2.length]
    exact F.len _ _ _ _ hq
  refine wpAny_call (make_map (f := f) I1.kIn M.makes M.init (beq_iff_eq.mp M.fn) (codeAny_mono (F.run _ X.stack _ _ ⟨Value.ref (s1.heap.objs.size + 1) :: us, []⟩ (Value.ref (s1.heap.objs.size + 1) :: us) _ _ (E σ) (hr.make C us [])
    (I2.env0.make C us []) (by have b2 := hb _ (Value.ref (s1.heap.objs.size + 1) :: us) I2.kIn (by rw [List.append_nil]; exact hl); rw [List.append_nil] at b2; exact b2) r2 hq) fun r s' hq' => ?_))
  match r, hq' with
  | .error e, hq' => exact hx σ pins _ _ e s' I2 hq'
  | .ok (.ret u), hq' =>
    obtain ⟨v, H', I3, rv, ev, q3⟩ := I2.after hq'
    subst ev
    exact ⟨rv, ⟨V.ref (s1.heap.objs.size + 1), H', I3, rfl, q3⟩⟩
  | .ok .next, hq' => exact False.elim hq'
  | .ok .brk, hq' => exact False.elim hq'
  | .ok .cont, hq' => exact False.elim hq'
end
end Lg

/-! Own exceptions over ValueError in the ledger: made with an own __init__, raised, caught, their field read; objects of own classes. -/
namespace Lg
open PySem PySem.Spec PyProof.Rows L2
/-- what is written of an own exception class with an __init__ -/
def oexB (K : PySem.W.Frag) (C : Addr) : Bool := (match K.lookup C with
  | some ⟨.type "type", _, .cls cd, sl⟩ => (match cd.mro, sl.toList with
    | .ref C' :: bm, [_, _, _, _, some (.builtin n), _] => C' == C && (n == "ValueError.__new__" && (!cd.hasDel && (cd.hasDict && PySem.HandSPX.refsVE bm)))
    | _, _ => false)
  | _ => false) && (decide (PySem.W.findIn K (.ref C) "__setattr__" = some (some (.builtin "object.__setattr__"))) && (decide (PySem.W.subIn K (.ref C) (.type "BaseException") = some true) &&
    (decide (PySem.W.typeIn K (.ref C) = some (.type "type")) && PySem.W.keepIn K (.ref C))))
theorem oexB_ok {K : PySem.W.Frag} {C : Addr} (h : oexB K C = true) : OexC K C := by
  unfold oexB at h
  simp only [Bool.and_eq_true, decide_eq_true_eq] at h
  obtain ⟨q, h1, h2, h3, h4⟩ := h
  refine ⟨?_, h1, h2, h3, h4⟩
  split at q
  · rename_i dd cd sl ho
    split at q
    · rename_i C' bm k0 k1 k2 k3 n k5 hm hs
      simp only [Bool.and_eq_true, beq_iff_eq, Bool.not_eq_true'] at q
      obtain ⟨rfl, rfl, hdel, hdc, hr⟩ := q
      obtain ⟨nm, bs, mro, ns, qn, hd, sn, sub, ab, col, del⟩ := cd
      dsimp only at hm hdel hdc
      subst hm hdel hdc
      have hsl : sl = #[k0, k1, k2, k3, some (.builtin "ValueError.__new__"), k5] := by
        obtain ⟨l⟩ := sl
        simp only at hs
        rw [hs]
      subst hsl
      exact ⟨nm, qn, ns, bs, bm, sn, sub, ab, col, dd, k0, k1, k2, k3, k5, ho, hr⟩
    · cases q
  · cases q
section
variable {K : PySem.W.Frag} {L L' : List Ent} {H : Hp} {σ : L2.St} {Q : VK} {a b d C : Addr} {i : Int} {k : Nat} {v : V} {o : HO} {f : Str}
/-- a cell is given up -/
theorem St.del (h : St K (Lg.own a o :: L) H) : St K L (L2.del H a) := by
  obtain ⟨F, h1, h2⟩ := h.ex
  have hFa : F a = none := (h2 _ (.head _)).1
  have nd := h.nd
  have hn : ∀ e ∈ L, e.adr ≠ some a := fun e he q => by
    have : a ∈ L.filterMap Ent.adr := List.mem_filterMap.mpr ⟨e, he, q⟩
    exact (List.nodup_cons.mp (show (a :: L.filterMap Ent.adr).Nodup from nd)).1 this
  refine ⟨⟨F, fun x u hx => ?_, fun e he => ?_⟩, (List.nodup_cons.mp (show (a :: L.filterMap Ent.adr).Nodup from nd)).2⟩
  · have : x ≠ a := fun z => by rw [z, hFa] at hx; cases hx
    rw [L2.del_ne this]
    exact h1 x u hx
  · have he2 := h2 e (.tail _ he)
    cases e with
    | cell c φ =>
      obtain ⟨h3, o', h4, h5⟩ := he2
      have : c ≠ a := fun z => hn _ he (by rw [z]; rfl)
      exact ⟨h3, o', by rw [L2.del_ne this]; exact h4, h5⟩
    | dat v d => exact he2
    | fact φ => exact he2
/-- the promise of such an __init__ that stores its one argument -/
def spExI (K : PySem.W.Frag) (C : Addr) (f : Str) : Sp := fun vs H Q _ => ∃ (L : List Ent) (a : Addr) (v : V), vs = [.ref a, v] ∧ OexC K C ∧ PySem.W.findIn K (.ref C) f = some none ∧ St K (Lg.own a (exo a C none) :: L) H ∧
  ∀ d H', H d = none → St K (Lg.own d (exd d [(f, v)]) :: Lg.own a (exo a C (some d)) :: L) H' → Q .non H'
theorem p_exi {nx : L2.St → Hp → Prop} {rt : VK} (vs : List V) (h : spExI K C f vs H Q (fun _ _ _ => False)) (hnx : ∀ σ H', Q .non H' → nx σ H') : vs.length = 2 ∧ tOst K f (tVar 0) (tVar 1) { nx := nx, rt := rt } (vs.map some) H := by
  obtain ⟨L, a, v, rfl, hC, hno, hS, hQ⟩ := h
  refine ⟨rfl, v, rfl, .ref a, rfl, a, C, rfl, hC, hno, .inl ⟨hS.own (.head _), fun dx hdx hne => hnx _ _ (hQ dx _ hdx ?_)⟩⟩
  have h1 := hS.alloc hdx (φ := .eq (exd dx [(f, v)])) (o := exd dx [(f, v)]) (fun _ _ _ => rfl)
  have h2 := h1.writeP (φ := .eq (exo a C none)) (ψ := .eq (exo a C (some dx))) (o := exo a C (some dx)) (.there .here) (fun _ _ _ _ _ _ => rfl)
  exact h2
/-- C(e) is made -/
theorem w_mkO {ta : TA} {R : XK} (hS : St K L H) (hC : OexC K C) (hno : PySem.W.findIn K (.ref C) f = some none) (ht : ∀ R : List V → Hp → Prop, R [v] H → ta σ H R) (h : ∀ d H', St K (Lg.own d (.xd [(f, v)]) :: L) H' → R (.ref C) (some d) H') : tMkO C (spExI K C f) [] ta σ H R := by
  refine ht _ ⟨by simp, fun a ha => ⟨L, a, v, by simp, hC, hno, ?_, fun d H' hd hS' => ⟨rfl, d, [(f, v)], ?_, ?_, ?_, ?_⟩⟩⟩
  · exact hS.alloc ha (φ := .eq (exo a C none)) (o := exo a C none) (fun _ _ _ => rfl)
  · exact hS'.own (.tail _ (.head _))
  · exact hS'.own (.head _)
  · by_cases q : d = a
    · rw [q, upd_same] at hd
      cases hd
    · rw [upd_ne q] at hd
      exact hd
  · have h1 : St K (Lg.own a (exo a C (some d)) :: Lg.own d (exd d [(f, v)]) :: L) H' := hS'.perm (List.Perm.swap _ _ _)
    have h2 := h1.del
    exact h d _ (h2.writeP (φ := .eq (exd d [(f, v)])) (ψ := .eq (.xd [(f, v)])) (o := .xd [(f, v)]) .here (fun _ _ _ _ _ _ => rfl))
/-- e.f in a suite -/
theorem w_xf {cls : Value} {fs : List (Str × V)} {te : TE} {x : V} (hS : St K L H) (hm : Lg.own d (.xd fs) ∈ L) (hl : fs.lookup f = some v) (ht : ∀ R : VK, R (.ref a) H → te σ H R) (h : Q v H) : tXf a (.ref C) (some d) C f te σ H Q :=
  ht _ ⟨rfl, rfl, d, fs, v, rfl, hS.own hm, hl, h⟩
end
end Lg

/-! Defs, methods, makers that may raise, as constants of the module; raise; what a suite asks of its exception. -/
namespace Lg
open PySem PySem.Spec PyProof.Rows L2
section
variable {P : Program} {w : World} {K : PySem.W.Frag} {mg : Str → Option Value} {base : Heap}
structure CalX (P : Program) (w : World) (K : PySem.W.Frag) (mg : Str → Option Value) (base : Heap) (k : Nat) (x : Str) (sp : Sp) : Prop where
  ex : ∃ (f : Addr) (fd : FuncData) (ps : List Str), FnOk P w K mg base (L2.CX P w) k f fd ps sp ∧ mg x = some (.ref f) ∧ PySem.W.keepIn K (.ref f) = true ∧ Binds K fd ps []
structure MetX (P : Program) (w : World) (K : PySem.W.Frag) (mg : Str → Option Value) (base : Heap) (k : Nat) (C : Addr) (m : Str) (sp : Sp) : Prop where
  ex : ∃ (f : Addr) (fd : FuncData) (ps : List Str), Cls K C ∧ Meth K C m f ∧ FnOk P w K mg base (L2.CX P w) k f fd ps sp ∧ Binds K fd ps []
structure MakX (P : Program) (w : World) (K : PySem.W.Frag) (mg : Str → Option Value) (base : Heap) (k : Nat) (x : Str) (C : Addr) (sp : Sp) : Prop where
  ex : ∃ (f : Addr) (fd : FuncData) (ps : List Str), Mk K C f ∧ FnOk P w K mg base (L2.CX P w) k f fd ps sp ∧ mg x = some (.ref C) ∧ Binds K fd ps []
/-- an own exception whose __init__ stores its argument in f -/
structure Oex (P : Program) (w : World) (K : PySem.W.Frag) (mg : Str → Option Value) (base : Heap) (k : Nat) (x : Str) (C : Addr) (f : Str) : Prop where
  cls : OexC K C
  no : PySem.W.findIn K (.ref C) f = some none
  ex : ∃ (fI : Addr) (fd : FuncData) (ps : List Str), PySem.W.findIn K (.ref C) "__init__" = some (some (.ref fI)) ∧ PySem.W.typeIn K (.ref fI) = some (.type "function") ∧ FnOk P w K mg base C8.CX0 k fI fd ps (spExI K C f) ∧ mg x = some (.ref C) ∧ Binds K fd ps []
/-- an own exception without an __init__ -/
structure Bex (K : PySem.W.Frag) (mg : Str → Option Value) (x : Str) (C : Addr) : Prop where
  q : PySem.W.excIn K C He.veBase "ValueError.__new__" = true
  g : mg x = some (.ref C)
  k : PySem.W.keepIn K (.ref C) = true
  b : PySem.W.subIn K (.ref C) (.type "BaseException") = some true
  t : PySem.W.typeIn K (.ref C) = some (.type "type")
end
def tRaiseO (C : Addr) (sp : Sp) (W : WX) (ta : TA) : TS := fun _ σ H => tMkO C sp [] ta σ H fun cls d H' => W cls d σ H'
def tRaiseB (C : Addr) (W : WX) : TS := fun _ σ H => W (.ref C) none σ H
section
variable {X : Cx} {k j : Nat} {C : Addr} {x m f : Str} {sp : Sp} {W : WX} {p pos apos pos2 : Pos} {e o : Expr} {es : List Expr} {ta : TE} {t : TA}
theorem pe_cX (c : CalX X.prog X.w X.K X.mg X.base k x sp) (hr : Room j X.A) (hk : k ≤ j) (tk : Takes X W) (hg : Gl X x) (ha : PA X (e :: es) t)
    (hdb : (x == ("__debug__" : Str)) = false := by decide) (he : starEach (e :: es) X.env = (false, eval e X.env) :: starEach es X.env := by rfl) (hpl : (backTo pos (starEach es X.env)).any (·.1) = false := by rfl) :
    PE X (.Call (.Name x p) (e :: es) [] pos) (tCallS sp (WE W) t) := by
  obtain ⟨f, fd, ps, F, hm, kp, b⟩ := c.ex
  exact pe_callS F (hr.mono hk) hg hm kp b (fun σ => passAt tk σ) ha hdb he hpl
theorem pe_kX (c : MakX X.prog X.w X.K X.mg X.base k x C sp) (hr : Room j X.A) (hk : k + 1 ≤ j) (tk : Takes X W) (hg : Gl X x) (ha : PA X (e :: es) t)
    (hdb : (x == ("__debug__" : Str)) = false := by decide) (he : starEach (e :: es) X.env = (false, eval e X.env) :: starEach es X.env := by rfl) (hpl : (backTo pos (starEach es X.env)).any (·.1) = false := by rfl) :
    PE X (.Call (.Name x p) (e :: es) [] pos) (tMakeS C sp (WE W) t) := by
  obtain ⟨f, fd, ps, M, F, hm, b⟩ := c.ex
  exact pe_makeS M F (hr.mono hk) hg hm b (fun σ => passAt tk σ) ha hdb he hpl
theorem pe_mX {pl : Sem Bool} (c : MetX X.prog X.w X.K X.mg X.base k C m sp) (hr : Room j X.A) (hk : k ≤ j) (tk : Takes X W) (he : PE X o ta) (ha : PA X (e :: es) t)
    (hst : starEach (e :: es) X.env = (false, eval e X.env) :: starEach es X.env := by rfl) (hpl : (backTo pos (starEach es X.env)).any (·.1) = false := by rfl)
    (ht : eval (.Call (.Attribute o m apos) (e :: es) [] pos) X.env = (do
      let ov ← eval o X.env
      standAt apos.atName
      let (f, first) ← holding [ov] (getMethod ov m pl)
      callWith pos f first (backTo pos (starEach (e :: es) X.env)) (backToKw pos (keywordEach [] X.env))) := by rfl) :
    PE X (.Call (.Attribute o m apos) (e :: es) [] pos) (tMethS C m sp (WE W) ta t) := by
  obtain ⟨f, fd, ps, hc, hm, F, b⟩ := c.ex
  exact pe_methS (pl := pl) he hc hm F (hr.mono hk) b (fun σ => passAt tk σ) ha hst hpl ht
theorem pe_mX0 {pl : Sem Bool} (c : MetX X.prog X.w X.K X.mg X.base k C m sp) (hr : Room j X.A) (hk : k ≤ j) (tk : Takes X W) (he : PE X o ta)
    (ht : eval (.Call (.Attribute o m apos) [] [] pos) X.env = (do
      let ov ← eval o X.env
      standAt apos.atName
      let (f, first) ← holding [ov] (getMethod ov m pl)
      callWith pos f first (backTo pos (starEach [] X.env)) (backToKw pos (keywordEach [] X.env))) := by rfl) :
    PE X (.Call (.Attribute o m apos) [] [] pos) (tMethS C m sp (WE W) ta tNil) := by
  obtain ⟨f, fd, ps, hc, hm, F, b⟩ := c.ex
  exact pe_methS0 (pl := pl) he hc hm F (hr.mono hk) b (fun σ => passAt tk σ) ht
theorem ps_rO (c : Oex X.prog X.w X.K X.mg X.base k x C f) (hc : X.calm = true) (hr : Room j X.A) (hk : k + 1 ≤ j) (tk : Takes X W) (hg : Gl X x) (ha : PA X (e :: es) t)
    (hdb : (x == ("__debug__" : Str)) = false := by decide) (he : starEach (e :: es) X.env = (false, eval e X.env) :: starEach es X.env := by rfl) (hpl : (backTo pos (starEach es X.env)).any (·.1) = false := by rfl) :
    PS X (.Raise (some (.Call (.Name x p) (e :: es) [] pos)) none pos2) (tRaiseO C (spExI X.K C f) W t) := by
  obtain ⟨fI, fd, ps, iC, tI, F, hm, b⟩ := c.ex
  exact ps_raise hc tk (pmk_oex c.cls iC tI F (hr.mono hk) b .nil C8.pass0 hg hm ha hdb he hpl)
theorem ps_rB {jj : Nat} {p2 : Pos} (c : Bex X.K X.mg x C) (hc : X.calm = true) (tk : Takes X W) (hg : Gl X x) (hdb : (x == ("__debug__" : Str)) = false := by decide) :
    PS X (.Raise (some (.Call (.Name x p) [.Constant (.str m) jj p2] [] pos)) none pos2) (tRaiseB C W) := ps_raise hc tk (pmk_own PySem.F.excBase_ValueError c.q c.g c.k (raises_own c.b c.t) hg hdb)
theorem c_max2 {X : Cx} (hc : X.calm = true) : CallR X (.builtin "max") rMax2 := call_max2 hc
theorem c_min2 {X : Cx} (hc : X.calm = true) : CallR X (.builtin "min") rMin2 := call_min2 hc
/-- try: what the body reads, W being what the clauses wish -/
def tTry (tb : WX → TS) (K : PySem.W.Frag) (Wout : WX) (l : List Cl) : TS := fun D σ H => tb (wMix K Wout D l) D σ H
theorem takesF {X : Cx} : Takes X (fun _ _ _ _ => False) := takes_none5
/-! a suite -/
/-- e.f: the exception is of the class at C, its dict at d -/
theorem pe_xfC {a : Addr} {oe : Obj} {cls : Value} {d : Option Addr} {pn : List (Addr × Obj)} {e : Expr} {te : TE} {n : Str} (T : xfB X.K C = true) (hno : PySem.W.findIn X.K (.ref C) n = some none)
    (hz : Zc cls d oe) (hf : ∃ vs, oe.data = .fields vs) (he : PE (X.suite a ((a, oe) :: pn)) e te) (hb : attributeBase e n X.env (eval e X.env) = eval e X.env := by rfl) :
    PE (X.suite a ((a, oe) :: pn)) (.Attribute e n pos) (tXf a cls d C n te) := pe_xf (xfB_ok T) hno hz hf he hb
/-- isinstance(e, c), the exception being of the class at D, without a dict -/
def tIsE (K : PySem.W.Frag) (D a : Addr) (cls : Value) (d : Option Addr) (t : TA) : TE := fun σ H Q => cls = .ref D ∧ d = none ∧ tCB (rIsE K D a) t σ H Q
theorem pe_isE {a D : Addr} {oe : Obj} {cls : Value} {d : Option Addr} {pn : List (Addr × Obj)} {e : Expr} {es : List Expr} {t : TA} (C : ExcC X.K D) (hz : Zc cls d oe) (hf : ∃ vs, oe.data = .fields vs) (hg : Gl X "isinstance") (hm : X.mg "isinstance" = none)
    (ha : PA (X.suite a ((a, oe) :: pn)) (e :: es) t) (he : starEach (e :: es) X.env = (false, eval e X.env) :: starEach es X.env := by rfl) (hpl : (backTo pos (starEach es X.env)).any (·.1) = false := by rfl) :
    PE (X.suite a ((a, oe) :: pn)) (.Call (.Name "isinstance" p) (e :: es) [] pos) (tIsE X.K D a cls d t) := by
  refine ⟨fun pins s σ H Q I h => ?_⟩
  obtain ⟨rfl, rfl, h⟩ := h
  exact (pe_callB (X := X.suite a ((a, oe) :: pn)) (call_isE C hz hf) hg hm (by decide +kernel) ha (by decide) (by decide) he hpl).run pins s σ H Q I h
def excB (K : PySem.W.Frag) (D : Addr) : Bool := decide (PySem.W.findIn K (.ref D) "__getattribute__" = some (some (.builtin "BaseException.__getattribute__"))) && (decide (PySem.W.findIn K (.ref D) "__getattr__" = some none) && (decide (PySem.W.subIn K (.ref D) (.type "BaseException") = some true) &&
  (PySem.W.hasDictIn K D && (decide (PySem.W.findIn K (.ref D) "__class__" = some (some (.builtin "object.__class__"))) && (decide (PySem.W.specialIn K (.builtin "object.__class__") "__get__" = some (some (.builtin "getset_descriptor.__get__"))) &&
  (decide (PySem.W.takesIn K (.builtin "object.__class__") = some true) && decide (PySem.W.mroIn K D (.type "object") = some true)))))))
theorem excB_ok {K : PySem.W.Frag} {D : Addr} (h : excB K D = true) : ExcC K D := by
  unfold excB at h
  simp only [Bool.and_eq_true, decide_eq_true_eq] at h
  obtain ⟨h1, h2, h3, h4, h5, h6, h7, h8⟩ := h
  exact ⟨h1, h2, h3, h4, h5, h6, h7, h8⟩
end
end Lg

/-! Tuples cut and joined, list.pop, fields of objects, makers, methods, raise and try in the ledger. -/
namespace Lg
open PySem PySem.Spec PyProof.Rows L2
section
variable {K : PySem.W.Frag} {L L' : List Ent} {H : Hp} {σ : L2.St} {Q : VK} {a b C dx : Addr} {i : Int} {k : Nat} {v x : V} {d : PyData} {ds es : List PyData} {fs : List (Str × V)} {f m : Str} {ta tv : TE} {t : TA} {D : Ends} {sp : Sp}
theorem w_plusT (hS : St K L H) (h1 : Is L (.ref a) (.tuple ds)) (h2 : Is L (.ref b) (.tuple es)) (hn : ds.length + es.length ≤ 100000) (h : ∀ v H', St K (Lg.dat v (.tuple (ds ++ es)) :: L) H' → Q v H') : rPlus K (.ref a) (.ref b) H Q := by
  obtain ⟨xs, ha, hS1⟩ := hS.tupF h1
  obtain ⟨ys, hb, hS2⟩ := hS1.tupF h2.cons
  obtain ⟨F0, _, hF0⟩ := hS2.ex
  have l1 : xs.length = ds.length := (hF0 _ (.tail _ (.head _))).2.len
  have l2 : ys.length = es.length := (hF0 _ (.head _)).2.len
  refine .inr (.inr (.inr ⟨a, b, xs, ys, rfl, rfl, ha, hb, ?_, fun e => ?_, fun _ e => ?_, fun _ _ p hp => ?_⟩))
  · rw [l1, l2]; exact Nat.le_trans hn (by decide)
  · have : ds = [] := List.length_eq_zero_iff.mp (by rw [← l1, e]; rfl)
    rw [this] at h
    exact h _ _ (hS.learn h2)
  · have : es = [] := List.length_eq_zero_iff.mp (by rw [← l2, e]; rfl)
    rw [this, List.append_nil] at h
    exact h _ _ (hS.learn h1)
  · have h3 := hS2.fresh hp (d := .tuple (ds ++ es)) (v := .ref p) (o := .tup (xs ++ ys)) (fun F hF _ q => .tup (SqT.of upd_same) (DvAll.mono (Ex.new hF) _ _ (DvAll.app (q _ (.tail _ (.head _))).2 (q _ (.head _)).2)))
    exact h _ _ (h3.to (.cons .here (.drop (.drop .refl))))
theorem w_slT {lo hi : Option Int} (hS : St K L H) (h1 : Is L (.ref a) (.tuple ds)) (h : ∀ v H', St K (Lg.dat v (.tuple (cutD ds lo hi)) :: L) H' → Q v H') : rSlX K (.ref a) lo hi H Q := by
  obtain ⟨xs, ha, hS1⟩ := hS.tupF h1
  obtain ⟨F0, _, hF0⟩ := hS1.ex
  have l1 : xs.length = ds.length := (hF0 _ (.head _)).2.len
  refine .inr (.inr ⟨a, xs, rfl, ha, fun e => ?_, fun _ p hp => ?_⟩)
  · have e2 : cutD ds lo hi = ds := by
      unfold cutD
      rw [← l1, e.1, e.2, List.drop_zero, Nat.sub_zero, l1, List.take_length]
    rw [e2] at h
    exact h _ _ (hS.learn h1)
  · have h3 := hS1.fresh hp (d := .tuple (cutD ds lo hi)) (v := .ref p) (o := .tup (cutV xs lo hi)) (fun F hF _ q => .tup (SqT.of upd_same) (DvAll.mono (Ex.new hF) _ _ (by
      have q2 := (q _ (.head _)).2
      unfold cutV cutD
      rw [l1]
      exact (q2.drop _).take _)))
    exact h _ _ (h3.to (.cons .here (.drop .refl)))
theorem w_tupT (hS : St K L H) (h1 : Is L (.ref a) (.tuple ds)) (h : Q (.ref a) H) : rTupOf K [.ref a] H Q := by
  obtain ⟨xs, ha, _⟩ := hS.tupF h1
  exact ⟨a, xs, rfl, .inr ⟨ha, h⟩⟩
theorem St.tf {xs : List V} (hS : St K L H) (hm : Ent.fact (Fr.tupf K a xs ds) ∈ L) : SqT K H a xs ∧ xs.length = ds.length ∧ ∀ (i : Nat) (d : PyData) (v : V), ds[i]? = some d → xs[i]? = some v → St K (.dat v d :: L) H := by
  obtain ⟨F, h1, h2⟩ := hS.ex
  have h3 := h2 _ hm
  refine ⟨h1.sqT h3.1, h3.2.len, fun i d v hd hv => ?_⟩
  obtain ⟨u, hu, hdv⟩ := h3.2.get hd
  rw [hv] at hu
  cases hu
  refine ⟨⟨F, h1, fun e he => ?_⟩, hS.nd⟩
  cases he with
  | head => exact hdv
  | tail _ he => exact h2 e he
/-- a comprehension over a tuple (St.tupF ahead) -/
theorem w_lcT {R : Nat → PyData → Prop} {xs : List V} {g : TG} {te : TE} {vs : List Nat} (hS : St K L H) (hm : Ent.fact (Fr.tupf K a xs ds) ∈ L) (hn : ds.length ≤ 100000)
    (hs : ∀ i d q es v H, ds[i]? = some d → es.length = i → St K (.dat v d :: .cell q (.ls K es) :: L) H → ∀ Z : VK, (∀ y e H3, R i e → St K (.dat y e :: .cell q (.ls K es) :: L) H3 → Z y H3) → g v (wipe σ vs) H fun σ2 H2 => wipe σ2 vs = wipe σ vs ∧ te σ2 H2 Z)
    (h : ∀ q es H', es.length = ds.length → (∀ i e, es[i]? = some e → R i e) → St K (.cell q (.ls K es) :: L) H' → Q (.ref q) H') : LcW (Itt K a) g tYes te vs σ H Q := by
  have hl := (hS.tf hm).2.1
  refine lc_mk R hn hS (fun i H es q hi h1 => ?_) (fun H es q h1 => ?_) (fun i q es H x H' hi hlen h1 y Z hZ => ?_) h
  · exact ⟨xs, xs[i]'(by omega), (h1.tf (.tail _ hm)).1, List.getElem?_eq_getElem (by omega)⟩
  · exact ⟨xs, (h1.tf (.tail _ hm)).1, Nat.le_of_eq hl⟩
  · obtain ⟨rfl, y⟩ := y
    obtain ⟨s1, _, s3⟩ := h1.tf (.tail _ hm)
    exact hs i ds[i] q es _ H' (by simp [hi]) hlen (s3 i ds[i] x (by simp [hi]) (y xs s1)) Z hZ
/-! objects -/
theorem w_fldE (h : ta σ H fun x H1 => ∃ a C dx fs v, x = .ref a ∧ H1 a = some (.ins C dx fs) ∧ Cls K C ∧ NoAttr K C f ∧ fs.lookup f = some v ∧ Q v H1) : tFld K ta f σ H Q := h
theorem w_fld {R : V → Prop} (hS : St K L H) (hm : Lg.own a (.ins C dx fs) ∈ L) (hC : Cls K C) (hn : NoAttr K C f) (hl : fs.lookup f = some v) (h : R v) : ∃ a' C dx fs v, (V.ref a) = .ref a' ∧ H a' = some (.ins C dx fs) ∧ Cls K C ∧ NoAttr K C f ∧ fs.lookup f = some v ∧ R v :=
  ⟨a, C, dx, fs, v, rfl, hS.own hm, hC, hn, hl, h⟩
theorem len_put {g : Str} {y : V} {gs : List (Str × V)} {n : Nat} (h : gs.length ≤ n) : (putF g y gs).length ≤ n + 1 := Nat.le_trans (length_putF _ _ _) (by omega)
theorem w_sfldE (h : tv σ H fun y H1 => ta σ H1 fun x H2 => ∃ a C dx fs, x = .ref a ∧ H2 a = some (.ins C dx fs) ∧ Cls K C ∧ NoAttr K C f ∧ fs.length < 1000 ∧ D.nx σ (upd H2 a (.ins C dx (putF f y fs)))) : sFld K ta tv f D σ H := h
theorem w_sfld {R : Hp → Prop} (hS : St K L H) (hp : Put L (Lg.own a (.ins C dx fs)) (Lg.own a (.ins C dx (putF f v fs))) L') (hC : Cls K C) (hn : NoAttr K C f) (hl : fs.length < 1000) (h : ∀ H', St K L' H' → R H') :
    ∃ a' C dx fs, (V.ref a) = .ref a' ∧ H a' = some (.ins C dx fs) ∧ Cls K C ∧ NoAttr K C f ∧ fs.length < 1000 ∧ R (upd H a' (.ins C dx (putF f v fs))) :=
  ⟨a, C, dx, fs, rfl, hS.own hp.mem, hC, hn, hl, h _ (hS.writeP hp fun _ _ _ _ _ _ => rfl)⟩
theorem w_makeE {E : XK} (h : t σ H fun vs H1 => ∀ x dx, H1 x = none → H1 dx = none → dx ≠ x → sp (.ref x :: (vs ++ [])) (upd (upd H1 dx (.own x)) x (.ins C dx [])) (fun v H2 => v = .non ∧ Q (.ref x) H2) E) : tMake C sp [] E t σ H Q := h
/-- a new object's place -/
theorem St.born (hS : St K L H) (hx : H a = none) (hd : H dx = none) (hne : dx ≠ a) : St K (Lg.own a (.ins C dx []) :: Lg.own dx (.own a) :: L) (upd (upd H dx (.own a)) a (.ins C dx [])) := by
  have h1 := hS.alloc hd (φ := .eq (.own a)) (o := .own a) (fun _ _ _ => rfl)
  exact h1.alloc (by rw [upd_ne (Ne.symm hne)]; exact hx) (φ := .eq (.ins C dx [])) (o := .ins C dx []) (fun _ _ _ => rfl)
theorem w_methE {E : XK} (h : ta σ H fun x H1 => ∃ a dx fs, x = .ref a ∧ H1 a = some (.ins C dx fs) ∧ fs.lookup m = none ∧ t σ H1 fun vs H2 => sp (x :: (vs ++ [])) H2 Q E) : tMeth C m sp [] E ta t σ H Q := h
theorem w_meth {R : Prop} (hS : St K L H) (hm : Lg.own a (.ins C dx fs) ∈ L) (hl : fs.lookup m = none) (h : R) : ∃ a' dx fs, (V.ref a) = .ref a' ∧ H a' = some (.ins C dx fs) ∧ fs.lookup m = none ∧ R := ⟨a, dx, fs, rfl, hS.own hm, hl, h⟩
theorem w_methSE {E : L2.St → XK} (h : ta σ H fun x H1 => ∃ a dx fs, x = .ref a ∧ H1 a = some (.ins C dx fs) ∧ fs.lookup m = none ∧ t σ H1 fun vs H2 => sp (x :: vs) H2 Q (E σ)) : tMethS C m sp E ta t σ H Q := h
theorem w_callS {E : L2.St → XK} (h : t σ H fun vs H1 => sp vs H1 Q (E σ)) : tCallS sp E t σ H Q := h
theorem w_raiseO {W : WX} (h : tMkO C sp [] t σ H fun cls d H' => W cls d σ H') : tRaiseO C sp W t D σ H := h
theorem w_raiseB {W : WX} (h : W (.ref C) none σ H) : tRaiseB C W D σ H := h
theorem w_try {tb : WX → TS} {Wout : WX} {l : List Cl} (h : tb (wMix K Wout D l) D σ H) : tTry tb K Wout l D σ H := h
/-- the last of a list of data -/
theorem w_popL (hS : St K L H) (hp : Put L (Lg.ls K a (ds ++ [d])) (Lg.ls K a ds) L') (h : ∀ v H', St K (Lg.dat v d :: L') H' → Q v H') : rPop (.ref a) [] H Q := by
  obtain ⟨xs, v, h3, h5, h4, h6⟩ := hS.item (.own hp.mem) (k := ds.length) (d := d) (by simp)
  have hlen : xs.length = ds.length + 1 := by rw [h4]; simp
  refine ⟨a, xs, v, rfl, rfl, h3, by rw [hlen]; exact h5, h _ _ ?_⟩
  refine h6.writeP (.there hp) fun F x e q hx hφ => ?_
  obtain ⟨zs, rfl, hzs⟩ := hφ
  rw [h3] at hx
  cases hx
  refine ⟨_, rfl, ?_⟩
  have h7 := hzs.take ds.length
  rw [List.take_left] at h7
  rw [List.dropLast_eq_take, hlen]
  exact h7
end
end Lg

/-! x in (a, b, ..), items of any form. -/
namespace Lg
open PySem PySem.Spec PyProof.Rows L2
def rInT (K : PySem.W.Frag) (neg : Bool) : R2 := fun x y H Q => ∃ d ds, Dp K H x d ∧ Dp K H y (.tuple ds) ∧ SeqAt.shaped d = true ∧ SeqAt.shaped (.tuple ds) = true ∧ Q (.bl (if neg then !(ds.any fun z => PyData.eqv z d) else ds.any fun z => PyData.eqv z d)) H
theorem units65 {k : Nat} {A : Around} (hr : Room k A) : A.units + 66 < cLine := by
  have := hr.un
  omega
theorem shaped_depth {d : PyData} (h : SeqAt.shaped d = true) : d.depth ≤ 64 := by
  unfold SeqAt.shaped at h
  simp only [Bool.and_eq_true, decide_eq_true_eq] at h
  exact h.2
section
variable {X : Cx}
theorem o_inT (hu : X.A.units + 66 < cLine) : OpR X (compareOp .In) (rInT X.K false) := by
  intro pins s σ H x y v u Q I rx ry h
  obtain ⟨d, ds, hd, he, sd, se, q⟩ := h
  obtain ⟨as, r1⟩ := Dp.reads I d x v hd rx
  obtain ⟨bs, r2⟩ := Dp.reads I (.tuple ds) y u he ry
  have := shaped_depth sd
  exact SeqAt.in_tuple_reads r2 r1 (SeqAt.canLay_of_shaped se) (SeqAt.canLay_of_shaped sd) (by omega) ⟨.bl _, H, I, rfl, q⟩
theorem o_notinT (hu : X.A.units + 66 < cLine) : OpR X (compareOp .NotIn) (rInT X.K true) := by
  intro pins s σ H x y v u Q I rx ry h
  obtain ⟨d, ds, hd, he, sd, se, q⟩ := h
  obtain ⟨as, r1⟩ := Dp.reads I d x v hd rx
  obtain ⟨bs, r2⟩ := Dp.reads I (.tuple ds) y u he ry
  have := shaped_depth sd
  exact SeqAt.notIn_tuple_reads r2 r1 (SeqAt.canLay_of_shaped se) (SeqAt.canLay_of_shaped sd) (by omega) ⟨.bl _, H, I, rfl, q⟩
end
section
variable {K : PySem.W.Frag} {L : List Ent} {H : Hp} {Q : VK} {a : Addr} {x : V} {d : PyData} {ds : List PyData} {neg : Bool}
theorem w_inD (hS : St K L H) (hx : See K L x d) (hy : Is L (.ref a) (.tuple ds)) (s1 : SeqAt.shaped d = true) (s2 : SeqAt.shaped (.tuple ds) = true) (h : Q (.bl (if neg then !(ds.any fun z => PyData.eqv z d) else ds.any fun z => PyData.eqv z d)) H) : rInT K neg x (.ref a) H Q :=
  ⟨d, ds, hx.dp hS, hS.dp hy, s1, s2, h⟩
end
end Lg

/-! for over enumerate; lists of lists -/
namespace Lg
open PySem PySem.Spec PyProof.Rows L2
section
variable {K : PySem.W.Frag} {L L' : List Ent} {H : Hp} {Q : VK} {a : Addr} {ds : List PyData} {g : TG} {tbody : TS} {D : Ends} {σ : L2.St}
theorem w_forE (I : Nat → L2.St → Hp → Prop) (h0 : I 0 σ H) (hI : ∀ i σ H, i ≤ ds.length → I i σ H → ∃ L, St K L H ∧ LsIn K L a ds)
    (hs : ∀ i d T σ H H', ds[i]? = some d → I i σ H → (∀ L, St K L H → LsIn K L a ds → St K (.dat (.ref T) (.tuple [.int (i : Nat), d]) :: L) H') → g (.ref T) σ H' fun σ2 H2 => tbody { D with nx := I (i + 1), ct := I (i + 1), bk := D.nx } σ2 H2)
    (hd : ∀ σ H, I ds.length σ H → D.nx σ H) : ForW (Ite K a) g tbody D σ H := by
  refine ⟨fun i m σ H => m = ds.length - i ∧ i ≤ ds.length ∧ I i σ H, ⟨ds.length, by simp, Nat.zero_le _, h0⟩, ?_⟩
  rintro i m σ H ⟨rfl, hi, p⟩
  obtain ⟨L, hS, hl⟩ := hI i σ H hi p
  by_cases hlt : i < ds.length
  · obtain ⟨xs, v, h3, h5, hlen, h6⟩ := hS.item hl (k := i) (d := ds[i]) (by simp [hlt])
    refine .inr ⟨⟨xs, v, SqL.of h3, h5⟩, I (i + 1), fun σ' H' p' => ⟨ds.length - (i + 1), by omega, rfl, hlt, p'⟩, fun x H' y => ?_⟩
    obtain ⟨T, x', rfl, hT, rfl, y⟩ := y
    have hx : xs[i]? = some x' := y xs (SqL.of h3)
    have hxv : v = x' := by rw [h5] at hx; exact Option.some.inj hx
    subst hxv
    refine hs i ds[i] T σ H _ (by simp [hlt]) p fun L2 hS2 hl2 => ?_
    obtain ⟨xs2, v2, k3, k5, _, k6⟩ := hS2.item hl2 (k := i) (d := ds[i]) (by simp [hlt])
    rw [h3] at k3
    cases k3
    rw [h5] at k5
    cases k5
    have h7 := k6.fresh (o := .tup [.int (i : Nat), v]) (v := .ref T) (d := .tuple [.int (i : Nat), ds[i]]) hT fun F hF e q => .tup (SqT.of upd_same) (.cons (.int _) (.cons (Dv.mono (Ex.new hF) _ _ (q _ (.head _))) .nil))
    exact h7.to (.cons .here (.drop .refl))
  · have e : i = ds.length := by omega
    subst e
    obtain ⟨xs, h3, h4⟩ := hS.lenl hl
    exact .inl ⟨⟨xs, SqL.of h3, Nat.le_of_eq h4⟩, hd σ H p⟩
end
end Lg

/-! len(set(texts)): any number of texts, alike ones among them -/
namespace Lg
open PySem PySem.Spec PyProof.Rows L2
abbrev empS (led : Bool) : Obj := { cls := .type "set", dict := none, data := .set #[] 0 (.fresh 0 0 led) }
/-- a set that holds the texts of l, of which there are n -/
def Holds (prog : Program) (w : World) (z : Heap) (S : Addr) (l : List Str) (n : Nat) : Prop := ∃ f : Str → Bool, (∀ k, f k = true ↔ k ∈ l) ∧ z.SetOf (PySem.strKind prog w) S f n ∧ n ≤ l.length ∧ (n = l.length ↔ l.Nodup)
section
variable {prog : Program} {w : World} {A : Around} {R : Result → Shared → Prop} {I : Addr} {fp wr : List Addr} {G : Array GenState → Array GenState → Prop} {n : Nat} {P : Nat → Value → Prop} {T : Nat → Shared → Prop}
theorem Holds.get {z z' : Heap} {S : Addr} {l : List Str} {m : Nat} (h : Holds prog w z S l m) (k : ∀ o, z.get? S = some o → z'.get? S = some o) : Holds prog w z' S l m := by
  obtain ⟨f, h1, ⟨o, es, ep, t, ho, rest⟩, h3⟩ := h
  exact ⟨f, h1, ⟨o, es, ep, t, k _ ho, rest⟩, h3⟩
theorem setLoop (W : WalksS prog w A.in1 I fp wr G n P T) (S : Addr) (out : S ∉ fp) (xs : List Str) (len : xs.length = n) (few : n ≤ 4000)
    (vals : ∀ i v, P i v → ∃ t x, xs[i]? = some x ∧ v = .str x t) :
    ∀ (k i : Nat) (u : Shared), n - i = k → i ≤ n → T i u → (∃ m, Holds prog w u.heap S (xs.take i) m) →
      (∀ u', Moved (S :: wr) G u u' → (∃ m, Holds prog w u'.heap S xs m) → R (.ok (.ret .none)) u') →
      codeAny (model prog w) A (.builtin "set.update.loop" ⟨[.ref S, .ref I], []⟩) R u := by
  have outw : S ∉ wr := fun z => out (W.sub _ z)
  have more : ∀ b ∈ wr, b ∈ S :: wr := fun b hb => .tail _ hb
  intro k
  induction k with
  | zero =>
    intro i u hk hi hT ⟨m, hm⟩ fin
    obtain rfl : i = n := by omega
    refine codeAny_builtin PyProof.Rows.F.entry_set_update_loop ?_
    rw [Around.under_plainId PyProof.Rows.F.plain_set_update_loop _]
    refine wpAny_bind (W.done u _ _ hT fun u' mv => wpAny_pure (fin u' (mv.mono more) ⟨m, ?_⟩))
    rw [← len, List.take_length] at hm
    exact hm.get fun o ho => mv.heap S o outw ho
  | succ k ih =>
    intro i u hk hi hT ⟨m, hm⟩ fin
    have hlt : i < n := by omega
    refine codeAny_builtin PyProof.Rows.F.entry_set_update_loop ?_
    rw [Around.under_plainId PyProof.Rows.F.plain_set_update_loop _]
    refine wpAny_bind (W.item i u _ _ hlt hT fun v u' hP hT' mv => ?_)
    obtain ⟨t, x, hx, rfl⟩ := vals i v hP
    obtain ⟨f, f1, f2, f3, f4⟩ := hm.get (z' := u'.heap) fun o ho => mv.heap S o outw ho
    refine wpAny_bind (wpAny_holding ?_)
    unfold setAdd
    refine wpAny_holding (wpAny_bind ((PySem.strKind prog w).pyHash (k := x) (strKind_is _ _ _ _) ?_))
    have li : (xs.take i).length ≤ 4000 := by rw [List.length_take]; omega
    refine wpAny_setAddHashed_of (knd := PySem.strKind prog w) (s := { u' with toks := u'.toks + 1 }) (strKind_is _ _ _ _) rfl f2 (by unfold scanBound; omega) fun z sb new => ?_
    have tk : xs.take (i + 1) = xs.take i ++ [x] := by rw [List.take_succ, hx]; rfl
    have lt : (xs.take i).length = i := by rw [List.length_take]; omega
    refine wpAny_pure ⟨plainId_quiet PyProof.Rows.F.plain_set_update_loop _, ih (i + 1) _ (by omega) hlt (W.frame _ u' _ _ hT' (Nat.le_succ _) fun b hb o e => ?_) ⟨_, _, ?_, new, ?_⟩ fun u2 mv2 h2 => ?_⟩
    · rw [sb.2 b (fun z => out (by rw [← z]; exact hb))]; exact e
    · intro q
      rw [tk, List.mem_append, Bool.or_eq_true, f1 q, decide_eq_true_eq, List.mem_singleton]
    · rw [tk, List.length_append, List.nodup_append]
      by_cases hf : f x = true
      · rw [if_pos hf]
        refine ⟨by simp; omega, ⟨fun z => ?_, fun z => ?_⟩⟩
        · simp at z; omega
        · exact absurd rfl (z.2.2 x ((f1 x).mp hf) x (List.mem_singleton.mpr rfl))
      · rw [if_neg hf]
        have nx : x ∉ xs.take i := fun z => hf ((f1 x).mpr z)
        refine ⟨by simp; omega, ⟨fun z => ?_, fun z => ?_⟩⟩
        · refine ⟨f4.mp (by simp at z; omega), by simp, fun y hy y' hy' e => ?_⟩
          rw [List.mem_singleton] at hy'
          subst hy'
          subst e
          exact nx hy
        · have := f4.mpr z.1
          simp; omega
    · refine fin u2 (Moved.trans W.gtrans ((mv.mono more).then_heap (Nat.le_succ _) fun b o hb e => ?_) mv2) h2
      rw [sb.2 b (fun z => hb (by rw [z]; exact .head _))]; exact e
end
section
variable {prog : Program} {w : World} {A : Around} {E : Value → Shared → Prop} {u : Shared}
theorem texts_at {us : List Value} {xs : List Str} (h : StrsAre us xs) : ∀ {i : Nat} {v : Value}, us[i]? = some v → ∃ t, v = .str (xs.getD i Str.empty) t := by
  induction h with
  | nil => intro i v e; simp at e
  | cons n t _ ih =>
    intro i v e
    cases i with
    | zero => simp at e; exact ⟨t, e.symm⟩
    | succ i => simpa using ih (by simpa using e)
/-- set(a tuple of texts) -/
theorem setOfTup {l : Addr} {its : Array Value} {xs : List Str} {Q : Value → Shared → Prop} (quiet : A.handled = none) (tup : u.heap.IsTuple l its) (are : StrsAre its.toList xs) (few : xs.length ≤ 4000)
    (fin : ∀ (z : Heap) (tk m : Nat), Holds prog w z u.heap.objs.size xs m → (∀ b o, b < u.heap.objs.size → u.heap.get? b = some o → z.get? b = some o) → Q (.ref u.heap.objs.size) { u with heap := z, toks := tk }) :
    wpAny (model prog w) A (call (.type "set") [.ref l]) Q E u := by
  obtain ⟨c, tl, hmro⟩ := PySem.F.called_set.mro
  have m1 := PySem.F.called_set.made
  have m2 := PySem.F.called_set.sub
  have m3 := PySem.F.called_set.notType
  have m4 := PySem.F.called_set.canCreate
  have m5 := PySem.F.typeCall_set_1 (.ref l)
  refine wpAny_call (codeAny_of_tree (show wpAny _ _ (callAny (.type "set") _) _ _ _ from ?_))
  refine wpAny_pure ⟨Code.quiet_builtin _ (by decide +kernel), codeAny_builtin PySem.F.entry_type_call ?_⟩
  rw [Around.under_plain (weight_type_call_type "set" [.ref l] []) rfl]
  repeat (any_goals (first | assumption | wp_step))
  refine codeAny_mono (code_set_new_1 (.ref l) (E := E) (Q₁ := fun v u1 => ∃ led : Bool, v = .ref u.heap.objs.size ∧ u1 = { u with heap := u.heap.push (empS led) }) fun led => ⟨led, rfl, rfl⟩) fun r u1 hr => ?_
  cases r with
  | error e => exact hr
  | ok fl =>
    cases fl with
    | ret v =>
      obtain ⟨led, rfl, rfl⟩ := hr
      have g1 : (u.heap.push (empS led)).get? u.heap.objs.size = some (empS led) := Heap.get?_push_size _ rfl
      have g2 : Shared.TypeIs { u with heap := u.heap.push (empS led) } (.ref u.heap.objs.size) "set" := ⟨_, g1, rfl⟩
      have g3 := PySem.F.called_set.init.lookup
      have g4 := PySem.F.called_set.init.bind (.ref u.heap.objs.size)
      repeat (any_goals (first | assumption | wp_step))
      refine codeAny_mono (codeAny_call_builtin (R := wants (fun r u2 => r = .none ∧ ∃ z tk m, u2 = { u with heap := z, toks := tk } ∧ Holds prog w z u.heap.objs.size xs m ∧
          (∀ b o, b < u.heap.objs.size → u.heap.get? b = some o → z.get? b = some o)) E) PySem.F.called_set.init.plain PySem.F.entry_set_init (check_set_init_1 g2 ?_)) fun r u2 hr2 => ?_
      · obtain ⟨⟨oc, od, odt, osl⟩, ho, hc, nl, hd⟩ := tup
        dsimp only at hc hd
        subst hc
        subst hd
        have t1 : (u.heap.push (empS led)).get? l = some { cls := .type "tuple", dict := od, data := .seq its nl, slots := osl } := Heap.get?_push_of_some _ ho
        have t2 := PySem.F.sub_tuple_set
        have t3 := PySem.F.sub_tuple_frozenset
        have t4 : (Value.type "tuple" == Value.type "dict") = false := by decide
        have t5 : (u.heap.push (empS led)).IsTuple l its := ⟨_, t1, rfl, nl, rfl⟩
        unfold Builtin.«set.__init__» noKeywords Builtin.Frozenset.updateFrom
        generalize hPI : pyIter = PI
        wp_walk
        subst hPI
        refine wpAny_pyIter_tuple t5 (wpAny_bind (wpAny_runValue ?_))
        have sz : (u.heap.push (empS led)).objs.size = Nat.succ u.heap.objs.size := by rw [Heap.size_push]
        have lt : l < u.heap.objs.size := Heap.lt_size ho
        have len : xs.length = its.size := by rw [← StrsAre.len_eq are, Array.length_toList]
        have ne1 : l ≠ (u.heap.push (empS led)).objs.size := by rw [sz]; exact Nat.ne_of_lt (Nat.lt_succ_of_lt lt)
        have out : u.heap.objs.size ∉ [(u.heap.push (empS led)).objs.size, l] := by
          intro z
          rcases List.mem_cons.mp z with z | z
          · rw [sz] at z
            exact Nat.ne_of_lt (Nat.lt_succ_self _) z
          · rw [List.mem_singleton] at z
            rw [← z] at lt
            exact Nat.lt_irrefl _ lt
        refine setLoop ((Walks.tuple (by simp [quiet]) _ l ne1 its).toS) u.heap.objs.size out xs len (by omega) (fun i v hv => ?_) (its.size - 0) 0 _ (by omega) (Nat.zero_le _)
          ⟨⟨_, Heap.get?_push_size _ rfl, rfl, rfl⟩, (t5.push _)⟩ ⟨0, fun _ => false, fun k => by simp, ?_, by simp, by simp⟩ fun u3 mv h3 => ?_
        · have hv' : its.toList[i]? = some v := by rw [Array.getElem?_toList]; exact hv
          obtain ⟨t, e⟩ := texts_at are hv'
          have il : i < xs.length := by
            have := (List.getElem?_eq_some_iff.mp hv').1
            rw [Array.length_toList] at this
            omega
          exact ⟨t, xs[i], List.getElem?_eq_getElem il, by rw [e, List.getD_eq_getElem?_getD, List.getElem?_eq_getElem il]; rfl⟩
        · exact (PyProof.Rows.setObjOf_fresh (knd := PySem.strKind prog w) led).setOf (Heap.get?_push_of_some _ g1) (by unfold scanBound; omega)
        · obtain ⟨m, h3⟩ := h3
          obtain ⟨z, gz, dz, tz, oz⟩ := u3
          obtain rfl : gz = u.gens := mv.gens
          obtain rfl : dz = u.drawn := mv.drawn
          obtain rfl : oz = u.os := mv.os
          refine wpAny_pure (wpAny_pure ⟨rfl, z, tz, m, rfl, h3, fun b o hb e => ?_⟩)
          refine mv.heap b o (fun z => ?_) (Heap.get?_push_of_some _ (Heap.get?_push_of_some _ e))
          rcases List.mem_cons.mp z with z | z
          · exact Nat.ne_of_lt hb z
          · rw [List.mem_singleton] at z
            rw [z] at hb
            have hb : (u.heap.push (empS led)).objs.size < u.heap.objs.size := hb
            rw [sz] at hb
            exact Nat.lt_irrefl _ (Nat.lt_trans (Nat.lt_succ_self _) hb)
      · cases r with
        | error e => exact hr2
        | ok fl2 =>
          cases fl2 with
          | ret v =>
            obtain ⟨rfl, z, tk, m, rfl, hz, keep⟩ := hr2
            repeat (any_goals (first | assumption | wp_step))
            exact fin z tk m hz keep
          | _ => exact hr2.elim
    | _ => exact hr.elim
end
section
variable {X : Cx}
/-- len(set(a tuple of texts)) -/
def tLenSetT (K : PySem.W.Frag) (ta : TE) : TE := fun σ H Q => ta σ H fun x H1 => ∃ (l : Addr) (xs : List Str), x = .ref l ∧ SqT K H1 l (xs.map V.str) ∧ xs.length ≤ 4000 ∧ ∀ m : Nat, m ≤ xs.length → (m = xs.length ↔ xs.Nodup) → Q (.int m) H1
theorem strs_of {ys : List Str} {us : List Value} (h : Vals (ys.map V.str) us) : StrsAre us ys := by
  induction ys generalizing us with
  | nil => cases h; exact .nil
  | cons y ys ih =>
    cases h with
    | cons r t =>
      obtain ⟨k, rfl⟩ := r
      exact .cons y k (ih t)
theorem pe_lenSetT {a : Expr} {ta : TE} {p p2 q pos : Pos} (hc : X.calm = true) (g1 : Gl X "len") (m1 : X.mg "len" = none) (g2 : Gl X "set") (m2 : X.mg "set" = none) (ha : PE X a ta)
    (na : starEach [a] X.env = (false, eval a X.env) :: starEach [] X.env := by rfl) : PE X (.Call (.Name "len" p) [.Call (.Name "set" p2) [a] [] q] [] pos) (tLenSetT X.K ta) := by
  refine ⟨fun pins u σ H Q I h => ?_⟩
  refine Call_ (ld_blt I g1 m1 boot_len (PyProof.Rows.callWith_builtin1 (PyProof.Rows.args_cons ?_ rfl) rfl rfl))
  refine Call_ (ld_blt I g2 m2 boot_set (PyProof.Rows.callWith_type1 (PyProof.Rows.args_cons (thn (ha.run pins u σ H _ I h) fun v u1 ⟨x, H1, I1, r1, q1⟩ => PyProof.Rows.args_nil ?_) na) na rfl))
  obtain ⟨l, xs, rfl, hq, few, q1⟩ := q1
  cases r1
  obtain ⟨its, r, pl, _⟩ := I1.tuple hq
  refine setOfTup (I1.ok.hd hc) pl (by simpa using strs_of r) few fun z tk m hz keep => PyProof.Rows.args_nil ?_
  obtain ⟨f, _, ⟨o, es, ep, t, ho, hex, hd, _, _, _, hf, hn⟩, le, iff⟩ := hz
  have I2 : Inv X pins σ H1 { u1 with heap := z, toks := tk } := I1.kept fun b o e => keep b o (Heap.lt_size e) e
  exact call_len_set ho hex hd hf (by rw [hn]; omega) ⟨.int m, H1, I2.tok _, ⟨_, by rw [hn]⟩, q1 m le iff⟩
end
end Lg

/-! texts: replace, cuts at a sign (with a limit or without), f-strings, the beginning -/
namespace Lg
open PySem PySem.Spec PyProof.Rows L2 PySem.NumText
section
variable {X : Cx} {e f o : Expr} {te tf to : TE} {es : List Expr} {ta : TA} {pos apos : Pos}
/-- e gives a token out -/
structure PEk (X : Cx) (e : Expr) (t : TE) : Prop where
  run : ∀ (pins : List (Addr × Obj)) (u : Shared) (σ : L2.St) (H : Hp) (Q : VK), Inv X pins σ H u → t σ H Q →
  wpAny (model X.prog X.w) X.A (eval e X.env) (fun v u1 => 1 ≤ u1.toks ∧ EP X pins σ Q v u1) X.xe u
theorem pek_str {x : Str} {j : Nat} : PEk X (.Constant (.str x) j pos) (tC (.str x)) := ⟨fun pins u σ H Q I h => Calls.Constant_str ⟨by show 1 ≤ u.toks + 1; omega, .str x, H, I.tok _, ⟨_, rfl⟩, h⟩⟩
theorem pek_op {op : Operator} {r : R2} (ho : OpR X (binaryOp op) r) (ha : PEk X e te) (hb : PE X f tf) : PEk X (.BinOp e op f pos) (tOp r te tf) := by
  constructor
  intro pins u σ H Q I h
  refine wpAny_BinOp (wpAny_mono (ha.run pins u σ H _ I h) (fun v u1 q => ?_) fun _ _ z => z)
  obtain ⟨hk, x, H1, I1, r1, q1⟩ := q
  refine wpAny_mono (wpAny_toks_of hk (hb.run pins u1 σ H1 _ I1 q1)) (fun w u2 q2 => ?_) fun _ _ z => z.2
  obtain ⟨hk2, y, H2, I2, r2, q2⟩ := q2
  exact wpAny_mono (wpAny_toks_of hk2 (ho pins u2 σ H2 x y v w Q I2 r1 r2 q2)) (fun _ _ z => z) fun _ _ z => z.2
theorem pe_opk {op : Operator} {r : R2} (ho : OpR X (binaryOp op) r) (ha : PEk X e te) (hb : PET X f tf) : PE X (.BinOp e op f pos) (tOp r te tf) := by
  refine ⟨fun pins u σ H Q I h => wpAny_BinOp (wpAny_mono (ha.run pins u σ H _ I h) (fun v u1 q => ?_) fun _ _ z => z)⟩
  obtain ⟨hk, x, H1, I1, r1, q1⟩ := q
  exact thn (hb pins u1 σ H1 _ hk I1 q1) fun w u2 ⟨y, H2, I2, r2, q2⟩ => ho pins u2 σ H2 x y v w Q I2 r1 r2 q2
theorem pa_consk (ha : PEk X e te) (hr : PAT X es ta) (hs : starEach (e :: es) X.env = (false, eval e X.env) :: starEach es X.env := by rfl) : PA X (e :: es) (tCons te ta) := by
  refine ⟨fun p pins u σ H Q I h => ?_⟩
  rw [hs]
  refine Calls.spliced_cons (wpAny_mono (ha.run pins u σ H _ I h) (fun v u1 q => ?_) fun _ _ z => z)
  obtain ⟨hk, x, H1, I1, r1, q1⟩ := q
  exact thn (hr p pins u1 σ H1 _ hk I1 q1) fun us u2 ⟨xs, H2, I2, r2, q2⟩ => ⟨x :: xs, H2, I2, .cons r1 r2, q2⟩
/-- two texts of the module, each with a token of its own -/
def rawB (K : PySem.W.Frag) (n m y z : Str) : Bool := match PySem.W.nsIn K mainGlobals n, PySem.W.nsIn K mainGlobals m with
  | some (some (.str a t)), some (some (.str b k)) => decide (a = y) && (decide (b = z) && (decide (t ≠ 0) && (decide (k ≠ 0) && decide (t ≠ k))))
  | _, _ => false
def Raw2 (mg : Str → Option Value) (n m y z : Str) : Prop := ∃ t k : Tok, mg n = some (.str y t) ∧ mg m = some (.str z k) ∧ t ≠ 0 ∧ k ≠ 0 ∧ t ≠ k
theorem rawB_ok {K : PySem.W.Frag} {h : Heap} {mg : Str → Option Value} (X : K.In h) (G : h.Ns mainGlobals mg) {n m y z : Str} (c : rawB K n m y z = true) : Raw2 mg n m y z := by
  unfold rawB at c
  split at c
  · rename_i a t b k e1 e2
    simp only [Bool.and_eq_true, decide_eq_true_eq] at c
    obtain ⟨rfl, rfl, c1, c2, c3⟩ := c
    exact ⟨t, k, PySem.W.mg_of X G e1, PySem.W.mg_of X G e2, c1, c2, c3⟩
  · cases c
theorem pe_replN {n m y z : Str} {p1 p2 : Pos} (ho : PE X o to) (gn : Gl X n) (gm : Gl X m) (raw : Raw2 X.mg n m y z) (hyz : (y == z) = false := by decide)
    (hst : starEach [.Name n p1, .Name m p2] X.env = [(false, eval (.Name n p1) X.env), (false, eval (.Name m p2) X.env)] := by rfl)
    (hbase : attributeBase o "replace" X.env (eval o X.env) = eval o X.env := by rfl) (hline : (apos.endLine == pos.line) = true := by rfl)
    (hn : (n == ("__debug__" : Str)) = false := by decide) (hm : (m == ("__debug__" : Str)) = false := by decide) :
    PE X (.Call (.Attribute o "replace" apos) [.Name n p1, .Name m p2] [] pos) (CwR.tReplC to y z) := by
  obtain ⟨t, k, m1, m2, t0, k0, tk⟩ := raw
  refine ⟨fun pins u σ H Q I h => PySem.Call_method2 hbase hst hline (thn (ho.run pins u σ H _ I h) fun v u1 q => ?_)⟩
  obtain ⟨v', H1, I1, r1, x, rfl, hb, q⟩ := q
  obtain ⟨tx, rfl⟩ := r1
  refine ⟨"str", _, PySem.F.plainAttrs_str, PySem.F.slot_str_replace, PySem.F.type_str_replace, typeIs_str _ _ _, (fun _ e => nomatch e), ?_⟩
  refine Calls.callWith_builtin rfl (Calls.evalArgs_plain (Calls.spliced_cons (ld_glob I1 gn m1 (Calls.spliced_cons (ld_glob I1 gm m2 (Calls.spliced_nil ?_) hm)) hn)))
  exact PySem.SC.replace t0 k0 tk hyz hb fun t' j => ⟨.str (Txt.replace x y z), H1, I1.tok j, ⟨t', rfl⟩, q⟩
end
/-! ### cuts -/
/-- at most k cuts at c -/
def spM (c : Nat) : Nat → List Nat → List (List Nat)
  | 0, l => [l]
  | k + 1, l => if c ∈ l then l.takeWhile (· != c) :: spM c k ((l.dropWhile (· != c)).drop 1) else [l]
theorem cut_at {c : Nat} : ∀ {l : List Nat}, c ∈ l → l = l.takeWhile (· != c) ++ c :: (l.dropWhile (· != c)).drop 1 ∧ c ∉ l.takeWhile (· != c)
  | [], h => by cases h
  | x :: r, h => by
    by_cases e : x = c
    · subst e
      simp
    · have hr : c ∈ r := by
        cases h with
        | head => exact absurd rfl e
        | tail _ h => exact h
      obtain ⟨h1, h2⟩ := cut_at hr
      have hb : (x != c) = true := by simpa using e
      rw [List.takeWhile_cons_of_pos (p := (· != c)) hb, List.dropWhile_cons_of_pos (p := (· != c)) hb]
      refine ⟨by rw [List.cons_append, ← h1], fun z => ?_⟩
      cases z with
      | head => exact e rfl
      | tail _ z => exact h2 z
/-- where c stands, counted from a -/
def posL (c : Nat) : Nat → List Nat → List Nat
  | _, [] => []
  | a, x :: r => if x = c then a :: posL c (a + 1) r else posL c (a + 1) r
theorem posL_free {c : Nat} : ∀ {l : List Nat} {a : Nat}, c ∉ l → posL c a l = []
  | [], _, _ => rfl
  | x :: r, a, h => by
    have e : ¬ x = c := fun z => h (by rw [z]; exact .head _)
    rw [posL, if_neg e]
    exact posL_free fun z => h (.tail _ z)
theorem posL_app {c : Nat} : ∀ {p r : List Nat} {a : Nat}, c ∉ p → posL c a (p ++ c :: r) = (a + p.length) :: posL c (a + p.length + 1) r
  | [], r, a, _ => by simp [posL]
  | x :: p, r, a, h => by
    have e : ¬ x = c := fun z => h (by rw [z]; exact .head _)
    rw [List.cons_append, posL, if_neg e, posL_app fun z => h (.tail _ z), List.length_cons]
    have e1 : a + 1 + p.length = a + (p.length + 1) := by omega
    rw [e1]
theorem sub_one {l : List Nat} {c i : Nat} : Builtin.Str.subAt (S l) (S [c]) i = decide (l[i]? = some c) := by
  rw [StrLaws.subAt_eq]
  show ((l.drop i).take 1 == [c]) = _
  by_cases h : l[i]? = some c
  · rw [decide_eq_true h]
    obtain ⟨hi, hx⟩ := List.getElem?_eq_some_iff.mp h
    rw [List.drop_eq_getElem_cons hi, hx]
    simp
  · rw [decide_eq_false h]
    cases hd : l.drop i with
    | nil => simp
    | cons x r =>
      have h3 : l[i]? = some x := by
        have := congrArg (fun z => z[0]?) hd
        simpa using this
      rw [h3] at h
      have hx : ¬ x = c := fun z => h (by rw [z])
      simp [hx]
theorem occ_one {l : List Nat} {c k : Nat} : ∀ (r : List Nat) (a : Nat) (found : Array Nat) (free : Nat), l.drop a = r → free ≤ a → found.size ≤ k →
    (forIn (List.range' a (r.length + 1)) (found, free) (StrLaws.occBody (S l) (S [c]) l.length k)).run.fst.toList = found.toList ++ (posL c a r).take (k - found.size)
  | [], a, found, free, hr, hf, hk => by
    have ha : l.length ≤ a := by
      have := congrArg List.length hr
      simp at this
      omega
    rw [List.length_nil, List.range'_succ, List.forIn_cons]
    have hc : ¬ (((found.size < k ∧ free ≤ a) ∧ a + (S [c]).length ≤ l.length) ∧ Builtin.Str.subAt (S l) (S [c]) a = true) := fun z => by
      have := z.1.2
      have e : (S [c]).length = 1 := rfl
      omega
    unfold StrLaws.occBody
    rw [if_neg hc]
    simp [posL]
  | x :: r, a, found, free, hr, hf, hk => by
    have ha : a < l.length := by
      have := congrArg List.length hr
      simp at this
      omega
    have hx : l[a]? = some x := by
      have := congrArg (fun z => z[0]?) hr
      simpa using this
    have hr2 : l.drop (a + 1) = r := by
      have := congrArg (List.drop 1) hr
      simpa [Nat.add_comm] using this
    rw [List.length_cons, List.range'_succ, List.forIn_cons]
    have e : (S [c]).length = 1 := rfl
    have ih := fun f2 fr h1 h2 => occ_one (l := l) (c := c) (k := k) r (a + 1) f2 fr hr2 h1 h2
    unfold StrLaws.occBody at ih ⊢
    by_cases hh : (((found.size < k ∧ free ≤ a) ∧ a + (S [c]).length ≤ l.length) ∧ Builtin.Str.subAt (S l) (S [c]) a = true)
    · rw [if_pos hh]
      have hxc : x = c := by
        have := hh.2
        rw [sub_one, hx] at this
        simpa using this
      show Array.toList (Prod.fst (Id.run (forIn (List.range' (a + 1) (r.length + 1)) (found.push a, a + (S [c]).length) _))) = _
      rw [ih _ _ (by omega) (by rw [Array.size_push]; omega), posL, if_pos hxc, Array.size_push]
      have e2 : k - found.size = (k - (found.size + 1)) + 1 := by have := hh.1.1.1; omega
      rw [e2, List.take_succ_cons]
      simp
    · rw [if_neg hh]
      show Array.toList (Prod.fst (Id.run (forIn (List.range' (a + 1) (r.length + 1)) (found, free) _))) = _
      rw [ih _ _ (by omega) hk, posL]
      by_cases hxc : x = c
      · rw [if_pos hxc]
        have hk2 : k - found.size = 0 := by
          by_cases hlt : found.size < k
          · exact absurd ⟨⟨⟨hlt, hf⟩, by omega⟩, by rw [sub_one, hx, hxc]; simp⟩ hh
          · omega
        rw [hk2]
        simp
      · rw [if_neg hxc]
theorem occ_is {l : List Nat} {c k : Nat} : Builtin.Str.occurrences (S l) (S [c]) 0 l.length k = (posL c 0 l).take k := by
  rw [StrLaws.occ_eq]
  have := occ_one (l := l) (c := c) (k := k) l 0 #[] 0 rfl (Nat.le_refl _) (Nat.zero_le _)
  simpa using this
theorem parts_is {l : List Nat} {c : Nat} : ∀ (k a : Nat), a ≤ l.length → (StrLaws.partsFrom (S l) 1 a ((posL c a (l.drop a)).take k)).map TL.tl = spM c k (l.drop a)
  | 0, a, ha => by
    rw [List.take_zero]
    show [TL.tl (Builtin.Str.strSub (S l) a (S l).length)] = _
    rw [TL.tl_strSub_end]
    rfl
  | k + 1, a, ha => by
    unfold spM
    by_cases h : c ∈ l.drop a
    · rw [if_pos h]
      obtain ⟨h1, h2⟩ := cut_at h
      generalize (l.drop a).takeWhile (· != c) = p at *
      generalize ((l.drop a).dropWhile (· != c)).drop 1 = q at *
      have hl := congrArg List.length h1
      rw [List.length_drop, List.length_append, List.length_cons] at hl
      have hd : q = l.drop (a + p.length + 1) := by
        rw [show a + p.length + 1 = a + (p.length + 1) by omega, ← List.drop_drop, h1]
        simp
      have hp : posL c a (l.drop a) = (a + p.length) :: posL c (a + p.length + 1) (l.drop (a + p.length + 1)) := by
        rw [← hd, h1]
        exact posL_app h2
      rw [hp, List.take_succ_cons]
      show TL.tl (Builtin.Str.strSub (S l) a (a + p.length)) :: (StrLaws.partsFrom (S l) 1 (a + p.length + 1) _).map TL.tl = _
      rw [parts_is k (a + p.length + 1) (by omega), TL.tl_strSub, ← hd]
      congr 1
      show (l.drop a).take (a + p.length - a) = _
      rw [show a + p.length - a = p.length by omega, h1, List.take_left]
    · rw [if_neg h, posL_free h, List.take_nil]
      show [TL.tl (Builtin.Str.strSub (S l) a (S l).length)] = _
      rw [TL.tl_strSub_end]
theorem sub_all {l : List Nat} : Builtin.Str.strSub (S l) 0 (S l).length = S l := by
  have := TL.tl_strSub_end (S l) 0
  rw [List.drop_zero] at this
  rw [← TL.mk_tl (Builtin.Str.strSub (S l) 0 (S l).length), this]
theorem kind1 {c : Nat} (h : c < 256) (x : Str) : ¬ Builtin.Str.strKind x < Builtin.Str.strKind (S [c]) := TL.kind_ok (by simp [S, h])
theorem map_tl {xs : List Str} {ys : List (List Nat)} (h : xs.map TL.tl = ys) : xs = ys.map S := by
  subst h
  rw [List.map_map]
  conv => lhs; rw [← List.map_id xs]
  exact List.map_congr_left fun x _ => (TL.mk_tl x).symm
theorem cuts_is {l : List Nat} {c k : Nat} : StrLaws.partsFrom (S l) 1 0 ((posL c 0 l).take k) = (spM c k l).map S := by
  have := parts_is (l := l) (c := c) k 0 (Nat.zero_le _)
  rw [List.drop_zero] at this
  exact map_tl this
theorem cutS_gen {l : List Nat} {c k : Nat} (hc : c < 256) : (if (decide ((S l).length < (S [c]).length) || decide (Builtin.Str.strKind (S l) < Builtin.Str.strKind (S [c]))) = true then [S l] else
    if (Builtin.Str.occurrences (S l) (S [c]) 0 (S l).length k).isEmpty = true then [S l] else Builtin.Str.partsBetween (S l) (Builtin.Str.occurrences (S l) (S [c]) 0 (S l).length k) (S [c]).length) = (spM c k l).map S := by
  rw [S_len l, occ_is, StrLaws.partsBetween_eq, ← cuts_is]
  have e1 : (S [c]).length = 1 := rfl
  rw [e1]
  have hs : StrLaws.partsFrom (S l) 1 0 [] = [S l] := by
    show [Builtin.Str.strSub (S l) 0 (S l).length] = _
    rw [sub_all]
  by_cases h1 : (decide (l.length < 1) || decide (Builtin.Str.strKind (S l) < Builtin.Str.strKind (S [c]))) = true
  · rw [if_pos h1]
    have hl : l = [] := by
      rw [Bool.or_eq_true, decide_eq_true_eq, decide_eq_true_eq] at h1
      rcases h1 with h1 | h1
      · exact List.length_eq_zero_iff.mp (by omega)
      · exact absurd h1 (kind1 hc _)
    subst hl
    simp only [posL, List.take_nil]
    exact hs.symm
  · rw [if_neg h1]
    by_cases h2 : ((posL c 0 l).take k).isEmpty = true
    · rw [if_pos h2, List.isEmpty_iff.mp h2]
      exact hs.symm
    · rw [if_neg h2]
theorem split_is {l : List Nat} {c : Nat} (hc : c < 256) : Txt.split (S l) (S [c]) = (spM c (l.length + 1) l).map S := by
  have := cutS_gen (l := l) (k := (S l).length + 1) hc
  rw [S_len] at this
  unfold Txt.split
  rw [S_len]
  exact this
theorem splitMax_is {l : List Nat} {c k : Nat} (hc : c < 256) : Txt.splitMax (S l) (S [c]) (k : Int) = (spM c k l).map S := by
  have e : PySem.limitOf (S l) (k : Int) = k := by
    unfold PySem.limitOf
    rw [if_neg (by omega)]
    omega
  unfold Txt.splitMax
  rw [e]
  exact cutS_gen hc
theorem tw_free {c : Nat} : ∀ {l : List Nat}, c ∉ l → l.takeWhile (· != c) = l ∧ l.dropWhile (· != c) = []
  | [], _ => ⟨rfl, rfl⟩
  | x :: r, h => by
    have hb : (x != c) = true := by simpa using fun z => h (by rw [z]; exact .head _)
    obtain ⟨h1, h2⟩ := tw_free (l := r) fun z => h (.tail _ z)
    rw [List.takeWhile_cons_of_pos (p := (· != c)) hb, List.dropWhile_cons_of_pos (p := (· != c)) hb, h1, h2]
    exact ⟨rfl, rfl⟩
theorem part_is {l : List Nat} {c : Nat} : Txt.partition (S l) (S [c]) = (S (l.takeWhile (· != c)), S (if c ∈ l then [c] else []), S ((l.dropWhile (· != c)).drop 1)) := by
  by_cases h : c ∈ l
  · obtain ⟨h1, h2⟩ := cut_at h
    rw [if_pos h]
    refine SX.partition_some (by simp) ?_
    have := TL.par_part1 (s := c) (S := []) (p := l.takeWhile (· != c)) (rest := (l.dropWhile (· != c)).drop 1) (acc := []) h2
    simp only [List.nil_append, List.cons_append] at this
    rw [← h1] at this
    exact this
  · rw [if_neg h, SX.partition_none (by simp) (TL.par_none1 h)]
    obtain ⟨e1, e2⟩ := tw_free h
    rw [e1, e2]
    rfl
theorem starts_is {l : List Nat} {c : Nat} : Txt.startswith (S l) (S [c]) = decide (l.head? = some c) := by
  unfold Txt.startswith
  rw [sub_one, S_len]
  cases l with
  | nil => rfl
  | cons x r =>
    have e1 : 1 ≤ (S (x :: r)).length := by rw [S_len]; simp
    simp
    intro _
    exact e1
theorem remp_is {l : List Nat} {c : Nat} : Txt.removeprefix (S l) (S [c]) = S (if l.head? = some c then l.drop 1 else l) := by
  rw [StrLaws.removeprefix_eq, sub_one, S_len, S_len]
  cases l with
  | nil => simp
  | cons x r =>
    by_cases h : x = c
    · subst h
      simp
    · simp [h]
theorem repl_is {l : List Nat} {a b : Nat} : Txt.replace (S l) (S [a]) (S [b]) = S (l.map fun x => if x = a then b else x) := by
  rw [← TL.mk_tl (Txt.replace (S l) (S [a]) (S [b]))]
  congr 1
  show (Txt.replace (S l) (S [a]) (S [b])).cps.toList.toArray = _
  rw [StrLaws.replace_list (by show 1 ≤ 1; omega)]
  congr 1
  show StrLaws.replL [a] [b] l = _
  induction l with
  | nil => exact StrLaws.replL_nil
  | cons x r ih =>
    by_cases h : x = a
    · rw [StrLaws.replL_hit (by simp) (by simp [h])]
      simp [h, ih]
    · rw [StrLaws.replL_miss (by simpa using h)]
      simp [h, ih]
/-- a number, its sign with it -/
def dgI (i : Int) : List Nat := if i < 0 then 45 :: dg i.natAbs else dg i.natAbs
theorem dgI_text (i : Int) : Str.ofString (toString i) = S (dgI i) := by
  unfold dgI
  cases i with
  | ofNat n => rw [if_neg (by show ¬ ((n : Int) < 0); omega)]; exact dg_text n
  | negSucc m =>
    rw [if_pos (Int.negSucc_lt_zero m)]
    have e : toString (Int.negSucc m) = "-" ++ toString ((m + 1 : Nat) : Int) := rfl
    rw [S_of (Str.ofString (toString (Int.negSucc m)))]
    congr 1
    rw [e, signs_ofString, String.toList_append, List.map_append, ← signs_ofString (toString ((m + 1 : Nat) : Int)), dg_text (m + 1)]
    rfl
end Lg

/-! texts: the rules over the ledger -/
namespace Lg
open PySem PySem.Spec PyProof.Rows L2
def rSplit1 : V → List V → Hp → VK → Prop := fun x xs H Q => ∃ a b, x = .str a ∧ xs = [.str b] ∧ (b.length == 0) = false ∧ a.length + 2 ≤ sizeLine ∧ rNewStrs (Txt.split a b) H Q
def rSplitM : V → List V → Hp → VK → Prop := fun x xs H Q => ∃ (a b : Str) (k : Int), x = .str a ∧ xs = [.str b, .int k] ∧ (b.length == 0) = false ∧ -(2 ^ 63) ≤ k ∧ k < 2 ^ 63 ∧ a.length + 2 ≤ sizeLine ∧ rNewStrs (Txt.splitMax a b k) H Q
def rPartX : V → List V → Hp → VK → Prop := fun x xs H Q => ∃ a b, x = .str a ∧ xs = [.str b] ∧ (b.length == 0) = false ∧ a.length ≤ sizeLine ∧
  ∀ p, H p = none → Q (.ref p) (upd H p (.tup [.str (Txt.partition a b).1, .str (Txt.partition a b).2.1, .str (Txt.partition a b).2.2]))
def rStarts : V → List V → Hp → VK → Prop := fun x xs H Q => ∃ a b, x = .str a ∧ xs = [.str b] ∧ Q (.bl (Txt.startswith a b)) H
def rRemp : V → List V → Hp → VK → Prop := fun x xs H Q => ∃ a b, x = .str a ∧ xs = [.str b] ∧ a.length ≤ sizeLine ∧ Q (.str (Txt.removeprefix a b)) H
def tFS (ts : List TE) : TE := fun σ H Q => tJs ts Str.empty σ H fun out H1 => Q (.str out) H1
section
variable {X : Cx}
theorem m_split1 : MtR X "str.split" rSplit1 := mt_split
theorem m_splitM : MtR X "str.split" rSplitM := mt_splitMax
theorem m_part : MtR X "str.partition" rPartX := mt_partition
theorem m_starts : MtR X "str.startswith" rStarts := mt_startswith
theorem m_remp : MtR X "str.removeprefix" rRemp := mt_removeprefix
theorem pe_fs {v1 v2 : Expr} {rest : List Expr} {ts : List TE} {pos : Pos} (h : PJ X (v1 :: v2 :: rest) ts) : PE X (.JoinedStr (v1 :: v2 :: rest) pos) (tFS ts) := pe_joined h
end
section
variable {K : PySem.W.Frag} {L : List Ent} {H : Hp} {σ : L2.St} {Q : VK} {a : Addr} {i : Int} {k c : Nat} {l : List Nat} {v : V} {d : PyData} {ds : List PyData}
abbrev sD (x : List Nat) : PyData := .str (S x)
theorem strs_ls {xs : List (List Nat)} {F : Hp} : DvAll K F (xs.map fun x => V.str (S x)) (xs.map sD) := by
  induction xs with
  | nil => exact .nil
  | cons x xs ih => exact .cons (.str _) ih
theorem w_newStrs {xs : List (List Nat)} {ys : List Str} (hS : St K L H) (e : ys = xs.map S) (h : ∀ p H', St K (Lg.ls K p (xs.map sD) :: L) H' → Q (.ref p) H') : rNewStrs ys H Q := by
  subst e
  intro p hp
  refine h p _ (hS.alloc hp fun F _ _ => ⟨_, rfl, ?_⟩)
  rw [List.map_map]
  exact strs_ls
theorem w_split1 (hS : St K L H) (hl : l.length ≤ 100000) (hc : c < 256) (h : ∀ p H', St K (Lg.ls K p ((spM c (l.length + 1) l).map sD) :: L) H' → Q (.ref p) H') : rSplit1 (.str (S l)) [.str (S [c])] H Q :=
  ⟨_, _, rfl, rfl, by rw [S_len]; rfl, by rw [S_len, sizeLine_eq]; omega, w_newStrs hS (split_is hc) h⟩
theorem w_splitM (hS : St K L H) (hl : l.length ≤ 100000) (hc : c < 256) (hk : i = (k : Int)) (hk2 : k ≤ 1000) (h : ∀ p H', St K (Lg.ls K p ((spM c k l).map sD) :: L) H' → Q (.ref p) H') : rSplitM (.str (S l)) [.str (S [c]), .int i] H Q :=
  ⟨_, _, i, rfl, rfl, by rw [S_len]; rfl, by omega, by omega, by rw [S_len, sizeLine_eq]; omega, w_newStrs hS (by rw [hk]; exact splitMax_is hc) h⟩
theorem w_partn (hS : St K L H) (hl : l.length ≤ 100000) (h : ∀ p H', St K (Lg.dat (.ref p) (.tuple [sD (l.takeWhile (· != c)), sD (if c ∈ l then [c] else []), sD ((l.dropWhile (· != c)).drop 1)]) :: L) H' → Q (.ref p) H') : rPartX (.str (S l)) [.str (S [c])] H Q := by
  refine ⟨_, _, rfl, rfl, by rw [S_len]; rfl, by rw [S_len, sizeLine_eq]; omega, fun p hp => h p _ ?_⟩
  rw [part_is]
  exact hS.fresh hp fun F hF _ _ => .tup (SqT.of upd_same) (.cons (.str _) (.cons (.str _) (.cons (.str _) .nil)))
theorem w_starts (h : Q (.bl (decide (l.head? = some c))) H) : rStarts (.str (S l)) [.str (S [c])] H Q := ⟨_, _, rfl, rfl, by rw [starts_is]; exact h⟩
theorem w_remp (hl : l.length ≤ 100000) (h : Q (.str (S (if l.head? = some c then l.drop 1 else l))) H) : rRemp (.str (S l)) [.str (S [c])] H Q := ⟨_, _, rfl, rfl, by rw [S_len, sizeLine_eq]; omega, by rw [remp_is]; exact h⟩
theorem w_truS {R : Bool → Hp → Prop} (hl : l.length ≤ 100000) (h : R (!l.isEmpty) H) : ∃ k, TruV K (.str (S l)) H k ∧ R k H := by
  refine ⟨_, ⟨by rw [S_len, sizeLine_eq]; omega, ?_⟩, h⟩
  rw [S_len]
  cases l with
  | nil => rfl
  | cons x r =>
    show true = (((x :: r).length : Int) != 0)
    rw [List.length_cons]
    symm
    rw [bne_iff_ne]
    omega
theorem w_replC {to : TE} {y z : Nat} (h : to σ H fun v H1 => ∃ l : List Nat, v = .str (S l) ∧ l.length ≤ 100000 ∧ Q (.str (S (l.map fun x => if x = y then z else x))) H1) (mono : ∀ R R' : VK, (∀ v H1, R v H1 → R' v H1) → to σ H R → to σ H R') : CwR.tReplC to (S [y]) (S [z]) σ H Q := by
  refine mono _ _ (fun v H1 ⟨l, e, hl, q⟩ => ?_) h
  refine ⟨S l, e, ?_, by rw [repl_is]; exact q⟩
  rw [S_len, S_len]
  show l.length + (l.length + 1) * 1 ≤ _
  omega
theorem w_strN (hn : i.natAbs < 10 ^ 12) (h : Q (.str (S (dgI i))) H) : rStrX [.int i] H Q := by
  refine .inl ⟨i, rfl, ?_, by rw [dgI_text]; exact h⟩
  have h2 : i.natAbs < 2 ^ 40 := by
    have : (10 : Nat) ^ 12 ≤ 2 ^ 40 := by decide
    omega
  have := log2_le h2
  omega
theorem w_fs {ts : List TE} (h : tJs ts (S []) σ H fun out H1 => Q (.str out) H1) : tFS ts σ H Q := h
theorem w_js0 {R : Str → Hp → Prop} {x : Str} (h : R x H) : tJs [] x σ H R := h
theorem w_js {t : TE} {ts : List TE} {R : Str → Hp → Prop} (h : t σ H fun x H1 => ∃ y : Str, x = .str y ∧ (S l ++ y).length ≤ sizeLine ∧ tJs ts (S l ++ y) σ H1 R) : tJs (t :: ts) (S l) σ H R := h
theorem w_jsS {m : List Nat} {ts : List TE} {R : Str → Hp → Prop} (hm : l.length + m.length ≤ 100000) (h : tJs ts (S (l ++ m)) σ H R) : ∃ y : Str, V.str (S m) = .str y ∧ (S l ++ y).length ≤ sizeLine ∧ tJs ts (S l ++ y) σ H R := by
  have e : S l ++ S m = S (l ++ m) := SX.S_cat l m
  refine ⟨_, rfl, ?_, ?_⟩
  · rw [e, S_len, List.length_append, sizeLine_eq]
    omega
  · rw [e]; exact h
theorem w_fmt {te : TE} (h : te σ H fun x H1 => (∃ y : Str, x = .str y ∧ y.length ≤ sizeLine ∧ Q (.str y) H1) ∨ ∃ i : Int, x = .int i ∧ i.natAbs.log2 < 1920 ∧ Q (.str (toString i)) H1) : tFmt te σ H Q := h
theorem w_fmtS (hl : l.length ≤ 100000) (h : Q (.str (S l)) H) : (∃ y : Str, V.str (S l) = .str y ∧ y.length ≤ sizeLine ∧ Q (.str y) H) ∨ ∃ i : Int, V.str (S l) = .int i ∧ i.natAbs.log2 < 1920 ∧ Q (.str (toString i)) H :=
  .inl ⟨_, rfl, by rw [S_len, sizeLine_eq]; omega, h⟩
theorem w_fmtI (hn : i.natAbs < 10 ^ 12) (h : Q (.str (S (dgI i))) H) : (∃ y : Str, V.int i = .str y ∧ y.length ≤ sizeLine ∧ Q (.str y) H) ∨ ∃ j : Int, V.int i = .int j ∧ j.natAbs.log2 < 1920 ∧ Q (.str (toString j)) H := by
  refine .inr ⟨i, rfl, ?_, ?_⟩
  · have h2 : i.natAbs < 2 ^ 40 := by
      have : (10 : Nat) ^ 12 ≤ 2 ^ 40 := by decide
      omega
    have := log2_le h2
    omega
  · have e := dgI_text i
    show Q (.str (Str.ofString (toString i))) H
    rw [e]; exact h
theorem w_lenSet {ta : TE} {xs : List (List Nat)} (h : ta σ H fun x H1 => ∃ (l : Addr) (xs : List Str), x = .ref l ∧ SqT K H1 l (xs.map V.str) ∧ xs.length ≤ 4000 ∧ ∀ m : Nat, m ≤ xs.length → (m = xs.length ↔ xs.Nodup) → Q (.int m) H1) : tLenSetT K ta σ H Q := h
theorem S_nodup {xs : List (List Nat)} : (xs.map S).Nodup ↔ xs.Nodup := by
  constructor
  · intro h
    rw [List.nodup_iff_pairwise_ne] at h ⊢
    rw [List.pairwise_map] at h
    exact h.imp fun z e => z (by rw [e])
  · intro h
    rw [List.nodup_iff_pairwise_ne] at h ⊢
    rw [List.pairwise_map]
    exact h.imp fun z e => z (S_inj e)
theorem strs_back {F : Hp} : ∀ {vs : List V} {xs : List (List Nat)}, DvAll K F vs (xs.map sD) → vs = (xs.map S).map V.str
  | _, [], h => by cases h; rfl
  | _, x :: xs, h => by
    cases h with
    | cons h1 h2 => cases h1; simp [strs_back h2]
theorem w_lenSetT {xs : List (List Nat)} (hS : St K L H) (hl : Is L (.ref a) (.tuple (xs.map sD))) (few : xs.length ≤ 4000) (h : ∀ m : Nat, m ≤ xs.length → (m = xs.length ↔ xs.Nodup) → Q (.int m) H) :
    ∃ (l : Addr) (xs : List Str), V.ref a = .ref l ∧ SqT K H l (xs.map V.str) ∧ xs.length ≤ 4000 ∧ ∀ m : Nat, m ≤ xs.length → (m = xs.length ↔ xs.Nodup) → Q (.int m) H := by
  obtain ⟨F, h1, h2⟩ := hS.is_of hl
  cases h2 with
  | tup g1 g2 =>
    rw [strs_back g2] at g1
    refine ⟨a, xs.map S, rfl, h1.sqT g1, by rw [List.length_map]; exact few, fun m hm hi => ?_⟩
    rw [List.length_map] at hm hi
    exact h m hm (hi.trans S_nodup)
end
end Lg

/-! len(set(a list of texts)) -/
namespace Lg
open PySem PySem.Spec PyProof.Rows L2
section
variable {prog : Program} {w : World} {A : Around} {E : Value → Shared → Prop} {u : Shared}
/-- set(a list of texts) -/
theorem setOfLst {l : Addr} {its : Array Value} {xs : List Str} {Q : Value → Shared → Prop} (quiet : A.handled = none) (lst : u.heap.IsList l its) (are : StrsAre its.toList xs) (few : xs.length ≤ 4000)
    (fin : ∀ (z : Heap) (tk m : Nat), Holds prog w z u.heap.objs.size xs m → (∀ b o, b < u.heap.objs.size → u.heap.get? b = some o → z.get? b = some o) → Q (.ref u.heap.objs.size) { u with heap := z, toks := tk }) :
    wpAny (model prog w) A (call (.type "set") [.ref l]) Q E u := by
  obtain ⟨c, tl, hmro⟩ := PySem.F.called_set.mro
  have m1 := PySem.F.called_set.made
  have m2 := PySem.F.called_set.sub
  have m3 := PySem.F.called_set.notType
  have m4 := PySem.F.called_set.canCreate
  have m5 := PySem.F.typeCall_set_1 (.ref l)
  refine wpAny_call (codeAny_of_tree (show wpAny _ _ (callAny (.type "set") _) _ _ _ from ?_))
  refine wpAny_pure ⟨Code.quiet_builtin _ (by decide +kernel), codeAny_builtin PySem.F.entry_type_call ?_⟩
  rw [Around.under_plain (weight_type_call_type "set" [.ref l] []) rfl]
  repeat (any_goals (first | assumption | wp_step))
  refine codeAny_mono (code_set_new_1 (.ref l) (E := E) (Q₁ := fun v u1 => ∃ led : Bool, v = .ref u.heap.objs.size ∧ u1 = { u with heap := u.heap.push (empS led) }) fun led => ⟨led, rfl, rfl⟩) fun r u1 hr => ?_
  cases r with
  | error e => exact hr
  | ok fl =>
    cases fl with
    | ret v =>
      obtain ⟨led, rfl, rfl⟩ := hr
      have g1 : (u.heap.push (empS led)).get? u.heap.objs.size = some (empS led) := Heap.get?_push_size _ rfl
      have g2 : Shared.TypeIs { u with heap := u.heap.push (empS led) } (.ref u.heap.objs.size) "set" := ⟨_, g1, rfl⟩
      have g3 := PySem.F.called_set.init.lookup
      have g4 := PySem.F.called_set.init.bind (.ref u.heap.objs.size)
      repeat (any_goals (first | assumption | wp_step))
      refine codeAny_mono (codeAny_call_builtin (R := wants (fun r u2 => r = .none ∧ ∃ z tk m, u2 = { u with heap := z, toks := tk } ∧ Holds prog w z u.heap.objs.size xs m ∧
          (∀ b o, b < u.heap.objs.size → u.heap.get? b = some o → z.get? b = some o)) E) PySem.F.called_set.init.plain PySem.F.entry_set_init (check_set_init_1 g2 ?_)) fun r u2 hr2 => ?_
      · obtain ⟨⟨oc, od, odt, osl⟩, ho, hc, nl, hd⟩ := lst
        dsimp only at hc hd
        subst hc
        subst hd
        have t1 : (u.heap.push (empS led)).get? l = some { cls := .type "list", dict := od, data := .seq its nl, slots := osl } := Heap.get?_push_of_some _ ho
        have t2 := PySem.F.sub_list_set
        have t3 := PySem.F.sub_list_frozenset
        have t4 : (Value.type "list" == Value.type "dict") = false := by decide
        have t5 : (u.heap.push (empS led)).IsList l its := ⟨_, t1, rfl, nl, rfl⟩
        unfold Builtin.«set.__init__» noKeywords Builtin.Frozenset.updateFrom
        generalize hPI : pyIter = PI
        wp_walk
        subst hPI
        refine wpAny_pyIter_list t5 (wpAny_bind (wpAny_runValue ?_))
        have sz : (u.heap.push (empS led)).objs.size = Nat.succ u.heap.objs.size := by rw [Heap.size_push]
        have lt : l < u.heap.objs.size := Heap.lt_size ho
        have len : xs.length = its.size := by rw [← StrsAre.len_eq are, Array.length_toList]
        have ne1 : l ≠ (u.heap.push (empS led)).objs.size := by rw [sz]; exact Nat.ne_of_lt (Nat.lt_succ_of_lt lt)
        have out : u.heap.objs.size ∉ [(u.heap.push (empS led)).objs.size, l] := by
          intro z
          rcases List.mem_cons.mp z with z | z
          · rw [sz] at z
            exact Nat.ne_of_lt (Nat.lt_succ_self _) z
          · rw [List.mem_singleton] at z
            rw [← z] at lt
            exact Nat.lt_irrefl _ lt
        refine setLoop ((Walks.list (by simp [quiet]) _ l ne1 its).toS) u.heap.objs.size out xs len (by omega) (fun i v hv => ?_) (its.size - 0) 0 _ (by omega) (Nat.zero_le _)
          ⟨⟨_, Heap.get?_push_size _ rfl, rfl, rfl⟩, (t5.push _)⟩ ⟨0, fun _ => false, fun k => by simp, ?_, by simp, by simp⟩ fun u3 mv h3 => ?_
        · have hv' : its.toList[i]? = some v := by rw [Array.getElem?_toList]; exact hv
          obtain ⟨t, e⟩ := texts_at are hv'
          have il : i < xs.length := by
            have := (List.getElem?_eq_some_iff.mp hv').1
            rw [Array.length_toList] at this
            omega
          exact ⟨t, xs[i], List.getElem?_eq_getElem il, by rw [e, List.getD_eq_getElem?_getD, List.getElem?_eq_getElem il]; rfl⟩
        · exact (PyProof.Rows.setObjOf_fresh (knd := PySem.strKind prog w) led).setOf (Heap.get?_push_of_some _ g1) (by unfold scanBound; omega)
        · obtain ⟨m, h3⟩ := h3
          obtain ⟨z, gz, dz, tz, oz⟩ := u3
          obtain rfl : gz = u.gens := mv.gens
          obtain rfl : dz = u.drawn := mv.drawn
          obtain rfl : oz = u.os := mv.os
          refine wpAny_pure (wpAny_pure ⟨rfl, z, tz, m, rfl, h3, fun b o hb e => ?_⟩)
          refine mv.heap b o (fun z => ?_) (Heap.get?_push_of_some _ (Heap.get?_push_of_some _ e))
          rcases List.mem_cons.mp z with z | z
          · exact Nat.ne_of_lt hb z
          · rw [List.mem_singleton] at z
            rw [z] at hb
            have hb : (u.heap.push (empS led)).objs.size < u.heap.objs.size := hb
            rw [sz] at hb
            exact Nat.lt_irrefl _ (Nat.lt_trans (Nat.lt_succ_self _) hb)
      · cases r with
        | error e => exact hr2
        | ok fl2 =>
          cases fl2 with
          | ret v =>
            obtain ⟨rfl, z, tk, m, rfl, hz, keep⟩ := hr2
            repeat (any_goals (first | assumption | wp_step))
            exact fin z tk m hz keep
          | _ => exact hr2.elim
    | _ => exact hr.elim
end
section
variable {X : Cx}
/-- len(set(a list of texts)) -/
def tLenSetL (K : PySem.W.Frag) (ta : TE) : TE := fun σ H Q => ta σ H fun x H1 => ∃ (l : Addr) (xs : List Str), x = .ref l ∧ SqL K H1 l (xs.map V.str) ∧ xs.length ≤ 4000 ∧ ∀ m : Nat, m ≤ xs.length → (m = xs.length ↔ xs.Nodup) → Q (.int m) H1
theorem pe_lenSetL {a : Expr} {ta : TE} {p p2 q pos : Pos} (hc : X.calm = true) (g1 : Gl X "len") (m1 : X.mg "len" = none) (g2 : Gl X "set") (m2 : X.mg "set" = none) (ha : PE X a ta)
    (na : starEach [a] X.env = (false, eval a X.env) :: starEach [] X.env := by rfl) : PE X (.Call (.Name "len" p) [.Call (.Name "set" p2) [a] [] q] [] pos) (tLenSetL X.K ta) := by
  refine ⟨fun pins u σ H Q I h => ?_⟩
  refine Call_ (ld_blt I g1 m1 boot_len (PyProof.Rows.callWith_builtin1 (PyProof.Rows.args_cons ?_ rfl) rfl rfl))
  refine Call_ (ld_blt I g2 m2 boot_set (PyProof.Rows.callWith_type1 (PyProof.Rows.args_cons (thn (ha.run pins u σ H _ I h) fun v u1 ⟨x, H1, I1, r1, q1⟩ => PyProof.Rows.args_nil ?_) na) na rfl))
  obtain ⟨l, xs, rfl, hq, few, q1⟩ := q1
  cases r1
  obtain ⟨its, r, pl, _⟩ := I1.list hq
  refine setOfLst (I1.ok.hd hc) pl.isList (by simpa using strs_of r) few fun z tk m hz keep => PyProof.Rows.args_nil ?_
  obtain ⟨f, _, ⟨o, es, ep, t, ho, hex, hd, _, _, _, hf, hn⟩, le, iff⟩ := hz
  have I2 : Inv X pins σ H1 { u1 with heap := z, toks := tk } := I1.kept fun b o e => keep b o (Heap.lt_size e) e
  exact call_len_set ho hex hd hf (by rw [hn]; omega) ⟨.int m, H1, I2.tok _, ⟨_, by rw [hn]⟩, q1 m le iff⟩
def tLenSetX (K : PySem.W.Frag) (ta : TE) : TE := fun σ H Q => tLenSetT K ta σ H Q ∨ tLenSetL K ta σ H Q
theorem pe_lenSetX {a : Expr} {ta : TE} {p p2 q pos : Pos} (hc : X.calm = true) (g1 : Gl X "len") (m1 : X.mg "len" = none) (g2 : Gl X "set") (m2 : X.mg "set" = none) (ha : PE X a ta)
    (na : starEach [a] X.env = (false, eval a X.env) :: starEach [] X.env := by rfl) : PE X (.Call (.Name "len" p) [.Call (.Name "set" p2) [a] [] q] [] pos) (tLenSetX X.K ta) :=
  ⟨fun pins u σ H Q I h => h.elim (fun h => (pe_lenSetT hc g1 m1 g2 m2 ha na).run pins u σ H Q I h) fun h => (pe_lenSetL hc g1 m1 g2 m2 ha na).run pins u σ H Q I h⟩
end
section
variable {K : PySem.W.Frag} {L : List Ent} {H : Hp} {σ : L2.St} {Q : VK} {a : Addr} {n : Nat}
theorem w_lenSetLV {xs : List (List Nat)} (q : GetAt σ n (.ref a)) (hS : St K L H) (hl : LsIn K L a (xs.map sD)) (few : xs.length ≤ 4000) (h : ∀ m : Nat, m ≤ xs.length → (m = xs.length ↔ xs.Nodup) → Q (.int m) H) : tLenSetX K (tVar n) σ H Q := by
  obtain ⟨F, vs, _, _, h3, h4⟩ := hS.lsin hl
  rw [strs_back h4] at h3
  refine .inr ⟨_, q.eq, a, xs.map S, rfl, SqL.of h3, by rw [List.length_map]; exact few, fun m hm hi => ?_⟩
  rw [List.length_map] at hm hi
  exact h m hm (hi.trans S_nodup)
theorem w_lenSetTV {xs : List (List Nat)} (q : GetAt σ n (.ref a)) (hS : St K L H) (hl : Is L (.ref a) (.tuple (xs.map sD))) (few : xs.length ≤ 4000) (h : ∀ m : Nat, m ≤ xs.length → (m = xs.length ↔ xs.Nodup) → Q (.int m) H) : tLenSetX K (tVar n) σ H Q :=
  .inl ⟨_, q.eq, w_lenSetT hS hl few h⟩
end
end Lg

/-! a written text replaced in what gives a token out; list.extend; sum; truth of lists; pairs of owned lists -/
namespace Lg
open PySem PySem.Spec PyProof.Rows L2
section
variable {X : Cx} {e f o : Expr} {te tf to : TE} {es : List Expr} {ta : TA} {pos apos : Pos}
/-- a row of parts that gives a token out -/
structure PAk (X : Cx) (es : List Expr) (t : TA) : Prop where
  run : ∀ (p : Pos) (pins : List (Addr × Obj)) (u : Shared) (σ : L2.St) (H : Hp) (Q : List V → Hp → Prop), Inv X pins σ H u → t σ H Q →
  wpAny (model X.prog X.w) X.A (spliced (backTo p (starEach es X.env))) (fun vs u1 => 1 ≤ u1.toks ∧ AP X pins σ Q vs u1) X.xe u
theorem pak_cons (ha : PEk X e te) (hr : PA X es ta) (hs : starEach (e :: es) X.env = (false, eval e X.env) :: starEach es X.env := by rfl) : PAk X (e :: es) (tCons te ta) := by
  constructor
  intro p pins u σ H Q I h
  rw [hs]
  refine Calls.spliced_cons (wpAny_mono (ha.run pins u σ H _ I h) (fun v u1 q => ?_) fun _ _ z => z)
  obtain ⟨hk, x, H1, I1, r1, q1⟩ := q
  refine wpAny_mono (wpAny_toks_of hk (hr.run p pins u1 σ H1 _ I1 q1)) (fun us u2 q2 => ?_) fun _ _ z => z.2
  obtain ⟨hk2, xs, H2, I2, r2, q2⟩ := q2
  exact ⟨hk2, x :: xs, H2, I2, .cons r1 r2, q2⟩
theorem pak_str {x : Str} {j : Nat} {q : Pos} (hr : PA X es ta) : PAk X (.Constant (.str x) j q :: es) (tCons (tC (.str x)) ta) := pak_cons pek_str hr rfl
theorem pek_lst (h : PAk X es ta) : PEk X (.List es pos) (tLst ta) := by
  constructor
  intro pins u σ H Q I hq
  refine wpAny_List_spliced (wpAny_mono (h.run pos pins u σ H _ I hq) (fun us u1 q => ?_) fun _ _ z => z)
  obtain ⟨hk, xs, H1, I1, r, z, q⟩ := q
  refine ⟨by rw [← r.length]; exact z, ?_⟩
  have hf : H1 u1.heap.objs.size = none := I1.hok.fresh (Nat.le_refl _)
  exact ⟨hk, .ref u1.heap.objs.size, upd H1 u1.heap.objs.size (.lst xs), I1.laid (t' := u1.toks) (fun b w e => Heap.get?_push_of_some _ e) (Nat.le_refl _) ⟨z, us, 0, r, Heap.get?_push_size _ rfl⟩, rfl, q _ hf⟩
theorem pek_ix {b : Expr} {tb : TE} {r : R2} (hr : IxR X r) (ha : PEk X e te) (hb : PE X b tb) (hs : PlainIx b) : PEk X (.Subscript e b pos) (tOp r te tb) := by
  constructor
  intro pins u σ H Q I h
  refine Subscript_ (wpAny_mono (ha.run pins u σ H _ I h) (fun v u1 q => ?_) fun _ _ z => z)
  obtain ⟨hk, x, H1, I1, r1, q1⟩ := q
  refine wpAny_mono (wpAny_toks_of hk (hb.run pins u1 σ H1 _ I1 q1)) (fun w u2 q2 => ?_) fun _ _ z => z.2
  obtain ⟨hk2, y, H2, I2, r2, q2⟩ := q2
  exact wpAny_mono (wpAny_toks_of hk2 (hr e b pins u2 σ H2 x y v w Q I2 r1 r2 q2 (hs _ _))) (fun _ _ z => z) fun _ _ z => z.2
theorem pek_ixs {b : Expr} {tb : TE} (ha : PEk X e te) (hb : PE X b tb) (hs : PlainIx b) : PEk X (.Subscript e b pos) (tOp (rIx X.K) te tb) := pek_ix ix_seq ha hb hs
theorem pe_replK {y z : Str} {j k : Nat} {c0 c1 : Pos} (ho : PEk X o to) (hyz : (y == z) = false := by decide)
    (hst : starEach [.Constant (.str y) j c0, .Constant (.str z) k c1] X.env = [(false, eval (.Constant (.str y) j c0) X.env), (false, eval (.Constant (.str z) k c1) X.env)] := by rfl)
    (hbase : attributeBase o "replace" X.env (eval o X.env) = eval o X.env := by rfl) (hline : (apos.endLine == pos.line) = true := by rfl) :
    PE X (.Call (.Attribute o "replace" apos) [.Constant (.str y) j c0, .Constant (.str z) k c1] [] pos) (CwR.tReplC to y z) := by
  refine ⟨fun pins u σ H Q I h => PySem.Call_method2 hbase hst hline (wpAny_mono (ho.run pins u σ H _ I h) (fun v u1 q => ?_) fun _ _ z => z)⟩
  obtain ⟨hk, v', H1, I1, r1, x, rfl, hb, q⟩ := q
  obtain ⟨tx, rfl⟩ := r1
  refine ⟨"str", _, PySem.F.plainAttrs_str, PySem.F.slot_str_replace, PySem.F.type_str_replace, typeIs_str _ _ _, (fun _ e => nomatch e), ?_⟩
  refine Calls.callWith_builtin rfl (Calls.evalArgs_plain (Calls.spliced_cons (Calls.Constant_str (Calls.spliced_cons (Calls.Constant_str (Calls.spliced_nil ?_))))))
  exact PySem.SC.replace (show u1.toks ≠ 0 by omega) (show u1.toks + 1 ≠ 0 by omega) (show u1.toks ≠ u1.toks + 1 by omega) hyz hb fun t' n => ⟨.str (Txt.replace x y z), H1, I1.tok n, ⟨t', rfl⟩, q⟩
/-- the same where the text is taken out of a row: all that is looked up is looked up here -/
theorem pe_replS {y z : Str} {j k : Nat} {c0 c1 p2 : Pos} {a b : Expr} (ho : PEk X (.Subscript a b p2) to) (hyz : (y == z) = false := by decide) (hline : (apos.endLine == pos.line) = true := by rfl) :
    PE X (.Call (.Attribute (.Subscript a b p2) "replace" apos) [.Constant (.str y) j c0, .Constant (.str z) k c1] [] pos) (CwR.tReplC to y z) :=
  pe_replK ho hyz rfl rfl hline
end
section
variable {K : PySem.W.Frag} {L L' : List Ent} {H : Hp} {Q : VK} {a b : Addr} {ds es : List PyData}
theorem w_extend (hS : St K L H) (hp : Put L (Lg.ls K a ds) (Lg.ls K a (ds ++ es)) L') (hb : LsIn K L b es) (hn : ds.length + es.length ≤ 100000) (h : ∀ H', St K L' H' → Q .non H') : rExtend (.ref a) [.ref b] H Q := by
  obtain ⟨F, xs, e1, e2, h3, h4⟩ := hS.lsin (.own hp.mem)
  obtain ⟨F2, zs, _, _, k3, k4⟩ := hS.lsin hb
  refine ⟨a, b, xs, zs, rfl, rfl, h3, k3, ?_, h _ ?_⟩
  · rw [h4.len, k4.len, sizeLine_eq]; omega
  · refine hS.writeP hp fun F' x e q hx hφ => ?_
    obtain ⟨vs, rfl, hvs⟩ := hφ
    rw [h3] at hx
    cases hx
    obtain ⟨ws, m1, m2⟩ := hb.ok e q
    rw [k3] at m1
    cases m1
    exact ⟨_, rfl, hvs.app m2⟩
theorem w_sum {ns : List Int} (hS : St K L H) (hl : LsIn K L a (ns.map PyData.int)) (h : Q (.int ns.sum) H) : rSum K [.ref a] H Q := by
  obtain ⟨F, xs, _, _, h3, h4⟩ := hS.lsin hl
  rw [h4.ints_inv] at h3
  exact ⟨a, ns, rfl, SqL.of h3, h⟩
theorem truL_ok (hS : St K L H) (hl : LsIn K L a ds) : TruV K (.ref a) H (!ds.isEmpty) := by
  obtain ⟨F, xs, _, _, h3, h4⟩ := hS.lsin hl
  refine .inl ⟨xs, SqL.of h3, ?_⟩
  have := h4.len
  cases xs <;> cases ds <;> simp at this ⊢
theorem w_neBl {x y : Bool} (h : Q (.bl (!decide (x = y))) H) : rNeX K (.bl x) (.bl y) H Q := .inl ⟨rfl, by
  have e : decide (V.bl x = V.bl y) = decide (x = y) := by cases x <;> cases y <;> rfl
  rw [e]; exact h⟩
end
end Lg

/-! while by a number that the ledger tells; the last of a list; texts joined with nothing -/
namespace Lg
open PySem PySem.Spec PyProof.Rows L2
section
variable {K : PySem.W.Frag} {L : List Ent} {σ : L2.St} {H : Hp} {Q : VK} {a : Addr} {ds : List PyData} {d : PyData}
def WBN (P : Nat → L2.St → Hp → Prop) (m : Nat) (tb : TS) (D : Ends) (σ : L2.St) (b : Bool) (H1 : Hp) : Prop :=
  if b = true then ∃ N : L2.St → Hp → Prop, (∀ σ' H', N σ' H' → ∃ m', m' < m ∧ P m' σ' H') ∧ tb { D with nx := N, ct := N, bk := D.nx } σ H1 else D.nx σ H1
theorem w_wbn {P : Nat → L2.St → Hp → Prop} {m : Nat} {tb : TS} {D : Ends} {c : Bool} (h1 : c = true → tb { D with nx := fun σ' H' => ∃ m', m' < m ∧ P m' σ' H', ct := fun σ' H' => ∃ m', m' < m ∧ P m' σ' H', bk := D.nx } σ H) (h2 : c = false → D.nx σ H) : WBN P m tb D σ c H := by
  unfold WBN
  cases c with
  | true => exact ⟨_, fun _ _ z => z, h1 rfl⟩
  | false => exact h2 rfl
theorem w_whileN {c : TT} {tb : TS} {D : Ends} (P : Nat → L2.St → Hp → Prop) (m0 : Nat) (h0 : P m0 σ H) (hs : ∀ m σ H, P m σ H → c σ H fun b H1 => WBN P m tb D σ b H1) : tWhile c tb D σ H := ⟨P, ⟨m0, h0⟩, hs⟩
theorem w_ixM1 {i : Int} (hS : St K L H) (hl : LsIn K L a (ds ++ [d])) (hi : i = -1) (h : ∀ v, St K (.dat v d :: L) H → Q v H) : rIx K (.ref a) (.int i) H Q := by
  subst hi
  obtain ⟨xs, v, h3, h5, hlen, h6⟩ := hS.item hl (k := ds.length) (d := d) (by simp)
  refine .inl ⟨a, xs, -1, v, rfl, rfl, SqL.of h3, ?_, h v h6⟩
  have hn : xs.length = ds.length + 1 := by simpa using hlen
  have e : ixN xs.length (-1) = some ds.length := by
    unfold ixN
    rw [if_neg (by decide), if_pos (by omega)]
    congr 1
    omega
  unfold atI
  rw [e]
  exact h5
theorem w_ixM1i {i m : Int} (hS : St K L H) (hl : LsIn K L a (ds ++ [.int m])) (hi : i = -1) (h : Q (.int m) H) : rIx K (.ref a) (.int i) H Q :=
  w_ixM1 hS hl hi fun v h6 => by rw [h6.int_of]; exact h
theorem w_ixM1s {i : Int} {m : Str} (hS : St K L H) (hl : LsIn K L a (ds ++ [.str m])) (hi : i = -1) (h : Q (.str m) H) : rIx K (.ref a) (.int i) H Q :=
  w_ixM1 hS hl hi fun v h6 => by rw [h6.str_of]; exact h
theorem joinL_nil : ∀ ys : List (List Nat), TL.joinL [] ys = ys.flatten
  | [] => rfl
  | [y] => by simp [TL.joinL]
  | y :: z :: ys => by
    have := joinL_nil (z :: ys)
    show y ++ ([] ++ TL.joinL [] (z :: ys)) = _
    rw [this]
    rfl
end
end Lg

/-! [x for x in list if test]: any data -/
namespace Lg
open PySem PySem.Spec PyProof.Rows L2
section
variable {K : PySem.W.Frag} {L : List Ent} {σ : L2.St} {H : Hp} {Q : VK} {a : Addr} {ds : List PyData} {g : TG} {tt : TT} {te : TE} {vs : List Nat}
theorem w_lcFD (p : PyData → Bool) (hS : St K L H) (hl : LsIn K L a ds) (hn : ds.length ≤ 100000)
    (hs : ∀ (v : V) (d : PyData) (H : Hp) (L' : List Ent) (Z1 : VK) (Z2 : Hp → Prop), d ∈ ds → St K (.dat v d :: L') H → (p d = true → Z1 v H) → (p d = false → Z2 H) → g v (wipe σ vs) H fun σ2 H2 => wipe σ2 vs = wipe σ vs ∧ tt σ2 H2 fun b H3 => if b = true then te σ2 H3 Z1 else Z2 H3)
    (h : ∀ q H', St K (.cell q (.ls K (ds.filter p)) :: L) H' → Q (.ref q) H') : LcW (Itl K a) g tt te vs σ H Q := by
  intro q hq
  refine ⟨fun i m H => m = ds.length - i ∧ i ≤ ds.length ∧ St K (.cell q (.ls K ((ds.take i).filter p)) :: L) H, ⟨ds.length, by simp, Nat.zero_le _, hS.alloc hq fun F _ _ => ⟨[], rfl, .nil⟩⟩, ?_⟩
  rintro i m H ⟨rfl, hi, hS1⟩
  by_cases hlt : i < ds.length
  · obtain ⟨xs, v, h3, h5, _, h6⟩ := hS1.item hl.cons (k := i) (d := ds[i]) (by simp [hlt])
    refine .inr ⟨⟨xs, v, SqL.of h3, h5⟩, fun H' => i + 1 ≤ ds.length ∧ St K (.cell q (.ls K ((ds.take (i + 1)).filter p)) :: L) H', fun H' w => ⟨ds.length - (i + 1), by omega, rfl, w⟩, fun x H' y => ?_⟩
    obtain ⟨rfl, y⟩ := y
    have hx := y xs (SqL.of h3)
    rw [h5] at hx
    have hvx := Option.some.inj hx
    subst hvx
    have e : ds.take (i + 1) = ds.take i ++ [ds[i]] := by rw [List.take_add_one]; simp [hlt]
    refine hs v ds[i] H' _ _ _ (List.getElem_mem hlt) h6 (fun hp => ?_) fun hp => ?_
    · obtain ⟨F, ys, h1, h2, h7, h8⟩ := hS1.lsin (.own (.head _))
      refine ⟨ys, h7, ?_, by omega, ?_⟩
      · rw [h8.len]
        refine Nat.lt_of_le_of_lt ?_ (show 100000 < sizeLine by decide)
        exact Nat.le_trans (List.length_filter_le _ _) (by simp; omega)
      · rw [e, List.filter_append]
        have : [ds[i]].filter p = [ds[i]] := by simp [hp]
        rw [this]
        have h9 := h6.writeP (o := .lst (ys ++ [v])) (ψ := .ls K ((ds.take i).filter p ++ [ds[i]])) (.there .here) fun F' x e2 q2 hx hφ => ?_
        · exact h9.tail
        · obtain ⟨zs, rfl, hzs⟩ := hφ
          rw [h7] at hx
          cases hx
          exact ⟨_, rfl, hzs.app (.cons (q2 _ (.head _)) .nil)⟩
    · refine ⟨by omega, ?_⟩
      rw [e, List.filter_append]
      have : [ds[i]].filter p = [] := by simp [hp]
      rw [this, List.append_nil]
      exact hS1
  · have e : i = ds.length := by omega
    subst e
    rw [List.take_length] at hS1
    obtain ⟨xs, h3, h4⟩ := hS1.lenl hl.cons
    exact .inl ⟨⟨xs, SqL.of h3, by rw [h4]; simp⟩, h q H hS1⟩
end
end Lg

/-! ints in lists; min, max -/
namespace Lg
open PySem PySem.Spec PyProof.Rows L2
section
variable {K : PySem.W.Frag} {L : List Ent} {H : Hp} {Q : VK} {a : Addr}
theorem inV_i (i : Int) : ∀ ns : List Int, inV (.int i) (ns.map V.int) = decide (i ∈ ns)
  | [] => rfl
  | n :: ns => by
    show (eqV (.int n) (.int i) || inV (.int i) (ns.map V.int)) = _
    rw [inV_i i ns]
    show ((n == i) || decide (i ∈ ns)) = _
    rw [show (n == i) = decide (i = n) from by
      by_cases h : i = n
      · subst h
        simp
      · rw [decide_eq_false h, beq_eq_false_iff_ne]
        exact fun z => h z.symm]
    rw [← Bool.decide_or]
    exact decide_eq_decide.mpr List.mem_cons.symm
theorem w_inLI {i : Int} {ns : List Int} {neg : Bool} (hS : St K L H) (hl : LsIn K L a (ns.map PyData.int)) (h : Q (.bl (if neg then !decide (i ∈ ns) else decide (i ∈ ns))) H) : rInX K neg (.int i) (.ref a) H Q := by
  obtain ⟨F, xs, _, _, h3, h4⟩ := hS.lsin hl
  rw [h4.ints_inv] at h3
  exact .inl ⟨a, ns.map V.int, rfl, .inl (SqL.of h3), rfl, by simp [flatV], by rw [inV_i]; exact h⟩
end
end Lg

/-! list.count of texts -/
namespace Lg
open PySem PySem.Spec PyProof.Rows L2
def rCountL : V → List V → Hp → VK → Prop := fun x vs H Q => ∃ (l : Addr) (ys : List Str) (k : Str), x = .ref l ∧ vs = [.str k] ∧ H l = some (.lst (ys.map V.str)) ∧ Q (.int (countIn (.str k) (ys.map PyData.str))) H
theorem strs_are : ∀ {ys : List Str} {us : List Value}, Vals (ys.map V.str) us → StrsAre us ys
  | [], _, h => by cases h; exact .nil
  | y :: ys, _, h => by
    cases h with
    | cons r1 rs =>
      obtain ⟨t, rfl⟩ := r1
      exact .cons y t (strs_are rs)
theorem mt_countL {X : Cx} : MtR X "list.count" rCountL := by
  intro pins s σ H x vs v us Q I rx rv h
  obtain ⟨l, ys, k, rfl, rfl, hH, q⟩ := h
  cases rx
  obtain ⟨u, rfl, ru⟩ := rv.one
  obtain ⟨t, rfl⟩ := ru
  obtain ⟨z, its, n, r, hl, e⟩ := I.lstM hH
  exact count_list_strs ⟨_, e, rfl, n, rfl⟩ (strs_are r) ⟨.int _, H, I.tok _, ⟨_, rfl⟩, q⟩
section
variable {K : PySem.W.Frag} {L : List Ent} {H : Hp} {Q : VK} {a : Addr}
theorem countIn_is (k : List Nat) : ∀ ys : List (List Nat), countIn (.str (S k)) ((ys.map S).map PyData.str) = ((ys.count k : Nat) : Int)
  | [] => rfl
  | y :: ys => by
    have ih := countIn_is k ys
    rw [List.map_cons, List.map_cons, countIn, ih, List.count_cons]
    simp only [same]
    by_cases h : y = k
    · subst h
      simp
      omega
    · have h2 : (S y == S k) = false := by
        rw [beq_eq_false_iff_ne]
        exact fun z => h (S_inj z)
      have h3 : (y == k) = false := by rw [beq_eq_false_iff_ne]; exact h
      simp [h2, h3]
theorem w_countL {k : List Nat} {ys : List (List Nat)} (hS : St K L H) (hl : LsIn K L a (ys.map fun y => PyData.str (S y))) (h : Q (.int ((ys.count k : Nat) : Int)) H) : rCountL (.ref a) [.str (S k)] H Q := by
  obtain ⟨F, vs, _, _, h3, h4⟩ := hS.lsin hl
  have e : (ys.map fun y => PyData.str (S y)) = (ys.map S).map PyData.str := by rw [List.map_map]; rfl
  rw [e] at h4
  rw [h4.strs_inv] at h3
  exact ⟨a, ys.map S, S k, rfl, rfl, h3, by rw [countIn_is]; exact h⟩
end
end Lg

/-! [list(x) for x in rows]: owned lists in a row -/
namespace Lg
open PySem PySem.Spec PyProof.Rows L2
section
variable {K : PySem.W.Frag} {L L' : List Ent} {σ : L2.St} {H : Hp} {Q : VK} {a : Addr} {ds : List PyData} {g : TG} {te : TE} {vs : List Nat}
theorem LsIn.appL (h : LsIn K L a ds) : ∀ A : List Ent, LsIn K (A ++ L) a ds
  | [] => h
  | _ :: A => (LsIn.appL h A).cons
theorem Is.appL {v : V} {d : PyData} (h : Is L v d) : ∀ A : List Ent, Is (A ++ L) v d
  | [] => h
  | _ :: A => (Is.appL h A).cons
theorem St.toLs {xs : List V} (h : St K (Lg.own a (.lst xs) :: L) H) (hv : IsAll L xs ds) : St K (Lg.ls K a ds :: L) H := h.data .here fun F x _ q _ hφ => by
  have e : x = .lst xs := hφ
  exact ⟨xs, e, hv.dv fun e he => q e (.tail _ he)⟩
theorem w_lcO {dss : List (List Int)} (hS : St K L H) (hl : LsIn K L a (dss.map fun b => PyData.list (b.map PyData.int))) (hn : dss.length ≤ 100000)
    (hs : ∀ (b : List Int) (v : V) (H : Hp) (L' : List Ent), St K (.dat v (.list (b.map PyData.int)) :: L') H → ∀ Z : VK, (∀ p H3, St K (Lg.ls K p (b.map PyData.int) :: L') H3 → Z (.ref p) H3) → g v (wipe σ vs) H fun σ2 H2 => wipe σ2 vs = wipe σ vs ∧ te σ2 H2 Z)
    (h : ∀ q bs H', bs.length = dss.length → St K (Lg.own q (.lst (bs.map V.ref)) :: (lsL K bs dss ++ L)) H' → Q (.ref q) H') : LcW (Itl K a) g tYes te vs σ H Q := by
  intro q hq
  refine ⟨fun i m H => m = dss.length - i ∧ i ≤ dss.length ∧ ∃ bs : List Addr, bs.length = i ∧ St K (Lg.own q (.lst (bs.map V.ref)) :: (lsL K bs (dss.take i) ++ L)) H, ⟨dss.length, by simp, Nat.zero_le _, [], rfl, hS.alloc hq fun F _ _ => rfl⟩, ?_⟩
  rintro i m H ⟨rfl, hi, bs, hbl, hS1⟩
  by_cases hlt : i < dss.length
  · obtain ⟨xs, v, h3, h5, _, h6⟩ := hS1.item (hl.appL _).cons (k := i) (d := .list (dss[i].map PyData.int)) (by simp [hlt])
    refine .inr ⟨⟨xs, v, SqL.of h3, h5⟩, fun H' => i + 1 ≤ dss.length ∧ ∃ bs : List Addr, bs.length = i + 1 ∧ St K (Lg.own q (.lst (bs.map V.ref)) :: (lsL K bs (dss.take (i + 1)) ++ L)) H', fun H' w => ⟨dss.length - (i + 1), by omega, rfl, w⟩, fun x H' y => ?_⟩
    obtain ⟨rfl, y⟩ := y
    have hx := y xs (SqL.of h3)
    rw [h5] at hx
    have hvx := Option.some.inj hx
    subst hvx
    refine hs dss[i] v H' _ h6 _ fun p H3 hS3 => ?_
    have e : dss.take (i + 1) = dss.take i ++ [dss[i]] := by rw [List.take_add_one]; simp [hlt]
    refine ⟨bs.map V.ref, hS3.own (.tail _ (.head _)), ?_, by omega, bs ++ [p], by simp [hbl], ?_⟩
    · rw [List.length_map, hbl]
      exact Nat.lt_of_lt_of_le (Nat.lt_of_lt_of_le hlt hn) (by decide)
    · have h7 := hS3.writeP (o := .lst (bs.map V.ref ++ [V.ref p])) (ψ := .eq (.lst ((bs ++ [p]).map V.ref))) (.there .here) fun _ _ _ _ _ _ => by
        show HO.lst _ = HO.lst _
        simp
      rw [e, lsL_snoc (by rw [List.length_take]; omega)]
      refine h7.perm ?_
      refine (List.Perm.swap _ _ _).trans (.cons _ ?_)
      rw [List.append_assoc]
      exact List.perm_middle.symm
  · have e : i = dss.length := by omega
    subst e
    rw [List.take_length] at hS1
    obtain ⟨xs, h3, h4⟩ := hS1.lenl (hl.appL _).cons
    exact .inl ⟨⟨xs, SqL.of h3, by rw [h4]; simp⟩, h q bs H hbl hS1⟩
end
end Lg

/-! for over range with a step -/
namespace Lg
open PySem PySem.Spec PyProof.Rows L2
section
variable {K : PySem.W.Frag} {L : List Ent} {σ : L2.St} {H : Hp} {g : TG} {tbody : TS} {D : Ends}
theorem w_forR3 {lo c : Int} {n : Nat} (I : Nat → L2.St → Hp → Prop) (h0 : I 0 σ H)
    (hs : ∀ i σ H, i < n → I i σ H → g (.int (lo + (i : Nat) * c)) σ H fun σ2 H2 => tbody { D with nx := I (i + 1), ct := I (i + 1), bk := D.nx } σ2 H2) (hd : ∀ σ H, I n σ H → D.nx σ H) : ForW (Itc lo c n) g tbody D σ H := by
  refine ⟨fun i m σ H => m = n - i ∧ i ≤ n ∧ I i σ H, ⟨n, by simp, Nat.zero_le _, h0⟩, ?_⟩
  rintro i m σ H ⟨rfl, hi, p⟩
  by_cases hlt : i < n
  · refine .inr ⟨hlt, I (i + 1), fun σ' H' p' => ⟨n - (i + 1), by omega, rfl, hlt, p'⟩, fun x H' y => ?_⟩
    obtain ⟨rfl, rfl⟩ := y
    exact hs i σ _ hlt p
  · have e : i = n := by omega
    subst e
    exact .inl ⟨Nat.le_refl _, hd σ H p⟩
end
section
variable {K : PySem.W.Frag} {L : List Ent} {σ : L2.St} {H : Hp} {Q : VK} {a : Addr} {ds : List PyData} {g : TG} {tt : TT} {te : TE} {vs : List Nat}
theorem w_lcFE (p : PyData → Bool) (hS : St K L H) (hl : LsIn K L a ds) (hn : ds.length ≤ 100000)
    (hs : ∀ (v : V) (d : PyData) (H : Hp) (q : Addr) (es : List PyData) (Z1 : VK) (Z2 : Hp → Prop), d ∈ ds → St K (.dat v d :: .cell q (.ls K es) :: L) H → (p d = true → Z1 v H) → (p d = false → Z2 H) → g v (wipe σ vs) H fun σ2 H2 => wipe σ2 vs = wipe σ vs ∧ tt σ2 H2 fun b H3 => if b = true then te σ2 H3 Z1 else Z2 H3)
    (h : ∀ q H', St K (.cell q (.ls K (ds.filter p)) :: L) H' → Q (.ref q) H') : LcW (Itl K a) g tt te vs σ H Q := by
  intro q hq
  refine ⟨fun i m H => m = ds.length - i ∧ i ≤ ds.length ∧ St K (.cell q (.ls K ((ds.take i).filter p)) :: L) H, ⟨ds.length, by simp, Nat.zero_le _, hS.alloc hq fun F _ _ => ⟨[], rfl, .nil⟩⟩, ?_⟩
  rintro i m H ⟨rfl, hi, hS1⟩
  by_cases hlt : i < ds.length
  · obtain ⟨xs, v, h3, h5, _, h6⟩ := hS1.item hl.cons (k := i) (d := ds[i]) (by simp [hlt])
    refine .inr ⟨⟨xs, v, SqL.of h3, h5⟩, fun H' => i + 1 ≤ ds.length ∧ St K (.cell q (.ls K ((ds.take (i + 1)).filter p)) :: L) H', fun H' w => ⟨ds.length - (i + 1), by omega, rfl, w⟩, fun x H' y => ?_⟩
    obtain ⟨rfl, y⟩ := y
    have hx := y xs (SqL.of h3)
    rw [h5] at hx
    have hvx := Option.some.inj hx
    subst hvx
    have e : ds.take (i + 1) = ds.take i ++ [ds[i]] := by rw [List.take_add_one]; simp [hlt]
    refine hs v ds[i] H' _ _ _ _ (List.getElem_mem hlt) h6 (fun hp => ?_) fun hp => ?_
    · obtain ⟨F, ys, h1, h2, h7, h8⟩ := hS1.lsin (.own (.head _))
      refine ⟨ys, h7, ?_, by omega, ?_⟩
      · rw [h8.len]
        refine Nat.lt_of_le_of_lt ?_ (show 100000 < sizeLine by decide)
        exact Nat.le_trans (List.length_filter_le _ _) (by simp; omega)
      · rw [e, List.filter_append]
        have : [ds[i]].filter p = [ds[i]] := by simp [hp]
        rw [this]
        have h9 := h6.writeP (o := .lst (ys ++ [v])) (ψ := .ls K ((ds.take i).filter p ++ [ds[i]])) (.there .here) fun F' x e2 q2 hx hφ => ?_
        · exact h9.tail
        · obtain ⟨zs, rfl, hzs⟩ := hφ
          rw [h7] at hx
          cases hx
          exact ⟨_, rfl, hzs.app (.cons (q2 _ (.head _)) .nil)⟩
    · refine ⟨by omega, ?_⟩
      rw [e, List.filter_append]
      have : [ds[i]].filter p = [] := by simp [hp]
      rw [this, List.append_nil]
      exact hS1
  · have e : i = ds.length := by omega
    subst e
    rw [List.take_length] at hS1
    obtain ⟨xs, h3, h4⟩ := hS1.lenl hl.cons
    exact .inl ⟨⟨xs, SqL.of h3, by rw [h4]; simp⟩, h q H hS1⟩
end
end Lg

/-! Tables of the module with text keys; xs[-2::-1]; max of a list; the head with tables and one more Bool. -/
namespace Lg
open PySem PySem.Spec PyProof.Rows L2
abbrev AlTB : Type := He.AlT × Bool
def obsTB (n : Nat) (fa : List He.Fa) (fn : List He.DefD) (ts : List He.Tab) (ex : PySem.W.Frag → Bool) (g : Addr → Option Obj) : AlTB := (He.obsTG n fa fn ts g, ex (He.frG g (He.asD g n)))
def hookTB (n : Nat) (fa : List He.Fa) (fn : List He.DefD) (ts : List He.Tab) (ex : PySem.W.Frag → Bool) : PySem.W.Hook where
  α := AlTB
  obs := fun s => obsTB n fa fn ts ex s.heap.get?
  val := fun w => (He.valT fn ts w, true)
  says := fun w h => ∃ K : PySem.W.Frag, K.In h ∧ He.SaysT fa fn ts w K ∧ ex K = true
  of := fun _ _ e => ⟨_, He.frG_in, congrArg (fun z : AlTB => z.1) e, congrArg (fun z : AlTB => z.2) e⟩
  keeps := fun _ _ _ ⟨K, hK, c⟩ k => ⟨K, PySem.W.Frag.In.keeps hK k, c⟩
theorem obsTB_eq {n : Nat} {fa : List He.Fa} {fn : List He.DefD} {ts : List He.Tab} {ex : PySem.W.Frag → Bool} {g : Addr → Option Obj} {s : Shared} (h : ∀ a, g a = s.heap.get? a) : obsTB n fa fn ts ex g = (hookTB n fa fn ts ex).obs s := by
  have e : g = s.heap.get? := funext h
  rw [e] <;> rfl
/-! ### a table: its ints by key; what is no key -/
def kdB (K : PySem.W.Frag) (a : Addr) (kvs : List (Str × Int)) (no : List Str) : Bool := (kvs.all fun q => match PySem.W.nsIn K a q.1 with
  | some (some (.int j _)) => decide (j = q.2)
  | _ => false) && no.all fun z => decide (PySem.W.nsIn K a z = some none)
theorem kdB_get {K : PySem.W.Frag} {a : Addr} {kvs : List (Str × Int)} {no : List Str} (h : kdB K a kvs no = true) {q : Str × Int} (hq : q ∈ kvs) : ∃ u, PySem.W.nsIn K a q.1 = some (some u) ∧ RelV (.int q.2) u := by
  have h2 := List.all_eq_true.mp (Bool.and_eq_true_iff.mp h).1 q hq
  cases e : PySem.W.nsIn K a q.1 with
  | none =>
    rw [e] at h2
    cases h2
  | some r =>
    rw [e] at h2
    cases r with
    | none => cases h2
    | some u =>
      cases u with
      | int j t =>
        have : j = q.2 := of_decide_eq_true h2
        exact ⟨_, rfl, t, by rw [this]⟩
      | _ => cases h2
theorem kdB_no {K : PySem.W.Frag} {a : Addr} {kvs : List (Str × Int)} {no : List Str} (h : kdB K a kvs no = true) {z : Str} (hz : z ∈ no) : PySem.W.nsIn K a z = some none :=
  of_decide_eq_true (List.all_eq_true.mp (Bool.and_eq_true_iff.mp h).2 z hz)
def rKdIn (K : PySem.W.Frag) (a : Addr) : R2 := fun x y H Q => ∃ (z : Str) (r : Option Value), x = .str z ∧ y = .ref a ∧ PySem.W.nsIn K a z = some r ∧ Q (.bl r.isSome) H
def rKdIx (K : PySem.W.Frag) (a : Addr) : R2 := fun x y H Q => ∃ (z : Str) (u0 : Value) (v0 : V), x = .ref a ∧ y = .str z ∧ PySem.W.nsIn K a z = some (some u0) ∧ RelV v0 u0 ∧ Q v0 H
section
variable {X : Cx} {a : Addr}
theorem o_inkd (D : ∃ es n, KDict X.K X.w a es n) : OpR X (compareOp .In) (rKdIn X.K a) := by
  obtain ⟨es, n, D⟩ := D
  exact op_in_kd D
theorem ix_kd (D : ∃ es n, KDict X.K X.w a es n) : IxR X (rKdIx X.K a) := by
  obtain ⟨es, n, D⟩ := D
  intro value slice pins s σ H x y v u Q I rx ry h hs
  obtain ⟨z, u0, v0, rfl, rfl, e, r, q⟩ := h
  obtain rfl : v = Value.ref a := rx
  obtain ⟨t, rfl⟩ := ry
  have hm := PySem.W.mapOf_K (prog := X.prog) (w := X.w) I.kIn D.at_ D.lit
  exact tail_any hm.typeIs slot_dict_getitem.lookup (wpAny_getItem_of (strKind_is X.prog X.w z t) hm (PySem.W.find_K D.at_ e) ⟨v0, H, I.tok _, r, q⟩) hs
theorem c_maxL (hc : X.calm = true) : CallR X (.builtin "max") (rMax X.K) := cr_max hc
end
/-! ### a call without arguments -/
theorem pe_c0 {X : Cx} {k j : Nat} {x : Str} {sp : Sp} {dvs : List V} {p pos : Pos} (c : C8.Cal X.prog X.w X.K X.mg X.base k x sp dvs) (hr : Room j X.A) (hk : k ≤ j) (hg : Gl X x)
    (hdb : (x == ("__debug__" : Str)) = false := by decide) : PE X (.Call (.Name x p) [] [] pos) (tCall sp dvs C8.E0 tNil) := by
  obtain ⟨f, fd, ps, ds, F, hm, kp, b, d⟩ := c.ex
  exact pe_call0 F (hr.mono hk) hg hm kp b d C8.pass0 hdb
/-! ### xs[-2::-1] -/
theorem sl2_bounds (n : Nat) : sliceBounds (some (-2)) none (some (-1)) n = (max (-1) (min (-2 + (n : Int)) ((n : Int) - 1)), -1, -1) := by
  first
  | rfl
  | simp [sliceBounds]
theorem sl2_pick (items : Array Value) : slicePick items (some (-2)) none (some (-1)) = items.toList.dropLast.reverse.toArray := by
  unfold slicePick
  rw [sl2_bounds]
  show ((sliceRange (max (-1) (min (-2 + (items.size : Int)) ((items.size : Int) - 1))) (-1) (-1)).filterMap (items[·]?)).toArray = _
  by_cases h0 : items.size = 0
  · rw [h0]
    have : items = #[] := Array.eq_empty_of_size_eq_zero h0
    subst this
    rfl
  · have e : max (-1) (min (-2 + (items.size : Int)) ((items.size : Int) - 1)) = ((items.size - 1 : Nat) : Int) - 1 := by omega
    rw [e, PySem.W.krv_sliceRange, PySem.W.krv_range, List.filterMap_reverse]
    congr 2
    have hd : items.toList.dropLast = items.toList.take (items.size - 1) := by
      rw [List.dropLast_eq_take, Array.length_toList]
    rw [hd]
    have h := pick_run items 0 (items.size - 1)
    have e2 : (List.range (items.size - 1)).map (0 + ·) = List.range (items.size - 1) := by
      rw [show ((0 + ·) : Nat → Nat) = id from funext fun k => Nat.zero_add k, List.map_id]
    rw [e2, List.drop_zero] at h
    exact h
def tRev2 (K : PySem.W.Frag) (te : TE) : TE := fun σ H Q => te σ H fun x H1 => ∃ a xs, x = .ref a ∧ SqL K H1 a xs ∧ ∀ p, H1 p = none → Q (.ref p) (upd H1 p (.lst xs.dropLast.reverse))
theorem pe_rev2 {X : Cx} {e : Expr} {te : TE} {k j : Nat} {p0 p4 p1 p2 p3 pos : Pos} (he : PE X e te) : PE X (.Subscript e (.Slice (some (.UnaryOp .USub (.Constant (.int 2) j p0) p4)) none (some (.UnaryOp .USub (.Constant (.int 1) k p1) p2)) p3) pos) (tRev2 X.K te) := by
  refine ⟨fun pins s σ H Q I h => ?_⟩
  refine Subscript_ (thn (he.run pins s σ H _ I h) fun v s1 ⟨x, H1, I1, r1, q1⟩ => ?_)
  obtain ⟨a, xs, ex, hx, q⟩ := q1
  subst ex
  cases r1
  have hst : PO X (some (.UnaryOp .USub (.Constant (.int 1) k p1) p2)) (tPart (tUn (rU fun i => .int (-i)) (tC (.int 1)))) := po_some (pe_un un_neg pe_int)
  have hlo : PO X (some (.UnaryOp .USub (.Constant (.int 2) j p0) p4)) (tPart (tUn (rU fun i => .int (-i)) (tC (.int 2)))) := po_some (pe_un un_neg pe_int)
  refine wpAny_Slice (thn (hlo.run pins s1 σ H1 (fun o H2 => o = some (-2) ∧ H2 = H1) I1 ⟨2, rfl, -2, rfl, rfl, rfl⟩) fun vl s2 ⟨l, H2, I2, pl, el, e2⟩ => ?_)
  subst el e2
  refine thn (po_none.run pins s2 σ H2 (fun o H3 => o = none ∧ H3 = H2) I2 ⟨rfl, rfl⟩) fun vu s3 ⟨u, H3, I3, pu, eu, e3⟩ => ?_
  subst eu e3
  refine thn (hst.run pins s3 σ H3 (fun o H4 => o = some (-1) ∧ H4 = H3) I3 ⟨1, rfl, -1, rfl, rfl, rfl⟩) fun vs s4 ⟨o, H4, I4, ps, eo, e4⟩ => ?_
  subst eo e4
  have I5 : Inv X pins σ H4 { s4 with heap := s4.heap.push { cls := .type "slice", data := .fields #[vl, vu, vs] } } := I4.kept (t' := s4.toks) fun b ob q => Heap.get?_push_of_some _ q
  obtain ⟨its, r, ht, hz⟩ := I5.list hx
  have hlen := r.length
  refine (show wpAny (model X.prog X.w) X.A (subscriptTail e (.Slice (some (.UnaryOp .USub (.Constant (.int 2) j p0) p4)) none (some (.UnaryOp .USub (.Constant (.int 1) k p1) p2)) p3) (.ref a) (.ref s4.heap.objs.size)) (EP X pins σ Q) X.xe { s4 with heap := s4.heap.push { cls := .type "slice", data := .fields #[vl, vu, vs] } } from ?_)
  refine tail_any (ops := [.ref a, .ref s4.heap.objs.size]) ht.isList.typeIs (PySem.slot_list_getitem.lookup) ?_ (by with_unfolding_all rfl)
  refine wpAny_getItem_list_slice ht.isList (Heap.IsSliceOf.new _ vl vu vs) pl pu ps (by decide) ?_ (by rw [List.size_toArray]; omega)
  rw [sl2_pick]
  refine ⟨.ref _, _, I5.laid (t' := s4.toks) (o := .lst xs.dropLast.reverse) (fun b ob q => Heap.get?_push_of_some _ q) (Nat.le_refl _) ?_, rfl, q _ (I5.hok.fresh (Nat.le_refl _))⟩
  have hd : Vals xs.dropLast its.dropLast := by
    have e1 : xs.dropLast = xs.take (xs.length - 1) := List.dropLast_eq_take
    have e2 : its.dropLast = its.take (its.length - 1) := List.dropLast_eq_take
    rw [e1, e2, hlen]
    exact r.take _
  exact ⟨by rw [List.length_reverse, List.length_dropLast]; omega, _, 0, hd.reverse, Heap.get?_push_size _ rfl⟩
section
variable {K : PySem.W.Frag} {L L' : List Ent} {H : Hp} {σ : L2.St} {Q : VK} {a : Addr} {ds : List PyData} {te : TE}
theorem DvAll.rev {F : Hp} : ∀ {xs : List V} {ds : List PyData}, DvAll K F xs ds → DvAll K F xs.reverse ds.reverse
  | [], [], _ => .nil
  | x :: xs, d :: ds, .cons h r => by
    rw [List.reverse_cons, List.reverse_cons]
    exact (DvAll.rev r).app (.cons h .nil)
theorem w_rev2L (hS : St K L H) (h1 : LsIn K L a ds) (h : ∀ q H', St K (Lg.ls K q ds.dropLast.reverse :: L) H' → Q (.ref q) H') : ∃ a' xs, (V.ref a) = .ref a' ∧ SqL K H a' xs ∧ ∀ p, H p = none → Q (.ref p) (upd H p (.lst xs.dropLast.reverse)) := by
  obtain ⟨F, xs, g1, g2, g3, g4⟩ := hS.lsin h1
  refine ⟨a, xs, rfl, SqL.of g3, fun q hq => h q _ (hS.alloc hq fun F' e w => ?_)⟩
  obtain ⟨xs', k1, k2⟩ := h1.ok e w
  rw [g3] at k1; cases k1
  refine ⟨_, rfl, DvAll.rev ?_⟩
  have e1 : xs.dropLast = xs.take (xs.length - 1) := List.dropLast_eq_take
  have e2 : ds.dropLast = ds.take (ds.length - 1) := List.dropLast_eq_take
  rw [e1, e2, g4.len]
  exact k2.take _
theorem w_rev2 (h : te σ H fun x H1 => ∃ a xs, x = .ref a ∧ SqL K H1 a xs ∧ ∀ p, H1 p = none → Q (.ref p) (upd H1 p (.lst xs.dropLast.reverse))) : tRev2 K te σ H Q := h
theorem w_maxL {ns : List Int} (hS : St K L H) (hl : LsIn K L a (ns.map PyData.int)) (hn : 0 < ns.length) (h : ∀ m, m ∈ ns → (∀ y, y ∈ ns → y ≤ m) → Q (.int m) H) : rMax K [.ref a] H Q := by
  obtain ⟨F, xs, h1, h2, h3, h4⟩ := hS.lsin hl
  refine ⟨a, ns, rfl, ?_, hn, h⟩
  have := h4.ints_inv
  subst this
  exact SqL.of h3
end
theorem map_at {α β : Type} {l : List α} {f : α → β} {i : Nat} {d : β} (h : (l.map f)[i]? = some d) : ∃ x, l[i]? = some x ∧ d = f x := by
  rw [List.getElem?_map] at h
  cases hx : l[i]? with
  | none => rw [hx] at h; cases h
  | some x => rw [hx] at h; exact ⟨x, rfl, (Option.some.inj h).symm⟩
end Lg

/-! [f(x) for x in xs if test], where test and f make new things; what follows a test, told once; promises of defs that call themselves. -/
namespace Lg
open PySem PySem.Spec PyProof.Rows L2
section
variable {K : PySem.W.Frag} {L : List Ent} {σ : L2.St} {H : Hp} {Q : VK} {a : Addr} {ds : List PyData} {g : TG} {tt tu : TT} {ta tb te : TE} {vs : List Nat}
theorem LsIn.see (h : LsIn K L a ds) : See K L (.ref a) (.list ds) := by
  cases h with
  | own m => exact .own m
  | dat m => exact .is (.dat m)
theorem eqv_nil (ds : List PyData) : PyData.eqv (.list ds) (.list []) = ds.isEmpty := by
  cases ds <;> simp [PyData.eqv, PyData.eqvAll]
theorem w_and3 {R : Bool → Hp → Prop} (P : Hp → Prop) (hf : ∀ H2, P H2 → R false H2) (h : (∀ H2, P H2 → R false H2) → tt σ H fun c H1 => if c = true then tu σ H1 R else R false H1) : tAnd tt tu σ H R := h hf
theorem w_or3 {R : Bool → Hp → Prop} (P : Hp → Prop) (hf : ∀ H2, P H2 → R true H2) (h : (∀ H2, P H2 → R true H2) → tt σ H fun c H1 => if c = true then R true H1 else tu σ H1 R) : tOr tt tu σ H R := h hf
theorem w_ifz {b : Bool} {z : V} (h1 : b = true → ∀ R : VK, R z H → ta σ H R) (h2 : b = false → ∀ R : VK, R z H → tb σ H R) (h : Q z H) : if b = true then ta σ H Q else tb σ H Q := by
  cases b with
  | true => rw [if_pos rfl]; exact h1 rfl _ h
  | false => rw [if_neg (by simp)]; exact h2 rfl _ h
theorem w_lcG (f : PyData → Option PyData) (hS : St K L H) (hl : LsIn K L a ds) (hn : ds.length ≤ 100000)
    (hs : ∀ (v : V) (d : PyData) (H : Hp) (q : Addr) (es : List PyData) (Z1 : VK) (Z2 : Hp → Prop), d ∈ ds → St K (.dat v d :: .cell q (.ls K es) :: L) H → (∀ e, f d = some e → ∀ y H3, St K (.dat y e :: .cell q (.ls K es) :: L) H3 → Z1 y H3) →
      (f d = none → ∀ H3, St K (.cell q (.ls K es) :: L) H3 → Z2 H3) → g v (wipe σ vs) H fun σ2 H2 => wipe σ2 vs = wipe σ vs ∧ tt σ2 H2 fun b H3 => if b = true then te σ2 H3 Z1 else Z2 H3)
    (h : ∀ q H', St K (.cell q (.ls K (ds.filterMap f)) :: L) H' → Q (.ref q) H') : LcW (Itl K a) g tt te vs σ H Q := by
  intro q hq
  refine ⟨fun i m H => m = ds.length - i ∧ i ≤ ds.length ∧ St K (.cell q (.ls K ((ds.take i).filterMap f)) :: L) H, ⟨ds.length, by simp, Nat.zero_le _, hS.alloc hq fun F _ _ => ⟨[], rfl, .nil⟩⟩, ?_⟩
  rintro i m H ⟨rfl, hi, hS1⟩
  by_cases hlt : i < ds.length
  · obtain ⟨xs, v, h3, h5, _, h6⟩ := hS1.item hl.cons (k := i) (d := ds[i]) (by simp [hlt])
    refine .inr ⟨⟨xs, v, SqL.of h3, h5⟩, fun H' => i + 1 ≤ ds.length ∧ St K (.cell q (.ls K ((ds.take (i + 1)).filterMap f)) :: L) H', fun H' w => ⟨ds.length - (i + 1), by omega, rfl, w⟩, fun x H' y => ?_⟩
    obtain ⟨rfl, y⟩ := y
    have hx := y xs (SqL.of h3)
    rw [h5] at hx
    have hvx := Option.some.inj hx
    subst hvx
    have e : ds.take (i + 1) = ds.take i ++ [ds[i]] := by rw [List.take_add_one]; simp [hlt]
    refine hs v ds[i] H' _ _ _ _ (List.getElem_mem hlt) h6 (fun e1 hp y H3 hS3 => ?_) fun hp H3 hS3 => ?_
    · obtain ⟨F, ys, h1, h2, h7, h8⟩ := hS3.lsin (.own (.tail _ (.head _)))
      refine ⟨ys, h7, ?_, by omega, ?_⟩
      · rw [h8.len]
        refine Nat.lt_of_le_of_lt ?_ (show 100000 < sizeLine by decide)
        exact Nat.le_trans (List.length_filterMap_le _ _) (by simp; omega)
      · rw [e, List.filterMap_append]
        have : [ds[i]].filterMap f = [e1] := by simp [hp]
        rw [this]
        have h9 := hS3.writeP (o := .lst (ys ++ [y])) (ψ := .ls K ((ds.take i).filterMap f ++ [e1])) (.there .here) fun F' x e2 q2 hx hφ => ?_
        · exact h9.tail
        · obtain ⟨zs, rfl, hzs⟩ := hφ
          rw [h7] at hx
          cases hx
          exact ⟨_, rfl, hzs.app (.cons (q2 _ (.head _)) .nil)⟩
    · refine ⟨by omega, ?_⟩
      rw [e, List.filterMap_append]
      have : [ds[i]].filterMap f = [] := by simp [hp]
      rw [this, List.append_nil]
      exact hS3
  · have e : i = ds.length := by omega
    subst e
    rw [List.take_length] at hS1
    obtain ⟨xs, h3, h4⟩ := hS1.lenl hl.cons
    exact .inl ⟨⟨xs, SqL.of h3, by rw [h4]; simp⟩, h q H hS1⟩
/-- .. over a tuple -/
theorem w_lcGT {xs : List V} (f : PyData → Option PyData) (hS : St K L H) (hm : Ent.fact (Fr.tupf K a xs ds) ∈ L) (hn : ds.length ≤ 100000)
    (hs : ∀ (v : V) (d : PyData) (H : Hp) (q : Addr) (es : List PyData) (Z1 : VK) (Z2 : Hp → Prop), d ∈ ds → St K (.dat v d :: .cell q (.ls K es) :: L) H → (∀ e, f d = some e → ∀ y H3, St K (.dat y e :: .cell q (.ls K es) :: L) H3 → Z1 y H3) →
      (f d = none → ∀ H3, St K (.cell q (.ls K es) :: L) H3 → Z2 H3) → g v (wipe σ vs) H fun σ2 H2 => wipe σ2 vs = wipe σ vs ∧ tt σ2 H2 fun b H3 => if b = true then te σ2 H3 Z1 else Z2 H3)
    (h : ∀ q H', St K (.cell q (.ls K (ds.filterMap f)) :: L) H' → Q (.ref q) H') : LcW (Itt K a) g tt te vs σ H Q := by
  intro q hq
  refine ⟨fun i m H => m = ds.length - i ∧ i ≤ ds.length ∧ St K (.cell q (.ls K ((ds.take i).filterMap f)) :: L) H, ⟨ds.length, by simp, Nat.zero_le _, hS.alloc hq fun F _ _ => ⟨[], rfl, .nil⟩⟩, ?_⟩
  rintro i m H ⟨rfl, hi, hS1⟩
  obtain ⟨hT, hlen, hget⟩ := hS1.tf (a := a) (ds := ds) (xs := xs) (.tail _ hm)
  by_cases hlt : i < ds.length
  · have hxi : xs[i]? = some xs[i] := List.getElem?_eq_getElem (by omega)
    have h6 := hget i ds[i] xs[i] (by simp [hlt]) hxi
    refine .inr ⟨⟨xs, xs[i], hT, hxi⟩, fun H' => i + 1 ≤ ds.length ∧ St K (.cell q (.ls K ((ds.take (i + 1)).filterMap f)) :: L) H', fun H' w => ⟨ds.length - (i + 1), by omega, rfl, w⟩, fun x H' y => ?_⟩
    obtain ⟨rfl, y⟩ := y
    have hx := y xs hT
    rw [hxi] at hx
    have hvx := Option.some.inj hx
    subst hvx
    have e : ds.take (i + 1) = ds.take i ++ [ds[i]] := by rw [List.take_add_one]; simp [hlt]
    refine hs _ ds[i] H' _ _ _ _ (List.getElem_mem hlt) h6 (fun e1 hp y H3 hS3 => ?_) fun hp H3 hS3 => ?_
    · obtain ⟨F, ys, h1, h2, h7, h8⟩ := hS3.lsin (.own (.tail _ (.head _)))
      refine ⟨ys, h7, ?_, by omega, ?_⟩
      · rw [h8.len]
        refine Nat.lt_of_le_of_lt ?_ (show 100000 < sizeLine by decide)
        exact Nat.le_trans (List.length_filterMap_le _ _) (by simp; omega)
      · rw [e, List.filterMap_append]
        have : [ds[i]].filterMap f = [e1] := by simp [hp]
        rw [this]
        have h9 := hS3.writeP (o := .lst (ys ++ [y])) (ψ := .ls K ((ds.take i).filterMap f ++ [e1])) (.there .here) fun F' x e2 q2 hx hφ => ?_
        · exact h9.tail
        · obtain ⟨zs, rfl, hzs⟩ := hφ
          rw [h7] at hx
          cases hx
          exact ⟨_, rfl, hzs.app (.cons (q2 _ (.head _)) .nil)⟩
    · refine ⟨by omega, ?_⟩
      rw [e, List.filterMap_append]
      have : [ds[i]].filterMap f = [] := by simp [hp]
      rw [this, List.append_nil]
      exact hS3
  · have e : i = ds.length := by omega
    subst e
    rw [List.take_length] at hS1
    exact .inl ⟨⟨xs, hT, by rw [hlen]; exact Nat.le_refl _⟩, h q H hS1⟩
end
/-! ### a promise told otherwise -/
section
variable {P : Program} {w : World} {K : PySem.W.Frag} {mg : Str → Option Value} {base : Heap} {k : Nat} {x : Str} {C : Addr} {sp sp' : Sp} {dvs : List V}
theorem cal_imp (c : C8.Cal P w K mg base k x sp dvs) (h : ∀ vs H Q E, sp' vs H Q E → sp vs H Q E) : C8.Cal P w K mg base k x sp' dvs := by
  obtain ⟨f, fd, ps, ds, F, r⟩ := c.ex
  exact ⟨f, fd, ps, ds, F.imp h, r⟩
theorem met_imp (c : C8.Met P w K mg base k C x sp dvs) (h : ∀ vs H Q E, sp' vs H Q E → sp vs H Q E) : C8.Met P w K mg base k C x sp' dvs := by
  obtain ⟨f, fd, ps, ds, c1, c2, F, r⟩ := c.ex
  exact ⟨f, fd, ps, ds, c1, c2, F.imp h, r⟩
theorem calX_imp (c : CalX P w K mg base k x sp) (h : ∀ vs H Q E, sp' vs H Q E → sp vs H Q E) : CalX P w K mg base k x sp' := by
  obtain ⟨f, fd, ps, F, r⟩ := c.ex
  exact ⟨f, fd, ps, F.imp h, r⟩
theorem metX_imp (c : MetX P w K mg base k C x sp) (h : ∀ vs H Q E, sp' vs H Q E → sp vs H Q E) : MetX P w K mg base k C x sp' := by
  obtain ⟨f, fd, ps, c1, c2, F, r⟩ := c.ex
  exact ⟨f, fd, ps, c1, c2, F.imp h, r⟩
end
end Lg

/-! list.index and `in` over data; a tuple repeated; replace by a text out of a row; the head with the statics; raw lists of lists. -/
namespace Lg
open PySem PySem.Spec PyProof.Rows L2
/-! ### the head: tables, one more Bool, the statics in sight -/
def asC (g : Addr → Option Obj) (n : Nat) : List Addr := cStatics :: He.asD g n
def obsTC (n : Nat) (fa : List He.Fa) (fn : List He.DefD) (ts : List He.Tab) (ex : PySem.W.Frag → Bool) (g : Addr → Option Obj) : AlTB := (He.obsT fa fn ts (He.frG g (asC g n)), ex (He.frG g (asC g n)))
def hookTC (n : Nat) (fa : List He.Fa) (fn : List He.DefD) (ts : List He.Tab) (ex : PySem.W.Frag → Bool) : PySem.W.Hook where
  α := AlTB
  obs := fun s => obsTC n fa fn ts ex s.heap.get?
  val := fun w => (He.valT fn ts w, true)
  says := fun w h => ∃ K : PySem.W.Frag, K.In h ∧ He.SaysT fa fn ts w K ∧ ex K = true
  of := fun _ _ e => ⟨_, He.frG_in, congrArg (fun z : AlTB => z.1) e, congrArg (fun z : AlTB => z.2) e⟩
  keeps := fun _ _ _ ⟨K, hK, c⟩ k => ⟨K, PySem.W.Frag.In.keeps hK k, c⟩
theorem obsTC_eq {n : Nat} {fa : List He.Fa} {fn : List He.DefD} {ts : List He.Tab} {ex : PySem.W.Frag → Bool} {g : Addr → Option Obj} {s : Shared} (h : ∀ a, g a = s.heap.get? a) : obsTC n fa fn ts ex g = (hookTC n fa fn ts ex).obs s := by
  have e : g = s.heap.get? := funext h
  rw [e] <;> rfl
def nbB (K : PySem.W.Frag) : Bool := decide (PySem.W.nsIn K cStatics sharingNotToldKey = some none)
section
variable {X : Cx} {pins : List (Addr × Obj)} {σ : L2.St} {H : Hp} {s : Shared}
theorem nb_of (I : Inv X pins σ H s) (h : nbB X.K = true) : NoneBooked s.heap := by
  obtain ⟨mc, h1, _⟩ := I.nolimit
  exact ⟨mc, h1, PySem.W.ns_none_of I.kIn h1 (of_decide_eq_true h)⟩
end
/-! ### o.replace(y, [z0, z1, z2][e]) -/
def tReplD (to te : TE) (y z0 z1 z2 : Str) : TE := fun σ H Q => to σ H fun v H1 => ∃ x, v = .str x ∧ te σ H1 fun iv H2 => ∃ (i : Nat) (z : Str), iv = .int (i : Nat) ∧ [z0, z1, z2][i]? = some z ∧ x.length + (x.length + 1) * z.length ≤ 16777216 ∧ Q (.str (Txt.replace x y z)) H2
section
variable {X : Cx} {o e : Expr} {to te : TE} {apos pos : Pos}
theorem pet_replD {y z0 z1 z2 : Str} {j j0 j1 j2 : Nat} {c c0 c1 c2 lp sp : Pos} (nb : nbB X.K = true) (ho : PET X o to) (he : PE X e te) (hs : PlainIx e)
    (hst : starEach [.Constant (.str y) j c, .Subscript (.List [.Constant (.str z0) j0 c0, .Constant (.str z1) j1 c1, .Constant (.str z2) j2 c2] lp) e sp] X.env = [(false, eval (.Constant (.str y) j c) X.env), (false, eval (.Subscript (.List [.Constant (.str z0) j0 c0, .Constant (.str z1) j1 c1, .Constant (.str z2) j2 c2] lp) e sp) X.env)] := by rfl)
    (hls : starEach [.Constant (.str z0) j0 c0, .Constant (.str z1) j1 c1, .Constant (.str z2) j2 c2] X.env = [(false, eval (.Constant (.str z0) j0 c0) X.env), (false, eval (.Constant (.str z1) j1 c1) X.env), (false, eval (.Constant (.str z2) j2 c2) X.env)] := by rfl)
    (hbase : attributeBase o "replace" X.env (eval o X.env) = eval o X.env := by rfl) (hline : (apos.endLine == pos.line) = true := by rfl) :
    PET X (.Call (.Attribute o "replace" apos) [.Constant (.str y) j c, .Subscript (.List [.Constant (.str z0) j0 c0, .Constant (.str z1) j1 c1, .Constant (.str z2) j2 c2] lp) e sp] [] pos) (tReplD to te y z0 z1 z2) := by
  intro pins u σ H Q hu I h
  refine PySem.Call_method2 hbase hst hline (wpAny_mono (wpAny_toks_of hu (ho pins u σ H _ hu I h)) (fun v u1 q => ?_) fun _ _ z => z.2)
  obtain ⟨hk, v', H1, I1, r1, x, rfl, q⟩ := q
  obtain ⟨tx, rfl⟩ := r1
  refine ⟨"str", _, PySem.F.plainAttrs_str, PySem.F.slot_str_replace, PySem.F.type_str_replace, typeIs_str _ _ _, (fun _ e => nomatch e), ?_⟩
  refine Calls.callWith_builtin rfl (Calls.evalArgs_plain (Calls.spliced_cons (Calls.Constant_str (Calls.spliced_cons ?_))))
  refine Subscript_ (wpAny_List_spliced ?_)
  rw [hls]
  refine Calls.spliced_cons (Calls.Constant_str (k := j0) (pos := c0) (Calls.spliced_cons (Calls.Constant_str (k := j1) (pos := c1) (Calls.spliced_cons (Calls.Constant_str (k := j2) (pos := c2) (Calls.spliced_nil ⟨by show 3 ≤ sizeLine; decide, ?_⟩))))))
  have J := ClX.pin_new (o := { cls := .type "list", data := .seq [Value.str z0 (u1.toks + 1), Value.str z1 (u1.toks + 1 + 1), Value.str z2 (u1.toks + 1 + 1 + 1)].toArray }) (h' := u1.heap.push { cls := .type "list", data := .seq [Value.str z0 (u1.toks + 1), Value.str z1 (u1.toks + 1 + 1), Value.str z2 (u1.toks + 1 + 1 + 1)].toArray }) (a := u1.heap.objs.size) (t' := u1.toks + 1 + 1 + 1 + 1) I1 (fun b w e => Heap.get?_push_of_some _ e) (Nat.le_refl _) (Heap.get?_push_size _ rfl) (fun v => by simp)
  refine thn (he.run _ _ σ H1 _ J q) fun iv u2 ⟨w, H2, I2, r2, q2⟩ => ?_
  obtain ⟨i, z, rfl, hz, hb, q2⟩ := q2
  obtain ⟨ti, rfl⟩ := r2
  have hl : u2.heap.IsList u1.heap.objs.size [Value.str z0 (u1.toks + 1), Value.str z1 (u1.toks + 1 + 1), Value.str z2 (u1.toks + 1 + 1 + 1)].toArray := ⟨_, ClX.pin_at I2, rfl, 0, rfl⟩
  have I3 := ClX.unpin I2
  have hi : ∃ k : Nat, [Value.str z0 (u1.toks + 1), Value.str z1 (u1.toks + 1 + 1), Value.str z2 (u1.toks + 1 + 1 + 1)][i]? = some (.str z (u1.toks + 1 + k)) ∧ i < 3 := by
    match i, hz with
    | 0, hz => exact ⟨0, by simp at hz; rw [hz]; rfl, by decide⟩
    | 1, hz => exact ⟨1, by simp at hz; rw [hz]; rfl, by decide⟩
    | 2, hz => exact ⟨2, by simp at hz; rw [hz]; rfl, by decide⟩
    | i + 3, hz => simp at hz
  obtain ⟨k, hi, hi3⟩ := hi
  refine item_listR hl (by omega) (by omega) (x := .str z (u1.toks + 1 + k)) (by simpa using hi) ?_ (hs _ _)
  refine Calls.spliced_nil ?_
  exact PySem.SC.replaceA (show u1.toks ≠ 0 by omega) (show u1.toks + 1 + k ≠ 0 by omega) (show u1.toks ≠ u1.toks + 1 + k by omega) hb (fun t' n => ⟨.str (Txt.replace x y z), H2, I3.tok n, ⟨t', rfl⟩, q2⟩) (nb_of I3 nb)
end
theorem u65 {k : Nat} {A : Around} (hr : Room k A) : A.units + 65 < cLine := by have := units65 hr; omega
/-! ### over the ledger -/
def Fr.all (K : PySem.W.Frag) (xs : List V) (ds : List PyData) : Fr := ⟨fun F => DvAll K F xs ds, fun _ _ e h => DvAll.mono e _ _ h⟩
section
variable {K : PySem.W.Frag} {L L' : List Ent} {H : Hp} {Q : VK} {a : Addr} {ds : List PyData} {d : PyData} {x v : V} {xs : List V}
theorem w_ninDL (hS : St K L H) (hx : See K L x d) (hy : LsIn K L a ds) (s1 : SeqAt.shaped d = true) (s2 : SeqAt.shaped (.list ds) = true) (h : Q (.bl (!ds.any fun z => PyData.eqv z d)) H) : rNotInD K x (.ref a) H Q := ⟨d, ds, hx.dp hS, hy.see.dp hS, s1, s2, h⟩
theorem w_inDL (hS : St K L H) (hx : See K L x d) (hy : LsIn K L a ds) (s1 : SeqAt.shaped d = true) (s2 : SeqAt.shaped (.list ds) = true) (h : Q (.bl (ds.any fun z => PyData.eqv z d)) H) : rInD K x (.ref a) H Q := ⟨d, ds, hx.dp hS, hy.see.dp hS, s1, s2, h⟩
theorem w_indexD {j : Nat} {z : PyData} (hS : St K L H) (hy : LsIn K L a ds) (hx : See K L x d) (s2 : SeqAt.shaped (.list ds) = true) (s1 : SeqAt.shaped d = true) (h1 : ds[j]? = some z) (h2 : PyData.eqv z d = true) (h3 : ∀ (m : Nat) (z' : PyData), m < j → ds[m]? = some z' → PyData.eqv z' d = false) (h : Q (.int (j : Nat)) H) : rIndexD K (.ref a) [x] H Q :=
  ⟨a, x, d, ds, j, z, rfl, rfl, hy.see.dp hS, hx.dp hS, s2, s1, h1, h2, h3, h⟩
theorem w_repT {i : Int} (hS : St K L H) (hl : Is L (.ref a) (.tuple ds)) (hne : ds ≠ []) (h1 : 2 ≤ i) (h2 : i ≤ 1000) (hn : ds.length ≤ 1000) (h : ∀ p H', St K (Lg.dat (.ref p) (.tuple (List.replicate i.toNat ds).flatten) :: L) H' → Q (.ref p) H') : rRepT K (.ref a) (.int i) H Q := by
  obtain ⟨xs, hT, hS2⟩ := hS.tupF hl
  obtain ⟨F0, _, q0⟩ := hS2.ex
  have h0 : SqT K F0 a xs ∧ DvAll K F0 xs ds := q0 _ (.head _)
  have hlen := h0.2.len
  refine ⟨a, i, xs, rfl, rfl, hT, fun z => hne ?_, h1, h2, by rw [hlen]; exact hn, fun p hp => h p _ ((hS2.fresh hp fun F' hF' e' q => ?_).to (.cons .here (.drop .refl)))⟩
  · rw [z] at hlen
    exact List.length_eq_zero_iff.mp hlen.symm
  · have h3 : SqT K F' a xs ∧ DvAll K F' xs ds := q _ (.head _)
    exact .tup (SqT.of upd_same) (DvAll.mono (Ex.new hF') _ _ (h3.2.flat _))
/-- a raw list in the ledger: its last item -/
theorem w_ixRM1 {i : Int} (hS : St K L H) (hm : Lg.own a (.lst (xs ++ [v])) ∈ L) (hi : i = -1) (h : Q v H) : rIx K (.ref a) (.int i) H Q := by
  subst hi
  have h3 := hS.own hm
  refine .inl ⟨a, _, -1, v, rfl, rfl, SqL.of h3, ?_, h⟩
  have e : ixN (xs ++ [v]).length (-1) = some xs.length := by
    unfold ixN
    rw [if_neg (by decide), if_pos (by simp; omega)]
    congr 1
    simp
    omega
  unfold atI
  rw [e]
  simp
end
end Lg

/-! raw lists turned to lists of data; comprehensions told by a function; places from the end; texts in lists -/
namespace Lg
open PySem PySem.Spec PyProof.Rows L2
section
variable {K : PySem.W.Frag} {L L' : List Ent} {H : Hp} {Q : VK} {a : Addr} {ds : List PyData} {d : PyData} {x v : V} {xs : List V} {σ : L2.St} {g : TG} {te : TE} {vs : List Nat}
theorem St.fact (h : St K L H) {f : Fr} (q : ∀ F, Ex F H → (∀ e ∈ L, e.ok K F H) → f.p F) : St K (.fact f :: L) H := by
  obtain ⟨F, e1, e2⟩ := h.ex
  refine ⟨⟨F, e1, fun e he => ?_⟩, h.nd⟩
  rcases List.mem_cons.mp he with rfl | he
  · exact q F e1 e2
  · exact e2 e he
theorem St.all0 (h : St K L H) : St K (.fact (Fr.all K [] []) :: L) H := h.fact fun _ _ _ => .nil
theorem St.allS (h : St K L H) (hm : Ent.fact (Fr.all K xs ds) ∈ L) (hd : Lg.dat v d ∈ L) : St K (.fact (Fr.all K (xs ++ [v]) (ds ++ [d])) :: L) H := h.fact fun F _ q => by
  have h1 : DvAll K F xs ds := q _ hm
  have h2 : Dv K F v d := q _ hd
  exact h1.app (.cons h2 .nil)
/-- a raw list whose items are known is a list of data -/
theorem St.own_ls (h : St K L H) (hp : Put L (Lg.own a (.lst xs)) (Lg.ls K a ds) L') (hm : Ent.fact (Fr.all K xs ds) ∈ L) : St K L' H := h.data hp fun F x _ q _ hφ => by
  have h1 : DvAll K F xs ds := q _ hm
  exact ⟨xs, hφ, h1⟩
/-- a place told from the end -/
theorem w_ixNg {i : Int} {k : Nat} (hS : St K L H) (hl : LsIn K L a ds) (hi : i = (k : Int) - ds.length) (hk : k < ds.length) (hd : ds[k]? = some d) (h : ∀ v, St K (.dat v d :: L) H → Q v H) : rIx K (.ref a) (.int i) H Q := by
  obtain ⟨xs, v, h3, h5, hlen, h6⟩ := hS.item hl (k := k) (d := d) hd
  refine .inl ⟨a, xs, i, v, rfl, rfl, SqL.of h3, ?_, h v h6⟩
  have e : ixN xs.length i = some k := by
    unfold ixN
    rw [if_neg (by omega), if_pos (by omega)]
    congr 1
    omega
  unfold atI
  rw [e]
  exact h5
theorem w_inLS {l : List Nat} {ys : List (List Nat)} {neg : Bool} (hS : St K L H) (hl : LsIn K L a (ys.map fun y => PyData.str (S y))) (h : Q (.bl (if neg then !decide (l ∈ ys) else decide (l ∈ ys))) H) : rInX K neg (.str (S l)) (.ref a) H Q := by
  obtain ⟨F, xs, _, _, h3, h4⟩ := hS.lsin hl
  have e : (ys.map fun y => PyData.str (S y)) = (ys.map S).map PyData.str := by rw [List.map_map]; rfl
  rw [e] at h4
  rw [h4.strs_inv] at h3
  have e2 : (ys.map S).map V.str = sV ys := by unfold sV; rw [List.map_map]; rfl
  rw [e2] at h3
  exact .inl ⟨a, sV ys, rfl, .inl (SqL.of h3), rfl, sV_flat ys, by rw [inV_s]; exact h⟩
/-- a comprehension: f of each item -/
theorem w_lcA {α : Type} {zs : List α} {c : α → PyData} (f : α → PyData) (hS : St K L H) (hl : LsIn K L a (zs.map c)) (hn : zs.length ≤ 100000)
    (hs : ∀ (z : α) (v : V) (H : Hp) (q : Addr) (es : List PyData) (Z : VK), z ∈ zs → St K (.dat v (c z) :: .cell q (.ls K es) :: L) H → (∀ y H3, St K (.dat y (f z) :: .cell q (.ls K es) :: L) H3 → Z y H3) → g v (wipe σ vs) H fun σ2 H2 => wipe σ2 vs = wipe σ vs ∧ te σ2 H2 Z)
    (h : ∀ q H', St K (.cell q (.ls K (zs.map f)) :: L) H' → Q (.ref q) H') : LcW (Itl K a) g tYes te vs σ H Q := by
  refine w_lcL (R := fun i e => ∃ z, zs[i]? = some z ∧ e = f z) hS hl (by rw [List.length_map]; exact hn) ?_ ?_
  · intro i d q es v H1 hd _ hS1 Z hZ
    obtain ⟨z, hz, rfl⟩ := map_at hd
    exact hs z v H1 q es Z (List.mem_of_getElem? hz) hS1 fun y H3 hS3 => hZ y _ H3 ⟨z, hz, rfl⟩ hS3
  · intro q es H' hlen hR hS1
    have e : es = zs.map f := by
      rw [List.length_map] at hlen
      refine List.ext_getElem? fun i => ?_
      by_cases hi : i < es.length
      · have he : es[i]? = some es[i] := List.getElem?_eq_getElem hi
        obtain ⟨z, h1, h2⟩ := hR i _ he
        rw [he, List.getElem?_map, h1, h2]
        rfl
      · rw [List.getElem?_eq_none (by omega), List.getElem?_eq_none (by rw [List.length_map]; omega)]
    subst e
    exact h q H' hS1
theorem w_lcAT {α : Type} {zs : List α} {c : α → PyData} (f : α → PyData) (hS : St K L H) (hm : Ent.fact (Fr.tupf K a xs (zs.map c)) ∈ L) (hn : zs.length ≤ 100000)
    (hs : ∀ (z : α) (v : V) (H : Hp) (q : Addr) (es : List PyData) (Z : VK), z ∈ zs → St K (.dat v (c z) :: .cell q (.ls K es) :: L) H → (∀ y H3, St K (.dat y (f z) :: .cell q (.ls K es) :: L) H3 → Z y H3) → g v (wipe σ vs) H fun σ2 H2 => wipe σ2 vs = wipe σ vs ∧ te σ2 H2 Z)
    (h : ∀ q H', St K (.cell q (.ls K (zs.map f)) :: L) H' → Q (.ref q) H') : LcW (Itt K a) g tYes te vs σ H Q := by
  refine w_lcT (R := fun i e => ∃ z, zs[i]? = some z ∧ e = f z) hS hm (by rw [List.length_map]; exact hn) ?_ ?_
  · intro i d q es v H1 hd _ hS1 Z hZ
    obtain ⟨z, hz, rfl⟩ := map_at hd
    exact hs z v H1 q es Z (List.mem_of_getElem? hz) hS1 fun y H3 hS3 => hZ y _ H3 ⟨z, hz, rfl⟩ hS3
  · intro q es H' hlen hR hS1
    have e : es = zs.map f := by
      rw [List.length_map] at hlen
      refine List.ext_getElem? fun i => ?_
      by_cases hi : i < es.length
      · have he : es[i]? = some es[i] := List.getElem?_eq_getElem hi
        obtain ⟨z, h1, h2⟩ := hR i _ he
        rw [he, List.getElem?_map, h1, h2]
        rfl
      · rw [List.getElem?_eq_none (by omega), List.getElem?_eq_none (by rw [List.length_map]; omega)]
    subst e
    exact h q H' hS1
end
end Lg

/-! comprehensions with a test, over lists and tuples, told by what holds of what stands so far; texts in order -/
namespace Lg
open PySem PySem.Spec PyProof.Rows L2
def rGtS : R2 := fun x y H Q => ∃ i j, x = .str i ∧ y = .str j ∧ Q (.bl (decide (j.cps.toList < i.cps.toList))) H
def rGtX : R2 := fun x y H Q => rGt x y H Q ∨ rGtS x y H Q
section
variable {X : Cx}
theorem o_gtS : OpR X (compareOp .Gt) rGtS := op_gt_str
theorem o_gtX : OpR X (compareOp .Gt) rGtX := OpR.or o_gt o_gtS
end
section
variable {K : PySem.W.Frag} {L L' : List Ent} {H : Hp} {Q : VK} {a : Addr} {ds : List PyData} {d : PyData} {σ : L2.St} {g : TG} {te : TE} {tt : TT} {vs : List Nat}
theorem w_gtS {x y : List Nat} (h : ∀ b, Q (.bl b) H) : rGtX (.str (S x)) (.str (S y)) H Q := .inr ⟨_, _, rfl, rfl, h _⟩
theorem w_lcJ {α : Type} {zs : List α} {c : α → PyData} (J : Nat → List PyData → Prop) (h0 : J 0 []) (hS : St K L H) (hl : LsIn K L a (zs.map c)) (hn : zs.length ≤ 100000)
    (hs : ∀ (i : Nat) (z : α) (v : V) (H : Hp) (q : Addr) (es : List PyData) (Z1 : VK) (Z2 : Hp → Prop), zs[i]? = some z → J i es → St K (.dat v (c z) :: .cell q (.ls K es) :: L) H → (∀ e y H3, J (i + 1) (es ++ [e]) → St K (.dat y e :: .cell q (.ls K es) :: L) H3 → Z1 y H3) →
      (∀ H3, J (i + 1) es → St K (.cell q (.ls K es) :: L) H3 → Z2 H3) → g v (wipe σ vs) H fun σ2 H2 => wipe σ2 vs = wipe σ vs ∧ tt σ2 H2 fun b H3 => if b = true then te σ2 H3 Z1 else Z2 H3)
    (h : ∀ q es H', J zs.length es → es.length ≤ zs.length → St K (.cell q (.ls K es) :: L) H' → Q (.ref q) H') : LcW (Itl K a) g tt te vs σ H Q := by
  intro q hq
  have hml : (zs.map c).length = zs.length := List.length_map ..
  refine ⟨fun i m H => m = zs.length - i ∧ i ≤ zs.length ∧ ∃ es, J i es ∧ es.length ≤ i ∧ St K (.cell q (.ls K es) :: L) H, ⟨zs.length, by simp, Nat.zero_le _, [], h0, Nat.le_refl _, hS.alloc hq fun F _ _ => ⟨[], rfl, .nil⟩⟩, ?_⟩
  rintro i m H ⟨rfl, hi, es, hJ, hes, hS1⟩
  by_cases hlt : i < zs.length
  · have hz : zs[i]? = some zs[i] := List.getElem?_eq_getElem hlt
    obtain ⟨xs, v, h3, h5, _, h6⟩ := hS1.item hl.cons (k := i) (d := c zs[i]) (by rw [List.getElem?_map, hz]; rfl)
    refine .inr ⟨⟨xs, v, SqL.of h3, h5⟩, fun H' => i + 1 ≤ zs.length ∧ ∃ es, J (i + 1) es ∧ es.length ≤ i + 1 ∧ St K (.cell q (.ls K es) :: L) H', fun H' w => ⟨zs.length - (i + 1), by omega, rfl, w⟩, fun x H' y => ?_⟩
    obtain ⟨rfl, y⟩ := y
    have hx := y xs (SqL.of h3)
    rw [h5] at hx
    have hvx := Option.some.inj hx
    subst hvx
    refine hs i zs[i] v H' _ _ _ _ hz hJ h6 (fun e1 y H3 hp hS3 => ?_) fun H3 hp hS3 => ?_
    · obtain ⟨F, ys, h1, h2, h7, h8⟩ := hS3.lsin (.own (.tail _ (.head _)))
      refine ⟨ys, h7, ?_, by omega, es ++ [e1], hp, by simp; omega, ?_⟩
      · rw [h8.len]
        exact Nat.lt_of_le_of_lt (by omega) (show 100000 < sizeLine by decide)
      · have h9 := hS3.writeP (o := .lst (ys ++ [y])) (ψ := .ls K (es ++ [e1])) (.there .here) fun F' x e2 q2 hx hφ => ?_
        · exact h9.tail
        · obtain ⟨zs, rfl, hzs⟩ := hφ
          rw [h7] at hx
          cases hx
          exact ⟨_, rfl, hzs.app (.cons (q2 _ (.head _)) .nil)⟩
    · exact ⟨by omega, es, hp, by omega, hS3⟩
  · have e : i = zs.length := by omega
    subst e
    obtain ⟨xs, h3, h4⟩ := hS1.lenl hl.cons
    exact .inl ⟨⟨xs, SqL.of h3, by rw [h4, hml]; exact Nat.le_refl _⟩, h q es H hJ hes hS1⟩
theorem w_lcP {α : Type} {zs : List α} {c : α → PyData} (P : PyData → Prop) (hS : St K L H) (hl : LsIn K L a (zs.map c)) (hn : zs.length ≤ 100000)
    (hs : ∀ (z : α) (v : V) (H : Hp) (q : Addr) (es : List PyData) (Z1 : VK) (Z2 : Hp → Prop), z ∈ zs → St K (.dat v (c z) :: .cell q (.ls K es) :: L) H → (∀ e y H3, P e → St K (.dat y e :: .cell q (.ls K es) :: L) H3 → Z1 y H3) →
      (∀ H3, St K (.cell q (.ls K es) :: L) H3 → Z2 H3) → g v (wipe σ vs) H fun σ2 H2 => wipe σ2 vs = wipe σ vs ∧ tt σ2 H2 fun b H3 => if b = true then te σ2 H3 Z1 else Z2 H3)
    (h : ∀ q es H', (∀ e ∈ es, P e) → es.length ≤ zs.length → St K (.cell q (.ls K es) :: L) H' → Q (.ref q) H') : LcW (Itl K a) g tt te vs σ H Q :=
  w_lcJ (fun _ es => ∀ e ∈ es, P e) (fun _ m => by cases m) hS hl hn (fun i z v H q es Z1 Z2 hz hJ hS1 h1 h2 => hs z v H q es Z1 Z2 (List.mem_of_getElem? hz) hS1 (fun e y H3 hp hS3 => h1 e y H3 (fun x hx => by
    rcases List.mem_append.mp hx with hx | hx
    · exact hJ x hx
    · rcases List.mem_singleton.mp hx with rfl
      exact hp) hS3) fun H3 hS3 => h2 H3 hJ hS3) h
theorem w_lcGA {α : Type} {zs : List α} {c : α → PyData} (f : α → Option PyData) (hS : St K L H) (hl : LsIn K L a (zs.map c)) (hn : zs.length ≤ 100000)
    (hs : ∀ (z : α) (v : V) (H : Hp) (q : Addr) (es : List PyData) (Z1 : VK) (Z2 : Hp → Prop), z ∈ zs → St K (.dat v (c z) :: .cell q (.ls K es) :: L) H → (∀ e, f z = some e → ∀ y H3, St K (.dat y e :: .cell q (.ls K es) :: L) H3 → Z1 y H3) →
      (f z = none → ∀ H3, St K (.cell q (.ls K es) :: L) H3 → Z2 H3) → g v (wipe σ vs) H fun σ2 H2 => wipe σ2 vs = wipe σ vs ∧ tt σ2 H2 fun b H3 => if b = true then te σ2 H3 Z1 else Z2 H3)
    (h : ∀ q H', St K (.cell q (.ls K (zs.filterMap f)) :: L) H' → Q (.ref q) H') : LcW (Itl K a) g tt te vs σ H Q :=
  w_lcJ (fun i es => es = (zs.take i).filterMap f) (by simp) hS hl hn (fun i z v H q es Z1 Z2 hz hJ hS1 h1 h2 => hs z v H q es Z1 Z2 (List.mem_of_getElem? hz) hS1 (fun e he y H3 hS3 => h1 e y H3 (by
    rw [List.take_add_one, hz, List.filterMap_append, ← hJ]
    simp [he]) hS3) fun he H3 hS3 => h2 H3 (by
    rw [List.take_add_one, hz, List.filterMap_append, ← hJ]
    simp [he]) hS3) fun q es H' hJ _ hS1 => by
      rw [List.take_length] at hJ
      subst hJ
      exact h q H' hS1
theorem w_lcJT {α : Type} {xs : List V} {zs : List α} {c : α → PyData} (J : Nat → List PyData → Prop) (h0 : J 0 []) (hS : St K L H) (hm : Ent.fact (Fr.tupf K a xs (zs.map c)) ∈ L) (hn : zs.length ≤ 100000)
    (hs : ∀ (i : Nat) (z : α) (v : V) (H : Hp) (q : Addr) (es : List PyData) (Z1 : VK) (Z2 : Hp → Prop), zs[i]? = some z → J i es → St K (.dat v (c z) :: .cell q (.ls K es) :: L) H → (∀ e y H3, J (i + 1) (es ++ [e]) → St K (.dat y e :: .cell q (.ls K es) :: L) H3 → Z1 y H3) →
      (∀ H3, J (i + 1) es → St K (.cell q (.ls K es) :: L) H3 → Z2 H3) → g v (wipe σ vs) H fun σ2 H2 => wipe σ2 vs = wipe σ vs ∧ tt σ2 H2 fun b H3 => if b = true then te σ2 H3 Z1 else Z2 H3)
    (h : ∀ q es H', J zs.length es → es.length ≤ zs.length → St K (.cell q (.ls K es) :: L) H' → Q (.ref q) H') : LcW (Itt K a) g tt te vs σ H Q := by
  intro q hq
  have hml : (zs.map c).length = zs.length := List.length_map ..
  refine ⟨fun i m H => m = zs.length - i ∧ i ≤ zs.length ∧ ∃ es, J i es ∧ es.length ≤ i ∧ St K (.cell q (.ls K es) :: L) H, ⟨zs.length, by simp, Nat.zero_le _, [], h0, Nat.le_refl _, hS.alloc hq fun F _ _ => ⟨[], rfl, .nil⟩⟩, ?_⟩
  rintro i m H ⟨rfl, hi, es, hJ, hes, hS1⟩
  obtain ⟨hT, hlen, hget⟩ := hS1.tf (a := a) (ds := zs.map c) (xs := xs) (.tail _ hm)
  by_cases hlt : i < zs.length
  · have hz : zs[i]? = some zs[i] := List.getElem?_eq_getElem hlt
    have hxi : xs[i]? = some xs[i] := List.getElem?_eq_getElem (by omega)
    have h6 := hget i (c zs[i]) xs[i] (by rw [List.getElem?_map, hz]; rfl) hxi
    refine .inr ⟨⟨xs, xs[i], hT, hxi⟩, fun H' => i + 1 ≤ zs.length ∧ ∃ es, J (i + 1) es ∧ es.length ≤ i + 1 ∧ St K (.cell q (.ls K es) :: L) H', fun H' w => ⟨zs.length - (i + 1), by omega, rfl, w⟩, fun x H' y => ?_⟩
    obtain ⟨rfl, y⟩ := y
    have hx := y xs hT
    rw [hxi] at hx
    have hvx := Option.some.inj hx
    subst hvx
    refine hs i zs[i] _ H' _ _ _ _ hz hJ h6 (fun e1 y H3 hp hS3 => ?_) fun H3 hp hS3 => ?_
    · obtain ⟨F, ys, h1, h2, h7, h8⟩ := hS3.lsin (.own (.tail _ (.head _)))
      refine ⟨ys, h7, ?_, by omega, es ++ [e1], hp, by simp; omega, ?_⟩
      · rw [h8.len]
        exact Nat.lt_of_le_of_lt (by omega) (show 100000 < sizeLine by decide)
      · have h9 := hS3.writeP (o := .lst (ys ++ [y])) (ψ := .ls K (es ++ [e1])) (.there .here) fun F' x e2 q2 hx hφ => ?_
        · exact h9.tail
        · obtain ⟨zs, rfl, hzs⟩ := hφ
          rw [h7] at hx
          cases hx
          exact ⟨_, rfl, hzs.app (.cons (q2 _ (.head _)) .nil)⟩
    · exact ⟨by omega, es, hp, by omega, hS3⟩
  · have e : i = zs.length := by omega
    subst e
    exact .inl ⟨⟨xs, hT, by rw [hlen, hml]; exact Nat.le_refl _⟩, h q es H hJ hes hS1⟩
theorem w_lcPT {α : Type} {xs : List V} {zs : List α} {c : α → PyData} (P : PyData → Prop) (hS : St K L H) (hm : Ent.fact (Fr.tupf K a xs (zs.map c)) ∈ L) (hn : zs.length ≤ 100000)
    (hs : ∀ (z : α) (v : V) (H : Hp) (q : Addr) (es : List PyData) (Z1 : VK) (Z2 : Hp → Prop), z ∈ zs → St K (.dat v (c z) :: .cell q (.ls K es) :: L) H → (∀ e y H3, P e → St K (.dat y e :: .cell q (.ls K es) :: L) H3 → Z1 y H3) →
      (∀ H3, St K (.cell q (.ls K es) :: L) H3 → Z2 H3) → g v (wipe σ vs) H fun σ2 H2 => wipe σ2 vs = wipe σ vs ∧ tt σ2 H2 fun b H3 => if b = true then te σ2 H3 Z1 else Z2 H3)
    (h : ∀ q es H', (∀ e ∈ es, P e) → es.length ≤ zs.length → St K (.cell q (.ls K es) :: L) H' → Q (.ref q) H') : LcW (Itt K a) g tt te vs σ H Q :=
  w_lcJT (fun _ es => ∀ e ∈ es, P e) (fun _ m => by cases m) hS hm hn (fun i z v H q es Z1 Z2 hz hJ hS1 h1 h2 => hs z v H q es Z1 Z2 (List.mem_of_getElem? hz) hS1 (fun e y H3 hp hS3 => h1 e y H3 (fun x hx => by
    rcases List.mem_append.mp hx with hx | hx
    · exact hJ x hx
    · rcases List.mem_singleton.mp hx with rfl
      exact hp) hS3) fun H3 hS3 => h2 H3 hJ hS3) h
theorem w_lcGAT {α : Type} {xs : List V} {zs : List α} {c : α → PyData} (f : α → Option PyData) (hS : St K L H) (hm : Ent.fact (Fr.tupf K a xs (zs.map c)) ∈ L) (hn : zs.length ≤ 100000)
    (hs : ∀ (z : α) (v : V) (H : Hp) (q : Addr) (es : List PyData) (Z1 : VK) (Z2 : Hp → Prop), z ∈ zs → St K (.dat v (c z) :: .cell q (.ls K es) :: L) H → (∀ e, f z = some e → ∀ y H3, St K (.dat y e :: .cell q (.ls K es) :: L) H3 → Z1 y H3) →
      (f z = none → ∀ H3, St K (.cell q (.ls K es) :: L) H3 → Z2 H3) → g v (wipe σ vs) H fun σ2 H2 => wipe σ2 vs = wipe σ vs ∧ tt σ2 H2 fun b H3 => if b = true then te σ2 H3 Z1 else Z2 H3)
    (h : ∀ q H', St K (.cell q (.ls K (zs.filterMap f)) :: L) H' → Q (.ref q) H') : LcW (Itt K a) g tt te vs σ H Q :=
  w_lcJT (fun i es => es = (zs.take i).filterMap f) (by simp) hS hm hn (fun i z v H q es Z1 Z2 hz hJ hS1 h1 h2 => hs z v H q es Z1 Z2 (List.mem_of_getElem? hz) hS1 (fun e he y H3 hS3 => h1 e y H3 (by
    rw [List.take_add_one, hz, List.filterMap_append, ← hJ]
    simp [he]) hS3) fun he H3 hS3 => h2 H3 (by
    rw [List.take_add_one, hz, List.filterMap_append, ← hJ]
    simp [he]) hS3) fun q es H' hJ _ hS1 => by
      rw [List.take_length] at hJ
      subst hJ
      exact h q H' hS1
end
end Lg

/-! dicts in the ledger: `dks K a kds` owns the dict at a whose keys are texts, `dkt K a kds` one whose keys are pairs of texts; kds: keys and data, in order -/
namespace Lg
open PySem PySem.Spec PyProof.Rows L2
abbrev KDt (α : Type) := List (α × PyData)
abbrev KD := KDt (List Nat)
abbrev KD2 := KDt (List Nat × List Nat)
section
variable {α κ : Type} [DecidableEq α] [DecidableEq κ] (kf : α → κ)
def mkD : KDt α → List V → List (κ × V)
  | p :: r, v :: vs => (kf p.1, v) :: mkD r vs
  | _, _ => []
def lookD (kds : KDt α) (k : α) : Option PyData := (kds.find? fun p => decide (p.1 = k)).map Prod.snd
def putD (kds : KDt α) (k : α) (d : PyData) : KDt α := if (kds.any fun p => decide (p.1 = k)) = true then kds.map (fun p => if p.1 = k then (p.1, d) else p) else kds ++ [(k, d)]
variable {K : PySem.W.Frag} {F : Hp} {kds : KDt α} {k : α} {d : PyData} {v : V}
theorem mkD_len : ∀ {kds : KDt α} {vs : List V}, vs.length = kds.length → (mkD kf kds vs).length = kds.length
  | [], vs, _ => by cases vs <;> rfl
  | p :: r, [], h => by cases h
  | p :: r, v :: vs, h => by
    have := mkD_len (kds := r) (vs := vs) (by simpa using h)
    simp [mkD, this]
theorem dv_len {vs : List V} {kds : KDt α} (h : DvAll K F vs (kds.map Prod.snd)) : vs.length = kds.length := by rw [h.len, List.length_map]
variable {kf} (inj : ∀ {x y : α}, kf x = kf y ↔ x = y)
include inj
theorem mkD_get : ∀ {kds : KDt α} {vs : List V}, DvAll K F vs (kds.map Prod.snd) → (lookD kds k = none → valV (mkD kf kds vs) (kf k) = none) ∧ ∀ d, lookD kds k = some d → ∃ v, valV (mkD kf kds vs) (kf k) = some v ∧ Dv K F v d
  | [], [], _ => ⟨fun _ => rfl, fun d h => by cases h⟩
  | p :: r, v :: vs, h => by
    cases h with
    | cons h1 h2 =>
      have ih := mkD_get (kds := r) (vs := vs) h2
      by_cases e : p.1 = k
      · have e1 : lookD (p :: r) k = some p.2 := by simp [lookD, e]
        have e2 : valV (mkD kf (p :: r) (v :: vs)) (kf k) = some v := valV_pos (inj.mpr e)
        rw [e1, e2]
        exact ⟨(by intro h; cases h), fun d hd => ⟨v, rfl, (by cases hd; exact h1)⟩⟩
      · have e1 : lookD (p :: r) k = lookD r k := by simp [lookD, e]
        have e2 : valV (mkD kf (p :: r) (v :: vs)) (kf k) = valV (mkD kf r vs) (kf k) := valV_neg fun h => e (inj.mp h)
        rw [e1, e2]
        exact ih
theorem mkD_any : ∀ {kds : KDt α} {vs : List V}, vs.length = kds.length → ((mkD kf kds vs).any fun kv => decide (kv.1 = kf k)) = kds.any fun p => decide (p.1 = k)
  | [], vs, _ => by cases vs <;> rfl
  | p :: r, [], h => by cases h
  | p :: r, v :: vs, h => by
    have ih := mkD_any (kds := r) (vs := vs) (by simpa using h)
    simp only [mkD, List.any_cons, ih]
    congr 1
    exact decide_eq_decide.mpr inj
theorem mkD_rep (hd : Dv K F v d) : ∀ {kds : KDt α} {vs : List V}, DvAll K F vs (kds.map Prod.snd) → ∃ us, (mkD kf kds vs).map (fun kv => if kv.1 = kf k then (kv.1, v) else kv) = mkD kf (kds.map fun p => if p.1 = k then (p.1, d) else p) us ∧ DvAll K F us ((kds.map fun p => if p.1 = k then (p.1, d) else p).map Prod.snd)
  | [], [], _ => ⟨[], rfl, .nil⟩
  | p :: r, u :: vs, h => by
    cases h with
    | cons h1 h2 =>
      obtain ⟨us, e1, e2⟩ := mkD_rep hd (kds := r) (vs := vs) h2
      by_cases e : p.1 = k
      · refine ⟨v :: us, ?_, ?_⟩
        · simp only [mkD, List.map_cons, e1, if_pos e, if_pos (inj.mpr e)]
        · simp only [List.map_cons, if_pos e]
          exact .cons hd e2
      · refine ⟨u :: us, ?_, ?_⟩
        · simp only [mkD, List.map_cons, e1, if_neg e, if_neg fun h => e (inj.mp h)]
        · simp only [List.map_cons, if_neg e]
          exact .cons h1 e2
omit inj in
theorem mkD_snoc : ∀ {kds : KDt α} {vs : List V}, vs.length = kds.length → mkD kf kds vs ++ [(kf k, v)] = mkD kf (kds ++ [(k, d)]) (vs ++ [v])
  | [], [], _ => rfl
  | p :: r, [], h => by cases h
  | [], v :: vs, h => by cases h
  | p :: r, u :: vs, h => by
    have := mkD_snoc (kds := r) (vs := vs) (by simpa using h)
    simp only [mkD, List.cons_append, this]
theorem mkD_put {vs : List V} (hd : Dv K F v d) (h : DvAll K F vs (kds.map Prod.snd)) : ∃ us, putK (mkD kf kds vs) (kf k) v = mkD kf (putD kds k d) us ∧ DvAll K F us ((putD kds k d).map Prod.snd) := by
  unfold putK putD
  rw [mkD_any inj (dv_len h)]
  by_cases e : (kds.any fun p => decide (p.1 = k)) = true
  · rw [if_pos e, if_pos e]
    exact mkD_rep inj hd h
  · rw [if_neg e, if_neg e]
    exact ⟨vs ++ [v], mkD_snoc (dv_len h), by rw [List.map_append]; exact h.app (.cons hd .nil)⟩
end
def k1 (k : List Nat) : Key := .inr (S k)
def k2 (k : List Nat × List Nat) : List Key := [.inr (S k.1), .inr (S k.2)]
theorem Sk_inj {x y : List Nat} : S x = S y ↔ x = y := ⟨fun h2 => by
  have := congrArg (fun z : Str => z.cps.toList) h2
  simpa [S] using this, fun h => by rw [h]⟩
theorem k1_inj {x y : List Nat} : k1 x = k1 y ↔ x = y := ⟨fun h => Sk_inj.mp (by injection h), fun h => by rw [h]⟩
theorem k2_inj {x y : List Nat × List Nat} : k2 x = k2 y ↔ x = y := ⟨fun h => by
  unfold k2 at h
  simp only [List.cons.injEq, Sum.inr.injEq, Sk_inj, and_true] at h
  exact Prod.ext h.1 h.2, fun h => by rw [h]⟩
def Pr.dk (K : PySem.W.Frag) (kds : KD) : Pr := ⟨fun F x => ∃ vs : List V, x = .dK (mkD k1 kds vs) ∧ DvAll K F vs (kds.map Prod.snd), fun _ _ _ e ⟨vs, h, q⟩ => ⟨vs, h, DvAll.mono e _ _ q⟩⟩
abbrev dks (K : PySem.W.Frag) (a : Addr) (kds : KD) : Ent := .cell a (.dk K kds)
def Pr.dt (K : PySem.W.Frag) (kds : KD2) : Pr := ⟨fun F x => ∃ vs : List V, x = .dT (mkD k2 kds vs) ∧ DvAll K F vs (kds.map Prod.snd), fun _ _ _ e ⟨vs, h, q⟩ => ⟨vs, h, DvAll.mono e _ _ q⟩⟩
abbrev dkt (K : PySem.W.Frag) (a : Addr) (kds : KD2) : Ent := .cell a (.dt K kds)
section
variable {K : PySem.W.Frag} {L L' : List Ent} {H F : Hp} {Q : VK} {a b : Addr} {kds : KD} {kdt : KD2} {k : List Nat} {kp : List Nat × List Nat} {d : PyData} {v : V} {σ : L2.St}
/-- {} -/
theorem w_dnew (hS : St K L H) (h : ∀ p H', St K (dks K p [] :: L) H' → Q (.ref p) H') : tDNewK σ H Q := fun p hp =>
  h p _ (hS.alloc hp fun F _ _ => ⟨[], rfl, .nil⟩)
theorem w_dnewT (hS : St K L H) (h : ∀ p H', St K (dkt K p [] :: L) H' → Q (.ref p) H') : tDNewT σ H Q := fun p hp =>
  h p _ (hS.alloc hp fun F _ _ => ⟨[], rfl, .nil⟩)
/-- the dict and what it holds at k -/
theorem St.dks (hS : St K L H) (hm : Lg.dks K a kds ∈ L) : ∃ F vs, Ex F H ∧ (∀ e ∈ L, e.ok K F H) ∧ H a = some (.dK (mkD k1 kds vs)) ∧ DvAll K F vs (kds.map Prod.snd) := by
  obtain ⟨F, e1, e2⟩ := hS.ex
  obtain ⟨_, o, h1, vs, rfl, h2⟩ := e2 _ hm
  exact ⟨F, vs, e1, e2, h1, h2⟩
theorem St.dkt (hS : St K L H) (hm : Lg.dkt K a kdt ∈ L) : ∃ F vs, Ex F H ∧ (∀ e ∈ L, e.ok K F H) ∧ H a = some (.dT (mkD k2 kdt vs)) ∧ DvAll K F vs (kdt.map Prod.snd) := by
  obtain ⟨F, e1, e2⟩ := hS.ex
  obtain ⟨_, o, h1, vs, rfl, h2⟩ := e2 _ hm
  exact ⟨F, vs, e1, e2, h1, h2⟩
theorem St.isD (hS : St K L H) (hm : Lg.dks K a kds ∈ L) : IsD H a := by
  obtain ⟨F, vs, _, _, h1, _⟩ := hS.dks hm
  exact .inl ⟨_, .inl h1⟩
theorem St.isDT (hS : St K L H) (hm : Lg.dkt K a kdt ∈ L) : IsD H a := by
  obtain ⟨F, vs, _, _, h1, _⟩ := hS.dkt hm
  exact .inr ⟨_, .inl h1⟩
/-- what stands at k, or that nothing does: told at once -/
theorem St.dget (hS : St K L H) (hm : Lg.dks K a kds ∈ L) (k : List Nat) : ∃ o : Option V, DGet H a (.str (S k)) o ∧ o.isSome = (lookD kds k).isSome ∧ ∀ d, lookD kds k = some d → ∃ v, o = some v ∧ St K (.dat v d :: L) H := by
  obtain ⟨F, vs, e1, e2, h1, h2⟩ := hS.dks hm
  have h3 := DGet.k (k := k1 k) h1
  cases e : lookD kds k with
  | none =>
    rw [(mkD_get k1_inj h2).1 e] at h3
    exact ⟨none, h3, rfl, fun d h => by cases h⟩
  | some d =>
    obtain ⟨v, h4, h5⟩ := (mkD_get k1_inj h2).2 d e
    rw [h4] at h3
    refine ⟨some v, h3, rfl, fun d' h => ?_⟩
    cases h
    refine ⟨v, rfl, ⟨F, e1, fun e he => ?_⟩, hS.nd⟩
    rcases List.mem_cons.mp he with rfl | he
    · exact h5
    · exact e2 e he
theorem St.dgetT (hS : St K L H) (hm : Lg.dkt K a kdt ∈ L) (hk : Lg.own b (.tup [.str (S kp.1), .str (S kp.2)]) ∈ L) : ∃ o : Option V, DGet H a (.ref b) o ∧ o.isSome = (lookD kdt kp).isSome ∧ ∀ d, lookD kdt kp = some d → ∃ v, o = some v ∧ St K (.dat v d :: L) H := by
  obtain ⟨F, vs, e1, e2, h1, h2⟩ := hS.dkt hm
  have h3 := DGet.t (k := k2 kp) h1 (hS.own hk)
  cases e : lookD kdt kp with
  | none =>
    rw [(mkD_get k2_inj h2).1 e] at h3
    exact ⟨none, h3, rfl, fun d h => by cases h⟩
  | some d =>
    obtain ⟨v, h4, h5⟩ := (mkD_get k2_inj h2).2 d e
    rw [h4] at h3
    refine ⟨some v, h3, rfl, fun d' h => ?_⟩
    cases h
    refine ⟨v, rfl, ⟨F, e1, fun e he => ?_⟩, hS.nd⟩
    rcases List.mem_cons.mp he with rfl | he
    · exact h5
    · exact e2 e he
/-- d[k] = v -/
theorem w_dput (hS : St K L H) (hp : Put L (Lg.dks K a kds) (Lg.dks K a (putD kds k d)) L') (hv : Is L v d) (hn : kds.length ≤ 100000) : ∃ H', DPut H a (.str (S k)) v H' ∧ St K L' H' := by
  obtain ⟨F, vs, e1, e2, h1, h2⟩ := hS.dks hp.mem
  have hl : (mkD k1 kds vs).length < sizeLine := by
    rw [mkD_len k1 (dv_len h2)]
    exact Nat.lt_of_le_of_lt hn (show 100000 < sizeLine by decide)
  refine ⟨_, DPut.k (k := k1 k) h1 hl, hS.writeP hp fun F' x e3 q hx hφ => ?_⟩
  obtain ⟨vs', rfl, h3⟩ := hφ
  rw [h1] at hx
  have hd : Dv K F' v d := hv.dv q
  obtain ⟨us, h4, h5⟩ := mkD_put (k := k) k1_inj hd h3
  have e4 : mkD k1 kds vs = mkD k1 kds vs' := by injection hx with h; injection h
  exact ⟨us, by rw [e4, h4], h5⟩
theorem w_dputT (hS : St K L H) (hp : Put L (Lg.dkt K a kdt) (Lg.dkt K a (putD kdt kp d)) L') (hk : Lg.own b (.tup [.str (S kp.1), .str (S kp.2)]) ∈ L) (hv : Is L v d) (hn : kdt.length ≤ 100000) : ∃ H', DPut H a (.ref b) v H' ∧ St K L' H' := by
  obtain ⟨F, vs, e1, e2, h1, h2⟩ := hS.dkt hp.mem
  have hl : (mkD k2 kdt vs).length < sizeLine := by
    rw [mkD_len k2 (dv_len h2)]
    exact Nat.lt_of_le_of_lt hn (show 100000 < sizeLine by decide)
  refine ⟨_, DPut.t (k := k2 kp) h1 (hS.own hk) hl, hS.writeP hp fun F' x e3 q hx hφ => ?_⟩
  obtain ⟨vs', rfl, h3⟩ := hφ
  rw [h1] at hx
  have hd : Dv K F' v d := hv.dv q
  obtain ⟨us, h4, h5⟩ := mkD_put (k := kp) k2_inj hd h3
  have e4 : mkD k2 kdt vs = mkD k2 kdt vs' := by injection hx with h; injection h
  exact ⟨us, by rw [e4, h4], h5⟩
variable {td ty tx tv : TE} {D : Ends}
theorem w_dgetE (h : td σ H fun x H1 => ty σ H1 fun y H2 => ∃ a v, x = .ref a ∧ DGet H2 a y (some v) ∧ Q v H2) : tDGet td ty σ H Q := h
theorem w_dinE (h : ty σ H fun y H1 => td σ H1 fun x H2 => ∃ a o, x = .ref a ∧ DGet H2 a y o ∧ Q (.bl o.isSome) H2) : tDIn ty td σ H Q := h
theorem w_dninE (h : ty σ H fun y H1 => td σ H1 fun x H2 => ∃ a o, x = .ref a ∧ DGet H2 a y o ∧ Q (.bl (!o.isSome)) H2) : tDNotIn ty td σ H Q := h
theorem w_dputE (h : tv σ H fun v H1 => td σ H1 fun x H2 => ty σ H2 fun y H3 => ∃ a H4, x = .ref a ∧ DPut H3 a y v H4 ∧ D.nx σ H4) : sDPut td ty tv D σ H := h
theorem w_dget2E (h : td σ H fun x H1 => ∃ a, x = .ref a ∧ IsD H1 a ∧ ty σ H1 fun y H2 => tx σ H2 fun z H3 => ∃ o, DGet H3 a y o ∧ Q (o.getD z) H3) : tDGet2 td ty tx σ H Q := h
end
theorem u1 {k : Nat} {A : Around} (hr : Room k A) : A.units + 1 < cLine := by have := u65 hr; omega
end Lg

/-! sorted(a dict with texts as keys) -/
namespace Lg
open PySem PySem.Spec PyProof.Rows L2
def rSortD : List V → Hp → VK → Prop := fun xs H Q => ∃ (a : Addr) (kvs : List (Key × V)) (ks : List Str), xs = [.ref a] ∧ Rd H a (.dK kvs) ∧ kvs.map (·.1) = ks.map Sum.inr ∧ ks.length < 64 ∧
    ∀ ys p, ys.Perm ks → sortedS ys = true → H p = none → Q (.ref p) (upd H p (.lst (ys.map V.str)))
theorem c_sortD {X : Cx} (hc : X.calm = true) : CallR X (.builtin "sorted") rSortD := call_sortedD hc
section
variable {K : PySem.W.Frag} {L : List Ent} {H : Hp} {Q : VK} {a : Addr} {kds : KD}
theorem mkD_keys : ∀ {kds : KD} {vs : List V}, vs.length = kds.length → (mkD k1 kds vs).map (·.1) = (kds.map fun p => S p.1).map Sum.inr
  | [], [], _ => rfl
  | p :: r, [], h => by cases h
  | [], v :: vs, h => by cases h
  | p :: r, v :: vs, h => by
    have := mkD_keys (kds := r) (vs := vs) (by simpa using h)
    simp only [mkD, List.map_cons, this]
    rfl
/-- the keys in order: some row of the same keys -/
theorem w_sortD (hS : St K L H) (hm : Lg.dks K a kds ∈ L) (hn : kds.length < 64) (h : ∀ p (ys : List (List Nat)) H', ys.Perm (kds.map Prod.fst) → St K (Lg.ls K p (ys.map sD) :: L) H' → Q (.ref p) H') : rSortD [.ref a] H Q := by
  obtain ⟨F, vs, e1, e2, h1, h2⟩ := hS.dks hm
  refine ⟨a, _, _, rfl, .inl h1, mkD_keys (dv_len h2), by rw [List.length_map]; exact hn, fun ys p hp _ hpn => ?_⟩
  obtain ⟨zs, hz1, hz2⟩ : ∃ zs : List (List Nat), zs.map S = ys ∧ zs.Perm (kds.map Prod.fst) := by
    have e : (kds.map fun p => S p.1) = (kds.map Prod.fst).map S := by rw [List.map_map]; rfl
    rw [e] at hp
    refine ⟨ys.map fun x => x.cps.toList, ?_, ?_⟩
    · rw [List.map_map]
      have : ∀ y ∈ ys, (S ∘ fun x : Str => x.cps.toList) y = y := fun y hy => by
        obtain ⟨k, _, rfl⟩ := List.mem_map.mp (hp.mem_iff.mp hy)
        simp [S]
      rw [List.map_congr_left this]
      exact List.map_id' ys
    · have h3 := hp.map fun x : Str => x.cps.toList
      rw [List.map_map] at h3
      have : ((kds.map Prod.fst).map ((fun x : Str => x.cps.toList) ∘ S)) = kds.map Prod.fst := by
        have : ∀ y ∈ kds.map Prod.fst, ((fun x : Str => x.cps.toList) ∘ S) y = y := fun y _ => by simp [S]
        rw [List.map_congr_left this]
        exact List.map_id' _
      rw [this] at h3
      exact h3
  subst hz1
  refine h p zs _ hz2 (hS.alloc hpn fun F' _ _ => ⟨_, rfl, ?_⟩)
  have : (zs.map S).map V.str = sV zs := by unfold sV; rw [List.map_map]; rfl
  rw [this]
  exact dvs_of zs
end
end Lg

/-! a lambda with parameters that captures one name of its def and is kept in a field: made, handed on, called from there; its def's cell is lent while the callee runs. -/
namespace Lg
open PySem PySem.Spec PyProof.Rows L2 LamX NdefX
/-- a lambda's words, the cells that it captured, its code object -/
structure LF where
  qual : Str
  params : Arguments
  body : Expr
  scope : Scope
  cl : List (Str × Addr)
  c : Addr
abbrev LF.fd (F : LF) (pm ctv : Value) : FuncData := PySem.W.kla_fn "<lambda>" F.qual F.params F.body F.scope F.cl pm (.ref F.c) ctv
/-- the object at f is the lambda F -/
def LamO (f : Addr) (F : LF) : HO := .ext fun h => ∃ (od : Option Addr) (sl : Array (Option Value)) (pm ctv : Value), h.get? f = some (⟨.type "function", od, .func (F.fd pm ctv), sl⟩ : Obj)
/-- a cell of a def that is lent -/
def CelO (c : Addr) (o : Obj) : HO := .ext fun h => h.get? c = some o
/-- nothing is known of c -/
def outH (H : Hp) (c : Addr) : Hp := fun b => if b = c then none else H b
section
variable {P : Program} {w : World} {H : Hp} {h : Heap} {f c b : Addr} {F : LF} {o : Obj} {x : HO}
theorem lamO_at (hok : HOk P w H h) (e : H f = some (LamO f F)) : ∃ (od : Option Addr) (sl : Array (Option Value)) (pm ctv : Value), h.get? f = some (⟨.type "function", od, .func (F.fd pm ctv), sl⟩ : Obj) := by
  obtain ⟨z, _, _⟩ := hok f _ e
  exact z
theorem celO_at (hok : HOk P w H h) (e : H c = some (CelO c o)) : h.get? c = some o := by
  obtain ⟨z, _, _⟩ := hok c _ e
  exact z
theorem outH_same : outH H c c = none := if_pos rfl
theorem outH_ne (n : b ≠ c) : outH H c b = H b := if_neg n
theorem outH_none (h : H b = none) : outH H c b = none := by
  unfold outH
  split
  · rfl
  · exact h
theorem outH_some (h : outH H c b = some x) : b ≠ c ∧ H b = some x := by
  unfold outH at h
  split at h
  · cases h
  · rename_i n
    exact ⟨n, h⟩
theorem upd_comm {a : Addr} {y : HO} (n : a ≠ b) : upd (upd H a x) b y = upd (upd H b y) a x := by
  funext z
  unfold upd
  by_cases h1 : z = b
  · by_cases h2 : z = a
    · exact absurd (h2.symm.trans h1) n
    · rw [if_pos h1, if_neg h2, if_pos h1]
  · rw [if_neg h1]
    by_cases h2 : z = a
    · rw [if_pos h2, if_pos h2]
    · rw [if_neg h2, if_neg h2, if_neg h1]
theorem celO_ok (e : h.get? c = some o) : ObjOk P w H h c (CelO c o) := ⟨e, ⟨o, e⟩, fun _ _ z st => st _ z⟩
theorem hok_lend (hok : HOk P w H h) (n : H c = none) (e : h.get? c = some o) : HOk P w (upd H c (CelO c o)) h := fun b u q => by
  by_cases hb : b = c
  · subst hb
    rw [upd_same] at q
    cases q
    exact celO_ok e
  · rw [upd_ne hb] at q
    exact (hok b u q).stay (fun _ _ _ z => z) (fun d z => by rw [upd_ne (ne_of_none z n)]; exact z) fun d xs z => by rw [upd_ne (ne_of_none z n)]; exact z
theorem hok_outH (hok : HOk P w H h) (e : H c = some (CelO c o)) : HOk P w (outH H c) h := fun b u q => by
  obtain ⟨hb, q⟩ := outH_some q
  have nc : ∀ d y, H d = some y → (∀ φ, y ≠ .ext φ) → d ≠ c := fun d y z n k => by
    rw [k, e] at z
    cases z
    exact n _ rfl
  refine (hok b u q).stay (fun _ _ _ z => z) (fun d z => ?_) fun d xs z => ?_
  · rw [outH_ne (nc d _ z fun φ k => by cases k)]; exact z
  · rw [outH_ne (nc d _ z fun φ k => by cases k)]; exact z
end
section
variable {P : Program} {w : World} {K : PySem.W.Frag} {mg : Str → Option Value} {base : Heap} {A : Around} {outer : List Env} {s s' : Shared} {H : Hp} {cm : Addr} {oc : Obj} {Q : VK} {u : Value}
theorem env0_lend (e : Env0 P w K mg base A outer s H) (n : H cm = none) (hc : s.heap.get? cm = some oc) (hb : base.get? cm = none) (hf : cm ∉ frs outer) : Env0 P w K mg base A outer s (upd H cm (CelO cm oc)) :=
  ⟨e.frames, e.mod, fun b o q => ⟨(e.bs b o q).1, by rw [upd_ne (fun z => by rw [z, hb] at q; cases q)]; exact (e.bs b o q).2⟩, e.bsz, e.funs, fun b q => by rw [upd_ne (fun z => hf (by rw [← z]; exact q))]; exact e.frf b q, hok_lend e.hok n hc, e.bare⟩
theorem env0_outH (e : Env0 P w K mg base A outer s H) (h : H cm = some (CelO cm oc)) : Env0 P w K mg base A outer s (outH H cm) :=
  ⟨e.frames, e.mod, fun b o q => ⟨(e.bs b o q).1, outH_none (e.bs b o q).2⟩, e.bsz, e.funs, fun b q => outH_none (e.frf b q), hok_outH e.hok h, e.bare⟩
/-- what was lent comes back -/
theorem ce_lend (n : H cm = none) (hc : s.heap.get? cm = some oc) (h : CE outer P w (upd H cm (CelO cm oc)) s (fun r H3 => H3 cm = some (CelO cm oc) ∧ Q r (outH H3 cm)) u s') : CE outer P w H s Q u s' := by
  obtain ⟨v, H3, os, bare, un, hok, r, h3, q⟩ := h
  have hc3 := celO_at hok h3
  have lo : ∀ b x, H b = some x → b ≠ cm := fun b x z k => by rw [k, n] at z; cases z
  have fr : ∀ b x, (∀ φ, x ≠ .ext φ) → H3 b = some x → b ≠ cm := fun b x z1 z2 k => by
    rw [k, h3] at z2
    cases z2
    exact z1 _ rfl
  refine ⟨v, outH H3 cm, os, bare, ⟨fun b o e hn hf hx => ?_, fun b o e hn hf hx => ?_, fun b o e hn hx => ?_, un.there, fun b xs e => ?_, fun b o x e => ?_, fun b ps e => ?_⟩, hok_outH hok h3, r, q⟩
  · by_cases hb : b = cm
    · rw [hb] at e ⊢
      rw [hc] at e
      cases e
      exact hc3
    · exact un.keep b o e (by rw [upd_ne hb]; exact hn) hf hx
  · by_cases hb : b = cm
    · rw [hb] at e ⊢
      rw [hc] at e
      cases e
      exact ⟨_, hc3⟩
    · exact un.slot b o e (by rw [upd_ne hb]; exact hn) hf hx
  · by_cases hb : b = cm
    · rw [hb]
      exact outH_same
    · exact outH_none (un.free b o e (by rw [upd_ne hb]; exact hn) hx)
  · have nb := lo b _ e
    rw [outH_ne nb]
    exact un.tups b xs (by rw [upd_ne nb]; exact e)
  · have nb := lo b _ e
    rw [outH_ne nb]
    exact un.frzs b o x (by rw [upd_ne nb]; exact e)
  · have nb := lo b _ e
    rw [outH_ne nb]
    exact un.tbls b ps (by rw [upd_ne nb]; exact e)
/-- what is a caller's is used as a cell of one's own -/
theorem ce_own (hH : H cm = some (CelO cm oc)) (hc : s.heap.get? cm = some oc) (hf : cm ∉ frs outer) (h : CE outer P w (outH H cm) s (fun r H3 => H3 cm = none → Q r (upd H3 cm (CelO cm oc))) u s') : CE outer P w H s Q u s' := by
  obtain ⟨v, H3, os, bare, un, hok, r, q⟩ := h
  have n3 : H3 cm = none := un.free cm oc hc outH_same (by simp)
  have c3 : s'.heap.get? cm = some oc := un.keep cm oc hc outH_same hf (by simp)
  have ne : ∀ b, H b = none → b ≠ cm := fun b z k => by rw [k, hH] at z; cases z
  have nx : ∀ b x, (∀ φ, x ≠ .ext φ) → H b = some x → b ≠ cm := fun b x z1 z2 k => by
    rw [k, hH] at z2
    cases z2
    exact z1 _ rfl
  refine ⟨v, upd H3 cm (CelO cm oc), os, bare, ⟨fun b o e hn hf' hx => un.keep b o e (outH_none hn) hf' hx, fun b o e hn hf' hx => un.slot b o e (outH_none hn) hf' hx, fun b o e hn hx => ?_, un.there, fun b xs e => ?_, fun b o x e => ?_, fun b ps e => ?_⟩, hok_lend hok n3 c3, r, q n3⟩
  · rw [upd_ne (ne b hn)]
    exact un.free b o e (outH_none hn) hx
  · have nb := nx b _ (fun φ k => by cases k) e
    rw [upd_ne nb]
    exact un.tups b xs (by rw [outH_ne nb]; exact e)
  · have nb := nx b _ (fun φ k => by cases k) e
    rw [upd_ne nb]
    exact un.frzs b o x (by rw [outH_ne nb]; exact e)
  · have nb := nx b _ (fun φ k => by cases k) e
    rw [upd_ne nb]
    exact un.tbls b ps (by rw [outH_ne nb]; exact e)
end
/-! ### the lambda is made -/
def Among (q : Str) (H : Hp) (ps : List Value) : Prop := ∀ (pos : Pos) (cv : Value), codeAmong pos ps = some cv → ∃ c, cv = .ref c ∧ H c = some (CodeO c q)
section
variable {X : Cx} {pins : List (Addr × Obj)} {σ : L2.St} {H : Hp} {s : Shared}
theorem inv_lam {F : LF} {o : Obj} {t' : Nat} {pm ctv : Value} (I : Inv X pins σ H s) (ho : o = { cls := .type "function", data := .func (F.fd pm ctv) }) :
    Inv X pins σ (upd H s.heap.objs.size (LamO s.heap.objs.size F)) { s with heap := s.heap.push o, toks := t' } := by
  subst ho
  refine I.laid (a := s.heap.objs.size) (fun b u e => Heap.get?_push_of_some _ e) (Nat.le_refl _) ?_
  have e : (s.heap.push ({ cls := .type "function", data := .func (F.fd pm ctv) } : Obj)).get? s.heap.objs.size = some ({ cls := .type "function", data := .func (F.fd pm ctv) } : Obj) := Heap.get?_push_size _ rfl
  exact ⟨⟨_, _, pm, ctv, e⟩, ⟨_, e⟩, fun h1 h2 ⟨od, sl, p, t, z⟩ st => ⟨od, sl, p, t, st _ z⟩⟩
/-- the lambda's reading: its code object is found in the table at P, or laid there -/
def tLamF (P : Addr) (q : Str) (mk : Addr → LF) : TE := fun σ H Q => ∃ ps : Array Value, H P = some (.tbl ps) ∧ TriplesOk ps.toList ∧ Among q H ps.toList ∧
  (∀ (f c' : Addr) (pos : Pos), H f = none → codeAmong pos ps.toList = some (.ref c') → Q (.ref f) (upd H f (LamO f (mk c')))) ∧
  ∀ (f c' : Addr) (more : Array Value), H f = none → H c' = none → f ≠ c' → TriplesOk (ps ++ more).toList → (∀ (pos : Pos) (cv : Value), codeAmong pos (ps ++ more).toList = some cv → codeAmong pos ps.toList = some cv ∨ cv = .ref c') →
    Q (.ref f) (upd (upd (upd H c' (CodeO c' q)) P (.tbl (ps ++ more))) f (LamO f (mk c')))
theorem pe_lamF {c P : Addr} {params : Arguments} {body : Expr} {scope : Scope} {pos : Pos} (TB : TabB X.base X.mg c P) (hcode : X.env.code = .ref c) (hdef : defaultsOf params X.env = ([], []))
    (hfree : ∀ y ∈ scope.names, y.2 = .free → X.env.scope.names.lookup y.1 = some .cell ∨ X.env.scope.names.lookup y.1 = some .free) :
    PE X (.Lambda params body scope pos) (tLamF P (X.env.qual ++ "<lambda>") fun c' => ⟨X.env.qual ++ "<lambda>", params, body, scope, cloFrom X.env.cells scope.names [], c'⟩) := by
  refine ⟨fun pins s σ H Q I h => ?_⟩
  obtain ⟨ps, hP, ht, ha, hq1, hq2⟩ := h
  have hfr : ∀ y ∈ scope.names, y.2 = .free → ∃ c, X.env.cells.lookup y.1 = some c := fun y hy e => (hfree y hy e).elim (fun z => I.ok.has _ (.inl z)) fun z => I.ok.has _ (.inr z)
  refine PySem.W.kla_eval hdef ?_
  have bP : s.heap.BuiltinsAt X.mg P := TB.bm.keeps I.bk
  have hP' : s.heap.get? P = some { cls := .none, data := .fields ps } := I.hok P _ hP
  cases hc : codeAmong pos ps.toList with
  | none =>
    refine PySem.W.kla_makeFunction (mg := X.mg) (c := c) (P := P) (ps := ps) (closure_ok hfr) I.ok.glob (I.mod.glob.keeps I.bk) hcode (TB.code.keeps I.bk) hP' ht hc TB.gP bP fun c' ctv h' tk hx hge hlt hrec htb => ?_
    obtain ⟨c2, oc, vs, t, e2, hoc, hd, hv⟩ := hrec
    cases e2
    have nC : H c' = none := I.hok.fresh hge
    have nP : P ≠ c' := ne_of_none hP nC
    have I1 := inv_table (t' := tk) (more := #[rawInt pos.line, rawInt pos.col, .ref c']) (h' := h') I hP (fun b o hb e => hx b o hb e) htb hge ⟨oc, vs, t, hoc, hd, hv⟩
    have nF := I1.hok.fresh (Nat.le_refl _)
    have I2 := inv_lam (F := ⟨X.env.qual ++ "<lambda>", params, body, scope, cloFrom X.env.cells scope.names [], c'⟩) (t' := tk) (pm := (X.mg "__name__").getD .none) (ctv := ctv) I1 rfl
    have nF0 : H h'.objs.size = none := I.hok.fresh (Nat.le_trans hge (Nat.le_of_lt hlt))
    have eL : (ps ++ #[rawInt pos.line, rawInt pos.col, .ref c']).toList = ps.toList ++ [rawInt pos.line, rawInt pos.col, .ref c'] := by simp
    rw [upd_comm nP] at I2
    refine ⟨.ref h'.objs.size, _, I2, rfl, hq2 _ c' #[rawInt pos.line, rawInt pos.col, .ref c'] nF0 nC (Nat.ne_of_gt hlt) (by rw [eL]; exact PySem.TriplesOk_snoc _ _ _ _ ht) fun p' cv hcv => ?_⟩
    rw [eL] at hcv
    exact among_app _ ht hcv
  | some cv =>
    obtain ⟨c', e, hco⟩ := ha pos cv hc
    subst e
    refine PySem.W.kla_makeFunctionHit (mg := X.mg) (c := c) (P := P) (ps := ps) (closure_ok hfr) I.ok.glob (I.mod.glob.keeps I.bk) hcode (TB.code.keeps I.bk) hP' ht hc bP fun ctv h' tk hx hsz => ?_
    have I1 : Inv X pins σ H { s with heap := h', toks := tk } := I.kept hx
    have nF : H h'.objs.size = none := I1.hok.fresh (Nat.le_refl _)
    have I2 := inv_lam (F := ⟨X.env.qual ++ "<lambda>", params, body, scope, cloFrom X.env.cells scope.names [], c'⟩) (t' := tk) (pm := (X.mg "__name__").getD .none) (ctv := ctv) I1 rfl
    exact ⟨.ref h'.objs.size, _, I2, rfl, hq1 _ c' pos nF hc⟩
end
/-! ### o.m(e, ..), the cell at cm (of the name at i) lent meanwhile -/
def tMethL (C : Addr) (m : Str) (sp : Sp) (cm : Addr) (i : Nat) (ta : TE) (t : TA) : TE := fun σ H Q => ta σ H fun x H1 => ∃ a dx fs, x = .ref a ∧ H1 a = some (.ins C dx fs) ∧ fs.lookup m = none ∧
  t σ H1 fun vs H2 => ∃ v, σ[i]? = some (some v) ∧ ∀ (oc : Obj) (u : Value), H2 cm = none → RelV v u → oc.data = .cell (some u) → sp (x :: vs) (upd H2 cm (CelO cm oc)) (fun r H3 => H3 cm = some (CelO cm oc) ∧ Q r (outH H3 cm)) C8.E0
section
variable {X : Cx} {k j i : Nat} {C cm : Addr} {m y : Str} {sp : Sp} {o e : Expr} {es : List Expr} {ta : TE} {t : TA} {pos apos : Pos}
theorem pe_mtL {pl : Sem Bool} (c : C8.Met X.prog X.w X.K X.mg X.base k C m sp []) (hr : Room j X.A) (hk : k ≤ j) (hcm : X.env.cells.lookup y = some cm) (hfn : X.fn y = true) (hi : X.N[i]? = some y) (hy : X.env.scope.names.lookup y = some .cell) (he : PE X o ta) (ha : PA X (e :: es) t)
    (hst : starEach (e :: es) X.env = (false, eval e X.env) :: starEach es X.env := by rfl) (hpl : (backTo pos (starEach es X.env)).any (·.1) = false := by rfl)
    (ht : eval (.Call (.Attribute o m apos) (e :: es) [] pos) X.env = (do
      let ov ← eval o X.env
      standAt apos.atName
      let (f, first) ← holding [ov] (getMethod ov m pl)
      callWith pos f first (backTo pos (starEach (e :: es) X.env)) (backToKw pos (keywordEach [] X.env))) := by rfl) :
    PE X (.Call (.Attribute o m apos) (e :: es) [] pos) (tMethL C m sp cm i ta t) := by
  obtain ⟨f, fd, ps, ds, hC, hm, F, hb, hd⟩ := c.ex
  have hds : ds = [] := by cases hd; rfl
  subst hds
  refine ⟨fun pins s σ H Q I h => ?_⟩
  refine PySem.W.methodCall_KW (pl := pl) (thn (he.run pins s σ H _ I h) fun u s1 ⟨x, H1, I1, rx, a, dx, fs, ex, ea, l, q⟩ => ?_) ht
  subst ex
  obtain rfl : u = Value.ref a := rx
  refine getmeth_ok I1 ea hC hm l ?_
  refine PySem.W.callWith_K (first := [.ref a]) (h₀ := X.base) I.ok.mod.kin hm.kp (thn (ha.run pos pins s1 σ H1 _ I1 q) fun us s2 ⟨vs, H2, I2, r, v, hv, q2⟩ => ⟨I2.kIn, ?_⟩) hst hpl
  obtain ⟨mm, hn, hl⟩ := I2.loc
  obtain ⟨u, ru, lk⟩ := hl i y v hi hv (.inr (.inl hy))
  obtain ⟨oc, hoc, hocd⟩ : s2.heap.IsCell cm (some u) := by
    rcases lk with ⟨k1, _⟩ | ⟨_, c2, k2, k3⟩
    · have k1 : X.env.scope.names.lookup y = some .local := k1
      rw [hy] at k1; cases k1
    · rw [hcm] at k2; cases k2; exact k3
  have nH : H2 cm = none := I2.freeC y cm hcm
  have nF : cm ∉ frs X.stack := fun z => by
    rcases List.mem_cons.mp (I2.stkSub _ z) with k1 | k1
    · exact I2.cne y cm hcm k1
    · obtain ⟨_, o', ho', _⟩ := I2.ok.funs.mem k1
      exact absurd (Nat.lt_of_lt_of_le (Heap.lt_size ho') (I2.ok.cab y cm hfn hcm)) (Nat.lt_irrefl _)
  have nB : X.base.get? cm = none := Heap.get?_none_of_le (Nat.le_trans I2.ok.bsz (I2.ok.cab y cm hfn hcm))
  have q3 := q2 oc u nH ru hocd
  have r2 : Vals (V.ref a :: vs) (Value.ref a :: us) := .cons rfl r
  have hln : (Value.ref a :: us).length = ps.length := by rw [← r2.length]; exact F.len _ _ _ _ q3
  refine wpAny_call (codeAny_mono (F.run X.A X.stack s2 _ ⟨Value.ref a :: us, []⟩ (Value.ref a :: us) (V.ref a :: vs) _ C8.E0 (hr.mono hk) (env0_lend I2.env0 nH hoc nB nF) (by have b2 := hb s2 (Value.ref a :: us) I2.kIn (by rw [List.append_nil]; exact hln); rw [List.append_nil] at b2; exact b2) r2 q3) fun r s' hq => ?_)
  match r, hq with
  | .error e, hq => exact False.elim hq
  | .ok (.ret u), hq => exact I2.after (ce_lend nH hoc hq)
  | .ok .next, hq => exact False.elim hq
  | .ok .brk, hq => exact False.elim hq
  | .ok .cont, hq => exact False.elim hq
end
/-! ### the call of what a field holds -/
/-- a promise of functions that are values: the function ahead of the arguments -/
structure CalL (P : Program) (w : World) (K : PySem.W.Frag) (mg : Str → Option Value) (base : Heap) (k : Nat) (sp : Sp) : Prop where
  run : ∀ (A : Around) (outer : List Env) (s : Shared) (H : Hp) (f : Addr) (us : List Value) (vs : List V) (Q : VK) (E : XK), Room k A → Env0 P w K mg base A outer s H → Vals vs us → sp (.ref f :: vs) H Q E →
    PySem.W.FnAt f s.heap ∧ codeAny (model P w) A (.call (.ref f) ⟨us, []⟩) (CR C8.CX0 outer P w H s Q E) s
theorem CalL.mono {P : Program} {w : World} {K : PySem.W.Frag} {mg : Str → Option Value} {base : Heap} {k j : Nat} {sp : Sp} (c : CalL P w K mg base k sp) (h : k ≤ j) : CalL P w K mg base j sp := ⟨fun A outer s H f us vs Q E hr => c.run A outer s H f us vs Q E (hr.mono h)⟩
def tFCall (K : PySem.W.Frag) (m : Str) (sp : Sp) (ta : TE) (t : TA) : TE := fun σ H Q => ta σ H fun x H1 => ∃ a C dx fs f, x = .ref a ∧ H1 a = some (.ins C dx fs) ∧ Cls K C ∧ NoAttr K C m ∧ fs.lookup m = some (.ref f) ∧
  t σ H1 fun vs H2 => sp (.ref f :: vs) H2 Q C8.E0
section
variable {X : Cx} {k j : Nat} {m : Str} {sp : Sp} {o e : Expr} {es : List Expr} {ta : TE} {t : TA} {pos apos : Pos}
theorem pe_fc {pl : Sem Bool} (c : CalL X.prog X.w X.K X.mg X.base k sp) (hr : Room j X.A) (hk : k ≤ j) (he : PE X o ta) (ha : PA X (e :: es) t)
    (hst : starEach (e :: es) X.env = (false, eval e X.env) :: starEach es X.env := by rfl) (hpl : (backTo pos (starEach es X.env)).any (·.1) = false := by rfl)
    (ht : eval (.Call (.Attribute o m apos) (e :: es) [] pos) X.env = (do
      let ov ← eval o X.env
      standAt apos.atName
      let (f, first) ← holding [ov] (getMethod ov m pl)
      callWith pos f first (backTo pos (starEach (e :: es) X.env)) (backToKw pos (keywordEach [] X.env))) := by rfl) :
    PE X (.Call (.Attribute o m apos) (e :: es) [] pos) (tFCall X.K m sp ta t) := by
  refine ⟨fun pins s σ H Q I h => ?_⟩
  refine PySem.W.methodCall_KW (pl := pl) (thn (he.run pins s σ H _ I h) fun u s1 ⟨x, H1, I1, rx, a, C, dx, fs, f, ex, ea, hC, hn, l, q⟩ => ?_) ht
  subst ex
  obtain rfl : u = Value.ref a := rx
  refine getmeth_fld I1 ea hC hn l fun uf s2 I2 rf => ?_
  obtain rfl : uf = Value.ref f := rf
  have hh := thn (ha.run pos pins s2 σ H1 _ I2 q) fun us s3 z => by
    obtain ⟨vs, H2, I3, r, q2⟩ := z
    obtain ⟨fa, ca⟩ := c.run X.A X.stack s3 H2 f us vs Q C8.E0 (hr.mono hk) I3.env0 r q2
    have : PySem.W.FnAt f s3.heap ∧ wpAny (model X.prog X.w) X.A (call (.ref f) ([] ++ us)) (EP X pins σ Q) X.xe s3 := by
      refine ⟨fa, ?_⟩
      rw [List.nil_append]
      refine wpAny_call (codeAny_mono ca fun r s' hq => ?_)
      match r, hq with
      | .error e, hq => exact False.elim hq
      | .ok (.ret u), hq => exact I3.after hq
      | .ok .next, hq => exact False.elim hq
      | .ok .brk, hq => exact False.elim hq
      | .ok .cont, hq => exact False.elim hq
    exact this
  rw [hst] at hh ⊢
  exact PySem.W.callWith_of (by show ((false || (backTo pos (starEach es X.env)).any (·.1)) || false) = false; rw [hpl]; rfl) PySem.W.keeps_F (Calls.evalArgs_plain hh)
end
/-! ### what a lambda promises -/
abbrev LF.nf (F : LF) : NF := ⟨"<lambda>", F.qual, F.params, [], F.scope, F.cl, F.c⟩
def spLam (mk : Addr → Addr → LF) (N : List Str) (n : Nat) (t : TE) : Sp := fun vs H Q _ => ∃ (f c' cm : Addr) (oc : Obj) (u : Value) (v : V) (args : List V), vs = .ref f :: args ∧ args.length = n ∧ H f = some (LamO f (mk cm c')) ∧ H c' = some (CodeO c' (mk cm c').qual) ∧
  H cm = some (CelO cm oc) ∧ RelV v u ∧ oc.data = .cell (some u) ∧ t (startF N args [some v]) (outH H cm) fun r H' => H' cm = none → Q r (upd H' cm (CelO cm oc))
section
variable {P : Program} {w : World} {K : PySem.W.Frag} {mg : Str → Option Value} {base : Heap} {k : Nat} {N ps : List Str} {y : Str} {t : TE} {mk : Addr → Addr → LF}
theorem lam_ok (hcl : ∀ cm c', (mk cm c').cl = [(y, cm)]) (hcc : ∀ cm c', (mk cm c').c = c') (S : ∀ cm c', NScope N ps [y] (mk cm c').scope) (hb : ∀ (cm c' : Addr) (pm ctv : Value) (us : List Value), us.length = ps.length → bindArgs ((mk cm c').fd pm ctv) ⟨us, []⟩ = pure (ps.zip us))
    (hbody : ∀ (cm c' f : Addr) (A : Around) (outer : List Env) (s : Shared) (H : Hp) (E : XK), Room k (A.deeper (envF (mk cm c').nf f s.heap.objs.size)) → PE (ncx C8.CX0 P w K mg base N (mk cm c').nf f A outer s H E).nox (mk cm c').body t) :
    CalL P w K mg base (k + 1) (spLam mk N ps.length t) := by
  refine ⟨fun A outer s H f us vs Q E hr e0 r h => ?_⟩
  obtain ⟨f', c', cm, oc, u, v, args, ev, hlen, hf, hc, hm, ru, hod, ht⟩ := h
  cases ev
  obtain ⟨od, sl, pm, ctv, ho⟩ := lamO_at e0.hok hf
  refine ⟨⟨_, _, _, _, ho⟩, ?_⟩
  have lim : s.heap.NoLimit := e0.mod.nolimit.keeps fun b o e => (e0.bs b o e).1
  have hoc := celO_at e0.hok hm
  have nfr : cm ∉ frs outer := fun z => by have := e0.frf cm z; rw [hm] at this; cases this
  have e1 := env0_outH e0 hm
  have S' := S cm c'
  have crec : s.heap.CodeRec (.ref (mk cm c').c) (mk cm c').qual := codeO_at e0.hok (by rw [hcc]; exact hc)
  have C : CellsAt (mk cm c').nf.cl [y] [some v] s.heap (outH H cm) := by
    refine ⟨rfl, fun z d e => ?_, fun z1 z2 d e1 e2 => ?_, fun i z e => ?_⟩
    · rw [show (mk cm c').nf.cl = [(y, cm)] from hcl cm c'] at e
      have e2 := PySem.mem_of_lookup e
      simp only [List.mem_singleton, Prod.mk.injEq] at e2
      rw [e2.2]
      exact ⟨outH_same, _, oc, hoc, hod⟩
    · rw [show (mk cm c').nf.cl = [(y, cm)] from hcl cm c'] at e1 e2
      have a1 := PySem.mem_of_lookup e1
      have a2 := PySem.mem_of_lookup e2
      simp only [List.mem_singleton, Prod.mk.injEq] at a1 a2
      rw [a1.1, a2.1]
    · have hi : i = 0 := by
        cases i with
        | zero => rfl
        | succ i => simp at e
      subst hi
      have hz : y = z := by simpa using e
      subst hz
      refine ⟨cm, by rw [show (mk cm c').nf.cl = [(y, cm)] from hcl cm c']; simp [List.lookup], fun v' ev => ?_⟩
      have : v = v' := by simpa using ev
      subst this
      exact ⟨u, ru, oc, hoc, hod⟩
  refine PySem.W.kla_callFunE hr.depth ho rfl S'.co S'.gen rfl crec ?_
  rw [hb cm c' pm ctv us (by rw [← r.length]; exact hlen)]
  refine wpAny_pure (wpAny_newFunctionEnv S'.nocell (fun ⟨n, _⟩ hy => S'.par n (List.of_mem_zip hy).1) (fun h₁ hns hsb => ⟨lim.fresh _ hsb, ?_⟩) S'.kind)
  have kp : ∀ b o, s.heap.get? b = some o → h₁.get? b = some o := fun b o e => hsb.extBut b o (Nat.ne_of_lt (Heap.lt_size e)) (Heap.get?_push_of_some _ e)
  have I : L2.Inv (ncx C8.CX0 P w K mg base N (mk cm c').nf f A outer s (outH H cm) E) [] (startF N vs [some v]) (outH H cm) { s with heap := h₁, toks := s.toks + (ps.zip us).length } := inv_startN S' hr.hd e1 hlen r C hns kp
  refine PySem.W.kla_codeExpr (wpAny_mono ((PE.nox (hbody cm c' f A outer s (outH H cm) E (hr.deeper _))).run [] _ _ _ _ I ht) (fun v' s' hs => ?_) fun e s' hs => hs)
  obtain ⟨v', H', J, rv, q⟩ := hs
  exact ce_own hm hoc nfr ⟨v', H', J.os, J.bare, J.base, J.hok, rv, q⟩
end
end Lg

/-! lambdas in the ledger; the end of a law with one table of code objects; the head with it. -/
namespace Lg
open PySem PySem.Spec PyProof.Rows L2 LamX NdefX
/-! ### the ledger -/
def Pr.tab (q : Str) : Pr := ⟨fun F o => ∃ ps : Array Value, o = .tbl ps ∧ TriplesOk ps.toList ∧ Among q F ps.toList, fun _ _ _ e ⟨ps, h1, h2, h3⟩ => ⟨ps, h1, h2, fun pos cv h => let ⟨c, a, b⟩ := h3 pos cv h; ⟨c, a, e _ _ b⟩⟩⟩
/-- owned: the table of a def's code object, all that it tells named q -/
abbrev tbE (T : Addr) (q : Str) : Ent := .cell T (.tab q)
def Fr.obj (a : Addr) (o : HO) : Fr := ⟨fun F => F a = some o, fun _ _ e h => e _ _ h⟩
/-- known for ever: what stands at a -/
abbrev kno (a : Addr) (o : HO) : Ent := .fact (Fr.obj a o)
section
variable {K : PySem.W.Frag} {L L' : List Ent} {H : Hp} {Q : VK} {σ : L2.St} {T cm a : Addr} {q : Str} {mk : Addr → LF} {o : HO} {oc : Obj}
theorem St.lend (hS : St K L H) (n : H cm = none) : St K (Lg.own cm (CelO cm oc) :: L) (upd H cm (CelO cm oc)) := hS.alloc n fun _ _ _ => rfl
theorem St.unlend (hS : St K (Lg.own cm (CelO cm oc) :: L) H) : H cm = some (CelO cm oc) ∧ St K L (outH H cm) := by
  refine ⟨hS.own (.head _), ?_⟩
  have nd := hS.nd
  obtain ⟨F, e1, e2⟩ := hS.ex
  obtain ⟨nF, _⟩ := e2 _ (.head _)
  refine ⟨⟨F, fun b x hb => ?_, fun e he => ?_⟩, hS.tail.nd⟩
  · have nb : b ≠ cm := fun z => by rw [z, nF] at hb; cases hb
    rw [outH_ne nb]
    exact e1 _ _ hb
  · have h := e2 e (.tail _ he)
    cases e with
    | cell b φ =>
      obtain ⟨h1, x, h2, h3⟩ := h
      have nb : b ≠ cm := fun z => by
        have nd' : (cm :: L.filterMap Ent.adr).Nodup := nd
        exact (List.nodup_cons.mp nd').1 (List.mem_filterMap.mpr ⟨_, he, by rw [z]; rfl⟩)
      exact ⟨h1, x, by rw [outH_ne nb]; exact h2, h3⟩
    | dat v d => exact h
    | fact φ => exact h
theorem St.unlendR (hS : St K L H) (hr : Rem L (Lg.own cm (CelO cm oc)) L') : H cm = some (CelO cm oc) ∧ St K L' (outH H cm) := (hS.perm hr.perm).unlend
/-- what is there may be frozen -/
theorem St.layK (hS : St K L H) (n : H a = none) : St K (kno a o :: L) (upd H a o) := by
  obtain ⟨F, e1, e2⟩ := hS.ex
  have nF : F a = none := e1.none n
  refine ⟨⟨upd F a o, e1.both, fun e he => ?_⟩, hS.nd⟩
  cases he with
  | head => exact upd_same
  | tail _ he =>
    have h := e2 e he
    cases e with
    | cell b φ =>
      obtain ⟨h1, x, h2, h3⟩ := h
      have nb : b ≠ a := fun z => by rw [z, n] at h2; cases h2
      exact ⟨by rw [upd_ne nb]; exact h1, x, by rw [upd_ne nb]; exact h2, φ.mono _ _ _ (Ex.new nF) h3⟩
    | dat v d => exact Dv.mono (Ex.new nF) _ _ h
    | fact φ => exact φ.mono _ _ (Ex.new nF) h
theorem St.kno (hS : St K L H) (hm : Lg.kno a o ∈ L) : H a = some o := by
  obtain ⟨F, e1, e2⟩ := hS.ex
  exact e1 _ _ (e2 _ hm)
/-- the lambda is made -/
theorem w_lamF (hS : St K L H) (hm : tbE T q ∈ L) (h : ∀ f c' H', St K (Lg.own f (LamO f (mk c')) :: Lg.kno c' (CodeO c' q) :: L) H' → Q (.ref f) H') : tLamF T q mk σ H Q := by
  obtain ⟨F, e1, e2⟩ := hS.ex
  obtain ⟨nT, x, hT, ps, rfl, ht, ha⟩ := e2 _ hm
  refine ⟨ps, hT, ht, fun pos cv hc => let ⟨c, z1, z2⟩ := ha pos cv hc; ⟨c, z1, e1 _ _ z2⟩, fun f c' pos nf hc => ?_, fun f c' more nf nc ne ht2 ha2 => ?_⟩
  · obtain ⟨c2, z1, z2⟩ := ha pos _ hc
    cases z1
    refine h f c' _ (St.alloc (L := Lg.kno c' (CodeO c' q) :: L) ⟨⟨F, e1, fun e he => ?_⟩, hS.nd⟩ nf fun _ _ _ => rfl)
    cases he with
    | head => exact z2
    | tail _ he => exact e2 e he
  · have h1 := hS.layK (o := CodeO c' q) nc
    have nTc : T ≠ c' := ne_of_none hT nc
    obtain ⟨R, p1⟩ : ∃ R, L.Perm (tbE T q :: R) := by
      obtain ⟨l1, l2, rfl⟩ := List.append_of_mem hm
      exact ⟨l1 ++ l2, List.perm_middle⟩
    have h2 : St K (tbE T q :: Lg.kno c' (CodeO c' q) :: R) (upd H c' (CodeO c' q)) := h1.perm ((List.Perm.cons _ p1).trans (List.Perm.swap _ _ _))
    have h3 : St K (tbE T q :: Lg.kno c' (CodeO c' q) :: R) (upd (upd H c' (CodeO c' q)) T (.tbl (ps ++ more))) := h2.write fun F' x' e3 e4 hx hφ => by
      refine ⟨_, rfl, ht2, fun pos cv hc => ?_⟩
      obtain ⟨ps2, rfl, _, a2⟩ := hφ
      rw [upd_ne nTc, hT] at hx
      cases hx
      rcases ha2 pos cv hc with z | z
      · exact a2 pos cv z
      · exact ⟨c', z, e4 _ (.tail _ (.head _))⟩
    have h4 : St K (Lg.kno c' (CodeO c' q) :: L) (upd (upd H c' (CodeO c' q)) T (.tbl (ps ++ more))) := h3.perm ((List.Perm.swap _ _ _).trans (List.Perm.cons _ p1.symm))
    have nf2 : (upd (upd H c' (CodeO c' q)) T (.tbl (ps ++ more))) f = none := by
      rw [upd_ne (fun z => by rw [z, hT] at nf; cases nf), upd_ne ne]
      exact nf
    exact h f c' _ (h4.alloc nf2 fun _ _ _ => rfl)
variable {C : Addr} {m : Str} {sp : Sp} {ta : TE} {t : TA} {i : Nat}
theorem w_mtLE (h : ta σ H fun x H1 => ∃ a dx fs, x = .ref a ∧ H1 a = some (.ins C dx fs) ∧ fs.lookup m = none ∧
  t σ H1 fun vs H2 => ∃ v, σ[i]? = some (some v) ∧ ∀ (oc : Obj) (u : Value), H2 cm = none → RelV v u → oc.data = .cell (some u) → sp (x :: vs) (upd H2 cm (CelO cm oc)) (fun r H3 => H3 cm = some (CelO cm oc) ∧ Q r (outH H3 cm)) C8.E0) : tMethL C m sp cm i ta t σ H Q := h
theorem w_fcE (h : ta σ H fun x H1 => ∃ a C dx fs f, x = .ref a ∧ H1 a = some (.ins C dx fs) ∧ Cls K C ∧ NoAttr K C m ∧ fs.lookup m = some (.ref f) ∧ t σ H1 fun vs H2 => sp (.ref f :: vs) H2 Q C8.E0) : tFCall K m sp ta t σ H Q := h
end
/-! ### a def with a lambda in it -/
/-- the lambda that a def hands on in its first assignment -/
def lamIn : List Stmt → Expr
  | .Assign _ (.Call _ (l :: _) _ _) _ :: _ => l
  | _ :: r => lamIn r
  | [] => .Name "" ⟨0, 0, 0, 0⟩
def lamArgs : Expr → Arguments
  | .Lambda a _ _ _ => a
  | _ => ⟨[], [], none, [], [], none, []⟩
def lamBody : Expr → Expr
  | .Lambda _ b _ _ => b
  | e => e
def lamScope : Expr → Scope
  | .Lambda _ _ s _ => s
  | _ => ⟨.function, [], false, false, []⟩
section
variable {P : Program} {w : World} {K : PySem.W.Frag} {mg : Str → Option Value} {base : Heap} {x qual : Str} {params : Arguments} {body : List Stmt} {scope : Scope} {dvs : List V} {kws : List (Str × V)} {f : Addr} {fd : FuncData}
theorem fun_okC {CX : CXT} {N ps : List Str} {k : Nat} {sp : Sp} {p : He.Defn} (F : FunD K x qual params body scope dvs kws f fd) (hf : f = He.fAd K p) (S : FnScope N ps scope) (len : ∀ vs H Q E, sp vs H Q E → vs.length = ps.length)
    (hbody : ∀ (A : Around) (outer : List Env) (s : Shared) (H : Hp) (vs : List V) (Q : VK) (E : XK), Room k (A.deeper (envOfC qual scope s.heap.objs.size f (.ref (He.codeOf K p)))) → sp vs H Q E →
      ∃ t, PSs (cxOf CX P w K mg base N qual scope f (.ref (He.codeOf K p)) A outer s H E) body t ∧ t { nx := fun _ H' => Q .non H', rt := Q } (start N vs) H) : FnOk P w K mg base CX (k + 1) f fd ps sp := by
  obtain ⟨oc, od, dV, kV, doc, pm, an, cdv, ct, osl, rfl, lk, hcd, _, _⟩ := F.ex
  obtain ⟨c, rfl⟩ := He.codeIn_ref hcd
  have e : He.codeOf K p = c := He.codeOf_eq (by rw [← hf]; exact lk) rfl
  rw [← e] at lk hcd ⊢
  exact fn_of lk hcd S len hbody
end
/-! ### the end -/
/-- the law's call; one table of code objects is known -/
theorem law_callTG {P : Program} {w : World} {K : PySem.W.Frag} {mg mb : Str → Option Value} {CX : CXT} {k : Nat} {fa a c T : Addr} {q : Str} {fd : FuncData} {x : Str} {sp : Sp} {s₁ : Shared} {vs : List Value} {ns : List Int}
    (KX : K.In s₁.heap) (hns : s₁.heap.Ns mainGlobals mg) (hb : s₁.heap.Ns builtinsNs mb) (hbb : ∀ x : Str, x ≠ "__name__" → mb x = bootBuiltins x) (hlim : s₁.heap.NoLimit) (hg : s₁.gens = #[])
    (tab : s₁.heap.get? T = some { cls := .none, data := .fields #[] }) (noK : K.lookup T = none) (hd : PySem.W.codeHdIn K c T = true)
    (mods : ∃ (bm : Addr) (ob : Obj), mg "__builtins__" = some (.ref bm) ∧ bm ≠ builtinsNs ∧ s₁.heap.get? bm = some ob ∧ ob.cls = .type "module" ∧ ob.dict = some builtinsNs ∧ ob.data = .plain)
    (ha : s₁.heap.get? a = some { cls := .type "list", data := .seq vs.toArray }) (hi : IntsAre vs ns) (hl : ns.length ≤ sizeLine) (hr : Room k callerA)
    (F : ∀ base : Heap, K.In base → base.Ns mainGlobals mg → TabB base mg c T → FnG P w K mg base CX k fa fd [x] sp) (hbind : ∀ (s : Shared) (u : Value), BindsTo s fd ⟨[u], []⟩ [(x, u)])
    (hsp : ∀ H : Hp, St K [tbE T q, .fact (Fr.seq K a ns)] H → sp [.ref a] H (fun v _ => v = .bl true) fun _ _ _ => False)
    (hCX : ∀ H e s', CX [] H s₁ (fun _ _ _ => False) e s' → False) :
    codeAny (model P w) callerA (.call (.ref fa) ⟨[.ref a], []⟩) (fun r s' => r = .ok (.ret (.bool true)) ∧ OldK s₁.heap s'.heap ∧ s'.os = s₁.os ∧ AllBare s'.gens) s₁ := by
  have rv := vals_ints hi
  have naT : a ≠ T := fun z => by
    rw [z, tab] at ha
    cases ha
  have main : ∀ H0 : Hp, H0 T = none → (∀ b, b ≠ a → H0 b = none) → (H0 a = none ∨ ∃ o xs, H0 a = some (.frz o (.lst xs))) → SqL K H0 a (ns.map V.int) → HOk P w H0 s₁.heap → (H0 a ≠ none → K.lookup a = none) →
      codeAny (model P w) callerA (.call (.ref fa) ⟨[.ref a], []⟩) (fun r s' => r = .ok (.ret (.bool true)) ∧ OldK s₁.heap s'.heap ∧ s'.os = s₁.os ∧ AllBare s'.gens) s₁ := by
    intro H0 nT one seen hS hok0 off
    have stt : St K [tbE T q, .fact (Fr.seq K a ns)] (upd H0 T (.tbl #[])) := by
      refine St.alloc (L := [.fact (Fr.seq K a ns)]) ⟨⟨H0, Ex.rfl, fun e he => ?_⟩, List.nodup_nil⟩ nT fun F' _ _ => ⟨#[], rfl, True.intro, fun pos cv h => ?_⟩
      · cases he with
        | head => exact hS
        | tail _ he => cases he
      · have h' : codeAmong pos [] = some cv := h
        simp [codeAmong] at h'
    have tabO : ObjOk P w (upd H0 T (.tbl #[])) s₁.heap T (.tbl #[]) := tab
    have hok : HOk P w (upd H0 T (.tbl #[])) s₁.heap := fun b u e => by
      by_cases z : b = T
      · subst z
        rw [upd_same] at e
        cases e
        exact tabO
      · rw [upd_ne z] at e
        exact (hok0 b u e).stay (fun _ _ _ z => z) (fun d z => by rw [upd_ne (ne_of_none z nT)]; exact z) fun d xs z => by rw [upd_ne (ne_of_none z nT)]; exact z
    generalize hH : upd H0 T (.tbl #[]) = H at stt hok
    have HT : H T = some (.tbl #[]) := by rw [← hH]; exact upd_same
    have Hne : ∀ b, b ≠ T → H b = H0 b := fun b z => by rw [← hH]; exact upd_ne z
    have plain : ∀ {b : Addr} {o : Obj}, s₁.heap.get? b = some o → (∀ n, o.data ≠ .seq vs.toArray n) → o.data ≠ .fields #[] → H b = none := fun {b o} e d1 d2 => by
      by_cases z : b = T
      · subst z
        rw [tab] at e
        cases e
        exact absurd rfl d2
      · rw [Hne b z]
        by_cases y : b = a
        · subst y
          rw [ha] at e
          cases e
          exact absurd rfl (d1 _)
        · exact one b y
    have ns' : ∀ {b : Addr} {m : Str → Option Value}, s₁.heap.Ns b m → (hidT s₁.heap H).Ns b m := fun {b m} ⟨o, es, ep, e, d, r⟩ => ⟨o, es, ep, hidT_get e (plain e (fun n z => by rw [d] at z; cases z) fun z => by rw [d] at z; cases z), d, r⟩
    have known : K.In (hidT s₁.heap H) := fun b o e => hidT_get (KX b o e) (by
      by_cases z : b = T
      · rw [z, noK] at e
        cases e
      · rw [Hne b z]
        by_cases y : b = a
        · subst y
          cases hx0 : H0 b with
          | none => rfl
          | some u =>
            rw [off (by rw [hx0]; simp)] at e
            cases e
        · exact one b y)
    have tb : TabB (hidT s₁.heap H) mg c T := by
      obtain ⟨bm, ob, m1, m2, m3, m4, m5, m6⟩ := mods
      have gl : ∀ b o, s₁.heap.get? b = some o → o.data = .plain → b ≠ mainGlobals ∧ b ≠ T := fun b o e d => by
        constructor
        · intro z
          obtain ⟨o2, es2, ep2, e2, d2, _⟩ := hns
          rw [← z, e] at e2
          cases e2
          rw [d] at d2
          cases d2
        · intro z
          rw [z, tab] at e
          cases e
          cases d
      obtain ⟨g1, g2⟩ := gl bm ob m3 m6
      refine tabB_of_K known hd ⟨bm, ob, m1, m2, g1, g2, hidT_get m3 (plain m3 (fun n z => by rw [m6] at z; cases z) fun z => by rw [m6] at z; cases z), m4, m5, m6⟩ fun z => ?_
      obtain ⟨o2, _, _, e2, d2, _⟩ := hns
      rw [z, tab] at e2
      cases e2
      cases d2
    have e0 : Env0 P w K mg (hidT s₁.heap H) callerA [] s₁ H := by
      refine ⟨rfl, ⟨known, ns' hns, ⟨mb, ns' hb, hbb⟩, ?_⟩, fun b o e => of_hidT e, Nat.le_of_eq (hidT_size _ _), trivial, fun b hb => absurd (show b ∈ ([] : List Addr) from hb) (by simp), hok, .of_eq hg⟩
      obtain ⟨mc, h1, h2⟩ := hlim
      exact ⟨mc, ns' h1, h2⟩
    refine codeAny_mono ((F _ known (ns' hns) tb).run callerA [] s₁ H ⟨[.ref a], []⟩ [.ref a] [.ref a] _ _ hr rfl e0 (hbind s₁ (.ref a)) (.cons rfl .nil) (hsp H stt)) fun r s' h => ?_
    match r, h with
    | .error e, h => exact (hCX H e s' h).elim
    | .ok .next, h => exact False.elim h
    | .ok .brk, h => exact False.elim h
    | .ok .cont, h => exact False.elim h
    | .ok (.ret u), h =>
      obtain ⟨v, H', os, bare, un, hok', r', q⟩ := h
      obtain rfl : v = .bl true := q
      obtain rfl : u = Value.bool true := r'
      have rest : ∀ b o, b ≠ T → s₁.heap.get? b = some o → s'.heap.get? b = some o := fun b o z e => by
        have stay : H b = none → s'.heap.get? b = some o := fun n => un.keep b o e n (fun y => absurd (show b ∈ ([] : List Addr) from y) (by simp)) (by simp)
        by_cases y : b = a
        · subst y
          rcases seen with n | ⟨ob, xs, n⟩
          · exact stay (by rw [Hne b z]; exact n)
          · have n2 : H b = some (.frz ob (.lst xs)) := by rw [Hne b z]; exact n
            have k1 := (hok b _ n2).1
            have k2 := (hok' b _ (un.frzs b ob _ n2)).1
            rw [e] at k1
            cases k1
            exact k2
        · exact stay (by rw [Hne b z]; exact one b y)
      obtain ⟨more, grown⟩ := un.tbls T #[] HT
      have gT : s'.heap.get? T = some { cls := .none, data := .fields (#[] ++ more) } := hok' T _ grown
      refine ⟨rfl, ⟨fun b o e => ?_, fun b o e => ?_⟩, os, bare⟩
      · by_cases z : b = T
        · subst z
          rw [tab] at e
          cases e
          exact .inr (.inl ⟨((PySem.W.codeHd_of_K KX hd).tab tab).isCodeTable, rfl, #[], more, rfl, gT⟩)
        · exact .inl (rest b o z e)
      · by_cases z : b = T
        · rw [z]
          exact ⟨_, gT⟩
        · exact ⟨o, rest b o z e⟩
  cases hk : K.lookup a with
  | some o =>
    have e := KX a o hk
    rw [ha] at e
    cases e
    exact main (fun _ => none) rfl (fun _ _ => rfl) (.inl rfl) (.inr ⟨_, vs.toArray, _, hk, rfl, rfl, rfl, by rw [List.size_toArray, hi.length]; exact hl, by simpa using rv⟩) (fun b u z => by have z' : (none : Option HO) = some u := z; cases z') fun z => absurd rfl z
  | none =>
    have at_a : (if a = a then some (HO.frz { cls := .type "list", data := .seq vs.toArray } (.lst (ns.map V.int))) else none) = some (HO.frz { cls := .type "list", data := .seq vs.toArray } (.lst (ns.map V.int))) := if_pos rfl
    refine main (fun b => if b = a then some (.frz { cls := .type "list", data := .seq vs.toArray } (.lst (ns.map V.int))) else none) (if_neg (Ne.symm naT)) (fun b z => if_neg z) (.inr ⟨_, _, at_a⟩) (.inl (.inr ⟨_, at_a⟩)) (fun b u z => ?_) fun _ => hk
    by_cases hb : b = a
    · subst hb
      have z' := at_a.symm.trans z
      cases z'
      exact ⟨ha, by rw [List.length_map]; exact hl, vs, _, rv, ha⟩
    · have z' := (if_neg hb).symm.trans z
      cases z'
theorem walk_ofTG {l : PySem.W.OpenLaw} {n k : Nat} {q : Program} {loose : List Str} {XP : (Str → Option Value) → Heap → Prop} {YP : World → Heap → Prop} {d : DefRec} {CX : CXT} {x qn : Str}
    (hn : l.most = some n) (hn2 : n ≤ sizeLine) (hdf : d.params.defaults = []) (hr : Room k callerA)
    (F : ∀ (w : World) (mg : Str → Option Value) (fa : Addr) (h : Heap), YP w h → h.Ns mainGlobals mg → mg d.name = some (.ref fa) →
      ∃ (K : PySem.W.Frag) (fd : FuncData) (sp : Sp) (c T : Addr), K.In h ∧ h.get? T = some { cls := .none, data := .fields #[] } ∧ K.lookup T = none ∧ PySem.W.codeHdIn K c T = true ∧ (∀ (s : Shared) (u : Value), BindsTo s fd ⟨[u], []⟩ [(x, u)]) ∧
        (∀ (H : Hp) (a : Addr) (ns : List Int), ns.length ≤ n → St K [tbE T qn, .fact (Fr.seq K a ns)] H → sp [.ref a] H (fun v _ => v = .bl true) fun _ _ _ => False) ∧
        ∀ base : Heap, K.In base → base.Ns mainGlobals mg → TabB base mg c T → FnG l.prog w K mg base CX k fa fd [x] sp)
    (hCX : ∀ (H : Hp) (s : Shared) (e : Value) (s' : Shared), CX [] H s (fun _ _ _ => False) e s' → False) :
    PySem.W.WalkO q loose XP YP l.row.toRowW d [] (fun f vs => PySem.call f vs) := by
  refine Att.attach_callB hn hdf fun w s₀ s₁ mg mb fa o pm cd doc a vs ns G Y ho hd hcd hmg hobj hints hlen hbits hg => ?_
  obtain ⟨K, fd, sp, c, T, KX, tab, noK, hh, hb, hsp, hF⟩ := F w mg fa _ Y G.T.g hmg
  exact law_callTG KX G.T.g G.T.b G.T.builtins G.T.nolimit hg tab noK hh G.T.bmain hobj hints (Nat.le_trans hlen hn2) hr hF hb (fun H hS => hsp H a ns hlen hS) fun H e s' => hCX H s₁ e s'
/-! ### the head -/
/-- facts, tables, one more Bool, the statics in sight, one def's table of code objects: empty -/
structure SaysL (fa : List He.Fa) (fn : List He.DefD) (ts : List He.Tab) (p : He.Defn) (ex : PySem.W.Frag → Bool) (w : World) (h : Heap) (K : PySem.W.Frag) : Prop where
  t : He.SaysT fa fn ts w K
  more : ex K = true
  hd : PySem.W.codeHdIn K (He.cT K p).1 (He.cT K p).2 = true
  out : K.lookup (He.cT K p).2 = none
  empty : h.get? (He.cT K p).2 = some { cls := .none, data := .fields #[] }
def tabL (g : Addr → Option Obj) (p : He.Defn) (K : PySem.W.Frag) : Bool := PySem.W.codeHdIn K (He.cT K p).1 (He.cT K p).2 && (match g (He.cT K p).2 with
  | some o => He.emptyTab o
  | none => false)
def obsTL (n : Nat) (fa : List He.Fa) (fn : List He.DefD) (ts : List He.Tab) (p : He.Defn) (ex : PySem.W.Frag → Bool) (g : Addr → Option Obj) : AlTB := (He.obsT fa fn ts (He.frT g (asC g n)), ex (He.frT g (asC g n)) && tabL g p (He.frT g (asC g n)))
theorem saysL_of {n : Nat} {fa : List He.Fa} {fn : List He.DefD} {ts : List He.Tab} {p : He.Defn} {ex : PySem.W.Frag → Bool} {w : World} {h : Heap} (e : obsTL n fa fn ts p ex h.get? = (He.valT fn ts w, true)) : SaysL fa fn ts p ex w h (He.frT h.get? (asC h.get? n)) := by
  have e2 := congrArg (fun z : AlTB => z.2) e
  obtain ⟨h1, h2⟩ := Bool.and_eq_true_iff.mp (show (ex (He.frT h.get? (asC h.get? n)) && tabL h.get? p (He.frT h.get? (asC h.get? n))) = true from e2)
  obtain ⟨h3, h4⟩ := Bool.and_eq_true_iff.mp h2
  cases z : h.get? (He.cT (He.frT h.get? (asC h.get? n)) p).2 with
  | none => rw [z] at h4; cases h4
  | some o =>
    rw [z] at h4
    exact ⟨congrArg (fun z : AlTB => z.1) e, h1, h3, He.frT_none z h4, by rw [z, He.emptyTab_eq h4]⟩
def hookTL (n : Nat) (fa : List He.Fa) (fn : List He.DefD) (ts : List He.Tab) (p : He.Defn) (ex : PySem.W.Frag → Bool) : PySem.W.Hook where
  α := AlTB
  obs := fun s => obsTL n fa fn ts p ex s.heap.get?
  val := fun w => (He.valT fn ts w, true)
  says := fun w h => ∃ K : PySem.W.Frag, K.In h ∧ SaysL fa fn ts p ex w h K
  of := fun _ _ e => ⟨_, He.frT_in, saysL_of e⟩
  keeps := fun _ _ _ ⟨K, hK, c⟩ k => ⟨K, PySem.W.Frag.In.keeps hK k, ⟨c.t, c.more, c.hd, c.out, k _ _ c.empty⟩⟩
theorem obsTL_eq {n : Nat} {fa : List He.Fa} {fn : List He.DefD} {ts : List He.Tab} {p : He.Defn} {ex : PySem.W.Frag → Bool} {g : Addr → Option Obj} {s : Shared} (h : ∀ a, g a = s.heap.get? a) : obsTL n fa fn ts p ex g = (hookTL n fa fn ts p ex).obs s := by
  have e : g = s.heap.get? := funext h
  rw [e] <;> rfl
end Lg

/-! ### the head's run (printed by tools/split.py) -/
namespace K05
open PySem PySem.Spec PyProof.Rows L2 Lg
def top (i : Nat) : Stmt := PySem.Challenge.pw_sameasnew_k05_names_followed.main.body.getD i (.Pass ⟨0, 0, 0, 0⟩)
def mth (i j : Nat) : Stmt := match top i with
  | .ClassDef (body := b) .. => b.getD j (.Pass ⟨0, 0, 0, 0⟩)
  | _ => .Pass ⟨0, 0, 0, 0⟩
def tab_OWN : List Str := ["let", "keep", "fn"]
abbrev s_own : Stmt := top 7
abbrev s_other : Stmt := top 8
abbrev s_follow : Stmt := top 9
abbrev s_available : Stmt := top 10
abbrev s_declaration : Stmt := top 11
abbrev s_reach : Stmt := top 13
abbrev s_l_cell : Stmt := top 15
abbrev s_l_digits : Stmt := top 16
abbrev s_l_draw : Stmt := top 17
abbrev s_l_atom : Stmt := top 18
abbrev s_l_tree : Stmt := top 19
abbrev s_l_own : Stmt := top 20
abbrev s_l_imports : Stmt := top 21
abbrev s_l_usable : Stmt := top 22
abbrev s_l_calls : Stmt := top 23
abbrev s_l_module : Stmt := top 24
abbrev s_l_modules : Stmt := top 25
abbrev s_l_exports : Stmt := top 26
abbrev s_l_follow : Stmt := top 27
abbrev s_l_leads : Stmt := top 28
abbrev s_l_declared : Stmt := top 29
abbrev s_l_visit : Stmt := top 30
abbrev s_l_order : Stmt := top 31
abbrev s_l_tree_fault : Stmt := top 32
abbrev s_l_use_fault : Stmt := top 33
abbrev s_l_line_fault : Stmt := top 34
abbrev s_l_names_fault : Stmt := top 35
abbrev s_l_alike : Stmt := top 36
abbrev s_l_with_exports : Stmt := top 37
abbrev s_law : Stmt := top 38
abbrev s_Reach_init : Stmt := mth 12 0
abbrev s_Reach_visit : Stmt := mth 12 1
def hd_own : He.DefD := ⟨("_own", none), "_own", "_own", defArgs s_own, defBody s_own, defScope s_own, [], []⟩
def hd_other : He.DefD := ⟨("_other", none), "_other", "_other", defArgs s_other, defBody s_other, defScope s_other, [], []⟩
def hd_follow : He.DefD := ⟨("follow", none), "follow", "follow", defArgs s_follow, defBody s_follow, defScope s_follow, [], []⟩
def hd_available : He.DefD := ⟨("available", none), "available", "available", defArgs s_available, defBody s_available, defScope s_available, [], []⟩
def hd_declaration : He.DefD := ⟨("declaration", none), "declaration", "declaration", defArgs s_declaration, defBody s_declaration, defScope s_declaration, [], []⟩
def hd_reach : He.DefD := ⟨("reach", none), "reach", "reach", defArgs s_reach, defBody s_reach, defScope s_reach, [], []⟩
def hd_l_cell : He.DefD := ⟨("_law_cell", none), "_law_cell", "_law_cell", defArgs s_l_cell, defBody s_l_cell, defScope s_l_cell, [], []⟩
def hd_l_digits : He.DefD := ⟨("_law_digits", none), "_law_digits", "_law_digits", defArgs s_l_digits, defBody s_l_digits, defScope s_l_digits, [], []⟩
def hd_l_draw : He.DefD := ⟨("_law_draw", none), "_law_draw", "_law_draw", defArgs s_l_draw, defBody s_l_draw, defScope s_l_draw, [], []⟩
def hd_l_atom : He.DefD := ⟨("_law_atom", none), "_law_atom", "_law_atom", defArgs s_l_atom, defBody s_l_atom, defScope s_l_atom, [], []⟩
def hd_l_tree : He.DefD := ⟨("_law_tree", none), "_law_tree", "_law_tree", defArgs s_l_tree, defBody s_l_tree, defScope s_l_tree, [], []⟩
def hd_l_own : He.DefD := ⟨("_law_own", none), "_law_own", "_law_own", defArgs s_l_own, defBody s_l_own, defScope s_l_own, [], []⟩
def hd_l_imports : He.DefD := ⟨("_law_imports", none), "_law_imports", "_law_imports", defArgs s_l_imports, defBody s_l_imports, defScope s_l_imports, [], []⟩
def hd_l_usable : He.DefD := ⟨("_law_usable", none), "_law_usable", "_law_usable", defArgs s_l_usable, defBody s_l_usable, defScope s_l_usable, [], []⟩
def hd_l_calls : He.DefD := ⟨("_law_calls", none), "_law_calls", "_law_calls", defArgs s_l_calls, defBody s_l_calls, defScope s_l_calls, [], []⟩
def hd_l_module : He.DefD := ⟨("_law_module", none), "_law_module", "_law_module", defArgs s_l_module, defBody s_l_module, defScope s_l_module, [], []⟩
def hd_l_modules : He.DefD := ⟨("_law_modules", none), "_law_modules", "_law_modules", defArgs s_l_modules, defBody s_l_modules, defScope s_l_modules, [], []⟩
def hd_l_exports : He.DefD := ⟨("_law_exports", none), "_law_exports", "_law_exports", defArgs s_l_exports, defBody s_l_exports, defScope s_l_exports, [], []⟩
def hd_l_follow : He.DefD := ⟨("_law_follow", none), "_law_follow", "_law_follow", defArgs s_l_follow, defBody s_l_follow, defScope s_l_follow, [], []⟩
def hd_l_leads : He.DefD := ⟨("_law_leads", none), "_law_leads", "_law_leads", defArgs s_l_leads, defBody s_l_leads, defScope s_l_leads, [], []⟩
def hd_l_declared : He.DefD := ⟨("_law_declared", none), "_law_declared", "_law_declared", defArgs s_l_declared, defBody s_l_declared, defScope s_l_declared, [], []⟩
def hd_l_visit : He.DefD := ⟨("_law_visit", none), "_law_visit", "_law_visit", defArgs s_l_visit, defBody s_l_visit, defScope s_l_visit, [], []⟩
def hd_l_order : He.DefD := ⟨("_law_order", none), "_law_order", "_law_order", defArgs s_l_order, defBody s_l_order, defScope s_l_order, [], []⟩
def hd_l_tree_fault : He.DefD := ⟨("_law_tree_fault", none), "_law_tree_fault", "_law_tree_fault", defArgs s_l_tree_fault, defBody s_l_tree_fault, defScope s_l_tree_fault, [], []⟩
def hd_l_use_fault : He.DefD := ⟨("_law_use_fault", none), "_law_use_fault", "_law_use_fault", defArgs s_l_use_fault, defBody s_l_use_fault, defScope s_l_use_fault, [], []⟩
def hd_l_line_fault : He.DefD := ⟨("_law_line_fault", none), "_law_line_fault", "_law_line_fault", defArgs s_l_line_fault, defBody s_l_line_fault, defScope s_l_line_fault, [], []⟩
def hd_l_names_fault : He.DefD := ⟨("_law_names_fault", none), "_law_names_fault", "_law_names_fault", defArgs s_l_names_fault, defBody s_l_names_fault, defScope s_l_names_fault, [], []⟩
def hd_l_alike : He.DefD := ⟨("_law_alike", none), "_law_alike", "_law_alike", defArgs s_l_alike, defBody s_l_alike, defScope s_l_alike, [], []⟩
def hd_l_with_exports : He.DefD := ⟨("_law_with_exports", none), "_law_with_exports", "_law_with_exports", defArgs s_l_with_exports, defBody s_l_with_exports, defScope s_l_with_exports, [], []⟩
def hd_law : He.DefD := ⟨("law", none), "law", "law", defArgs s_law, defBody s_law, defScope s_law, [], []⟩
def hd_Reach_init : He.DefD := ⟨("Reach", some "__init__"), "__init__", "Reach.__init__", defArgs s_Reach_init, defBody s_Reach_init, defScope s_Reach_init, [], []⟩
def hd_Reach_visit : He.DefD := ⟨("Reach", some "visit"), "visit", "Reach.visit", defArgs s_Reach_visit, defBody s_Reach_visit, defScope s_Reach_visit, [], []⟩
def hfn : List He.DefD := [hd_own, hd_other, hd_follow, hd_available, hd_declaration, hd_reach, hd_l_cell, hd_l_digits, hd_l_draw, hd_l_atom, hd_l_tree, hd_l_own, hd_l_imports, hd_l_usable, hd_l_calls, hd_l_module, hd_l_modules, hd_l_exports, hd_l_follow, hd_l_leads, hd_l_declared, hd_l_visit, hd_l_order, hd_l_tree_fault, hd_l_use_fault, hd_l_line_fault, hd_l_names_fault, hd_l_alike, hd_l_with_exports, hd_law, hd_Reach_init, hd_Reach_visit]
def hfa : List He.Fa := [.glo "OWN", .str "EXPORT" "export", .str "IMPORT" "import", .free "tuple", .glo "Reach", .free "len", .free "range", .free "int", .free "list", .free "repr", .free "sorted", .free "isinstance", .cls "Reach", .mkr "Reach", .meth "Reach" "visit", .noat "Reach" "order", .noat "Reach" "_visited", .noat "Reach" "_lines_of", .glo "_own", .glo "_other", .glo "follow", .glo "available", .glo "declaration", .glo "reach", .glo "_law_cell", .glo "_law_digits", .glo "_law_draw", .glo "_law_atom", .glo "_law_tree", .glo "_law_own", .glo "_law_imports", .glo "_law_usable", .glo "_law_calls", .glo "_law_module", .glo "_law_modules", .glo "_law_exports", .glo "_law_follow", .glo "_law_leads", .glo "_law_declared", .glo "_law_visit", .glo "_law_order", .glo "_law_tree_fault", .glo "_law_use_fault", .glo "_law_line_fault", .glo "_law_names_fault", .glo "_law_alike", .glo "_law_with_exports", .glo "law"]
def tabl (K : PySem.W.Frag) : List Bool := [He.tupB K "OWN" (tab_OWN.map He.Dv.str)]
def tabs (K : PySem.W.Frag) : Bool := (tabl K).all id
abbrev R : PySem.W.OpenRow := PySem.W.OpenLaw.row PySem.Challenge.rw_sameasnew_k05_names_followed
def hts : List He.Tab := []
abbrev hk : PySem.W.Hook := hookTL 4 hfa hfn hts ("reach", none) tabs
def ob (s : PySem.W.SharedT) : AlTB := obsTL 4 hfa hfn hts ("reach", none) tabs (HandSHeadRun.getT s)
theorem ob_eq (s : PySem.W.SharedT) : ob s = hk.obs s.abs := obsTL_eq (HandSHeadRun.getT_eq s)
def loose0 : List Str := ["IMPORT", "EXPORT", "LET", "KEEP", "FN", "OWN", "_own", "_other", "follow", "available", "declaration", "Reach", "reach", "_law_cell", "_law_digits", "_law_draw", "_law_atom", "_law_tree", "_law_own", "_law_imports"]
def loose1 : List Str := ["_law_usable", "_law_calls", "_law_module", "_law_modules", "_law_exports", "_law_follow", "_law_leads", "_law_declared", "_law_visit", "_law_order", "_law_tree_fault", "_law_use_fault", "_law_line_fault", "_law_names_fault", "_law_alike", "_law_with_exports"]
def loose : List Str := loose0 ++ loose1
theorem run (w : World) : HandSHeadRun.RunEq R (PySem.W.view R.prog [38]) hk ob 6000 loose w := by
  intro os
  kernel_rfl
end K05
section
open PySem PySem.W PySem.Calls PyProof.Rows
set_option maxRecDepth 100000 in
set_option maxHeartbeats 0 in
theorem PySem.Challenge.early_sameasnew_k05_names_followed (h : WalkO (view (OpenLaw.row PySem.Challenge.rw_sameasnew_k05_names_followed).prog [38]) K05.loose (XL (view (OpenLaw.row PySem.Challenge.rw_sameasnew_k05_names_followed).prog [38]) []) K05.hk.says (OpenLaw.row PySem.Challenge.rw_sameasnew_k05_names_followed).toRowW (HandSHeadRun.topDef (OpenLaw.row PySem.Challenge.rw_sameasnew_k05_names_followed).prog 38) [] fun f vs => PySem.call f vs) : PySem.Challenge.rw_sameasnew_k05_names_followed.Holds := by
  w_on; o_law
  refine HandSHeadRun.head_any (r := OpenLaw.row PySem.Challenge.rw_sameasnew_k05_names_followed) (q := view (OpenLaw.row PySem.Challenge.rw_sameasnew_k05_names_followed).prog [38]) (H := K05.hk) (ob := K05.ob) (M := 6000) (loose := K05.loose) (d := HandSHeadRun.topDef (OpenLaw.row PySem.Challenge.rw_sameasnew_k05_names_followed).prog 38) (kwd := []) K05.ob_eq
    (by kernel_rfl) (fun s => by kernel_rfl) K05.run (by kernel_rfl) (by kernel_rfl) (by kernel_rfl) (by rfl) (by first | assumption | decide +kernel) (by decide +kernel) ⟨rfl, rfl, rfl, rfl, rfl, by decide +kernel⟩ ?hw h
  case hw => w_witness2
theorem PySem.Challenge.defname_sameasnew_k05_names_followed : (HandSHeadRun.topDef (OpenLaw.row PySem.Challenge.rw_sameasnew_k05_names_followed).prog 38).name = ("law" : PySem.Str) := by kernel_rfl
end

/-! k01, the plain law: tokens of lines -/
namespace Tok
open PySem PySem.NumText Lg
def letters : List Nat := List.range' 97 26
def figs : List Nat := List.range' 48 10
def sgns : List Nat := [40, 41, 44, 59, 43, 45, 42, 60, 61]
inductive Tk where
  | w (l : List Nat) | n (k : Nat) | s (l : List Nat) | g (c : Nat)
  deriving DecidableEq
abbrev zword : List Nat := [119, 111, 114, 100]
abbrev znumber : List Nat := [110, 117, 109, 98, 101, 114]
abbrev zstring : List Nat := [115, 116, 114, 105, 110, 103]
abbrev zsign : List Nat := [115, 105, 103, 110]
def Tk.d : Tk → PyData
  | .w l => .tuple [.str (S zword), .str (S l)]
  | .n k => .tuple [.str (S znumber), .int (k : Int)]
  | .s l => .tuple [.str (S zstring), .str (S l)]
  | .g c => .tuple [.str (S zsign), .str (S [c])]
def Tk.sp : Tk → List Nat
  | .w l => l
  | .n k => dg k
  | .s l => 34 :: l ++ [34]
  | .g c => [c]
def Tk.ok : Tk → Prop
  | .w l => l ≠ [] ∧ l.length ≤ 6 ∧ ∀ c ∈ l, c ∈ letters
  | .n k => k < 100000
  | .s l => l.length ≤ 20 ∧ 34 ∉ l ∧ Asc l
  | .g c => c ∈ sgns
def Tk.kz : Tk → List Nat
  | .w _ => zword
  | .n _ => znumber
  | .s _ => zstring
  | .g _ => zsign
def Tk.vd : Tk → PyData
  | .w l => .str (S l)
  | .n k => .int (k : Int)
  | .s l => .str (S l)
  | .g c => .str (S [c])
theorem Tk.d_eq (t : Tk) : t.d = .tuple [.str (S t.kz), t.vd] := by cases t <;> rfl
/-- the sign that begins such a token -/
def Tk.kd : Tk → Nat
  | .w _ => 0
  | .n _ => 1
  | .s _ => 2
  | .g _ => 3
theorem kz_kd (t u : Tk) : t.kz = u.kz ↔ t.kd = u.kd := by cases t <;> cases u <;> simp [Tk.kz, Tk.kd]
theorem kz_lt (t : Tk) : t.kz ∈ [zword, znumber] ↔ t.kd < 2 := by cases t <;> simp [Tk.kz, Tk.kd]
theorem sp_len {t : Tk} (h : t.ok) : t.sp.length ≤ 22 := by
  cases t with
  | w l => have := h.2.1; show l.length ≤ 22; omega
  | n k => have := dg_len (n := k) (k := 5) (by decide) h; show (dg k).length ≤ 22; omega
  | s l => have := h.1; show (34 :: l ++ [34]).length ≤ 22; simp; omega
  | g c => show 1 ≤ 22; omega
def tokc (c : Nat) (r : List Nat) : Option (Tk × Nat) :=
    if c ∈ sgns then some (.g c, 1)
    else if c ∈ letters then
      if ((c :: r).takeWhile (· ∈ letters)).length ≤ 6 then some (.w ((c :: r).takeWhile (· ∈ letters)), ((c :: r).takeWhile (· ∈ letters)).length) else none
    else if c ∈ figs then
      if 5 < ((c :: r).takeWhile (· ∈ figs)).length ∨ (c = 48 ∧ 1 < ((c :: r).takeWhile (· ∈ figs)).length) then none
      else some (.n (digitsVal ((c :: r).takeWhile (· ∈ figs))), ((c :: r).takeWhile (· ∈ figs)).length)
    else if c = 34 ∧ (r.takeWhile (· ≠ 34)).length < r.length ∧ (r.takeWhile (· ≠ 34)).length ≤ 20 then some (.s (r.takeWhile (· ≠ 34)), (r.takeWhile (· ≠ 34)).length + 2)
    else none
def tok : List Nat → Option (Tk × Nat)
  | [] => none
  | c :: r => tokc c r
theorem tok_cons (c : Nat) (r : List Nat) : tok (c :: r) = tokc c r := rfl
theorem tok_pos {l : List Nat} {t : Tk} {k : Nat} (h : tok l = some (t, k)) : 1 ≤ k ∧ k ≤ l.length := by
  cases l with
  | nil => cases h
  | cons c r =>
    have tw : ∀ p : Nat → Bool, ((c :: r).takeWhile p).length ≤ (c :: r).length := fun p => (List.takeWhile_sublist _).length_le
    have tp : ∀ p : Nat → Bool, p c = true → 1 ≤ ((c :: r).takeWhile p).length := fun p hp => by rw [List.takeWhile_cons, if_pos hp]; simp
    rw [tok_cons] at h
    unfold tokc at h
    split at h
    · cases h; simp
    split at h
    · rename_i hc
      split at h
      · cases h; exact ⟨tp _ (by simpa using hc), tw _⟩
      · cases h
    split at h
    · rename_i hc
      split at h
      · cases h
      · cases h; exact ⟨tp _ (by simpa using hc), tw _⟩
    split at h
    · rename_i hc
      cases h
      simp only [List.length_cons]
      omega
    · cases h
def spl' : Nat → List Nat → Option (List Tk)
  | _, [] => some []
  | 0, _ :: _ => none
  | n + 1, c :: r => if c = 32 then spl' n r else match tok (c :: r) with
    | none => none
    | some (t, k) => (spl' n ((c :: r).drop k)).map (t :: ·)
theorem spl'_fuel : ∀ (n m : Nat) (l : List Nat), l.length ≤ n → l.length ≤ m → spl' n l = spl' m l
  | n, m, [], _, _ => by cases n <;> cases m <;> rfl
  | 0, _, c :: r, h, _ => by simp at h
  | _, 0, c :: r, _, h => by simp at h
  | n + 1, m + 1, c :: r, h1, h2 => by
    simp only [List.length_cons] at h1 h2
    unfold spl'
    split
    · exact spl'_fuel n m r (by omega) (by omega)
    · cases ht : tok (c :: r) with
      | none => rfl
      | some q =>
        obtain ⟨t, k⟩ := q
        have hk := tok_pos ht
        have hl : ((c :: r).drop k).length ≤ r.length := by rw [List.length_drop, List.length_cons]; omega
        show ((spl' n ((c :: r).drop k)).map (t :: ·)) = ((spl' m ((c :: r).drop k)).map (t :: ·))
        rw [spl'_fuel n m _ (by omega) (by omega)]
def spl (l : List Nat) : Option (List Tk) := spl' l.length l
theorem spl_nil : spl [] = some [] := rfl
theorem spl_blank (r : List Nat) : spl (32 :: r) = spl r := by
  unfold spl
  rw [List.length_cons]
  show (if 32 = 32 then _ else _) = _
  rw [if_pos rfl]
theorem spl_tok {c : Nat} {r : List Nat} (hc : c ≠ 32) : spl (c :: r) = match tok (c :: r) with
    | none => none
    | some (t, k) => (spl ((c :: r).drop k)).map (t :: ·) := by
  show (if c = 32 then _ else _) = _
  rw [if_neg hc]
  cases ht : tok (c :: r) with
  | none => rfl
  | some q =>
    obtain ⟨t, k⟩ := q
    have hk := tok_pos ht
    show (spl' r.length ((c :: r).drop k)).map (t :: ·) = (spl ((c :: r).drop k)).map (t :: ·)
    unfold spl
    rw [spl'_fuel r.length _ _ (by rw [List.length_drop, List.length_cons]; omega) (Nat.le_refl _)]
/-! ### quotes come in pairs -/
theorem cnt_tw (p : Nat → Bool) (h : p 34 = false) (l : List Nat) : (l.takeWhile p).count 34 = 0 := by
  rw [List.count_eq_zero]
  intro q
  have := List.all_eq_true.mp (List.all_takeWhile (p := p) (l := l)) 34 q
  rw [h] at this
  cases this
theorem take_tw (p : Nat → Bool) (l : List Nat) : l.take (l.takeWhile p).length = l.takeWhile p := by
  have h := List.takeWhile_append_dropWhile (p := p) (l := l)
  conv => lhs; arg 2; rw [← h]
  rw [List.take_left]
theorem tok_cnt {l : List Nat} {t : Tk} {k : Nat} (h : tok l = some (t, k)) : (l.take k).count 34 % 2 = 0 := by
  cases l with
  | nil => cases h
  | cons c r =>
    rw [tok_cons] at h
    unfold tokc at h
    split at h
    · rename_i hc
      cases h
      have : c ≠ 34 := fun z => by rw [z] at hc; revert hc; decide
      simp [this]
    split at h
    · split at h
      · cases h; rw [take_tw, cnt_tw _ (by decide)]
      · cases h
    split at h
    · split at h
      · cases h
      · cases h; rw [take_tw, cnt_tw _ (by decide)]
    split at h
    · rename_i hc
      cases h
      obtain ⟨rfl, h1, h2⟩ := hc
      have e : (34 :: r).take ((r.takeWhile (· ≠ 34)).length + 2) = 34 :: (r.takeWhile (· ≠ 34) ++ [34]) := by
        rw [show (r.takeWhile (· ≠ 34)).length + 2 = ((r.takeWhile (· ≠ 34)).length + 1) + 1 by omega, List.take_succ_cons, List.take_add_one, take_tw]
        congr 2
        have hd := List.takeWhile_append_dropWhile (p := fun x : Nat => decide (x ≠ 34)) (l := r)
        have hne : r.dropWhile (fun x : Nat => decide (x ≠ 34)) ≠ [] := fun z => by
          rw [z, List.append_nil] at hd
          rw [hd] at h1
          omega
        have hh := List.head_dropWhile_not (fun x : Nat => decide (x ≠ 34)) hne
        cases hx : r.dropWhile (fun x : Nat => decide (x ≠ 34)) with
        | nil => exact absurd hx hne
        | cons y ys =>
          have hy : y = 34 := by
            have hz : ∀ (z : List Nat) (hz : z ≠ []), z = y :: ys → z.head hz = y := by rintro z hz rfl; rfl
            have := hz _ hne hx
            rw [this] at hh
            simpa using hh
          have e2 : r[(r.takeWhile (fun x : Nat => decide (x ≠ 34))).length]? = some y := by
            conv => lhs; arg 1; rw [← hd]
            rw [List.getElem?_append_right (Nat.le_refl _), Nat.sub_self, hx]
            rfl
          rw [e2, hy]
          rfl
      rw [e, List.count_cons, List.count_append, cnt_tw _ (by decide)]
      decide
    · cases h
theorem spl'_cnt : ∀ (n : Nat) (l : List Nat) (ts : List Tk), spl' n l = some ts → l.count 34 % 2 = 0
  | n, [], _, _ => by simp
  | 0, c :: r, _, h => by cases h
  | n + 1, c :: r, ts, h => by
    unfold spl' at h
    split at h
    · rename_i hc
      subst hc
      have := spl'_cnt n r ts h
      rw [List.count_cons]
      simpa using this
    · cases ht : tok (c :: r) with
      | none => rw [ht] at h; cases h
      | some q =>
        obtain ⟨t, k⟩ := q
        rw [ht] at h
        cases hs : spl' n ((c :: r).drop k) with
        | none => simp only [hs] at h; cases h
        | some us =>
          have h1 := spl'_cnt n _ us hs
          have h2 := tok_cnt ht
          have e : (c :: r).count 34 = ((c :: r).take k).count 34 + ((c :: r).drop k).count 34 := by
            rw [← List.count_append, List.take_append_drop]
          omega
theorem spl_cnt {l : List Nat} {ts : List Tk} (h : spl l = some ts) : l.count 34 % 2 = 0 := spl'_cnt _ _ _ h
theorem tw_in : ∀ {r : List Nat}, 34 ∈ r → (r.takeWhile (fun x => decide (x ≠ 34))).length < r.length ∧ r[(r.takeWhile (fun x => decide (x ≠ 34))).length]? = some 34 ∧ 34 ∉ r.take (r.takeWhile (fun x => decide (x ≠ 34))).length
  | [], h => by cases h
  | x :: r, h => by
    by_cases hx : x = 34
    · subst hx
      rw [List.takeWhile_cons, if_neg (by decide)]
      exact ⟨by simp, rfl, by simp⟩
    · have h' : 34 ∈ r := by
        rcases List.mem_cons.mp h with h | h
        · exact absurd h.symm hx
        · exact h
      obtain ⟨h1, h2, h3⟩ := tw_in h'
      rw [List.takeWhile_cons, if_pos (decide_eq_true hx)]
      refine ⟨by simp only [List.length_cons]; omega, by simpa using h2, fun z => ?_⟩
      rw [List.length_cons, List.take_succ_cons] at z
      rcases List.mem_cons.mp z with z | z
      · exact hx z.symm
      · exact h3 z
theorem tw_out {r : List Nat} (h : 34 ∉ r) : r.takeWhile (fun x => decide (x ≠ 34)) = r := by
  have := takeWhile_take (p := fun x => decide (x ≠ 34)) (r := r) (m := r.length) (fun x hx => decide_eq_true fun z => h (by rw [List.take_length] at hx; exact z ▸ hx)) (fun x hx => by simp at hx)
  rw [this, List.take_length]
theorem toks_of : ∀ {es : List PyData}, (∀ e ∈ es, ∃ t, Tk.ok t ∧ e = t.d) → ∃ ts : List Tk, es = ts.map Tk.d ∧ ts.length = es.length ∧ ∀ t ∈ ts, t.ok
  | [], _ => ⟨[], rfl, rfl, by simp⟩
  | e :: es, h => by
    obtain ⟨t, ht, rfl⟩ := h e (.head _)
    obtain ⟨ts, rfl, h2, h3⟩ := toks_of (es := es) fun e he => h e (.tail _ he)
    exact ⟨t :: ts, rfl, by simp, fun u hu => by
      rcases List.mem_cons.mp hu with rfl | hu
      · exact ht
      · exact h3 u hu⟩
theorem asc_letters {l : List Nat} (h : ∀ c ∈ l, c ∈ letters) : Asc l := fun c hc => by
  have := h c hc
  unfold letters at this
  rw [List.mem_range'_1] at this
  omega
theorem sh_tk {t : Tk} (h : t.ok) : Shw 1 86 t.d := by
  rw [Tk.d_eq]
  refine sh_tuple (n := 0) (w := 42) (fun d hd => ?_) (by show 2 * 43 ≤ 86; decide)
  simp only [List.mem_cons, List.mem_nil_iff, or_false] at hd
  have hk : Shw 0 42 (.str (S t.kz)) := sh_str 0 (by cases t <;> simp [Asc, Tk.kz]) (by cases t <;> simp [Tk.kz])
  rcases hd with rfl | rfl
  · exact hk
  · cases t with
    | w l => exact sh_str 0 (asc_letters h.2.2) (by have := h.2.1; omega)
    | n k => exact sh_int 0 (by have : k < 100000 := h; omega) (by decide)
    | s l => exact sh_str 0 h.2.2 (by have := h.1; omega)
    | g c => exact sh_str 0 (fun x hx => by
        have : x = c := by simpa using hx
        rw [this]
        have h' : c ∈ sgns := h
        have : ∀ c ∈ sgns, c < 1114112 := by decide
        exact this c h') (by show 1 ≤ 42; decide)
theorem sh_tks {ts : List Tk} (h : ∀ t ∈ ts, t.ok) (hn : ts.length ≤ 14) : Shw 2 1218 (.list (ts.map Tk.d)) := by
  refine sh_list (n := 1) (w := 86) (fun d hd => ?_) (by rw [List.length_map]; omega)
  obtain ⟨t, ht, rfl⟩ := List.mem_map.mp hd
  exact sh_tk (h t ht)
/-! ### texts put together -/
theorem mem_letters {c : Nat} : c ∈ letters ↔ 97 ≤ c ∧ c ≤ 122 := by
  unfold letters
  rw [List.mem_range'_1]
  omega
theorem mem_figs {c : Nat} : c ∈ figs ↔ 48 ≤ c ∧ c ≤ 57 := by
  unfold figs
  rw [List.mem_range'_1]
  omega
theorem sgn_out : ∀ c ∈ sgns, c ∉ letters ∧ c ∉ figs ∧ c ≠ 34 ∧ c ≠ 32 := by decide
/-- X may stand behind the token t -/
def Del (t : Tk) (X : List Nat) : Prop := (t.kd = 0 → ∀ c, X.head? = some c → c ∉ letters) ∧ (t.kd = 1 → ∀ c, X.head? = some c → c ∉ figs)
theorem tok_sp {t : Tk} {X : List Nat} (ht : t.ok) (hd : Del t X) : tok (t.sp ++ X) = some (t, t.sp.length) ∧ ∃ c r, t.sp = c :: r ∧ c ≠ 32 := by
  cases t with
  | w l =>
    obtain ⟨h1, h2, h3⟩ := ht
    have tw : (l ++ X).takeWhile (fun x => decide (x ∈ letters)) = l := takeWhile_app (fun c hc => decide_eq_true (h3 c hc)) fun c hc => decide_eq_false (hd.1 rfl c hc)
    cases l with
    | nil => exact absurd rfl h1
    | cons c r =>
      have hc := h3 c (.head _)
      have hs : c ∉ sgns := fun z => (sgn_out c z).1 hc
      refine ⟨?_, c, r, rfl, fun z => by rw [z] at hc; revert hc; decide⟩
      show tok (c :: (r ++ X)) = _
      rw [tok_cons]
      unfold tokc
      rw [if_neg hs, if_pos hc, show c :: (r ++ X) = c :: r ++ X from rfl, tw, if_pos h2]
      rfl
  | n k =>
    have ha : ∀ c ∈ dg k, c ∈ figs := fun c hc => mem_figs.mpr (dg_digits k c hc)
    have tw : (dg k ++ X).takeWhile (fun x => decide (x ∈ figs)) = dg k := takeWhile_app (fun c hc => decide_eq_true (ha c hc)) fun c hc => decide_eq_false (hd.2 rfl c hc)
    have h5 := dg_len (n := k) (k := 5) (by decide) ht
    have hp := dg_pos k
    have hv := dg_val k
    have hz := dg_head (n := k)
    show tok (dg k ++ X) = some (.n k, (dg k).length) ∧ ∃ c r, dg k = c :: r ∧ c ≠ 32
    cases hl : dg k with
    | nil => rw [hl] at hp; cases hp
    | cons c r =>
      rw [hl] at ha tw h5 hp hv hz
      have hc := ha c (.head _)
      have hs : c ∉ sgns := fun z => (sgn_out c z).2.1 hc
      have hn : c ∉ letters := fun z => by rw [mem_letters] at z; rw [mem_figs] at hc; omega
      refine ⟨?_, c, r, rfl, fun z => by rw [z] at hc; revert hc; decide⟩
      show tok (c :: (r ++ X)) = _
      rw [tok_cons]
      unfold tokc
      rw [if_neg hs, if_neg hn, if_pos hc, show c :: (r ++ X) = c :: r ++ X from rfl, tw, if_neg, hv]
      rintro (q | ⟨q1, q2⟩)
      · omega
      · have := hz (by rw [q1]; rfl)
        omega
  | s l =>
    obtain ⟨h1, h2, _⟩ := ht
    have tw : (l ++ 34 :: X).takeWhile (fun x => decide (x ≠ 34)) = l := takeWhile_app (fun c hc => decide_eq_true fun z => h2 (z ▸ hc)) fun c hc => by
      have : c = 34 := (Option.some.inj hc).symm
      rw [this]; rfl
    refine ⟨?_, 34, l ++ [34], rfl, by decide⟩
    show tok (34 :: (l ++ [34]) ++ X) = _
    rw [List.cons_append, List.append_assoc]
    show tok (34 :: (l ++ 34 :: X)) = _
    rw [tok_cons]
    unfold tokc
    rw [if_neg (by decide), if_neg (by decide), if_neg (by decide), tw, if_pos ⟨rfl, by simp, h1⟩]
    simp [Tk.sp]
  | g c =>
    have h : c ∈ sgns := ht
    refine ⟨?_, c, [], rfl, (sgn_out c h).2.2.2⟩
    show tok (c :: X) = _
    rw [tok_cons]
    unfold tokc
    rw [if_pos h]
    rfl
theorem spl_sp {t : Tk} {X : List Nat} (ht : t.ok) (hd : Del t X) : spl (t.sp ++ X) = (spl X).map (t :: ·) := by
  obtain ⟨h1, c, r, e, hc⟩ := tok_sp ht hd
  rw [e] at h1
  rw [e]
  show spl (c :: (r ++ X)) = _
  rw [spl_tok hc]
  have h1' : tok (c :: (r ++ X)) = some (t, (c :: r).length) := h1
  rw [h1']
  show (spl ((c :: r ++ X).drop (c :: r).length)).map (t :: ·) = _
  rw [List.drop_left]
def Bl (g : List Nat) : Prop := ∀ c ∈ g, c = 32
theorem spl_bl : ∀ {g X : List Nat}, Bl g → spl (g ++ X) = spl X
  | [], X, _ => rfl
  | c :: g, X, h => by
    rw [h c (.head _)]
    show spl (32 :: (g ++ X)) = _
    rw [spl_blank, spl_bl fun d hd => h d (.tail _ hd)]
/-- tokens, each with the blanks behind it -/
abbrev TRow := List (Tk × List Nat)
def jn (ps : TRow) : List Nat := ps.flatMap fun p => p.1.sp ++ p.2
def TRow.ok (ps : TRow) : Prop := (∀ p ∈ ps, p.1.ok ∧ Bl p.2) ∧ ∀ (i : Nat) (p q : Tk × List Nat), ps[i]? = some p → ps[i + 1]? = some q → p.1.kd = q.1.kd → p.1.kd < 2 → p.2 ≠ []
theorem head_sp {t : Tk} (h : t.ok) (X : List Nat) : ∃ c, (t.sp ++ X).head? = some c ∧ (c ∈ letters → t.kd = 0) ∧ (c ∈ figs → t.kd = 1) := by
  cases t with
  | w l =>
    cases l with
    | nil => exact absurd rfl h.1
    | cons c r =>
      have hc := h.2.2 c (.head _)
      refine ⟨c, rfl, fun _ => rfl, fun z => ?_⟩
      rw [mem_letters] at hc
      rw [mem_figs] at z
      omega
  | n k =>
    have hp := dg_pos k
    have hd := dg_digits k
    show ∃ c, (dg k ++ X).head? = some c ∧ _
    cases hl : dg k with
    | nil => rw [hl] at hp; cases hp
    | cons c r =>
      rw [hl] at hd
      have hc := hd c (.head _)
      refine ⟨c, rfl, fun z => ?_, fun _ => rfl⟩
      rw [mem_letters] at z
      omega
  | s l => exact ⟨34, rfl, fun z => absurd z (by decide), fun z => absurd z (by decide)⟩
  | g c =>
    have h' : c ∈ sgns := h
    exact ⟨c, rfl, fun z => absurd z (sgn_out c h').1, fun z => absurd z (sgn_out c h').2.1⟩
theorem spl_jn : ∀ (ps : TRow) (Y : List Nat), TRow.ok ps → (∀ c, Y.head? = some c → c = 32) → spl (jn ps ++ Y) = (spl Y).map (ps.map (·.1) ++ ·)
  | [], Y, _, _ => by
    show spl Y = _
    cases spl Y <;> rfl
  | (t, g) :: ps, Y, h, hY => by
    have hps : TRow.ok ps := ⟨fun p hp => h.1 p (.tail _ hp), fun i p q hp hq => h.2 (i + 1) p q (by simpa using hp) (by simpa using hq)⟩
    obtain ⟨ht, hg⟩ := h.1 (t, g) (.head _)
    have e : jn ((t, g) :: ps) ++ Y = t.sp ++ (g ++ (jn ps ++ Y)) := by simp [jn]
    have n32 : (32 : Nat) ∉ letters ∧ (32 : Nat) ∉ figs := by decide
    have hdel : Del t (g ++ (jn ps ++ Y)) := by
      cases hgg : g with
      | cons b g2 =>
        have hb : b = 32 := hg b (by rw [hgg]; exact .head _)
        refine ⟨fun _ c hc => ?_, fun _ c hc => ?_⟩
        · rw [← (Option.some.inj hc : b = c), hb]; exact n32.1
        · rw [← (Option.some.inj hc : b = c), hb]; exact n32.2
      | nil =>
        cases hpp : ps with
        | nil =>
          refine ⟨fun _ c hc => ?_, fun _ c hc => ?_⟩
          · rw [hY c hc]; exact n32.1
          · rw [hY c hc]; exact n32.2
        | cons q qs =>
          obtain ⟨u, gu⟩ := q
          have hu := (h.1 (u, gu) (by rw [hpp]; exact .tail _ (.head _))).1
          have hcond := h.2 0 (t, g) (u, gu) rfl (by rw [hpp]; rfl)
          obtain ⟨c0, hc0, hl, hf⟩ := head_sp hu (gu ++ (jn qs ++ Y))
          have e2 : [] ++ (jn ((u, gu) :: qs) ++ Y) = u.sp ++ (gu ++ (jn qs ++ Y)) := by simp [jn]
          rw [e2]
          refine ⟨fun hk c hc => ?_, fun hk c hc => ?_⟩
          · rw [hc0] at hc
            cases hc
            intro z
            exact hcond (by show t.kd = u.kd; rw [hk, hl z]) (by show t.kd < 2; omega) hgg
          · rw [hc0] at hc
            cases hc
            intro z
            exact hcond (by show t.kd = u.kd; rw [hk, hf z]) (by show t.kd < 2; omega) hgg
    rw [e, spl_sp ht hdel, spl_bl hg, spl_jn ps Y hps hY]
    cases spl Y <;> rfl
theorem spl_row {g : List Nat} {ps : TRow} (hg : Bl g) (h : TRow.ok ps) : spl (g ++ jn ps) = some (ps.map (·.1)) := by
  rw [spl_bl hg]
  have := spl_jn ps [] h (fun c hc => by cases hc)
  rw [List.append_nil] at this
  rw [this, spl_nil]
  simp
/-- a line that is none, behind one that is -/
theorem spl_bad1 {g : List Nat} {ps : TRow} {b : List Nat} (hg : Bl g) (h : TRow.ok ps) (hb : spl b = none) : spl (g ++ jn ps ++ [32] ++ b) = none := by
  rw [List.append_assoc, List.append_assoc, spl_bl hg, spl_jn ps ([32] ++ b) h (fun c hc => by simp at hc; exact hc.symm)]
  show (spl (32 :: b)).map _ = none
  rw [spl_blank, hb]
  rfl
def bads : List (List Nat) := [[97, 98, 99, 100, 101, 102, 103], [49, 48, 48, 48, 48, 48], [48, 48, 55], [34], 34 :: List.replicate 21 120 ++ [34], [65], [95], [39], [123], [97, 46, 98], [91], [62], [48, 48]]
theorem bads_len : ∀ b ∈ bads, b.length ≤ 23 := by decide +kernel
theorem bads_none : ∀ b ∈ bads, spl b = none := by decide +kernel
theorem spl_bad2 {b Y : List Nat} {ts : List Tk} (hb : b ∈ bads) (hY : spl Y = some ts) : spl (b ++ [32] ++ Y) = none := by
  have tw1 : ∀ (p : Nat → Bool) (l : List Nat), (∀ c ∈ l, p c = true) → p 32 = false → (l ++ [32] ++ Y).takeWhile p = l := fun p l h1 h2 => by
    rw [List.append_assoc]
    exact takeWhile_app h1 fun c hc => by rw [← (Option.some.inj hc : 32 = c)]; exact h2
  have one : ∀ c : Nat, c ≠ 32 → c ∉ sgns → c ∉ letters → c ∉ figs → c ≠ 34 → spl ([c] ++ [32] ++ Y) = none := fun c h1 h2 h3 h4 h5 => by
    show spl (c :: (32 :: Y)) = none
    rw [spl_tok h1]
    rw [tok_cons]
    unfold tokc
    rw [if_neg h2, if_neg h3, if_neg h4, if_neg fun q => h5 q.1]
  have num : ∀ (c : Nat) (r : List Nat), (∀ x ∈ c :: r, x ∈ figs) → (5 < (c :: r).length ∨ (c = 48 ∧ 1 < (c :: r).length)) → spl (c :: r ++ [32] ++ Y) = none := fun c r h1 h2 => by
    have hc := h1 c (.head _)
    show spl (c :: (r ++ [32] ++ Y)) = none
    rw [spl_tok (fun z => by rw [z] at hc; revert hc; decide)]
    rw [tok_cons]
    unfold tokc
    rw [if_neg (fun z => (sgn_out c z).2.1 hc), if_neg (fun z => by rw [mem_letters] at z; rw [mem_figs] at hc; omega), if_pos hc]
    rw [show c :: (r ++ [32] ++ Y) = c :: r ++ [32] ++ Y from rfl, tw1 _ _ (fun x hx => decide_eq_true (h1 x hx)) (by decide), if_pos h2]
  unfold bads at hb
  simp only [List.mem_cons, List.mem_nil_iff, or_false] at hb
  rcases hb with rfl | rfl | rfl | rfl | rfl | rfl | rfl | rfl | rfl | rfl | rfl | rfl | rfl
  · show spl (97 :: ([98, 99, 100, 101, 102, 103] ++ [32] ++ Y)) = none
    rw [spl_tok (by decide)]
    rw [tok_cons]
    unfold tokc
    rw [if_neg (by decide), if_pos (by decide), show 97 :: ([98, 99, 100, 101, 102, 103] ++ [32] ++ Y) = [97, 98, 99, 100, 101, 102, 103] ++ [32] ++ Y from rfl, tw1 _ _ (by decide) (by decide), if_neg (by decide)]
  · exact num _ _ (by decide) (by decide)
  · exact num _ _ (by decide) (by decide)
  · cases hz : spl ([34] ++ [32] ++ Y) with
    | none => rfl
    | some us =>
      have h1 := spl_cnt hz
      have h2 := spl_cnt hY
      have e : ([34] ++ [32] ++ Y).count 34 = 1 + Y.count 34 := by
        rw [List.count_append]
        rfl
      omega
  · show spl (34 :: (List.replicate 21 120 ++ [34] ++ [32] ++ Y)) = none
    rw [spl_tok (by decide)]
    rw [tok_cons]
    unfold tokc
    have tw : (List.replicate 21 120 ++ [34] ++ [32] ++ Y).takeWhile (fun x => decide (x ≠ 34)) = List.replicate 21 120 := by
      rw [List.append_assoc, List.append_assoc]
      exact takeWhile_app (by decide) fun c hc => by rw [← (Option.some.inj hc : 34 = c)]; rfl
    rw [if_neg (by decide), if_neg (by decide), if_neg (by decide), tw, if_neg (by rintro ⟨_, _, q⟩; revert q; decide)]
  · exact one _ (by decide) (by decide) (by decide) (by decide) (by decide)
  · exact one _ (by decide) (by decide) (by decide) (by decide) (by decide)
  · exact one _ (by decide) (by decide) (by decide) (by decide) (by decide)
  · exact one _ (by decide) (by decide) (by decide) (by decide) (by decide)
  · show spl (97 :: ([46, 98] ++ [32] ++ Y)) = none
    rw [spl_tok (by decide)]
    have e : tok (97 :: ([46, 98] ++ [32] ++ Y)) = some (.w [97], 1) := by
      rw [tok_cons]
      unfold tokc
      rw [if_neg (by decide), if_pos (by decide)]
      have tw : (97 :: ([46, 98] ++ [32] ++ Y)).takeWhile (fun x => decide (x ∈ letters)) = [97] := takeWhile_app (l := [97]) (x := 46 :: 98 :: 32 :: Y) (by decide) fun c hc => by rw [← (Option.some.inj hc : 46 = c)]; decide
      rw [tw]
      rfl
    rw [e]
    show (spl (46 :: 98 :: 32 :: Y)).map _ = none
    rw [spl_tok (by decide)]
    rw [tok_cons]
    unfold tokc
    rw [if_neg (by decide), if_neg (by decide), if_neg (by decide), if_neg (by rintro ⟨q, _⟩; revert q; decide)]
    rfl
  · exact one _ (by decide) (by decide) (by decide) (by decide) (by decide)
  · exact one _ (by decide) (by decide) (by decide) (by decide) (by decide)
  · exact num _ _ (by decide) (by decide)
end Tok

/-! k02, the plain law: trees, their texts, what reads them -/
namespace Xp
open PySem PySem.NumText Lg Tok
/-! ### trees -/
inductive Tr where
  | num (k : Nat) | str (z : List Nat) | nam (z : List Nat)
  | op (c : Nat) (l r : Tr) | ite (a b c : Tr) | set (z : List Nat) (e : Tr) | thn (a b : Tr) | call (z : List Nat) (ts : List Tr)
abbrev zname : List Nat := [110, 97, 109, 101]
abbrev zcall : List Nat := [99, 97, 108, 108]
abbrev zif : List Nat := [105, 102]
abbrev zset : List Nat := [115, 101, 116]
abbrev zthen : List Nat := [116, 104, 101, 110]
abbrev zelse : List Nat := [101, 108, 115, 101]
mutual
def Tr.d : Tr → PyData
  | .num k => .tuple [.str (S znumber), .int (k : Int)]
  | .str z => .tuple [.str (S zstring), .str (S z)]
  | .nam z => .tuple [.str (S zname), .str (S z)]
  | .op c l r => .tuple [.str (S [c]), l.d, r.d]
  | .ite a b c => .tuple [.str (S zif), a.d, b.d, c.d]
  | .set z e => .tuple [.str (S zset), .str (S z), e.d]
  | .thn a b => .tuple [.str (S zthen), a.d, b.d]
  | .call z ts => .tuple [.str (S zcall), .str (S z), .tuple (Tr.ds ts)]
def Tr.ds : List Tr → List PyData
  | [] => []
  | t :: r => t.d :: Tr.ds r
end
theorem ds_eq : ∀ ts : List Tr, Tr.ds ts = ts.map Tr.d
  | [] => by simp [Tr.ds]
  | t :: r => by simp [Tr.ds, ds_eq r]
mutual
def Tr.ht : Tr → Nat
  | .num _ => 1
  | .str _ => 1
  | .nam _ => 1
  | .op _ l r => 1 + max l.ht r.ht
  | .ite a b c => 1 + max a.ht (max b.ht c.ht)
  | .set _ e => 1 + e.ht
  | .thn a b => 1 + max a.ht b.ht
  | .call _ ts => 1 + Tr.hts ts
def Tr.hts : List Tr → Nat
  | [] => 0
  | t :: r => max t.ht (Tr.hts r)
end
theorem ht_le_hts : ∀ {ts : List Tr} {t : Tr}, t ∈ ts → t.ht ≤ Tr.hts ts
  | u :: r, t, h => by
    rw [Tr.hts]
    rcases List.mem_cons.mp h with rfl | h
    · omega
    · have := ht_le_hts h
      omega
theorem ht_pos : ∀ t : Tr, 1 ≤ t.ht := by intro t; cases t <;> simp [Tr.ht] <;> omega
def opl (c : Nat) : Nat := if c = 60 ∨ c = 61 then 1 else if c = 43 ∨ c = 45 then 2 else 3
def Tr.lvl : Tr → Nat
  | .op c _ _ => opl c
  | .ite .. => 0
  | .set .. => 0
  | _ => 4
def par (b : Bool) (x : List Nat) : List Nat := if b then 40 :: x ++ [41] else x
def lef (c : Nat) : Nat := if opl c = 1 then 2 else opl c
def joinW (s : List Nat) : List (List Nat) → List Nat
  | [] => []
  | [x] => x
  | x :: y :: r => x ++ s ++ joinW s (y :: r)
mutual
/-- the canonical text; the flag: without the parentheses of a sequence -/
def Tr.tx : Bool → Tr → List Nat
  | _, .num k => dg k
  | _, .str z => 34 :: z ++ [34]
  | _, .nam z => z
  | _, .op c l r => par (decide (l.lvl < lef c)) (Tr.tx false l) ++ [32, c, 32] ++ par (decide (r.lvl < opl c + 1)) (Tr.tx false r)
  | _, .ite a b c => [105, 102, 32] ++ Tr.tx false a ++ [32, 116, 104, 101, 110, 32] ++ Tr.tx false b ++ [32, 101, 108, 115, 101, 32] ++ Tr.tx false c
  | _, .set z e => [115, 101, 116, 32] ++ z ++ [32, 61, 32] ++ Tr.tx false e
  | m, .thn a b => par (!m) (Tr.tx false a ++ [59, 32] ++ Tr.tx true b)
  | _, .call z ts => z ++ [40] ++ joinW [44, 32] (Tr.txs ts) ++ [41]
def Tr.txs : List Tr → List (List Nat)
  | [] => []
  | t :: r => Tr.tx false t :: Tr.txs r
end
theorem txs_eq : ∀ ts : List Tr, Tr.txs ts = ts.map (Tr.tx false)
  | [] => by simp [Tr.txs]
  | t :: r => by simp [Tr.txs, txs_eq r]
def Tr.wr (t : Tr) (l : Nat) : List Nat := par (decide (t.lvl < l)) (t.tx false)
theorem wr0 (t : Tr) : t.wr 0 = t.tx false := by simp [Tr.wr, par]
/-! ### names -/
def resL : List (List Nat) := [[105, 109, 112, 111, 114, 116], [101, 120, 112, 111, 114, 116], [108, 101, 116], [107, 101, 101, 112], [102, 110], [100, 111], [104, 111, 108, 100], [105, 102], [116, 104, 101, 110], [101, 108, 115, 101], [115, 101, 116], [102, 114, 111, 109], [97, 115]]
def isName (l : List Nat) : Bool := (decide ((1 : Int) ≤ (l.length : Int)) && decide ((l.length : Int) ≤ 6)) && (l.all (fun c => decide (c ∈ letters)) && !decide (l ∈ resL))
/-! ### reading -/
abbrev Re (α : Type) := Option (Option (α × List Tk))
def bindR {α β : Type} (x : Re α) (f : α → List Tk → Re β) : Re β := match x with
  | none => none
  | some none => some none
  | some (some (a, q)) => f a q
abbrev PF := Nat → List Tk → Re Tr
structure Ps where
  whole : PF
  choice : PF
  comp : PF
  sum : PF
  prod : PF
  atom : PF
  parts : Nat → Nat → List Tk → Re (List Tr)
  call : List Nat → PF
  seq : PF
def word (z : List Nat) (q : List Tk) (f : List Tk → Re Tr) : Re Tr := match q with
  | .w y :: q' => if y = z then f q' else some none
  | _ => some none
def wholeF (p : Ps) : PF := fun k r => match r with
  | .w z :: r' => if z = zif then p.choice k r' else if z = zset then (match r' with
      | .w y :: q => if isName y then (match q with
          | .g 61 :: q' => bindR (p.whole k q') fun t q2 => some (some (.set y t, q2))
          | _ => some none) else some none
      | _ => some none) else p.comp k r
  | _ => p.comp k r
def choiceF (p : Ps) : PF := fun k r => bindR (p.whole k r) fun a q => word zthen q fun q => bindR (p.whole k q) fun b q => word zelse q fun q => bindR (p.whole k q) fun c q => some (some (.ite a b c, q))
/-- the sign that stands ahead, if it is one of some -/
def sgnOf (cs : List Nat) (q : List Tk) : Option (Nat × List Tk) := match q with
  | .g c :: q' => if c ∈ cs then some (c, q') else none
  | _ => none
def compF (p : Ps) : PF := fun k r => bindR (p.sum k r) fun l q => match sgnOf [61, 60] q with
  | some (c, q') => bindR (p.sum k q') fun t q2 => some (some (.op c l t, q2))
  | none => some (some (l, q))
def loop (f : PF) (cs : List Nat) (k : Nat) : Nat → Tr → List Tk → Re Tr
  | 0, _, _ => none
  | n + 1, l, q => match sgnOf cs q with
    | some (c, q') => bindR (f k q') fun t q2 => loop f cs k n (.op c l t) q2
    | none => some (some (l, q))
def sumF (p : Ps) : PF := fun k r => bindR (p.prod k r) fun l q => loop p.prod [43, 45] k (q.length + 1) l q
def prodF (p : Ps) : PF := fun k r => bindR (p.atom k r) fun l q => loop p.atom [42] k (q.length + 1) l q
def atomF (p : Ps) : PF := fun k r => match r with
  | [] => some none
  | .n i :: q => some (some (.num i, q))
  | .s z :: q => some (some (.str z, q))
  | .g c :: q => if c = 40 then p.seq k (.g c :: q) else some none
  | .w z :: q => if isName z then (match q with
      | .g 40 :: _ => p.call z k q
      | _ => some (some (.nam z, q))) else some none
def partsL (f : PF) (s k : Nat) : Nat → List Tr → List Tk → Re (List Tr)
  | 0, _, _ => none
  | n + 1, acc, q => bindR (f k q) fun t q2 => match q2 with
    | .g c :: q3 => if c = s then partsL f s k n (acc ++ [t]) q3 else if c = 41 then some (some (acc ++ [t], q3)) else some none
    | _ => some none
def partsF (p : Ps) : Nat → Nat → List Tk → Re (List Tr) := fun s k r =>
  if 10 < k + 1 then some none else
  if s = 44 ∧ r.tail.head? = some (.g 41) then some (some ([], r.tail.tail)) else partsL p.whole s (k + 1) (r.length + 1) [] r.tail
def callF (p : Ps) : List Nat → PF := fun z k r => bindR (p.parts 44 k r) fun ts q => some (some (.call z ts, q))
def seqT (ts : List Tr) : Tr := match ts.getLast? with
  | none => .num 0
  | some t => ts.dropLast.foldr .thn t
def seqF (p : Ps) : PF := fun k r => bindR (p.parts 59 k r) fun ts q => some (some (seqT ts, q))
def noP : Ps := ⟨fun _ _ => none, fun _ _ => none, fun _ _ => none, fun _ _ => none, fun _ _ => none, fun _ _ => none, fun _ _ _ => none, fun _ _ _ => none, fun _ _ => none⟩
def lev : Nat → Ps
  | 0 => noP
  | n + 1 => ⟨wholeF (lev n), choiceF (lev n), compF (lev n), sumF (lev n), prodF (lev n), atomF (lev n), partsF (lev n), callF (lev n), seqF (lev n)⟩
/-! ### what is read, by tokens -/
def sepT (c : Nat) : List (List Tk) → List Tk
  | [] => []
  | [x] => x
  | x :: y :: r => x ++ .g c :: sepT c (y :: r)
/-- s are the tokens of t where something as strong as l may stand; n: so deep -/
inductive Tx : Nat → Nat → Tr → List Tk → Prop
  | num {n k : Nat} : Tx n 4 (.num k) [.n k]
  | str {n : Nat} {z : List Nat} : Tx n 4 (.str z) [.s z]
  | nam {n : Nat} {z : List Nat} (h : isName z = true) : Tx n 4 (.nam z) [.w z]
  | call {n : Nat} {z : List Nat} {ps : List (Tr × List Tk)} (h : isName z = true) (hp : ∀ p ∈ ps, Tx n 0 p.1 p.2) : Tx (n + 1) 4 (.call z (ps.map (·.1))) (.w z :: .g 40 :: sepT 44 (ps.map (·.2)) ++ [.g 41])
  | seq {n : Nat} {ps : List (Tr × List Tk)} (h : ps ≠ []) (hp : ∀ p ∈ ps, Tx n 0 p.1 p.2) : Tx (n + 1) 4 (seqT (ps.map (·.1))) (.g 40 :: sepT 59 (ps.map (·.2)) ++ [.g 41])
  | mul {n : Nat} {a b : Tr} {s u : List Tk} (ha : Tx n 3 a s) (hb : Tx n 4 b u) : Tx (n + 1) 3 (.op 42 a b) (s ++ .g 42 :: u)
  | add {n c : Nat} {a b : Tr} {s u : List Tk} (h : c ∈ [43, 45]) (ha : Tx n 2 a s) (hb : Tx n 3 b u) : Tx (n + 1) 2 (.op c a b) (s ++ .g c :: u)
  | cmp {n c : Nat} {a b : Tr} {s u : List Tk} (h : c ∈ [61, 60]) (ha : Tx n 2 a s) (hb : Tx n 2 b u) : Tx (n + 1) 1 (.op c a b) (s ++ .g c :: u)
  | ite {n : Nat} {a b c : Tr} {s u v : List Tk} (ha : Tx n 0 a s) (hb : Tx n 0 b u) (hc : Tx n 0 c v) : Tx (n + 1) 0 (.ite a b c) (.w zif :: (s ++ .w zthen :: (u ++ .w zelse :: v)))
  | set {n : Nat} {z : List Nat} {e : Tr} {s : List Tk} (h : isName z = true) (he : Tx n 0 e s) : Tx (n + 1) 0 (.set z e) (.w zset :: .w z :: .g 61 :: s)
  | up {n l : Nat} {t : Tr} {s : List Tk} (h : Tx n (l + 1) t s) : Tx n l t s
  | wk {n l : Nat} {t : Tr} {s : List Tk} (h : Tx n l t s) : Tx (n + 1) l t s
theorem Tx.ups {n l l' : Nat} {t : Tr} {s : List Tk} (h : Tx n l' t s) (hl : l ≤ l') : Tx n l t s := by
  induction l' generalizing l with
  | zero => have : l = 0 := by omega
            subst this; exact h
  | succ m ih =>
    by_cases e : l = m + 1
    · subst e; exact h
    · exact ih h.up (by omega)
theorem Tx.wks {n n' l : Nat} {t : Tr} {s : List Tk} (h : Tx n l t s) (hn : n ≤ n') : Tx n' l t s := by
  induction n' with
  | zero => have : n = 0 := by omega
            subst this; exact h
  | succ m ih =>
    by_cases e : n = m + 1
    · subst e; exact h
    · exact (ih (by omega)).wk
/-- what may not follow -/
def nohd (cs : List Nat) (q : List Tk) : Prop := ∀ c, q.head? = some (.g c) → c ∉ cs
theorem nohd.sub {cs ds : List Nat} {q : List Tk} (h : nohd cs q) (s : ∀ c ∈ ds, c ∈ cs) : nohd ds q := fun c e m => h c e (s c m)
theorem sgnOf_no {cs : List Nat} {q : List Tk} (h : nohd cs q) : sgnOf cs q = none := by
  unfold sgnOf
  split
  · rename_i c q'
    rw [if_neg (h c rfl)]
  · rfl
theorem sgnOf_yes {cs : List Nat} {c : Nat} {q : List Tk} (h : c ∈ cs) : sgnOf cs (.g c :: q) = some (c, q) := by
  show (if c ∈ cs then some (c, q) else none) = _
  rw [if_pos h]
def fin1 (l : Nat) : List Nat := if l ≤ 1 then [40, 42, 43, 45, 61, 60] else if l = 2 then [40, 42] else [40]
/-- what is read at a level -/
def Rd1 (d l k : Nat) (t : Tr) (s q : List Tk) : Prop := match l with
  | 0 => (lev d).whole k (s ++ q) = some (some (t, q))
  | 1 => (lev d).comp k (s ++ q) = some (some (t, q))
  | 2 => ∃ m, q.length < m ∧ (lev d).sum k (s ++ q) = loop (lev (d - 1)).prod [43, 45] k m t q
  | 3 => ∃ m, q.length < m ∧ (lev d).prod k (s ++ q) = loop (lev (d - 1)).atom [42] k m t q
  | _ => (lev d).atom k (s ++ q) = some (some (t, q))
theorem loop_end {f : PF} {cs : List Nat} {k m : Nat} {t : Tr} {q : List Tk} (hm : 0 < m) (h : nohd cs q) : loop f cs k m t q = some (some (t, q)) := by
  cases m with
  | zero => omega
  | succ m => rw [loop, sgnOf_no h]
theorem head_no {z : List Nat} (h : isName z = true) : z ≠ zif ∧ z ≠ zset ∧ z ≠ zthen ∧ z ≠ zelse := by
  have h2 : ¬ z ∈ resL := by
    unfold isName at h
    rw [Bool.and_eq_true, Bool.and_eq_true, Bool.and_eq_true] at h
    have := h.2.2
    simpa using this
  refine ⟨?_, ?_, ?_, ?_⟩ <;> (rintro rfl; exact h2 (by decide))
/-- the head of an expression's tokens is not a word of choices, unless it is whole -/
theorem Tx.hd {n l : Nat} {t : Tr} {s : List Tk} (h : Tx n l t s) : 1 ≤ l → ∃ x r, s = x :: r ∧ (∀ z, x = .w z → isName z = true) := by
  induction h with
  | num => exact fun _ => ⟨_, _, rfl, fun z e => by cases e⟩
  | str => exact fun _ => ⟨_, _, rfl, fun z e => by cases e⟩
  | nam h => exact fun _ => ⟨_, _, rfl, fun z e => by cases e; exact h⟩
  | call h _ _ => exact fun _ => ⟨_, _, rfl, fun z e => by cases e; exact h⟩
  | seq h _ _ => exact fun _ => ⟨_, _, rfl, fun z e => by cases e⟩
  | mul ha hb i1 i2 => obtain ⟨x, r, rfl, hx⟩ := i1 (by omega); exact fun _ => ⟨x, _, rfl, hx⟩
  | add h ha hb i1 i2 => obtain ⟨x, r, rfl, hx⟩ := i1 (by omega); exact fun _ => ⟨x, _, rfl, hx⟩
  | cmp h ha hb i1 i2 => obtain ⟨x, r, rfl, hx⟩ := i1 (by omega); exact fun _ => ⟨x, _, rfl, hx⟩
  | ite => intro h; omega
  | set => intro h; omega
  | up h i => exact fun _ => i (by omega)
  | wk h i => exact i
theorem whole_comp {d k : Nat} {s : List Tk} (h : ∃ x r, s = x :: r ∧ (∀ z, x = .w z → isName z = true)) : (lev (d + 1)).whole k s = (lev d).comp k s := by
  obtain ⟨x, r, rfl, hx⟩ := h
  show wholeF (lev d) k (x :: r) = _
  unfold wholeF
  cases x with
  | w z =>
    obtain ⟨h1, h2, _, _⟩ := head_no (hx z rfl)
    simp only [h1, h2, if_false]
  | _ => rfl
theorem Rd1.down {d l k : Nat} {t : Tr} {s q : List Tk} (h : Rd1 d (l + 1) k t s q) (hs : ∃ x r, s = x :: r ∧ (∀ z, x = .w z → isName z = true)) (hq : nohd (fin1 l) q) (hl : l ≤ 3) : Rd1 (d + 1) l k t s q := by
  match l, hl with
  | 0, _ =>
    show (lev (d + 1)).whole k (s ++ q) = _
    rw [whole_comp (by obtain ⟨x, r, rfl, hx⟩ := hs; exact ⟨x, r ++ q, rfl, hx⟩)]
    exact h
  | 1, _ =>
    obtain ⟨m, hm, e⟩ := h
    show compF (lev d) k (s ++ q) = _
    unfold compF
    rw [e, loop_end (by omega) (hq.sub (by decide))]
    show (match sgnOf [61, 60] q with | some (c, q') => _ | none => _) = _
    rw [sgnOf_no (hq.sub (by decide))]
  | 2, _ =>
    obtain ⟨m, hm, e⟩ := h
    refine ⟨q.length + 1, by omega, ?_⟩
    show sumF (lev d) k (s ++ q) = _
    unfold sumF
    rw [e, loop_end (by omega) (hq.sub (by decide))]
    rfl
  | 3, _ =>
    refine ⟨q.length + 1, by omega, ?_⟩
    show prodF (lev d) k (s ++ q) = _
    unfold prodF
    rw [show (lev d).atom k (s ++ q) = _ from h]
    rfl
theorem Tx.hd0 {n l : Nat} {t : Tr} {s : List Tk} (h : Tx n l t s) : ∃ x r, s = x :: r ∧ x ≠ .g 41 := by
  induction h with
  | num => exact ⟨_, _, rfl, by simp⟩
  | str => exact ⟨_, _, rfl, by simp⟩
  | nam h => exact ⟨_, _, rfl, by simp⟩
  | call h _ _ => exact ⟨_, _, rfl, by simp⟩
  | seq h _ _ => exact ⟨_, _, rfl, by simp⟩
  | mul ha hb i1 i2 => obtain ⟨x, r, rfl, hx⟩ := i1; exact ⟨x, _, rfl, hx⟩
  | add h ha hb i1 i2 => obtain ⟨x, r, rfl, hx⟩ := i1; exact ⟨x, _, rfl, hx⟩
  | cmp h ha hb i1 i2 => obtain ⟨x, r, rfl, hx⟩ := i1; exact ⟨x, _, rfl, hx⟩
  | ite => exact ⟨_, _, rfl, by simp⟩
  | set => exact ⟨_, _, rfl, by simp⟩
  | up h i => exact i
  | wk h i => exact i
theorem partsL_ok {d k s n : Nat} (hs : s = 44 ∨ s = 59) : ∀ (ps : List (Tr × List Tk)) (m : Nat) (acc : List Tr) (q : List Tk), ps ≠ [] → ps.length ≤ m →
    (∀ p ∈ ps, ∀ q, nohd (fin1 0) q → (lev d).whole k (p.2 ++ q) = some (some (p.1, q))) →
    partsL (lev d).whole s k m acc (sepT s (ps.map (·.2)) ++ .g 41 :: q) = some (some (acc ++ ps.map (·.1), q))
  | [], _, _, _, h, _, _ => absurd rfl h
  | [p], m, acc, q, _, hm, hp => by
    cases m with
    | zero => simp at hm
    | succ m =>
      show partsL _ _ _ (m + 1) acc (p.2 ++ .g 41 :: q) = _
      rw [partsL, hp p (.head _) _ (fun c e => by cases e; decide)]
      show (if 41 = s then _ else if 41 = 41 then _ else _) = _
      rw [if_neg (by rcases hs with rfl | rfl <;> decide), if_pos rfl]
      rfl
  | p :: p2 :: ps, m, acc, q, _, hm, hp => by
    cases m with
    | zero => simp at hm
    | succ m =>
      have e : sepT s ((p :: p2 :: ps).map (·.2)) ++ .g 41 :: q = p.2 ++ .g s :: (sepT s ((p2 :: ps).map (·.2)) ++ .g 41 :: q) := by
        show (p.2 ++ .g s :: sepT s (p2.2 :: ps.map (·.2))) ++ _ = _
        simp [sepT]
      rw [e, partsL, hp p (.head _) _ (fun c e => by cases e; rcases hs with rfl | rfl <;> decide)]
      show (if s = s then _ else _) = _
      rw [if_pos rfl, partsL_ok (n := n) hs (p2 :: ps) m (acc ++ [p.1]) q (by simp) (by simp at hm ⊢; omega) fun p hp' => hp p (.tail _ hp')]
      simp
theorem sepT_len {s : Nat} : ∀ (ps : List (List Tk)), (∀ p ∈ ps, 1 ≤ p.length) → ps.length ≤ (sepT s ps).length
  | [], _ => by simp [sepT]
  | [x], h => by have := h x (.head _); simpa [sepT] using this
  | x :: y :: r, h => by
    have h1 := h x (.head _)
    have h2 := sepT_len (s := s) (y :: r) fun p hp => h p (.tail _ hp)
    simp [sepT] at h2 ⊢
    omega
theorem parts_ok {d k s n : Nat} {ps : List (Tr × List Tk)} {q : List Tk} (hs : s = 44 ∨ s = 59) (h59 : s = 59 → ps ≠ []) (hk : k + 1 ≤ 10) (hd : ∀ p ∈ ps, ∃ x r, p.2 = x :: r ∧ x ≠ .g 41)
    (hp : ∀ p ∈ ps, ∀ q, nohd (fin1 0) q → (lev d).whole (k + 1) (p.2 ++ q) = some (some (p.1, q))) :
    (lev (d + 1)).parts s k (.g 40 :: (sepT s (ps.map (·.2)) ++ .g 41 :: q)) = some (some (ps.map (·.1), q)) := by
  show partsF (lev d) s k _ = _
  unfold partsF
  rw [if_neg (by omega)]
  match ps, hd, hp, h59 with
  | [], _, _, h59 =>
    have : s = 44 := by rcases hs with h | h; exact h; exact absurd rfl (h59 h)
    rw [if_pos ⟨this, by simp [sepT]⟩]
    simp [sepT]
  | p :: ps, hd, hp, _ =>
    rw [if_neg]
    · show partsL _ _ _ _ _ (sepT s ((p :: ps).map (·.2)) ++ .g 41 :: q) = _
      refine partsL_ok (n := n) hs (p :: ps) _ [] q (by simp) ?_ hp
      have := sepT_len (s := s) ((p :: ps).map (·.2)) fun x hx => by
        obtain ⟨y, hy, rfl⟩ := List.mem_map.mp hx
        obtain ⟨a, r, e, _⟩ := hd y hy
        rw [e]
        simp
      simp at this ⊢
      omega
    · rintro ⟨_, h⟩
      obtain ⟨x, r, e, hx⟩ := hd p (.head _)
      have e2 : (Tk.g 40 :: (sepT s ((p :: ps).map (·.2)) ++ .g 41 :: q)).tail.head? = some x := by
        cases ps with
        | nil => simp [sepT, e]
        | cons p2 ps => simp [sepT, e]
      rw [e2] at h
      exact hx (Option.some.inj h)
theorem Tx.rd {n l : Nat} {t : Tr} {s : List Tk} (h : Tx n l t s) : l ≤ 4 ∧ ∀ (k d : Nat) (q : List Tk), k + n ≤ 10 → 8 * n + 6 ≤ d + l → nohd (fin1 l) q → Rd1 d l k t s q := by
  induction h with
  | num =>
    refine ⟨Nat.le_refl _, fun k d q hk hd hq => ?_⟩
    obtain ⟨d, rfl⟩ : ∃ e, d = e + 1 := ⟨d - 1, by omega⟩
    rfl
  | str =>
    refine ⟨Nat.le_refl _, fun k d q hk hd hq => ?_⟩
    obtain ⟨d, rfl⟩ : ∃ e, d = e + 1 := ⟨d - 1, by omega⟩
    rfl
  | @nam n z h =>
    refine ⟨Nat.le_refl _, fun k d q hk hd hq => ?_⟩
    obtain ⟨d, rfl⟩ : ∃ e, d = e + 1 := ⟨d - 1, by omega⟩
    show atomF (lev d) k (.w z :: q) = _
    unfold atomF
    simp only [h, if_true]
    split
    · rename_i q' 
      exact absurd (by decide) (hq 40 rfl)
    · rfl
  | @call n z ps h hp ih =>
    refine ⟨Nat.le_refl _, fun k d q hk hd hq => ?_⟩
    obtain ⟨d, rfl⟩ : ∃ e, d = e + 3 := ⟨d - 3, by omega⟩
    have e := parts_ok (n := n) (d := d) (k := k) (s := 44) (ps := ps) (q := q) (.inl rfl) (by simp) (by omega) (fun p m => (hp p m).hd0) fun p m q hq => (ih p m).2 (k + 1) d q (by omega) (by omega) hq
    show atomF (lev (d + 2)) k (.w z :: .g 40 :: sepT 44 (ps.map (·.2)) ++ [.g 41] ++ q) = _
    have e2 : (Tk.w z :: .g 40 :: sepT 44 (ps.map (·.2)) ++ [.g 41] ++ q) = .w z :: .g 40 :: (sepT 44 (ps.map (·.2)) ++ .g 41 :: q) := by simp
    rw [e2]
    unfold atomF
    simp only [h, if_true]
    show callF (lev (d + 1)) z k _ = _
    unfold callF
    rw [e]
    rfl
  | @seq n ps h hp ih =>
    refine ⟨Nat.le_refl _, fun k d q hk hd hq => ?_⟩
    obtain ⟨d, rfl⟩ : ∃ e, d = e + 3 := ⟨d - 3, by omega⟩
    have e := parts_ok (n := n) (d := d) (k := k) (s := 59) (ps := ps) (q := q) (.inr rfl) (fun _ => h) (by omega) (fun p m => (hp p m).hd0) fun p m q hq => (ih p m).2 (k + 1) d q (by omega) (by omega) hq
    show atomF (lev (d + 2)) k (.g 40 :: sepT 59 (ps.map (·.2)) ++ [.g 41] ++ q) = _
    have e2 : (Tk.g 40 :: sepT 59 (ps.map (·.2)) ++ [.g 41] ++ q) = .g 40 :: (sepT 59 (ps.map (·.2)) ++ .g 41 :: q) := by simp
    rw [e2]
    show seqF (lev (d + 1)) k _ = _
    unfold seqF
    rw [e]
    rfl
  | @mul n a b s u ha hb ia ib =>
    refine ⟨by omega, fun k d q hk hd hq => ?_⟩
    obtain ⟨d, rfl⟩ : ∃ e, d = e + 1 := ⟨d - 1, by omega⟩
    obtain ⟨m, hm, e⟩ := ia.2 k (d + 1) (.g 42 :: (u ++ q)) (by omega) (by omega) (fun c e => by cases e; decide)
    have eb : (lev d).atom k (u ++ q) = _ := ib.2 k d q (by omega) (by omega) hq
    obtain ⟨m, rfl⟩ : ∃ j, m = j + 1 := ⟨m - 1, by omega⟩
    refine ⟨m, by simp at hm; omega, ?_⟩
    rw [List.append_assoc, List.cons_append, e, loop, sgnOf_yes (by decide)]
    show bindR ((lev d).atom k (u ++ q)) _ = _
    rw [eb]
    rfl
  | @add n c a b s u h ha hb ia ib =>
    refine ⟨by omega, fun k d q hk hd hq => ?_⟩
    obtain ⟨d, rfl⟩ : ∃ e, d = e + 1 := ⟨d - 1, by omega⟩
    obtain ⟨m, hm, e⟩ := ia.2 k (d + 1) (.g c :: (u ++ q)) (by omega) (by omega) (fun c' e => by cases e; revert h; simp; rintro (rfl | rfl) <;> decide)
    obtain ⟨m', hm', eb⟩ := ib.2 k d q (by omega) (by omega) (hq.sub (by decide))
    obtain ⟨m, rfl⟩ : ∃ j, m = j + 1 := ⟨m - 1, by omega⟩
    refine ⟨m, by simp at hm; omega, ?_⟩
    rw [List.append_assoc, List.cons_append, e, loop, sgnOf_yes h]
    show bindR ((lev d).prod k (u ++ q)) _ = _
    rw [eb, loop_end (by omega) (hq.sub (by decide))]
    rfl
  | @cmp n c a b s u h ha hb ia ib =>
    refine ⟨by omega, fun k d q hk hd hq => ?_⟩
    obtain ⟨d, rfl⟩ : ∃ e, d = e + 1 := ⟨d - 1, by omega⟩
    have hc : c = 61 ∨ c = 60 := by simpa using h
    obtain ⟨m, hm, e⟩ := ia.2 k d (.g c :: (u ++ q)) (by omega) (by omega) (fun c' e => by cases e; rcases hc with rfl | rfl <;> decide)
    obtain ⟨m', hm', eb⟩ := ib.2 k d q (by omega) (by omega) (hq.sub (by decide))
    show compF (lev d) k _ = _
    unfold compF
    rw [List.append_assoc, List.cons_append, e, loop_end (by omega) (fun c' e => by cases e; rcases hc with rfl | rfl <;> decide)]
    show (match sgnOf [61, 60] (.g c :: (u ++ q)) with | some (c, q') => bindR ((lev d).sum k q') _ | none => _) = _
    rw [sgnOf_yes h]
    show bindR ((lev d).sum k (u ++ q)) _ = _
    rw [eb, loop_end (by omega) (hq.sub (by decide))]
    rfl
  | @ite n a b c s u v ha hb hc ia ib ic =>
    refine ⟨by omega, fun k d q hk hd hq => ?_⟩
    obtain ⟨d, rfl⟩ : ∃ e, d = e + 2 := ⟨d - 2, by omega⟩
    have ea : (lev d).whole k (s ++ .w zthen :: (u ++ .w zelse :: (v ++ q))) = _ := ia.2 k d _ (by omega) (by omega) (fun c e => by cases e)
    have eb : (lev d).whole k (u ++ .w zelse :: (v ++ q)) = _ := ib.2 k d _ (by omega) (by omega) (fun c e => by cases e)
    have ec : (lev d).whole k (v ++ q) = _ := ic.2 k d _ (by omega) (by omega) hq
    show wholeF (lev (d + 1)) k (.w zif :: (s ++ .w zthen :: (u ++ .w zelse :: v)) ++ q) = _
    have e2 : (Tk.w zif :: (s ++ .w zthen :: (u ++ .w zelse :: v)) ++ q) = .w zif :: (s ++ .w zthen :: (u ++ .w zelse :: (v ++ q))) := by simp
    rw [e2]
    show choiceF (lev d) k _ = _
    unfold choiceF
    rw [ea]
    show bindR ((lev d).whole k (u ++ .w zelse :: (v ++ q))) _ = _
    rw [eb]
    show bindR ((lev d).whole k (v ++ q)) _ = _
    rw [ec]
    rfl
  | @set n z e s h he ih =>
    refine ⟨by omega, fun k d q hk hd hq => ?_⟩
    obtain ⟨d, rfl⟩ : ∃ e, d = e + 1 := ⟨d - 1, by omega⟩
    have ea : (lev d).whole k (s ++ q) = some (some (e, q)) := ih.2 k d _ (by omega) (by omega) hq
    show (if zset = zif then (lev d).choice k (.w z :: .g 61 :: (s ++ q)) else if zset = zset then (if isName z = true then bindR ((lev d).whole k (s ++ q)) (fun t q2 => some (some (.set z t, q2))) else some none) else (lev d).comp k (.w zset :: .w z :: .g 61 :: (s ++ q))) = _
    rw [if_neg (by decide), if_pos rfl, if_pos h, ea]
    rfl
  | @up n l t s h ih =>
    refine ⟨by omega, fun k d q hk hd hq => ?_⟩
    obtain ⟨d, rfl⟩ : ∃ e, d = e + 1 := ⟨d - 1, by omega⟩
    have hl : l ≤ 3 := by omega
    refine Rd1.down (ih.2 k d q hk (by omega) (hq.sub ?_)) (h.hd (by omega)) hq hl
    match l, hl with
    | 0, _ => decide
    | 1, _ => decide
    | 2, _ => decide
    | 3, _ => decide
  | wk h ih => exact ⟨ih.1, fun k d q hk hd hq => ih.2 k d q (by omega) (by omega) hq⟩
/-- an expression's tokens lead to its tree -/
theorem Tx.whole {n l : Nat} {t : Tr} {s : List Tk} (h : Tx n l t s) (hn : n ≤ 10) {d : Nat} (hd : 8 * n + 6 ≤ d) : (lev d).whole 0 s = some (some (t, [])) := by
  have := (h.ups (Nat.zero_le l)).rd.2 0 d [] (by omega) (by omega) (fun c e => by cases e)
  rwa [Rd1, List.append_nil] at this
end Xp

/-! k02, the plain law: what is read is well formed; reading ends -/
namespace Xp
open PySem PySem.NumText Lg Tok
def operand : Tk → Bool
  | .n _ => true
  | .s _ => true
  | .w z => isName z
  | .g _ => false
def ender : Tk → Bool
  | .g c => decide (c = 41)
  | x => operand x
def chk : List Tk → Bool
  | a :: b :: r => !(ender a && operand b) && chk (b :: r)
  | _ => true
theorem chk_head {a : Tk} {v : List Tk} (h : ender a = false) : chk (a :: v) = chk v := by
  cases v with
  | nil => rfl
  | cons b r => simp [chk, h]
theorem chk_mid : ∀ {u v : List Tk} {a : Tk}, operand a = false → ender a = false → chk (u ++ a :: v) = (chk u && chk v)
  | [], v, a, _, h2 => by simp [chk, chk_head h2]
  | [x], v, a, h1, h2 => by simp [chk, h1, chk_head h2]
  | x :: y :: u, v, a, h1, h2 => by
    have ih := chk_mid (u := y :: u) (v := v) (a := a) h1 h2
    simp only [List.cons_append] at ih
    simp only [List.cons_append, chk, ih, Bool.and_assoc]
theorem chk_end : ∀ {u : List Tk} {a : Tk}, operand a = false → chk (u ++ [a]) = chk u
  | [], a, _ => rfl
  | [x], a, h => by simp [chk, h]
  | x :: y :: u, a, h => by
    have ih := chk_end (u := y :: u) (a := a) h
    simp only [List.cons_append] at ih
    simp only [List.cons_append, chk, ih]
theorem chk_pair : ∀ {u : List Tk} {a b : Tk}, u.getLast? = some a → ender a = true → operand b = true → chk (u ++ [b]) = false
  | [], a, b, h, _, _ => by cases h
  | [x], a, b, h, h1, h2 => by
    have : x = a := by simpa using h
    subst this
    simp [chk, h1, h2]
  | x :: y :: u, a, b, h, h1, h2 => by
    have ih := chk_pair (u := y :: u) (a := a) (b := b) (by simpa using h) h1 h2
    simp only [List.cons_append] at ih
    simp only [List.cons_append, chk, ih, Bool.and_false]
/-- what an expression's tokens are like -/
structure Wf (u : List Tk) : Prop where
  last : ∃ a, u.getLast? = some a ∧ ender a = true
  chk : chk u = true
  bal : u.count (.g 40) = u.count (.g 41)
def Sn (f : PF) : Prop := ∀ k r t q, f k r = some (some (t, q)) → ∃ u, r = u ++ q ∧ Wf u
theorem bindR_some {α β : Type} {x : Re α} {f : α → List Tk → Re β} {y : β × List Tk} (h : bindR x f = some (some y)) : ∃ a q, x = some (some (a, q)) ∧ f a q = some (some y) := by
  match x with
  | none => cases h
  | some none => cases h
  | some (some (a, q)) => exact ⟨a, q, rfl, h⟩
theorem word_some {z : List Nat} {q : List Tk} {f : List Tk → Re Tr} {y : Tr × List Tk} (h : word z q f = some (some y)) : ∃ q', q = .w z :: q' ∧ f q' = some (some y) := by
  unfold word at h
  split at h
  · rename_i w q'
    by_cases e : w = z
    · subst e
      rw [if_pos rfl] at h
      exact ⟨q', rfl, h⟩
    · rw [if_neg e] at h
      cases h
  · cases h
theorem sgnOf_some {cs : List Nat} {q q' : List Tk} {c : Nat} (h : sgnOf cs q = some (c, q')) : q = .g c :: q' ∧ c ∈ cs := by
  unfold sgnOf at h
  split at h
  · rename_i c1 q1
    by_cases e : c1 ∈ cs
    · rw [if_pos e] at h
      cases h
      exact ⟨rfl, e⟩
    · rw [if_neg e] at h
      cases h
  · cases h
theorem last_app {u v : List Tk} {a : Tk} (h : v.getLast? = some a) : (u ++ v).getLast? = some a := by
  rw [List.getLast?_append, h]
  rfl
theorem last_cons {x : Tk} {v : List Tk} {a : Tk} (h : v.getLast? = some a) : (x :: v).getLast? = some a := last_app (u := [x]) h
/-- a neutral token between two expressions -/
theorem Wf.mid {u v : List Tk} {a : Tk} (hu : Wf u) (hv : Wf v) (h1 : operand a = false) (h2 : ender a = false) (h40 : a ≠ .g 40) : Wf (u ++ a :: v) := by
  have h41 : a ≠ .g 41 := by rintro rfl; cases h2
  obtain ⟨b, hb, eb⟩ := hv.last
  refine ⟨⟨b, last_app (last_cons hb), eb⟩, by rw [chk_mid h1 h2, hu.chk, hv.chk]; rfl, ?_⟩
  simp only [List.count_append, List.count_cons]
  have e1 : (a == Tk.g 40) = false := by simpa using h40
  have e2 : (a == Tk.g 41) = false := by simpa using h41
  rw [hu.bal, hv.bal]
  simp [e1, e2]
theorem Wf.pre {v : List Tk} {a : Tk} (hv : Wf v) (h2 : ender a = false) (h40 : a ≠ .g 40) : Wf (a :: v) := by
  have h41 : a ≠ .g 41 := by rintro rfl; cases h2
  obtain ⟨b, hb, eb⟩ := hv.last
  refine ⟨⟨b, last_cons hb, eb⟩, by rw [chk_head h2, hv.chk], ?_⟩
  simp only [List.count_cons]
  have e1 : (a == Tk.g 40) = false := by simpa using h40
  have e2 : (a == Tk.g 41) = false := by simpa using h41
  rw [hv.bal]
  simp [e1, e2]
theorem Wf.one {a : Tk} (h : operand a = true) : Wf [a] := by
  refine ⟨⟨a, rfl, ?_⟩, rfl, ?_⟩
  · cases a with
    | g c => cases h
    | _ => exact h
  · cases a with
    | g c => cases h
    | _ => rfl
theorem op_neutral {c : Nat} {cs : List Nat} (h : c ∈ cs) (hcs : ∀ c ∈ cs, c ≠ 40 ∧ c ≠ 41) : operand (.g c) = false ∧ ender (.g c) = false ∧ (Tk.g c) ≠ .g 40 := by
  obtain ⟨h1, h2⟩ := hcs c h
  exact ⟨rfl, by simp [ender, h2], by simpa using h1⟩
theorem loop_sn {f : PF} {cs : List Nat} (hf : Sn f) (hcs : ∀ c ∈ cs, c ≠ 40 ∧ c ≠ 41) {k : Nat} : ∀ (m : Nat) (l t : Tr) (q q2 : List Tk), loop f cs k m l q = some (some (t, q2)) → ∃ v, q = v ++ q2 ∧ ∀ u, Wf u → Wf (u ++ v)
  | 0, _, _, _, _, h => by cases h
  | m + 1, l, t, q, q2, h => by
    rw [loop] at h
    split at h
    · rename_i c q' e
      obtain ⟨rfl, hc⟩ := sgnOf_some e
      obtain ⟨a, q3, h1, h2⟩ := bindR_some h
      obtain ⟨u1, rfl, w1⟩ := hf _ _ _ _ h1
      obtain ⟨v, rfl, w2⟩ := loop_sn hf hcs m _ _ _ _ h2
      obtain ⟨n1, n2, n3⟩ := op_neutral hc hcs
      refine ⟨.g c :: (u1 ++ v), by simp, fun u wu => ?_⟩
      have := w2 _ (wu.mid w1 n1 n2 n3)
      simpa using this
    · cases h
      exact ⟨[], rfl, fun u wu => by simpa using wu⟩
/-- the end of parentheses -/
structure Wc (u : List Tk) : Prop where
  last : u.getLast? = some (.g 41)
  chk : chk u = true
  bal : u.count (.g 40) + 1 = u.count (.g 41)
theorem Wf.close {u : List Tk} (h : Wf u) : Wc (u ++ [.g 41]) :=
  ⟨last_app rfl, by rw [chk_end rfl, h.chk], by rw [List.count_append, List.count_append, h.bal]; simp⟩
theorem Wf.sep {u v : List Tk} {c : Nat} (h : Wf u) (hv : Wc v) (h40 : c ≠ 40) (h41 : c ≠ 41) : Wc (u ++ .g c :: v) := by
  refine ⟨last_app (last_cons hv.last), by rw [chk_mid rfl (by simp [ender, h41]), h.chk, hv.chk]; rfl, ?_⟩
  have e1 : (Tk.g c == Tk.g 40) = false := by simpa using h40
  have e2 : (Tk.g c == Tk.g 41) = false := by simpa using h41
  have := hv.bal
  simp only [List.count_append, List.count_cons, e1, e2, h.bal]
  simp
  omega
theorem Wc.opn {v : List Tk} (hv : Wc v) : Wf (.g 40 :: v) := by
  refine ⟨⟨.g 41, last_cons hv.last, rfl⟩, by rw [chk_head rfl, hv.chk], ?_⟩
  have := hv.bal
  simp only [List.count_cons]
  simp
  omega
theorem partsL_sn {f : PF} {s : Nat} (hf : Sn f) (hs : s ≠ 40 ∧ s ≠ 41) {k : Nat} : ∀ (m : Nat) (acc ts : List Tr) (q q2 : List Tk), partsL f s k m acc q = some (some (ts, q2)) → ∃ v, q = v ++ q2 ∧ Wc v
  | 0, _, _, _, _, h => by cases h
  | m + 1, acc, ts, q, q2, h => by
    rw [partsL] at h
    obtain ⟨a, q3, h1, h2⟩ := bindR_some h
    obtain ⟨u1, rfl, w1⟩ := hf _ _ _ _ h1
    split at h2
    · rename_i c q4
      by_cases e : c = s
      · subst e
        rw [if_pos rfl] at h2
        obtain ⟨v, rfl, w2⟩ := partsL_sn hf hs m _ _ _ _ h2
        exact ⟨u1 ++ .g c :: v, by simp, w1.sep w2 hs.1 hs.2⟩
      · rw [if_neg e] at h2
        by_cases e2 : c = 41
        · subst e2
          rw [if_pos rfl] at h2
          cases h2
          exact ⟨u1 ++ [.g 41], by simp, w1.close⟩
        · rw [if_neg e2] at h2
          cases h2
    · cases h2
/-- of all that reads: what is read is well formed -/
structure Snd (p : Ps) : Prop where
  whole : Sn p.whole
  choice : ∀ k r t q, p.choice k r = some (some (t, q)) → ∃ u, r = u ++ q ∧ Wf (.w zif :: u)
  comp : Sn p.comp
  sum : Sn p.sum
  prod : Sn p.prod
  atom : Sn p.atom
  parts : ∀ s k r ts q, s = 44 ∨ s = 59 → p.parts s k (.g 40 :: r) = some (some (ts, q)) → ∃ u, r = u ++ q ∧ Wf (.g 40 :: u)
  call : ∀ z k r t q, p.call z k (.g 40 :: r) = some (some (t, q)) → ∃ u, r = u ++ q ∧ Wf (.g 40 :: u)
  seq : ∀ k r t q, p.seq k (.g 40 :: r) = some (some (t, q)) → ∃ u, r = u ++ q ∧ Wf (.g 40 :: u)
theorem head_wd {z : List Nat} (h : z ∈ resL) : operand (.w z) = false ∧ ender (.w z) = false ∧ Tk.w z ≠ .g 40 := by
  have e : isName z = false := by
    unfold isName
    have : decide (z ∈ resL) = true := decide_eq_true h
    rw [this]
    simp
  exact ⟨e, e, by simp⟩
theorem lev_snd : ∀ d, Snd (lev d)
  | 0 => by
    refine ⟨?_, ?_, ?_, ?_, ?_, ?_, ?_, ?_, ?_⟩ <;> (try unfold Sn) <;> intros <;> rename_i h <;> exact absurd h (fun e => nomatch e)
  | d + 1 => by
    have P := lev_snd d
    have cs2 : ∀ c ∈ [43, 45], c ≠ 40 ∧ c ≠ 41 := by decide
    have cs1 : ∀ c ∈ [42], c ≠ 40 ∧ c ≠ 41 := by decide
    have cs3 : ∀ c ∈ [61, 60], c ≠ 40 ∧ c ≠ 41 := by decide
    refine ⟨?_, ?_, ?_, ?_, ?_, ?_, ?_, ?_, ?_⟩
    · intro k r t q h
      replace h : wholeF (lev d) k r = _ := h
      unfold wholeF at h
      split at h
      · rename_i z r'
        by_cases e1 : z = zif
        · subst e1
          rw [if_pos rfl] at h
          obtain ⟨u, rfl, w⟩ := P.choice _ _ _ _ h
          exact ⟨_, rfl, w⟩
        · rw [if_neg e1] at h
          by_cases e2 : z = zset
          · subst e2
            rw [if_pos rfl] at h
            split at h
            · rename_i y q1
              by_cases e3 : isName y = true
              · rw [if_pos e3] at h
                split at h
                · obtain ⟨a, q3, h1, h2⟩ := bindR_some h
                  cases h2
                  obtain ⟨u, rfl, w⟩ := P.whole _ _ _ _ h1
                  refine ⟨.w zset :: .w y :: .g 61 :: u, rfl, ?_⟩
                  obtain ⟨n1, n2, n3⟩ := head_wd (z := zset) (by decide)
                  refine Wf.pre ?_ n2 n3
                  exact (Wf.one (a := .w y) e3).mid w rfl rfl (by decide)
                · cases h
              · rw [if_neg e3] at h
                cases h
            · cases h
          · rw [if_neg e2] at h
            exact P.comp _ _ _ _ h
      · exact P.comp _ _ _ _ h
    · intro k r t q h
      replace h : choiceF (lev d) k r = _ := h
      unfold choiceF at h
      obtain ⟨a, q1, h1, h⟩ := bindR_some h
      obtain ⟨q2, rfl, h⟩ := word_some h
      obtain ⟨b, q3, h2, h⟩ := bindR_some h
      obtain ⟨q4, rfl, h⟩ := word_some h
      obtain ⟨c, q5, h3, h⟩ := bindR_some h
      cases h
      obtain ⟨u1, rfl, w1⟩ := P.whole _ _ _ _ h1
      obtain ⟨u2, rfl, w2⟩ := P.whole _ _ _ _ h2
      obtain ⟨u3, rfl, w3⟩ := P.whole _ _ _ _ h3
      refine ⟨u1 ++ .w zthen :: (u2 ++ .w zelse :: u3), by simp, ?_⟩
      obtain ⟨n1, n2, n3⟩ := head_wd (z := zif) (by decide)
      obtain ⟨n4, n5, n6⟩ := head_wd (z := zthen) (by decide)
      obtain ⟨n7, n8, n9⟩ := head_wd (z := zelse) (by decide)
      exact (w1.mid (w2.mid w3 n7 n8 n9) n4 n5 n6).pre n2 n3
    · intro k r t q h
      replace h : compF (lev d) k r = _ := h
      unfold compF at h
      obtain ⟨a, q1, h1, h'⟩ := bindR_some h
      clear h
      obtain ⟨u1, rfl, w1⟩ := P.sum _ _ _ _ h1
      have h := h'
      clear h'
      split at h
      · rename_i c q2 e
        obtain ⟨rfl, hc⟩ := sgnOf_some e
        obtain ⟨b, q3, h2, h⟩ := bindR_some h
        cases h
        obtain ⟨u2, rfl, w2⟩ := P.sum _ _ _ _ h2
        obtain ⟨n1, n2, n3⟩ := op_neutral hc cs3
        exact ⟨u1 ++ .g c :: u2, by simp, w1.mid w2 n1 n2 n3⟩
      · cases h
        exact ⟨u1, rfl, w1⟩
    · intro k r t q h
      replace h : sumF (lev d) k r = _ := h
      unfold sumF at h
      obtain ⟨a, q1, h1, h'⟩ := bindR_some h
      clear h
      obtain ⟨u1, rfl, w1⟩ := P.prod _ _ _ _ h1
      have h := h'
      clear h'
      obtain ⟨v, rfl, w2⟩ := loop_sn P.prod cs2 _ _ _ _ _ h
      exact ⟨u1 ++ v, by simp, w2 _ w1⟩
    · intro k r t q h
      replace h : prodF (lev d) k r = _ := h
      unfold prodF at h
      obtain ⟨a, q1, h1, h'⟩ := bindR_some h
      clear h
      obtain ⟨u1, rfl, w1⟩ := P.atom _ _ _ _ h1
      have h := h'
      clear h'
      obtain ⟨v, rfl, w2⟩ := loop_sn P.atom cs1 _ _ _ _ _ h
      exact ⟨u1 ++ v, by simp, w2 _ w1⟩
    · intro k r t q h
      replace h : atomF (lev d) k r = _ := h
      unfold atomF at h
      split at h
      · cases h
      · cases h; exact ⟨[_], rfl, .one rfl⟩
      · cases h; exact ⟨[_], rfl, .one rfl⟩
      · rename_i c q1
        by_cases e : c = 40
        · subst e
          rw [if_pos rfl] at h
          obtain ⟨u, rfl, w⟩ := P.seq _ _ _ _ h
          exact ⟨_, rfl, w⟩
        · rw [if_neg e] at h
          cases h
      · rename_i z q1
        by_cases e : isName z = true
        · rw [if_pos e] at h
          split at h
          · rename_i q2
            obtain ⟨u, rfl, w⟩ := P.call _ _ _ _ _ h
            refine ⟨.w z :: .g 40 :: u, rfl, ?_⟩
            obtain ⟨b, hb, eb⟩ := w.last
            refine ⟨⟨b, last_cons hb, eb⟩, ?_, ?_⟩
            · have := w.chk
              simp [chk, this, operand]
            · have := w.bal
              simp only [List.count_cons] at this ⊢
              simpa using this
          · cases h
            exact ⟨[_], rfl, .one e⟩
        · rw [if_neg e] at h
          cases h
    · intro s k r ts q hs h
      replace h : partsF (lev d) s k (.g 40 :: r) = _ := h
      unfold partsF at h
      by_cases e1 : 10 < k + 1
      · rw [if_pos e1] at h
        cases h
      · rw [if_neg e1] at h
        by_cases e2 : s = 44 ∧ (Tk.g 40 :: r).tail.head? = some (.g 41)
        · rw [if_pos e2] at h
          cases h
          obtain ⟨_, e2⟩ := e2
          cases r with
          | nil => cases e2
          | cons x r =>
            have : x = .g 41 := by simpa using e2
            subst this
            exact ⟨[.g 41], rfl, ⟨⟨.g 41, rfl, rfl⟩, rfl, by decide⟩⟩
        · rw [if_neg e2] at h
          obtain ⟨v, e, w⟩ := partsL_sn P.whole (by rcases hs with rfl | rfl <;> decide) _ _ _ _ _ h
          exact ⟨v, e, w.opn⟩
    · intro z k r t q h
      replace h : callF (lev d) z k (.g 40 :: r) = _ := h
      unfold callF at h
      obtain ⟨a, q1, h1, h⟩ := bindR_some h
      cases h
      exact P.parts _ _ _ _ _ (.inl rfl) h1
    · intro k r t q h
      replace h : seqF (lev d) k (.g 40 :: r) = _ := h
      unfold seqF at h
      obtain ⟨a, q1, h1, h⟩ := bindR_some h
      cases h
      exact P.parts _ _ _ _ _ (.inr rfl) h1
/-! ### reading ends -/
def isIf : Tk → Bool
  | .w z => decide (z = zif) || decide (z = zset)
  | _ => false
def ifs (q : List Tk) : Nat := q.countP isIf
theorem ifs_app {u q : List Tk} : ifs q ≤ ifs (u ++ q) := by unfold ifs; rw [List.countP_append]; omega
theorem ifs_cons {x : Tk} {q : List Tk} : ifs q ≤ ifs (x :: q) := ifs_app (u := [x])
theorem Wf.pos {u : List Tk} (h : Wf u) : 1 ≤ u.length := by
  obtain ⟨a, e, _⟩ := h.last
  cases u with
  | nil => cases e
  | cons x u => simp
theorem bindR_nf {α β : Type} {x : Re α} {f : α → List Tk → Re β} (h : x ≠ none) (hf : ∀ a q, x = some (some (a, q)) → f a q ≠ none) : bindR x f ≠ none := by
  match x, h with
  | some none, _ => simp [bindR]
  | some (some (a, q)), _ => exact hf a q rfl
theorem word_nf {z : List Nat} {q : List Tk} {f : List Tk → Re Tr} (h : ∀ q', q = .w z :: q' → f q' ≠ none) : word z q f ≠ none := by
  unfold word
  split
  · rename_i y q'
    by_cases e : y = z
    · subst e
      rw [if_pos rfl]
      exact h q' rfl
    · rw [if_neg e]
      simp
  · simp
theorem loop_nf {f : PF} {cs : List Nat} (hf : Sn f) {k i : Nat} (hn : ∀ q, ifs q ≤ i → f k q ≠ none) : ∀ (m : Nat) (l : Tr) (q : List Tk), ifs q ≤ i → q.length < m → loop f cs k m l q ≠ none
  | 0, _, _, _, h => by omega
  | m + 1, l, q, hi, hm => by
    rw [loop]
    split
    · rename_i c q' e
      obtain ⟨rfl, hc⟩ := sgnOf_some e
      have hi' : ifs q' ≤ i := Nat.le_trans ifs_cons hi
      refine bindR_nf (hn _ hi') fun a q2 h => ?_
      obtain ⟨u, rfl, w⟩ := hf _ _ _ _ h
      exact loop_nf hf hn m _ _ (Nat.le_trans ifs_app hi') (by simp at hm; omega)
    · simp
theorem partsL_nf {f : PF} {s : Nat} (hf : Sn f) {k i : Nat} (hn : ∀ q, ifs q ≤ i → f k q ≠ none) : ∀ (m : Nat) (acc : List Tr) (q : List Tk), ifs q ≤ i → q.length < m → partsL f s k m acc q ≠ none
  | 0, _, _, _, h => by omega
  | m + 1, acc, q, hi, hm => by
    rw [partsL]
    refine bindR_nf (hn _ hi) fun a q2 h => ?_
    obtain ⟨u, rfl, w⟩ := hf _ _ _ _ h
    have := w.pos
    split
    · rename_i c q3
      split
      · exact partsL_nf hf hn m _ _ (Nat.le_trans ifs_cons (Nat.le_trans ifs_app hi)) (by simp at hm; omega)
      · split <;> simp
    · simp
structure Ter (d : Nat) : Prop where
  whole : ∀ k r, k ≤ 10 → 8 * (10 - k) + 2 * ifs r + 9 ≤ d → (lev d).whole k r ≠ none
  choice : ∀ k r, k ≤ 10 → 8 * (10 - k) + 2 * ifs r + 10 ≤ d → (lev d).choice k r ≠ none
  comp : ∀ k r, k ≤ 10 → 8 * (10 - k) + 2 * ifs r + 8 ≤ d → (lev d).comp k r ≠ none
  sum : ∀ k r, k ≤ 10 → 8 * (10 - k) + 2 * ifs r + 7 ≤ d → (lev d).sum k r ≠ none
  prod : ∀ k r, k ≤ 10 → 8 * (10 - k) + 2 * ifs r + 6 ≤ d → (lev d).prod k r ≠ none
  atom : ∀ k r, k ≤ 10 → 8 * (10 - k) + 2 * ifs r + 5 ≤ d → (lev d).atom k r ≠ none
  call : ∀ z k r, k ≤ 10 → 8 * (10 - k) + 2 * ifs r + 4 ≤ d → (lev d).call z k r ≠ none
  seq : ∀ k r, k ≤ 10 → 8 * (10 - k) + 2 * ifs r + 4 ≤ d → (lev d).seq k r ≠ none
  parts : ∀ s k r, k ≤ 10 → 8 * (10 - k) + 2 * ifs r + 3 ≤ d → (lev d).parts s k r ≠ none
theorem lev_ter : ∀ d, Ter d
  | 0 => ⟨fun _ _ _ h => by omega, fun _ _ _ h => by omega, fun _ _ _ h => by omega, fun _ _ _ h => by omega, fun _ _ _ h => by omega, fun _ _ _ h => by omega, fun _ _ _ _ h => by omega, fun _ _ _ h => by omega, fun _ _ _ _ h => by omega⟩
  | d + 1 => by
    have T := lev_ter d
    have P := lev_snd d
    refine ⟨?_, ?_, ?_, ?_, ?_, ?_, ?_, ?_, ?_⟩
    · intro k r hk h
      show wholeF (lev d) k r ≠ none
      unfold wholeF
      split
      · rename_i z r'
        by_cases e1 : z = zif
        · subst e1
          rw [if_pos rfl]
          refine T.choice _ _ hk ?_
          have : ifs (.w zif :: r') = ifs r' + 1 := by unfold ifs; rw [List.countP_cons]; simp [isIf]
          omega
        · rw [if_neg e1]
          by_cases e2 : z = zset
          · subst e2
            rw [if_pos rfl]
            have : ifs (.w zset :: r') = ifs r' + 1 := by unfold ifs; rw [List.countP_cons]; simp [isIf]
            split
            · rename_i y q1
              split
              · split
                · rename_i q2
                  refine bindR_nf (T.whole _ _ hk ?_) fun a q h => by simp
                  have h1 : ifs q2 ≤ ifs (.w y :: .g 61 :: q2) := ifs_app (u := [.w y, .g 61])
                  omega
                · simp
              · simp
            · simp
          · rw [if_neg e2]
            exact T.comp _ _ hk (by omega)
      · exact T.comp _ _ hk (by omega)
    · intro k r hk h
      show choiceF (lev d) k r ≠ none
      unfold choiceF
      refine bindR_nf (T.whole _ _ hk (by omega)) fun a q h1 => word_nf fun q' e => ?_
      subst e
      obtain ⟨u1, rfl, w1⟩ := P.whole _ _ _ _ h1
      have i1 : ifs q' ≤ ifs (u1 ++ .w zthen :: q') := Nat.le_trans ifs_cons ifs_app
      refine bindR_nf (T.whole _ _ hk (by omega)) fun b q h2 => word_nf fun q2 e => ?_
      subst e
      obtain ⟨u2, rfl, w2⟩ := P.whole _ _ _ _ h2
      have i2 : ifs q2 ≤ ifs (u2 ++ .w zelse :: q2) := Nat.le_trans ifs_cons ifs_app
      exact bindR_nf (T.whole _ _ hk (by omega)) fun c q h3 => by simp
    · intro k r hk h
      show compF (lev d) k r ≠ none
      unfold compF
      refine bindR_nf (T.sum _ _ hk (by omega)) fun a q h1 => ?_
      obtain ⟨u1, rfl, w1⟩ := P.sum _ _ _ _ h1
      split
      · rename_i c q2 e
        obtain ⟨rfl, hc⟩ := sgnOf_some e
        have i1 : ifs q2 ≤ ifs (u1 ++ .g c :: q2) := Nat.le_trans ifs_cons ifs_app
        exact bindR_nf (T.sum _ _ hk (by omega)) fun c q h3 => by simp
      · simp
    · intro k r hk h
      show sumF (lev d) k r ≠ none
      unfold sumF
      refine bindR_nf (T.prod _ _ hk (by omega)) fun a q h1 => ?_
      obtain ⟨u1, rfl, w1⟩ := P.prod _ _ _ _ h1
      exact loop_nf (i := ifs (u1 ++ q)) P.prod (fun q2 h2 => T.prod _ _ hk (by omega)) _ _ _ ifs_app (by omega)
    · intro k r hk h
      show prodF (lev d) k r ≠ none
      unfold prodF
      refine bindR_nf (T.atom _ _ hk (by omega)) fun a q h1 => ?_
      obtain ⟨u1, rfl, w1⟩ := P.atom _ _ _ _ h1
      exact loop_nf (i := ifs (u1 ++ q)) P.atom (fun q2 h2 => T.atom _ _ hk (by omega)) _ _ _ ifs_app (by omega)
    · intro k r hk h
      show atomF (lev d) k r ≠ none
      unfold atomF
      split
      · simp
      · simp
      · simp
      · split
        · exact T.seq _ _ hk (by omega)
        · simp
      · split
        · split
          · rename_i z q1 _ q2
            refine T.call _ _ _ hk ?_
            have : ifs (.g 40 :: q2) ≤ ifs (.w z :: .g 40 :: q2) := ifs_cons
            omega
          · simp
        · simp
    · intro z k r hk h
      show callF (lev d) z k r ≠ none
      unfold callF
      exact bindR_nf (T.parts _ _ _ hk (by omega)) fun a q h1 => by simp
    · intro k r hk h
      show seqF (lev d) k r ≠ none
      unfold seqF
      exact bindR_nf (T.parts _ _ _ hk (by omega)) fun a q h1 => by simp
    · intro s k r hk h
      show partsF (lev d) s k r ≠ none
      unfold partsF
      by_cases e1 : 10 < k + 1
      · rw [if_pos e1]; simp
      · rw [if_neg e1]
        split
        · simp
        · have it : ifs r.tail ≤ ifs r := by cases r with
            | nil => exact Nat.le_refl _
            | cons x r => exact ifs_cons
          exact partsL_nf (i := ifs r) P.whole (fun q2 h2 => T.whole _ _ (by omega) (by omega)) _ _ _ it (by simp; omega)
end Xp

/-! k02, the plain law: texts of trees, and the tokens that they are split into -/
namespace Xp
open PySem PySem.NumText Lg Tok
def Sep (Y : List Nat) : Prop := ∀ c, Y.head? = some c → c ∉ letters ∧ c ∉ figs
/-- z is split into s, whatever follows -/
def LexF (z : List Nat) (s : List Tk) : Prop := ∀ Y, spl (z ++ Y) = (spl Y).map (s ++ ·)
/-- .. where no letter and no figure follows -/
def LexD (z : List Nat) (s : List Tk) : Prop := ∀ Y, Sep Y → spl (z ++ Y) = (spl Y).map (s ++ ·)
theorem LexF.d {z : List Nat} {s : List Tk} (h : LexF z s) : LexD z s := fun Y _ => h Y
theorem omap_app (o : Option (List Tk)) (s u : List Tk) : (o.map (u ++ ·)).map (s ++ ·) = o.map ((s ++ u) ++ ·) := by
  cases o <;> simp
theorem LexF.app {a b : List Nat} {s u : List Tk} (h : LexF a s) (k : LexF b u) : LexF (a ++ b) (s ++ u) := fun Y => by
  rw [List.append_assoc, h, k, omap_app]
theorem LexF.appD {a b : List Nat} {s u : List Tk} (h : LexF a s) (k : LexD b u) : LexD (a ++ b) (s ++ u) := fun Y hY => by
  rw [List.append_assoc, h, k Y hY, omap_app]
theorem LexD.appF {a b : List Nat} {s u : List Tk} (h : LexD a s) (k : LexF b u) (hb : b ≠ []) (hs : Sep b) : LexF (a ++ b) (s ++ u) := fun Y => by
  rw [List.append_assoc, h, k, omap_app]
  intro c e
  refine hs c ?_
  cases b with
  | nil => exact absurd rfl hb
  | cons x b => exact e
theorem LexF.bl : LexF [32] [] := fun Y => by
  show spl (32 :: Y) = _
  rw [spl_blank]
  cases spl Y <;> simp
theorem LexD.tok {t : Tk} (ht : t.ok) : LexD t.sp [t] := fun Y hY => by
  rw [spl_sp ht ⟨fun _ c e => (hY c e).1, fun _ c e => (hY c e).2⟩]
  rfl
theorem LexF.tok {t : Tk} (ht : t.ok) (hk : 2 ≤ t.kd) : LexF t.sp [t] := fun Y => by
  rw [spl_sp ht ⟨fun e => by omega, fun e => by omega⟩]
  rfl
theorem LexF.sgn {c : Nat} (h : c ∈ sgns) : LexF [c] [.g c] := LexF.tok (t := .g c) h (show 2 ≤ 3 by decide)
theorem LexF.word {z : List Nat} (h : Tk.ok (.w z)) : LexF (z ++ [32]) [.w z] := by
  have := (LexD.tok h).appF LexF.bl (by simp) (fun c e => by cases e; decide)
  exact this
theorem LexD.spl {z : List Nat} {s : List Tk} (h : LexD z s) : spl z = some s := by
  have := h [] (fun c e => by cases e)
  rw [List.append_nil, spl_nil] at this
  rw [this]
  simp
/-- what stands between two expressions: the sign c, perhaps blanks -/
structure Glue (c : Nat) (x : List Nat) : Prop where
  lex : LexF x [.g c]
  ne : x ≠ []
  sep : Sep x
theorem Glue.sgn {c : Nat} (h : c ∈ sgns) : Glue c [c] := ⟨.sgn h, by simp, fun d e => by cases e; exact ⟨(sgn_out c h).1, (sgn_out c h).2.1⟩⟩
theorem Glue.after {c : Nat} (h : c ∈ sgns) : Glue c [c, 32] := ⟨(LexF.sgn h).app .bl, by simp, fun d e => by cases e; exact ⟨(sgn_out c h).1, (sgn_out c h).2.1⟩⟩
theorem Glue.both {c : Nat} (h : c ∈ sgns) : Glue c [32, c, 32] := ⟨LexF.bl.app ((LexF.sgn h).app .bl), by simp, fun d e => by cases e; decide⟩
theorem name_ok {z : List Nat} (h : isName z = true) : Tk.ok (.w z) := by
  unfold isName at h
  simp only [Bool.and_eq_true, decide_eq_true_eq, List.all_eq_true] at h
  obtain ⟨⟨h1, h2⟩, h3, _⟩ := h
  refine ⟨fun e => ?_, by omega, h3⟩
  rw [e] at h1
  simp at h1
/-- z is a text of t where something as strong as l may stand -/
def Wt (n l : Nat) (t : Tr) (z : List Nat) : Prop := ∃ s, LexD z s ∧ Tx n l t s
theorem Wt.ups {n l l' : Nat} {t : Tr} {z : List Nat} (h : Wt n l' t z) (hl : l ≤ l') : Wt n l t z := by obtain ⟨s, a, b⟩ := h; exact ⟨s, a, b.ups hl⟩
theorem Wt.wks {n n' l : Nat} {t : Tr} {z : List Nat} (h : Wt n l t z) (hn : n ≤ n') : Wt n' l t z := by obtain ⟨s, a, b⟩ := h; exact ⟨s, a, b.wks hn⟩
theorem wt_num {n k : Nat} (h : k < 100000) : Wt n 4 (.num k) (dg k) := ⟨_, LexD.tok (t := .n k) h, .num⟩
theorem wt_str {n : Nat} {z : List Nat} (h : Tk.ok (.s z)) : Wt n 4 (.str z) (34 :: z ++ [34]) := ⟨_, LexD.tok (t := .s z) h, .str⟩
theorem wt_nam {n : Nat} {z : List Nat} (h : isName z = true) : Wt n 4 (.nam z) z := ⟨_, LexD.tok (t := .w z) (name_ok h), .nam h⟩
/-- texts with a sign between them -/
theorem wt_list {n c : Nat} {x : List Nat} (G : Glue c x) : ∀ ps : List (Tr × List Nat), (∀ p ∈ ps, Wt n 0 p.1 p.2) →
    ∃ qs : List (Tr × List Tk), qs.map (·.1) = ps.map (·.1) ∧ (∀ q ∈ qs, Tx n 0 q.1 q.2) ∧ LexD (joinW x (ps.map (·.2))) (sepT c (qs.map (·.2)))
  | [], _ => ⟨[], rfl, by simp, fun Y _ => by cases h : spl Y <;> simp [joinW, sepT, h]⟩
  | [p], h => by
    obtain ⟨s, a, b⟩ := h p (.head _)
    exact ⟨[(p.1, s)], rfl, by simpa using b, a⟩
  | p :: p2 :: ps, h => by
    obtain ⟨s, a, b⟩ := h p (.head _)
    obtain ⟨qs, e1, h2, h3⟩ := wt_list G (p2 :: ps) fun q hq => h q (.tail _ hq)
    cases qs with
    | nil => cases e1
    | cons q qs =>
      refine ⟨(p.1, s) :: q :: qs, by simp at e1 ⊢; exact e1, fun r hr => ?_, ?_⟩
      · rcases List.mem_cons.mp hr with rfl | hr
        · exact b
        · exact h2 r hr
      · have := (a.appF G.lex G.ne G.sep).appD h3
        simpa [joinW, sepT] using this
theorem seqT_one (t : Tr) : seqT [t] = t := rfl
theorem seqT_cons (t : Tr) {ts : List Tr} (h : ts ≠ []) : seqT (t :: ts) = .thn t (seqT ts) := by
  cases ts with
  | nil => exact absurd rfl h
  | cons u r =>
    unfold seqT
    rw [List.getLast?_cons_cons]
    cases e : (u :: r).getLast? with
    | none => simp at e
    | some x => rfl
theorem wt_seq {n : Nat} {x b : List Nat} {ps : List (Tr × List Nat)} (G : Glue 59 x) (hb : b = [] ∨ b = [32]) (h : ps ≠ []) (hp : ∀ p ∈ ps, Wt n 0 p.1 p.2) : Wt (n + 1) 4 (seqT (ps.map (·.1))) (40 :: b ++ joinW x (ps.map (·.2)) ++ [41]) := by
  obtain ⟨qs, e, h2, h3⟩ := wt_list G ps hp
  have hne : qs ≠ [] := by rintro rfl; cases ps with
    | nil => exact h rfl
    | cons p ps => cases e
  refine ⟨_, ?_, e ▸ Tx.seq hne h2⟩
  have h40 : LexF (40 :: b) [.g 40] := by
    rcases hb with rfl | rfl
    · exact .sgn (by decide)
    · exact (LexF.sgn (c := 40) (by decide)).app .bl
  have := (((h40.appD h3).appF (LexF.sgn (c := 41) (by decide)) (by simp) (fun d e => by cases e; decide))).d
  simpa using this
theorem wt_par {n : Nat} {t : Tr} {z b : List Nat} (hb : b = [] ∨ b = [32]) (h : Wt n 0 t z) : Wt (n + 1) 4 t (40 :: b ++ z ++ [41]) := by
  have := wt_seq (x := [59]) (ps := [(t, z)]) (Glue.sgn (by decide)) hb (by simp) (by simpa using h)
  simpa [joinW, seqT_one] using this
theorem wt_call {n : Nat} {z x o : List Nat} {ps : List (Tr × List Nat)} (hz : isName z = true) (G : Glue 44 x) (O : Glue 40 o) (hp : ∀ p ∈ ps, Wt n 0 p.1 p.2) : Wt (n + 1) 4 (.call z (ps.map (·.1))) (z ++ o ++ joinW x (ps.map (·.2)) ++ [41]) := by
  obtain ⟨qs, e, h2, h3⟩ := wt_list G ps hp
  refine ⟨_, ?_, e ▸ Tx.call hz h2⟩
  have := ((((LexD.tok (name_ok hz)).appF O.lex O.ne O.sep).appD h3).appF (LexF.sgn (c := 41) (by decide)) (by simp) (fun d e => by cases e; decide)).d
  simpa [Tk.sp] using this
theorem wt_mul {n : Nat} {a b : Tr} {s u x : List Nat} (G : Glue 42 x) (ha : Wt n 3 a s) (hb : Wt n 4 b u) : Wt (n + 1) 3 (.op 42 a b) (s ++ x ++ u) := by
  obtain ⟨p, l1, t1⟩ := ha
  obtain ⟨q, l2, t2⟩ := hb
  exact ⟨_, by simpa using (l1.appF G.lex G.ne G.sep).appD l2, t1.mul t2⟩
theorem wt_add {n c : Nat} {a b : Tr} {s u x : List Nat} (h : c ∈ [43, 45]) (G : Glue c x) (ha : Wt n 2 a s) (hb : Wt n 3 b u) : Wt (n + 1) 2 (.op c a b) (s ++ x ++ u) := by
  obtain ⟨p, l1, t1⟩ := ha
  obtain ⟨q, l2, t2⟩ := hb
  exact ⟨_, by simpa using (l1.appF G.lex G.ne G.sep).appD l2, t1.add h t2⟩
theorem wt_cmp {n c : Nat} {a b : Tr} {s u x : List Nat} (h : c ∈ [61, 60]) (G : Glue c x) (ha : Wt n 2 a s) (hb : Wt n 2 b u) : Wt (n + 1) 1 (.op c a b) (s ++ x ++ u) := by
  obtain ⟨p, l1, t1⟩ := ha
  obtain ⟨q, l2, t2⟩ := hb
  exact ⟨_, by simpa using (l1.appF G.lex G.ne G.sep).appD l2, t1.cmp h t2⟩
/-- an operation's text, by its strength -/
theorem wt_op {n c : Nat} {a b : Tr} {s u x : List Nat} (h : c ∈ [43, 45, 42, 60, 61]) (G : Glue c x) (ha : Wt n (lef c) a s) (hb : Wt n (opl c + 1) b u) : Wt (n + 1) (opl c) (.op c a b) (s ++ x ++ u) := by
  simp only [List.mem_cons, List.not_mem_nil, or_false] at h
  rcases h with rfl | rfl | rfl | rfl | rfl
  · exact wt_add (by decide) G ha hb
  · exact wt_add (by decide) G ha hb
  · exact wt_mul G ha hb
  · exact wt_cmp (by decide) G ha hb
  · exact wt_cmp (by decide) G ha hb
theorem lex_if : LexF [105, 102, 32] [.w zif] := LexF.word (z := zif) ⟨by decide, by decide, by decide⟩
theorem lex_set : LexF [115, 101, 116, 32] [.w zset] := LexF.word (z := zset) ⟨by decide, by decide, by decide⟩
theorem lex_then : LexF [32, 116, 104, 101, 110, 32] [.w zthen] := LexF.bl.app (LexF.word (z := zthen) ⟨by decide, by decide, by decide⟩)
theorem lex_else : LexF [32, 101, 108, 115, 101, 32] [.w zelse] := LexF.bl.app (LexF.word (z := zelse) ⟨by decide, by decide, by decide⟩)
theorem wt_ite {n : Nat} {a b c : Tr} {s u v : List Nat} (ha : Wt n 0 a s) (hb : Wt n 0 b u) (hc : Wt n 0 c v) :
    Wt (n + 1) 0 (.ite a b c) ([105, 102, 32] ++ s ++ [32, 116, 104, 101, 110, 32] ++ u ++ [32, 101, 108, 115, 101, 32] ++ v) := by
  obtain ⟨p, l1, t1⟩ := ha
  obtain ⟨q, l2, t2⟩ := hb
  obtain ⟨r, l3, t3⟩ := hc
  refine ⟨_, ?_, t1.ite t2 t3⟩
  have := (((((lex_if.appD l1).appF lex_then (by simp) (fun c e => by cases e; decide)).appD l2).appF lex_else (by simp) (fun c e => by cases e; decide))).appD l3
  simpa using this
theorem wt_set {n : Nat} {e : Tr} {z s x : List Nat} (hz : isName z = true) (G : Glue 61 x) (he : Wt n 0 e s) : Wt (n + 1) 0 (.set z e) ([115, 101, 116, 32] ++ z ++ x ++ s) := by
  obtain ⟨p, l1, t1⟩ := he
  refine ⟨_, ?_, t1.set hz⟩
  have := ((lex_set.appD (LexD.tok (name_ok hz))).appF G.lex G.ne G.sep).appD l1
  simpa [Tk.sp] using this
/-! ### the trees that are drawn -/
inductive TO : Nat → Tr → Prop
  | num {n k : Nat} (h : k < 100000) : TO (n + 1) (.num k)
  | str {n : Nat} {z : List Nat} (h : Tk.ok (.s z)) : TO (n + 1) (.str z)
  | nam {n : Nat} {z : List Nat} (h : isName z = true) : TO (n + 1) (.nam z)
  | op {n c : Nat} {l r : Tr} (h : c ∈ [43, 45, 42, 60, 61]) (hl : TO n l) (hr : TO n r) : TO (n + 1) (.op c l r)
  | ite {n : Nat} {a b c : Tr} (ha : TO n a) (hb : TO n b) (hc : TO n c) : TO (n + 1) (.ite a b c)
  | set {n : Nat} {z : List Nat} {e : Tr} (h : isName z = true) (he : TO n e) : TO (n + 1) (.set z e)
  | thn {n : Nat} {a b : Tr} (ha : TO n a) (hb : TO n b) : TO (n + 1) (.thn a b)
  | call {n : Nat} {z : List Nat} {ts : List Tr} (h : isName z = true) (hn : ts.length ≤ 3) (ht : ∀ t ∈ ts, TO n t) : TO (n + 1) (.call z ts)
theorem TO.up {n : Nat} {t : Tr} (h : TO n t) : TO (n + 1) t := by
  induction h with
  | num h => exact .num h
  | str h => exact .str h
  | nam h => exact .nam h
  | op h _ _ i1 i2 => exact .op h i1 i2
  | ite _ _ _ i1 i2 i3 => exact .ite i1 i2 i3
  | set h _ i => exact .set h i
  | thn _ _ i1 i2 => exact .thn i1 i2
  | call h hn _ i => exact .call h hn i
theorem TO.le {n m : Nat} {t : Tr} (h : TO n t) (hm : n ≤ m) : TO m t := by
  induction m with
  | zero => have : n = 0 := by omega
            subst this; exact h
  | succ m ih =>
    by_cases e : n = m + 1
    · subst e; exact h
    · exact (ih (by omega)).up
theorem hts_le {n : Nat} : ∀ {ts : List Tr}, (∀ t ∈ ts, t.ht ≤ n) → Tr.hts ts ≤ n
  | [], _ => by simp [Tr.hts]
  | t :: r, h => by
    have h1 := h t (.head _)
    have h2 := hts_le fun t ht => h t (.tail _ ht)
    rw [Tr.hts]
    omega
theorem TO.ht {n : Nat} {t : Tr} (h : TO n t) : t.ht ≤ n := by
  induction h with
  | num h => simp [Tr.ht]
  | str h => simp [Tr.ht]
  | nam h => simp [Tr.ht]
  | op h _ _ i1 i2 => simp only [Tr.ht]; omega
  | ite _ _ _ i1 i2 i3 => simp only [Tr.ht]; omega
  | set h _ i => simp only [Tr.ht]; omega
  | thn _ _ i1 i2 => simp only [Tr.ht]; omega
  | call h hn _ i => have := hts_le i; simp only [Tr.ht]; omega
theorem par_len (b : Bool) (z : List Nat) : (par b z).length ≤ z.length + 2 := by unfold par; split <;> simp
theorem joinW_len (x : List Nat) {B : Nat} : ∀ {zs : List (List Nat)}, (∀ z ∈ zs, z.length ≤ B) → (joinW x zs).length ≤ zs.length * (B + x.length)
  | [], _ => by simp [joinW]
  | [z], h => by have := h z (.head _); simp [joinW]; omega
  | z :: y :: r, h => by
    have h1 := h z (.head _)
    have h2 := joinW_len x (B := B) (zs := y :: r) fun z hz => h z (.tail _ hz)
    simp only [joinW, List.length_append]
    have : (z :: y :: r).length * (B + x.length) = (y :: r).length * (B + x.length) + (B + x.length) := by
      rw [show (z :: y :: r).length = (y :: r).length + 1 from rfl, Nat.succ_mul]
    omega
theorem lvl_le (t : Tr) : t.lvl ≤ 4 := by cases t <;> simp [Tr.lvl, opl] <;> (try split) <;> (try split) <;> omega
theorem wt_lvl {n l : Nat} {t : Tr} {z : List Nat} (h : Wt n t.lvl t z) (hl : l ≤ 4) : Wt (n + 1) l t (par (decide (t.lvl < l)) z) := by
  unfold par
  by_cases e : t.lvl < l
  · rw [if_pos (decide_eq_true e)]
    have := wt_par (b := []) (.inl rfl) (h.ups (Nat.zero_le _))
    exact this.ups hl
  · rw [if_neg (by simpa using e)]
    exact (h.ups (by omega)).wks (by omega)
theorem opl_le (c : Nat) : opl c ≤ 3 := by unfold opl; split; omega; split <;> omega
theorem lef_le (c : Nat) : lef c ≤ 3 := by have := opl_le c; unfold lef; split <;> omega
/-- the canonical texts -/
theorem TO.can {n : Nat} {t : Tr} (h : TO n t) : (Wt (2 * n) t.lvl t (t.tx false) ∧ (t.tx false).length ≤ 40 * 4 ^ n) ∧
    ∃ ps : List (Tr × List Nat), ps ≠ [] ∧ seqT (ps.map (·.1)) = t ∧ t.tx true = joinW [59, 32] (ps.map (·.2)) ∧ (∀ p ∈ ps, Wt (2 * n) 0 p.1 p.2) ∧ (t.tx true).length ≤ 40 * 4 ^ n := by
  induction h with
  | @num n k h =>
    have hd : (dg k).length ≤ 5 := dg_len (by decide) h
    have : 1 ≤ 4 ^ (n + 1) := Nat.pow_pos (by decide)
    refine ⟨⟨by rw [Tr.tx]; exact wt_num h, by rw [Tr.tx]; omega⟩, [(.num k, dg k)], by simp, rfl, by simp [Tr.tx, joinW], ?_, by rw [Tr.tx]; omega⟩
    intro p hp
    rcases List.mem_singleton.mp hp with rfl
    exact (wt_num h).ups (by omega)
  | @str n z h =>
    have hd : z.length ≤ 20 := h.1
    have : 1 ≤ 4 ^ (n + 1) := Nat.pow_pos (by decide)
    refine ⟨⟨by rw [Tr.tx]; exact wt_str h, by rw [Tr.tx]; simp; omega⟩, [(.str z, 34 :: z ++ [34])], by simp, rfl, by simp [Tr.tx, joinW], ?_, by rw [Tr.tx]; simp; omega⟩
    intro p hp
    rcases List.mem_singleton.mp hp with rfl
    exact (wt_str h).ups (by omega)
  | @nam n z h =>
    have hd : z.length ≤ 6 := (name_ok h).2.1
    have : 1 ≤ 4 ^ (n + 1) := Nat.pow_pos (by decide)
    refine ⟨⟨by rw [Tr.tx]; exact wt_nam h, by rw [Tr.tx]; omega⟩, [(.nam z, z)], by simp, rfl, by simp [Tr.tx, joinW], ?_, by rw [Tr.tx]; omega⟩
    intro p hp
    rcases List.mem_singleton.mp hp with rfl
    exact (wt_nam h).ups (by omega)
  | @op n c l r h hl hr il ir =>
    have e4 : 4 ^ (n + 1) = 4 * 4 ^ n := by rw [Nat.pow_succ]; omega
    have hc : c ∈ sgns := by revert h; simp [sgns]; rintro (rfl | rfl | rfl | rfl | rfl) <;> simp
    have w : Wt (2 * (n + 1)) (opl c) (.op c l r) (Tr.tx false (.op c l r)) := by
      rw [Tr.tx]
      refine (wt_op h (Glue.both hc) (wt_lvl il.1.1 (by have := lef_le c; omega)) (wt_lvl ir.1.1 (by have := opl_le c; omega))).wks (by omega)
    have hlen : ∀ m, (Tr.tx m (.op c l r)).length ≤ 40 * 4 ^ (n + 1) := by
      intro m
      rw [Tr.tx]
      have a1 := par_len (decide (l.lvl < lef c)) (l.tx false)
      have a2 := par_len (decide (r.lvl < opl c + 1)) (r.tx false)
      have := il.1.2
      have := ir.1.2
      have : 1 ≤ 4 ^ n := Nat.pow_pos (by decide)
      simp only [List.length_append, List.length_cons, List.length_nil]
      omega
    refine ⟨⟨w, hlen _⟩, [(_, Tr.tx false (.op c l r))], by simp, rfl, by simp [Tr.tx, joinW], ?_, hlen _⟩
    intro p hp
    rcases List.mem_singleton.mp hp with rfl
    exact w.ups (by omega)
  | @ite n a b c ha hb hc ia ib ic =>
    have e4 : 4 ^ (n + 1) = 4 * 4 ^ n := by rw [Nat.pow_succ]; omega
    have w : Wt (2 * (n + 1)) 0 (.ite a b c) (Tr.tx false (.ite a b c)) := by
      rw [Tr.tx]
      exact (wt_ite (ia.1.1.ups (by omega)) (ib.1.1.ups (by omega)) (ic.1.1.ups (by omega))).wks (by omega)
    have hlen : ∀ m, (Tr.tx m (.ite a b c)).length ≤ 40 * 4 ^ (n + 1) := by
      intro m
      rw [Tr.tx]
      have := ia.1.2
      have := ib.1.2
      have := ic.1.2
      have : 1 ≤ 4 ^ n := Nat.pow_pos (by decide)
      simp only [List.length_append, List.length_cons, List.length_nil]
      omega
    refine ⟨⟨w, hlen _⟩, [(_, Tr.tx false (.ite a b c))], by simp, rfl, by simp [Tr.tx, joinW], ?_, hlen _⟩
    intro p hp
    rcases List.mem_singleton.mp hp with rfl
    exact w.ups (by omega)
  | @set n z e h he ih =>
    have e4 : 4 ^ (n + 1) = 4 * 4 ^ n := by rw [Nat.pow_succ]; omega
    have hd : z.length ≤ 6 := (name_ok h).2.1
    have w : Wt (2 * (n + 1)) 0 (.set z e) (Tr.tx false (.set z e)) := by
      rw [Tr.tx]
      exact (wt_set h (Glue.both (by decide)) (ih.1.1.ups (by omega))).wks (by omega)
    have hlen : ∀ m, (Tr.tx m (.set z e)).length ≤ 40 * 4 ^ (n + 1) := by
      intro m
      rw [Tr.tx]
      have := ih.1.2
      have : 1 ≤ 4 ^ n := Nat.pow_pos (by decide)
      simp only [List.length_append, List.length_cons, List.length_nil]
      omega
    refine ⟨⟨w, hlen _⟩, [(_, Tr.tx false (.set z e))], by simp, rfl, by simp [Tr.tx, joinW], ?_, hlen _⟩
    intro p hp
    rcases List.mem_singleton.mp hp with rfl
    exact w.ups (by omega)
  | @thn n a b ha hb ia ib =>
    have e4 : 4 ^ (n + 1) = 4 * 4 ^ n := by rw [Nat.pow_succ]; omega
    obtain ⟨ps, p1, p2, p3, p4, p5⟩ := ib.2
    have hp : ∀ p ∈ (a, a.tx false) :: ps, Wt (2 * n) 0 p.1 p.2 := fun p hp => by
      rcases List.mem_cons.mp hp with rfl | hp
      · exact ia.1.1.ups (by omega)
      · exact p4 p hp
    have ej : Tr.tx true (.thn a b) = joinW [59, 32] (((a, a.tx false) :: ps).map (·.2)) := by
      rw [Tr.tx, p3]
      cases ps with
      | nil => exact absurd rfl p1
      | cons p ps => simp [par, joinW]
    have ef : Tr.tx false (.thn a b) = 40 :: [] ++ joinW [59, 32] (((a, a.tx false) :: ps).map (·.2)) ++ [41] := by
      rw [← ej, Tr.tx, Tr.tx]
      simp [par]
    have es : seqT (((a, a.tx false) :: ps).map (·.1)) = .thn a b := by
      rw [List.map_cons, seqT_cons _ (by simpa using p1), p2]
    have w : Wt (2 * n + 1) 4 (.thn a b) (Tr.tx false (.thn a b)) := by
      rw [ef]
      have := wt_seq (b := []) (Glue.after (by decide)) (.inl rfl) (ps := (a, a.tx false) :: ps) (by simp) hp
      rw [es] at this
      exact this
    have hlen : ∀ m, (Tr.tx m (.thn a b)).length ≤ 40 * 4 ^ (n + 1) := by
      intro m
      rw [Tr.tx]
      have := par_len (!m) (a.tx false ++ [59, 32] ++ b.tx true)
      have := ia.1.2
      have : 1 ≤ 4 ^ n := Nat.pow_pos (by decide)
      simp only [List.length_append, List.length_cons, List.length_nil] at *
      omega
    refine ⟨⟨w.wks (by omega), hlen _⟩, (a, a.tx false) :: ps, by simp, es, ej, fun p m => (hp p m).wks (by omega), hlen _⟩
  | @call n z ts h hn ht ih =>
    have e4 : 4 ^ (n + 1) = 4 * 4 ^ n := by rw [Nat.pow_succ]; omega
    have hd : z.length ≤ 6 := (name_ok h).2.1
    have ej : Tr.txs ts = (ts.map fun t => (t, t.tx false)).map (·.2) := by rw [txs_eq]; simp
    have e1 : (ts.map fun t => (t, t.tx false)).map (·.1) = ts := by rw [List.map_map]; exact List.map_id' ts
    have w : Wt (2 * (n + 1)) 4 (.call z ts) (Tr.tx false (.call z ts)) := by
      rw [Tr.tx, ej]
      have := wt_call h (Glue.after (c := 44) (by decide)) (Glue.sgn (c := 40) (by decide)) (ps := ts.map fun t => (t, t.tx false)) (n := 2 * n) fun p hp => by
        obtain ⟨t, m, rfl⟩ := List.mem_map.mp hp
        exact (ih t m).1.1.ups (by omega)
      rw [e1] at this
      exact this.wks (by omega)
    have hlen : ∀ m, (Tr.tx m (.call z ts)).length ≤ 40 * 4 ^ (n + 1) := by
      intro m
      rw [Tr.tx, txs_eq]
      have hj : (joinW [44, 32] (ts.map (Tr.tx false))).length ≤ (ts.map (Tr.tx false)).length * (40 * 4 ^ n + 2) := joinW_len [44, 32] (B := 40 * 4 ^ n) (zs := ts.map (Tr.tx false)) fun z hz => by
        obtain ⟨t, m, rfl⟩ := List.mem_map.mp hz
        exact (ih t m).1.2
      rw [List.length_map] at hj
      have : ts.length * (40 * 4 ^ n + 2) ≤ 3 * (40 * 4 ^ n + 2) := Nat.mul_le_mul_right _ hn
      have : 1 ≤ 4 ^ n := Nat.pow_pos (by decide)
      simp only [List.length_append, List.length_cons, List.length_nil] at *
      omega
    refine ⟨⟨w, hlen _⟩, [(_, Tr.tx false (.call z ts))], by simp, rfl, by simp [Tr.tx, joinW], ?_, hlen _⟩
    intro p hp
    rcases List.mem_singleton.mp hp with rfl
    exact w.ups (by omega)
/-! ### choices and sets -/
mutual
def Tr.nIf : Tr → Nat
  | .num _ => 0
  | .str _ => 0
  | .nam _ => 0
  | .op _ l r => l.nIf + r.nIf
  | .ite a b c => 1 + (a.nIf + (b.nIf + c.nIf))
  | .set _ e => 1 + e.nIf
  | .thn a b => a.nIf + b.nIf
  | .call _ ts => Tr.nIfs ts
def Tr.nIfs : List Tr → Nat
  | [] => 0
  | t :: r => t.nIf + Tr.nIfs r
end
theorem nIf_seq : ∀ ts : List Tr, ts ≠ [] → (seqT ts).nIf = Tr.nIfs ts
  | [], h => absurd rfl h
  | [t], _ => by simp [seqT_one, Tr.nIfs]
  | t :: u :: r, _ => by
    rw [seqT_cons _ (by simp), Tr.nIf, nIf_seq (u :: r) (by simp)]
    simp only [Tr.nIfs]
theorem ifs_nil : ifs [] = 0 := rfl
theorem ifs_append (u v : List Tk) : ifs (u ++ v) = ifs u + ifs v := by unfold ifs; rw [List.countP_append]
theorem ifs_cons' (x : Tk) (v : List Tk) : ifs (x :: v) = (if isIf x then 1 else 0) + ifs v := by
  unfold ifs
  rw [List.countP_cons]
  omega
theorem isIf_g (c : Nat) : isIf (.g c) = false := rfl
theorem isIf_nam {z : List Nat} (h : isName z = true) : isIf (.w z) = false := by
  obtain ⟨h1, h2, _, _⟩ := head_no h
  simp [isIf, h1, h2]
theorem ifs_sep {c : Nat} : ∀ ps : List (Tr × List Tk), (∀ p ∈ ps, ifs p.2 = p.1.nIf) → ifs (sepT c (ps.map (·.2))) = Tr.nIfs (ps.map (·.1))
  | [], _ => by simp [sepT, Tr.nIfs, ifs_nil]
  | [p], h => by simp [sepT, Tr.nIfs, h p (.head _)]
  | p :: p2 :: ps, h => by
    have ih := ifs_sep (c := c) (p2 :: ps) fun q hq => h q (.tail _ hq)
    have h1 := h p (.head _)
    simp only [List.map_cons, sepT, Tr.nIfs, ifs_append, ifs_cons', isIf_g] at ih ⊢
    rw [ih, h1]
    simp
theorem Tx.ifs {n l : Nat} {t : Tr} {s : List Tk} (h : Tx n l t s) : ifs s = t.nIf := by
  induction h with
  | num => rfl
  | str => rfl
  | nam h => simp [ifs_cons', isIf_nam h, ifs_nil, Tr.nIf]
  | call h hp ih =>
    have := ifs_sep (c := 44) _ ih
    simp [ifs_append, ifs_cons', isIf_nam h, isIf_g, ifs_nil, this, Tr.nIf]
  | @seq n ps h hp ih =>
    have := ifs_sep (c := 59) _ ih
    rw [nIf_seq _ (by simpa using h)]
    simp [ifs_append, ifs_cons', isIf_g, ifs_nil, this]
  | mul ha hb ia ib => simp [ifs_append, ifs_cons', isIf_g, ia, ib, Tr.nIf]
  | add h ha hb ia ib => simp [ifs_append, ifs_cons', isIf_g, ia, ib, Tr.nIf]
  | cmp h ha hb ia ib => simp [ifs_append, ifs_cons', isIf_g, ia, ib, Tr.nIf]
  | ite ha hb hc ia ib ic =>
    have e1 : isIf (.w zif) = true := rfl
    have e2 : isIf (.w zthen) = false := rfl
    have e3 : isIf (.w zelse) = false := rfl
    simp [ifs_append, ifs_cons', e1, e2, e3, ia, ib, ic, Tr.nIf]
  | set h he ih =>
    have e1 : isIf (.w zset) = true := rfl
    simp [ifs_cons', e1, isIf_nam h, isIf_g, ih, Tr.nIf]
  | up h i => exact i
  | wk h i => exact i
theorem nIfs_le {B : Nat} : ∀ {ts : List Tr}, (∀ t ∈ ts, t.nIf ≤ B) → Tr.nIfs ts ≤ ts.length * B
  | [], _ => by simp [Tr.nIfs]
  | t :: r, h => by
    have h1 := h t (.head _)
    have h2 := nIfs_le fun t ht => h t (.tail _ ht)
    rw [Tr.nIfs, List.length_cons, Nat.succ_mul]
    omega
theorem TO.nIf {n : Nat} {t : Tr} (h : TO n t) : 6 * t.nIf + 3 ≤ 3 ^ n := by
  have pw : ∀ n, 3 ^ (n + 1) = 3 * 3 ^ n := fun n => by rw [Nat.pow_succ]; omega
  have one : ∀ n, 1 ≤ 3 ^ n := fun n => Nat.pow_pos (by decide)
  induction h with
  | @num n k h => have := pw n; have := one n; simp only [Tr.nIf]; omega
  | @str n z h => have := pw n; have := one n; simp only [Tr.nIf]; omega
  | @nam n z h => have := pw n; have := one n; simp only [Tr.nIf]; omega
  | @op n _ _ _ h _ _ i1 i2 => have := pw n; simp only [Tr.nIf]; omega
  | @ite n _ _ _ _ _ _ i1 i2 i3 => have := pw n; simp only [Tr.nIf]; omega
  | @set n _ _ h _ i => have := pw n; simp only [Tr.nIf]; omega
  | @thn n _ _ _ _ i1 i2 => have := pw n; simp only [Tr.nIf]; omega
  | @call n z ts h hn _ i =>
    have := pw n
    have b : ∀ t ∈ ts, t.nIf ≤ (3 ^ n - 3) / 6 := fun t m => by have := i t m; omega
    have := nIfs_le b
    have : ts.length * ((3 ^ n - 3) / 6) ≤ 3 * ((3 ^ n - 3) / 6) := Nat.mul_le_mul_right _ hn
    simp only [Tr.nIf]
    by_cases e : ts = []
    · subst e
      have := one n
      simp [Tr.nIfs] at *
      omega
    · obtain ⟨t, m⟩ := List.exists_mem_of_ne_nil _ e
      have := i t m
      omega
/-! ### what parse tells -/
mutual
/-- the most arguments of a call -/
def Tr.wd : Tr → Nat
  | .num _ => 0
  | .str _ => 0
  | .nam _ => 0
  | .op _ l r => max l.wd r.wd
  | .ite a b c => max a.wd (max b.wd c.wd)
  | .set _ e => e.wd
  | .thn a b => max a.wd b.wd
  | .call _ ts => max ts.length (Tr.wds ts)
def Tr.wds : List Tr → Nat
  | [] => 0
  | t :: r => max t.wd (Tr.wds r)
end
theorem wds_le {n : Nat} : ∀ {ts : List Tr}, (∀ t ∈ ts, t.wd ≤ n) → Tr.wds ts ≤ n
  | [], _ => by simp [Tr.wds]
  | t :: r, h => by
    have h1 := h t (.head _)
    have h2 := wds_le fun t ht => h t (.tail _ ht)
    rw [Tr.wds]
    omega
theorem TO.wd {n : Nat} {t : Tr} (h : TO n t) : t.wd ≤ 3 := by
  induction h with
  | num h => simp [Tr.wd]
  | str h => simp [Tr.wd]
  | nam h => simp [Tr.wd]
  | op h _ _ i1 i2 => simp only [Tr.wd]; omega
  | ite _ _ _ i1 i2 i3 => simp only [Tr.wd]; omega
  | set h _ i => simp only [Tr.wd]; omega
  | thn _ _ i1 i2 => simp only [Tr.wd]; omega
  | call h hn _ i => have := wds_le i; simp only [Tr.wd]; omega
def pars (ts : List Tk) : Option (Option Tr) := match (lev 190).whole 0 ts with
  | none => none
  | some none => some none
  | some (some (t, [])) => if t.ht ≤ 45 ∧ t.wd ≤ 1000 then some (if t.ht ≤ 12 then some t else none) else none
  | some (some (_, _ :: _)) => some none
theorem pars_tree {n : Nat} {t : Tr} {s : List Tk} (h : Tx n 0 t s) (hn : n ≤ 10) (ht : t.ht ≤ 12) (hw : t.wd ≤ 1000) : pars s = some (some t) := by
  unfold pars
  rw [h.whole hn (by omega)]
  show (if t.ht ≤ 45 ∧ t.wd ≤ 1000 then some (if t.ht ≤ 12 then some t else none) else none) = _
  rw [if_pos ⟨by omega, hw⟩, if_pos ht]
/-- no tree -/
theorem pars_none {s : List Tk} (hi : ifs s ≤ 50) (h : ∀ t, (lev 190).whole 0 s ≠ some (some (t, []))) : pars s = some none := by
  unfold pars
  have := (lev_ter 190).whole 0 s (by omega) (by omega)
  split
  · rename_i e; exact absurd e this
  · rfl
  · rename_i t e; exact absurd e (h t)
  · rfl
theorem Tx.wf {n : Nat} {t : Tr} {s : List Tk} (h : Tx n 0 t s) (hn : n ≤ 10) : Wf s := by
  obtain ⟨u, e, w⟩ := (lev_snd 190).whole _ _ _ _ (h.whole hn (d := 190) (by omega))
  rw [List.append_nil] at e
  rw [e]
  exact w
theorem read_wf {s : List Tk} {t : Tr} (h : (lev 190).whole 0 s = some (some (t, []))) : Wf s := by
  obtain ⟨u, e, w⟩ := (lev_snd 190).whole _ _ _ _ h
  rw [List.append_nil] at e
  rw [e]
  exact w
/-- a token less -/
theorem pars_less {s : List Tk} (h : Wf s) (hi : ifs s ≤ 50) : pars s.dropLast = some none := by
  obtain ⟨a, e, ha⟩ := h.last
  obtain ⟨ys, rfl⟩ := List.getLast?_eq_some_iff.mp e
  rw [List.dropLast_concat]
  refine pars_none (Nat.le_trans ?_ hi) fun t ht => ?_
  · rw [ifs_append]
    omega
  have w := read_wf ht
  have hb := h.bal
  have hc := h.chk
  rw [List.count_append, List.count_append, w.bal] at hb
  obtain ⟨b, eb, hb2⟩ := w.last
  by_cases ho : operand a = true
  · rw [chk_pair eb hb2 ho] at hc
    cases hc
  · have : a = .g 41 := by
      cases a with
      | g c => have : c = 41 := by simpa [ender] using ha
               rw [this]
      | _ => exact absurd ha ho
    subst this
    simp at hb
/-- a token more -/
theorem pars_more {s : List Tk} {m : Tk} (h : Wf s) (hi : ifs s ≤ 50) (hm : m ∈ [.n 1, .g 41, .g 43, .g 40, .w zthen, .g 59]) : pars (s ++ [m]) = some none := by
  refine pars_none ?_ fun t ht => ?_
  · rw [ifs_append]
    have : ifs [m] = 0 := by
      simp only [List.mem_cons, List.not_mem_nil, or_false] at hm
      rcases hm with rfl | rfl | rfl | rfl | rfl | rfl <;> rfl
    omega
  have w := read_wf ht
  obtain ⟨a, e, ha⟩ := w.last
  have : a = m := by simpa using e.symm
  subst this
  have hb := w.bal
  rw [List.count_append, List.count_append, h.bal] at hb
  simp only [List.mem_cons, List.not_mem_nil, or_false] at hm
  rcases hm with rfl | rfl | rfl | rfl | rfl | rfl
  · obtain ⟨b, eb, hb2⟩ := h.last
    have := w.chk
    rw [chk_pair eb hb2 rfl] at this
    cases this
  · simp at hb
  · cases ha
  · cases ha
  · exact absurd ha (by decide)
  · cases ha
/-- a sign ahead -/
theorem pars_star (s : List Tk) : pars (.g 42 :: s) = some none := rfl
end Xp

/-! k02, the plain law: parts of trees, trees as data, loose texts -/
namespace Xp
open PySem PySem.NumText Lg Tok
def Tr.br : Tr → List Tr
  | .op _ l r => [l, r]
  | .ite a b c => [a, b, c]
  | .set _ e => [e]
  | .thn a b => [a, b]
  | .call _ ts => ts
  | .num _ => []
  | .str _ => []
  | .nam _ => []
theorem ht_br (t : Tr) : t.ht = 1 + Tr.hts t.br := by
  cases t <;> simp [Tr.ht, Tr.br, Tr.hts]
theorem wd_br {t u : Tr} (h : u ∈ t.br) : u.wd ≤ t.wd := by
  have all : ∀ {ts : List Tr}, u ∈ ts → u.wd ≤ Tr.wds ts := by
    intro ts
    induction ts with
    | nil => intro h; cases h
    | cons x r ih =>
      intro h
      rw [Tr.wds]
      rcases List.mem_cons.mp h with rfl | h
      · omega
      · have := ih h; omega
  have := all h
  cases t <;> simp [Tr.br, Tr.wds, Tr.wd] at * <;> omega
theorem br_len (t : Tr) : t.br.length ≤ max 3 t.wd := by
  cases t <;> simp [Tr.br, Tr.wd] <;> omega
theorem ht_lt {t u : Tr} (h : u ∈ t.br) : u.ht < t.ht := by
  have := ht_le_hts h
  rw [ht_br t]
  omega
/-- the greatest of numbers -/
theorem hts_max {ts : List Tr} {m : Int} (h0 : m ∈ ts.map fun u => (u.ht : Int)) (h1 : ∀ y ∈ ts.map fun u => (u.ht : Int), y ≤ m) : m = (Tr.hts ts : Int) := by
  have up : ∀ {ts : List Tr} {m : Int}, 0 ≤ m → (∀ y ∈ ts.map fun u => (u.ht : Int), y ≤ m) → (Tr.hts ts : Int) ≤ m := by
    intro ts
    induction ts with
    | nil => intro m h0 _; simpa [Tr.hts] using h0
    | cons t r ih =>
      intro m h0 h
      have a := h _ (.head _)
      have b := ih h0 fun y hy => h y (.tail _ hy)
      have a : (t.ht : Int) ≤ m := a
      rw [Tr.hts]
      omega
  obtain ⟨u, hu, rfl⟩ := List.mem_map.mp h0
  have a := ht_le_hts hu
  have b := up (ts := ts) (m := (u.ht : Int)) (by omega) h1
  omega
def Tr.kz : Tr → List Nat
  | .num _ => znumber
  | .str _ => zstring
  | .nam _ => zname
  | .op c _ _ => [c]
  | .ite _ _ _ => zif
  | .set _ _ => zset
  | .thn _ _ => zthen
  | .call _ _ => zcall
mutual
/-- what a text can be written of -/
def Tr.ok : Tr → Prop
  | .num k => k < 100000
  | .str z => Tk.ok (.s z)
  | .nam z => isName z = true
  | .op c l r => c ∈ [43, 45, 42, 60, 61] ∧ l.ok ∧ r.ok
  | .ite a b c => a.ok ∧ b.ok ∧ c.ok
  | .set z e => isName z = true ∧ e.ok
  | .thn a b => a.ok ∧ b.ok
  | .call z ts => isName z = true ∧ Tr.oks ts
def Tr.oks : List Tr → Prop
  | [] => True
  | t :: r => t.ok ∧ Tr.oks r
end
theorem oks_all : ∀ {ts : List Tr}, Tr.oks ts ↔ ∀ t ∈ ts, t.ok
  | [] => by simp [Tr.oks]
  | t :: r => by simp [Tr.oks, oks_all (ts := r)]
theorem TO.okT {n : Nat} {t : Tr} (h : TO n t) : t.ok := by
  induction h with
  | num h => simpa [Tr.ok] using h
  | str h => rw [Tr.ok]; exact h
  | nam h => rw [Tr.ok]; exact h
  | op h _ _ i1 i2 => rw [Tr.ok]; exact ⟨h, i1, i2⟩
  | ite _ _ _ i1 i2 i3 => rw [Tr.ok]; exact ⟨i1, i2, i3⟩
  | set h _ i => rw [Tr.ok]; exact ⟨h, i⟩
  | thn _ _ i1 i2 => rw [Tr.ok]; exact ⟨i1, i2⟩
  | call h hn _ i => rw [Tr.ok]; exact ⟨h, oks_all.mpr i⟩
theorem ok_seq : ∀ {ts : List Tr}, ts ≠ [] → (seqT ts).ok → ∀ t ∈ ts, t.ok
  | [], h, _, _, _ => absurd rfl h
  | [t], _, ok, u, hu => by rw [List.mem_singleton.mp hu]; exact ok
  | t :: v :: r, _, ok, u, hu => by
    rw [seqT_cons _ (by simp), Tr.ok] at ok
    rcases List.mem_cons.mp hu with rfl | hu
    · exact ok.1
    · exact ok_seq (by simp) ok.2 u hu
theorem sep_ok {c : Nat} (hc : c ∈ sgns) : ∀ {ps : List (List Tk)}, (∀ p ∈ ps, ∀ u ∈ p, u.ok) → ∀ u ∈ sepT c ps, u.ok
  | [], _, u, hu => by cases hu
  | [x], h, u, hu => h x (.head _) u hu
  | x :: y :: r, h, u, hu => by
    rcases List.mem_append.mp hu with hu | hu
    · exact h x (.head _) u hu
    · rcases List.mem_cons.mp hu with rfl | hu
      · exact hc
      · exact sep_ok hc (fun p hp => h p (.tail _ hp)) u hu
theorem kw_ok {z : List Nat} (h : z ∈ [zif, zset, zthen, zelse]) : Tk.ok (.w z) := by
  simp only [List.mem_cons, List.not_mem_nil, or_false] at h
  rcases h with rfl | rfl | rfl | rfl <;> exact ⟨by decide, by decide, by decide⟩
/-- the tokens of a good tree are good -/
theorem Tx.tok {n l : Nat} {t : Tr} {s : List Tk} (h : Tx n l t s) : t.ok → ∀ u ∈ s, u.ok := by
  have g40 : Tk.ok (.g 40) := by show 40 ∈ sgns; decide
  have g41 : Tk.ok (.g 41) := by show 41 ∈ sgns; decide
  have g61 : Tk.ok (.g 61) := by show 61 ∈ sgns; decide
  have g42 : Tk.ok (.g 42) := by show 42 ∈ sgns; decide
  induction h with
  | num => intro ok u hu; rw [List.mem_singleton.mp hu]; rw [Tr.ok] at ok; exact ok
  | str => intro ok u hu; rw [List.mem_singleton.mp hu]; rw [Tr.ok] at ok; exact ok
  | nam h => intro ok u hu; rw [List.mem_singleton.mp hu]; exact name_ok h
  | @call n z ps h hp ih =>
    intro ok u hu
    rw [Tr.ok] at ok
    have oks := oks_all.mp ok.2
    simp only [List.cons_append, List.mem_cons, List.mem_append, List.not_mem_nil, or_false] at hu
    rcases hu with rfl | rfl | hu | rfl
    · exact name_ok h
    · exact g40
    · refine sep_ok (by decide) (fun p hp' v hv => ?_) u hu
      obtain ⟨q, m, rfl⟩ := List.mem_map.mp hp'
      exact ih q m (oks _ (List.mem_map_of_mem m)) v hv
    · exact g41
  | @seq n ps h hp ih =>
    intro ok u hu
    have oks := ok_seq (by simpa using h) ok
    simp only [List.cons_append, List.mem_cons, List.mem_append, List.not_mem_nil, or_false] at hu
    rcases hu with rfl | hu | rfl
    · exact g40
    · refine sep_ok (by decide) (fun p hp' v hv => ?_) u hu
      obtain ⟨q, m, rfl⟩ := List.mem_map.mp hp'
      exact ih q m (oks _ (List.mem_map_of_mem m)) v hv
    · exact g41
  | mul ha hb ia ib =>
    intro ok u hu
    rw [Tr.ok] at ok
    simp only [List.mem_append, List.mem_cons] at hu
    rcases hu with hu | rfl | hu
    · exact ia ok.2.1 u hu
    · exact g42
    · exact ib ok.2.2 u hu
  | @add n c a b s u h ha hb ia ib =>
    intro ok v hv
    rw [Tr.ok] at ok
    simp only [List.mem_append, List.mem_cons] at hv
    rcases hv with hv | rfl | hv
    · exact ia ok.2.1 v hv
    · show c ∈ sgns
      revert h; simp [sgns]; rintro (rfl | rfl) <;> simp
    · exact ib ok.2.2 v hv
  | @cmp n c a b s u h ha hb ia ib =>
    intro ok v hv
    rw [Tr.ok] at ok
    simp only [List.mem_append, List.mem_cons] at hv
    rcases hv with hv | rfl | hv
    · exact ia ok.2.1 v hv
    · show c ∈ sgns
      revert h; simp [sgns]; rintro (rfl | rfl) <;> simp
    · exact ib ok.2.2 v hv
  | ite ha hb hc ia ib ic =>
    intro ok v hv
    rw [Tr.ok] at ok
    simp only [List.mem_append, List.mem_cons] at hv
    rcases hv with rfl | hv | rfl | hv | rfl | hv
    · exact kw_ok (by simp)
    · exact ia ok.1 v hv
    · exact kw_ok (by simp)
    · exact ib ok.2.1 v hv
    · exact kw_ok (by simp)
    · exact ic ok.2.2 v hv
  | set h he ih =>
    intro ok v hv
    rw [Tr.ok] at ok
    simp only [List.mem_cons] at hv
    rcases hv with rfl | rfl | rfl | hv
    · exact kw_ok (by simp)
    · exact name_ok h
    · exact g61
    · exact ih ok.2 v hv
  | up h i => exact i
  | wk h i => exact i
theorem spl'_len : ∀ (n : Nat) (l : List Nat) (ts : List Tk), spl' n l = some ts → ts.length ≤ l.length
  | n, [], ts, h => by
    have : ts = [] := by cases n <;> (cases h; rfl)
    subst this
    simp
  | 0, c :: r, ts, h => by cases h
  | n + 1, c :: r, ts, h => by
    unfold spl' at h
    split at h
    · have := spl'_len n r ts h
      simp only [List.length_cons]
      omega
    · cases ht : tok (c :: r) with
      | none => rw [ht] at h; cases h
      | some q =>
        obtain ⟨t, k⟩ := q
        rw [ht] at h
        have hk := tok_pos ht
        replace h : (spl' n ((c :: r).drop k)).map (t :: ·) = some ts := h
        cases h2 : spl' n ((c :: r).drop k) with
        | none => rw [h2] at h; cases h
        | some us =>
          rw [h2] at h
          cases h
          have := spl'_len n _ us h2
          rw [List.length_drop] at this
          simp only [List.length_cons] at *
          omega
theorem spl_len {l : List Nat} {ts : List Tk} (h : spl l = some ts) : ts.length ≤ l.length := spl'_len _ _ _ h
theorem tx_flag {t : Tr} (h : ∀ a b, t ≠ .thn a b) (m : Bool) : t.tx m = t.tx false := by
  cases t with
  | thn a b => exact absurd rfl (h a b)
  | _ => simp [Tr.tx]
theorem tx_le (t : Tr) : (t.tx true).length ≤ (t.tx false).length := by
  cases t with
  | thn a b => simp [Tr.tx, par]; omega
  | _ => rw [tx_flag (by simp) true] <;> exact Nat.le_refl _
theorem joinW_ge (x : List Nat) : ∀ {zs : List (List Nat)}, zs.length ≤ 1 + (joinW x zs).length ∨ x = []
  | [] => by simp
  | [z] => by simp
  | z :: y :: r => by
    rcases joinW_ge x (zs := y :: r) with h | h
    · by_cases hx : x = []
      · exact .inr hx
      · left
        have : 1 ≤ x.length := List.length_pos_iff.mpr hx
        simp only [joinW, List.length_append, List.length_cons] at *
        omega
    · exact .inr h
theorem joinW_mem (x : List Nat) : ∀ {zs : List (List Nat)} {z : List Nat}, z ∈ zs → z.length ≤ (joinW x zs).length
  | [y], z, h => by rw [List.mem_singleton.mp h]; simp [joinW]
  | w :: y :: r, z, h => by
    rcases List.mem_cons.mp h with rfl | h
    · simp [joinW]
    · have := joinW_mem x h
      simp only [joinW, List.length_append]
      omega
theorem joinW_sum (x : List Nat) : ∀ {zs : List (List Nat)}, (zs.map (·.length)).sum + zs.length * x.length ≤ (joinW x zs).length + x.length
  | [] => by simp [joinW]
  | [z] => by simp [joinW]
  | z :: y :: r => by
    have := joinW_sum x (zs := y :: r)
    simp only [joinW, List.length_append, List.map_cons, List.sum_cons, List.length_cons, Nat.succ_mul] at *
    omega
/-! ### trees as data -/
theorem shw_tuple {n m : Nat} {ds : List PyData} (h : ∀ d ∈ ds, ∃ w, Shw n w d) (hm : PyData.weightAll ds + 1 ≤ m) : Shw (n + 1) m (.tuple ds) := by
  have all : PyData.canLayAll0 ds = true ∧ PyData.depthAll ds ≤ n ∧ PyData.intsShortAll 13 ds = true ∧ PyData.showableAll ds = true := by
    clear hm
    induction ds with
    | nil => simp [PyData.canLayAll0, PyData.depthAll, PyData.intsShortAll, PyData.showableAll]
    | cons d ds ih =>
      obtain ⟨h1, h2, h4, h5⟩ := ih fun e he => h e (.tail _ he)
      obtain ⟨w, g1, g2, g3, g4, g5⟩ := h d (.head _)
      simp only [PyData.canLayAll0, PyData.depthAll, PyData.intsShortAll, PyData.showableAll, g1, h1, g4, h4, g5, h5, Bool.and_self]
      refine ⟨trivial, by omega, trivial, trivial⟩
  obtain ⟨h1, h2, h4, h5⟩ := all
  exact ⟨by simpa [PyData.canLay0] using h1, by simp only [PyData.depth]; omega, by simp only [PyData.weight]; omega, by simpa [PyData.intsShort] using h4, by simpa [PyData.showable] using h5⟩
theorem wt_str' (z : List Nat) : (PyData.str (S z)).weight = z.length := by simp [PyData.weight, S]
theorem wt_le {n w : Nat} {d : PyData} (h : Shw n w d) : d.weight ≤ w := h.wgt
theorem asc_word {z : List Nat} (h : isName z = true) : Asc z ∧ z.length ≤ 6 := by
  obtain ⟨_, h2, h3⟩ := name_ok h
  refine ⟨fun c hc => ?_, h2⟩
  have := h3 c hc
  simp [letters] at this
  omega
theorem wAll_cons (d : PyData) (ds : List PyData) : PyData.weightAll (d :: ds) = d.weight + 1 + PyData.weightAll ds := by
  simp only [PyData.weightAll]
  try omega
theorem wAll_nil : PyData.weightAll [] = 0 := by simp [PyData.weightAll]
theorem wAll_le {w : Nat} : ∀ {ds : List PyData}, (∀ d ∈ ds, d.weight ≤ w) → PyData.weightAll ds ≤ ds.length * (w + 1)
  | [], _ => by simp [wAll_nil]
  | d :: r, h => by
    have h1 := h d (.head _)
    have h2 := wAll_le fun d hd => h d (.tail _ hd)
    rw [wAll_cons, List.length_cons, Nat.succ_mul]
    omega
theorem asc_of {z : List Nat} (h : z.all (fun c => decide (c < 1114112)) = true) : Asc z := fun c hc => by
  simpa using List.all_eq_true.mp h c hc
/-- drawn trees may be shown -/
theorem TO.shw {n : Nat} {t : Tr} (h : TO n t) : Shw (2 * n) (60 * 4 ^ n) t.d := by
  have pw : ∀ n, 4 ^ (n + 1) = 4 * 4 ^ n := fun n => by rw [Nat.pow_succ]; omega
  have one : ∀ n, 1 ≤ 4 ^ n := fun n => Nat.pow_pos (by decide)
  induction h with
  | @num n k h =>
    have := pw n; have := one n
    rw [Tr.d, show 2 * (n + 1) = (2 * n + 1) + 1 by omega]
    have hk : Shw (2 * n + 1) 42 (.int (k : Int)) := sh_int _ (by omega) (by omega)
    have := hk.wgt
    refine shw_tuple (fun d hd => ?_) (by rw [wAll_cons, wAll_cons, wAll_nil, wt_str']; simp; omega)
    simp only [List.mem_cons, List.not_mem_nil, or_false] at hd
    rcases hd with rfl | rfl
    · exact ⟨_, sh_str _ (asc_of (by decide)) (Nat.le_refl _)⟩
    · exact ⟨_, hk⟩
  | @str n z h =>
    have := pw n; have := one n
    rw [Tr.d, show 2 * (n + 1) = (2 * n + 1) + 1 by omega]
    have := h.1
    refine shw_tuple (fun d hd => ?_) (by rw [wAll_cons, wAll_cons, wAll_nil, wt_str', wt_str']; simp; omega)
    simp only [List.mem_cons, List.not_mem_nil, or_false] at hd
    rcases hd with rfl | rfl
    · exact ⟨_, sh_str _ (asc_of (by decide)) (Nat.le_refl _)⟩
    · exact ⟨_, sh_str _ h.2.2 (Nat.le_refl _)⟩
  | @nam n z h =>
    have := pw n; have := one n
    rw [Tr.d, show 2 * (n + 1) = (2 * n + 1) + 1 by omega]
    obtain ⟨ha, hl⟩ := asc_word h
    refine shw_tuple (fun d hd => ?_) (by rw [wAll_cons, wAll_cons, wAll_nil, wt_str', wt_str']; simp; omega)
    simp only [List.mem_cons, List.not_mem_nil, or_false] at hd
    rcases hd with rfl | rfl
    · exact ⟨_, sh_str _ (asc_of (by decide)) (Nat.le_refl _)⟩
    · exact ⟨_, sh_str _ ha (Nat.le_refl _)⟩
  | @op n c l r h _ _ i1 i2 =>
    have := pw n; have := one n
    rw [Tr.d, show 2 * (n + 1) = (2 * n + 1) + 1 by omega]
    have a1 := i1.wgt; have a2 := i2.wgt
    refine shw_tuple (fun d hd => ?_) (by rw [wAll_cons, wAll_cons, wAll_cons, wAll_nil, wt_str']; simp; omega)
    simp only [List.mem_cons, List.not_mem_nil, or_false] at hd
    rcases hd with rfl | rfl | rfl
    · refine ⟨_, sh_str _ (fun x hx => ?_) (Nat.le_refl _)⟩
      rcases List.mem_singleton.mp hx with rfl
      simp at h
      omega
    · exact ⟨_, i1.mono (by omega) (Nat.le_refl _)⟩
    · exact ⟨_, i2.mono (by omega) (Nat.le_refl _)⟩
  | @ite n a b c _ _ _ i1 i2 i3 =>
    have := pw n; have := one n
    rw [Tr.d, show 2 * (n + 1) = (2 * n + 1) + 1 by omega]
    have a1 := i1.wgt; have a2 := i2.wgt; have a3 := i3.wgt
    refine shw_tuple (fun d hd => ?_) (by rw [wAll_cons, wAll_cons, wAll_cons, wAll_cons, wAll_nil, wt_str']; simp; omega)
    simp only [List.mem_cons, List.not_mem_nil, or_false] at hd
    rcases hd with rfl | rfl | rfl | rfl
    · exact ⟨_, sh_str _ (asc_of (by decide)) (Nat.le_refl _)⟩
    · exact ⟨_, i1.mono (by omega) (Nat.le_refl _)⟩
    · exact ⟨_, i2.mono (by omega) (Nat.le_refl _)⟩
    · exact ⟨_, i3.mono (by omega) (Nat.le_refl _)⟩
  | @set n z e h _ i =>
    have := pw n; have := one n
    rw [Tr.d, show 2 * (n + 1) = (2 * n + 1) + 1 by omega]
    have a1 := i.wgt
    obtain ⟨ha, hl⟩ := asc_word h
    refine shw_tuple (fun d hd => ?_) (by rw [wAll_cons, wAll_cons, wAll_cons, wAll_nil, wt_str', wt_str']; simp; omega)
    simp only [List.mem_cons, List.not_mem_nil, or_false] at hd
    rcases hd with rfl | rfl | rfl
    · exact ⟨_, sh_str _ (asc_of (by decide)) (Nat.le_refl _)⟩
    · exact ⟨_, sh_str _ ha (Nat.le_refl _)⟩
    · exact ⟨_, i.mono (by omega) (Nat.le_refl _)⟩
  | @thn n a b _ _ i1 i2 =>
    have := pw n; have := one n
    rw [Tr.d, show 2 * (n + 1) = (2 * n + 1) + 1 by omega]
    have a1 := i1.wgt; have a2 := i2.wgt
    refine shw_tuple (fun d hd => ?_) (by rw [wAll_cons, wAll_cons, wAll_cons, wAll_nil, wt_str']; simp; omega)
    simp only [List.mem_cons, List.not_mem_nil, or_false] at hd
    rcases hd with rfl | rfl | rfl
    · exact ⟨_, sh_str _ (asc_of (by decide)) (Nat.le_refl _)⟩
    · exact ⟨_, i1.mono (by omega) (Nat.le_refl _)⟩
    · exact ⟨_, i2.mono (by omega) (Nat.le_refl _)⟩
  | @call n z ts h hn ht i =>
    have := pw n; have := one n
    rw [Tr.d, show 2 * (n + 1) = (2 * n + 1) + 1 by omega, ds_eq]
    obtain ⟨ha, hl⟩ := asc_word h
    have hw : PyData.weightAll (ts.map Tr.d) ≤ 3 * (60 * 4 ^ n + 1) := by
      refine Nat.le_trans (wAll_le (w := 60 * 4 ^ n) fun d hd => ?_) (Nat.mul_le_mul_right _ (by rw [List.length_map]; exact hn))
      obtain ⟨t, m, rfl⟩ := List.mem_map.mp hd
      exact (i t m).wgt
    have hT : Shw (2 * n + 1) (PyData.weightAll (ts.map Tr.d) + 1) (.tuple (ts.map Tr.d)) := shw_tuple (fun d hd => by
      obtain ⟨t, m, rfl⟩ := List.mem_map.mp hd
      exact ⟨_, i t m⟩) (Nat.le_refl _)
    have a1 := hT.wgt
    refine shw_tuple (fun d hd => ?_) (by rw [wAll_cons, wAll_cons, wAll_cons, wAll_nil, wt_str', wt_str']; simp; omega)
    simp only [List.mem_cons, List.not_mem_nil, or_false] at hd
    rcases hd with rfl | rfl | rfl
    · exact ⟨_, sh_str _ (asc_of (by decide)) (Nat.le_refl _)⟩
    · exact ⟨_, sh_str _ ha (Nat.le_refl _)⟩
    · exact ⟨_, hT⟩
/-! ### loose texts -/
/-- z may stand for t where something as strong as l stands -/
structure Lo (n l : Nat) (t : Tr) (z : List Nat) : Prop where
  wt : Wt (2 * n) l t z
  len : z.length ≤ 40 * 4 ^ n
/-- what stands inside, and its parentheses -/
theorem Lo.mk' {n l : Nat} {t : Tr} {z : List Nat} (h : Wt (2 * n + 1) t.lvl t z) (hl : l ≤ 4) (hz : z.length + 3 ≤ 40 * 4 ^ (n + 1)) :
    Lo (n + 1) l t (40 :: 32 :: (z ++ [41])) ∧ (l ≤ t.lvl → Lo (n + 1) l t z) := by
  refine ⟨⟨?_, by simp; omega⟩, fun hle => ⟨(h.ups hle).wks (by omega), by omega⟩⟩
  have := wt_par (b := [32]) (.inr rfl) (h.ups (Nat.zero_le _))
  exact this.ups hl
theorem lo_leaf {n : Nat} {t : Tr} (h : TO (n + 1) t) (hb : t.br = []) (hc : ∀ z ts, t ≠ .call z ts) : Wt (2 * n + 1) t.lvl t (t.tx false) ∧ (t.tx false).length + 3 ≤ 40 * 4 ^ (n + 1) := by
  have pw : 4 ^ (n + 1) = 4 * 4 ^ n := by rw [Nat.pow_succ]; omega
  have one : 1 ≤ 4 ^ n := Nat.pow_pos (by decide)
  cases h with
  | @num _ k h => exact ⟨by rw [Tr.tx]; exact wt_num h, by have : (dg k).length ≤ 5 := dg_len (by decide) h; rw [Tr.tx]; omega⟩
  | str h => exact ⟨by rw [Tr.tx]; exact wt_str h, by have := h.1; rw [Tr.tx]; simp; omega⟩
  | nam h => exact ⟨by rw [Tr.tx]; exact wt_nam h, by have := (name_ok h).2.1; rw [Tr.tx]; omega⟩
  | call => exact absurd rfl (hc _ _)
  | op => simp [Tr.br] at hb
  | ite => simp [Tr.br] at hb
  | set => simp [Tr.br] at hb
  | thn => simp [Tr.br] at hb
theorem lo_op {n c : Nat} {a b : Tr} {x y : List Nat} (h : c ∈ [43, 45, 42, 60, 61]) (ha : Lo n (lef c) a x) (hb : Lo n (opl c + 1) b y) : Wt (2 * n + 1) (opl c) (.op c a b) (x ++ [c, 32] ++ y) ∧ (x ++ [c, 32] ++ y).length + 3 ≤ 40 * 4 ^ (n + 1) := by
  have pw : 4 ^ (n + 1) = 4 * 4 ^ n := by rw [Nat.pow_succ]; omega
  have one : 1 ≤ 4 ^ n := Nat.pow_pos (by decide)
  have hc : c ∈ sgns := by revert h; simp [sgns]; rintro (rfl | rfl | rfl | rfl | rfl) <;> simp
  have := ha.len; have := hb.len
  exact ⟨wt_op h (Glue.after hc) ha.wt hb.wt, by simp; omega⟩
theorem lo_ite {n : Nat} {a b c : Tr} {x y z : List Nat} (ha : Lo n 0 a x) (hb : Lo n 0 b y) (hc : Lo n 0 c z) : Wt (2 * n + 1) 0 (.ite a b c) ([105, 102, 32] ++ x ++ [32, 116, 104, 101, 110, 32] ++ y ++ [32, 101, 108, 115, 101, 32] ++ z) ∧ ([105, 102, 32] ++ x ++ [32, 116, 104, 101, 110, 32] ++ y ++ [32, 101, 108, 115, 101, 32] ++ z).length + 3 ≤ 40 * 4 ^ (n + 1) := by
  have pw : 4 ^ (n + 1) = 4 * 4 ^ n := by rw [Nat.pow_succ]; omega
  have one : 1 ≤ 4 ^ n := Nat.pow_pos (by decide)
  have := ha.len; have := hb.len; have := hc.len
  exact ⟨wt_ite ha.wt hb.wt hc.wt, by simp; omega⟩
theorem lo_set {n : Nat} {e : Tr} {w x : List Nat} (hw : isName w = true) (he : Lo n 0 e x) : Wt (2 * n + 1) 0 (.set w e) ([115, 101, 116, 32] ++ w ++ [61] ++ x) ∧ ([115, 101, 116, 32] ++ w ++ [61] ++ x).length + 3 ≤ 40 * 4 ^ (n + 1) := by
  have pw : 4 ^ (n + 1) = 4 * 4 ^ n := by rw [Nat.pow_succ]; omega
  have one : 1 ≤ 4 ^ n := Nat.pow_pos (by decide)
  have := he.len
  have : w.length ≤ 6 := (name_ok hw).2.1
  exact ⟨wt_set hw (Glue.sgn (by decide)) he.wt, by simp; omega⟩
theorem lo_thn {n : Nat} {a b : Tr} {x y : List Nat} (ha : Lo n 0 a x) (hb : Lo n 0 b y) : Wt (2 * n + 1) 4 (.thn a b) ([40] ++ x ++ [59] ++ y ++ [41]) ∧ ([40] ++ x ++ [59] ++ y ++ [41]).length + 3 ≤ 40 * 4 ^ (n + 1) := by
  have pw : 4 ^ (n + 1) = 4 * 4 ^ n := by rw [Nat.pow_succ]; omega
  have one : 1 ≤ 4 ^ n := Nat.pow_pos (by decide)
  have := ha.len; have := hb.len
  refine ⟨?_, by simp; omega⟩
  have := wt_seq (x := [59]) (b := []) (ps := [(a, x), (b, y)]) (Glue.sgn (by decide)) (.inl rfl) (by simp) (by
    intro p hp
    simp only [List.mem_cons, List.not_mem_nil, or_false] at hp
    rcases hp with rfl | rfl
    · exact ha.wt
    · exact hb.wt)
  simpa [joinW, seqT] using this
theorem lo_call {n : Nat} {w : List Nat} {ps : List (Tr × List Nat)} (hw : isName w = true) (hn : ps.length ≤ 3) (hp : ∀ p ∈ ps, Lo n 0 p.1 p.2) :
    Wt (2 * n + 1) 4 (.call w (ps.map (·.1))) (w ++ [32, 40, 32] ++ joinW [44] (ps.map (·.2)) ++ [41]) ∧ (w ++ [32, 40, 32] ++ joinW [44] (ps.map Prod.snd) ++ [41]).length + 3 ≤ 40 * 4 ^ (n + 1) := by
  have pw : 4 ^ (n + 1) = 4 * 4 ^ n := by rw [Nat.pow_succ]; omega
  have one : 1 ≤ 4 ^ n := Nat.pow_pos (by decide)
  have : w.length ≤ 6 := (name_ok hw).2.1
  refine ⟨wt_call hw (Glue.sgn (by decide)) (Glue.both (by decide)) fun p hp' => (hp p hp').wt, ?_⟩
  have hj := joinW_len [44] (B := 40 * 4 ^ n) (zs := ps.map (·.2)) fun z hz => by
    obtain ⟨p, m, rfl⟩ := List.mem_map.mp hz
    exact (hp p m).len
  rw [List.length_map] at hj
  have : ps.length * (40 * 4 ^ n + 1) ≤ 3 * (40 * 4 ^ n + 1) := Nat.mul_le_mul_right _ hn
  have hj2 : (joinW [44] (ps.map Prod.snd)).length ≤ ps.length * (40 * 4 ^ n + 1) := hj
  simp only [List.length_append, List.length_cons, List.length_nil]
  omega
/-- a text leads to its tree -/
theorem Wt.parse {n m : Nat} {t : Tr} {z : List Nat} (h : Wt m 0 t z) (hn : m ≤ 10) (hT : TO n t) (h12 : n ≤ 12) : ∃ s, spl z = some s ∧ Tx m 0 t s ∧ pars s = some (some t) ∧ (∀ u ∈ s, u.ok) := by
  obtain ⟨s, l, x⟩ := h
  have := hT.ht
  have := hT.wd
  exact ⟨s, l.spl, x, pars_tree x (by omega) (by omega) (by omega), x.tok hT.okT⟩
end Xp

/-! k02, the plain law: fixed texts -/
namespace Xp
open PySem PySem.NumText Lg Tok
def okTB : Tk → Bool
  | .w l => !l.isEmpty && (decide (l.length ≤ 6) && l.all fun c => decide (c ∈ letters))
  | .n k => decide (k < 100000)
  | .s l => decide (l.length ≤ 20) && (!decide (34 ∈ l) && l.all fun c => decide (c < 1114112))
  | .g c => decide (c ∈ sgns)
theorem okTB_ok {t : Tk} (h : okTB t = true) : t.ok := by
  cases t with
  | w l =>
    simp only [okTB, Bool.and_eq_true, decide_eq_true_eq, Bool.not_eq_true', List.all_eq_true] at h
    exact ⟨fun z => by rw [z] at h; exact absurd h.1 (by decide), h.2.1, h.2.2⟩
  | n k => have h2 : k < 100000 := of_decide_eq_true h; exact h2
  | s l =>
    simp only [okTB, Bool.and_eq_true, decide_eq_true_eq, Bool.not_eq_true', decide_eq_false_iff_not, List.all_eq_true] at h
    exact ⟨h.1, h.2.1, h.2.2⟩
  | g c => have h2 : c ∈ sgns := of_decide_eq_true h; exact h2
/-- split, and then: no tree, or a tree of this height -/
def fixB (x : List Nat) (p : Option Nat) : Bool := match spl x with
  | none => false
  | some ts => ts.all okTB && decide ((pars ts).map (Option.map Tr.ht) = some p)
structure Fix (x : List Nat) (ts : List Tk) : Prop where
  spl : spl x = some ts
  ok : ∀ u ∈ ts, u.ok
theorem fix_no {x : List Nat} (h : fixB x none = true) : ∃ ts, Fix x ts ∧ pars ts = some none := by
  unfold fixB at h
  split at h
  · cases h
  · rename_i ts e
    rw [Bool.and_eq_true, decide_eq_true_eq, List.all_eq_true] at h
    refine ⟨ts, ⟨e, fun u hu => okTB_ok (h.1 u hu)⟩, ?_⟩
    have h2 := h.2
    cases hp : pars ts with
    | none => rw [hp] at h2; cases h2
    | some o =>
      cases o with
      | none => first | rfl | exact hp
      | some t => rw [hp] at h2; cases h2
theorem fix_ht {x : List Nat} {n : Nat} (h : fixB x (some n) = true) : ∃ ts t, Fix x ts ∧ pars ts = some (some t) ∧ t.ht = n := by
  unfold fixB at h
  split at h
  · cases h
  · rename_i ts e
    rw [Bool.and_eq_true, decide_eq_true_eq, List.all_eq_true] at h
    have h2 := h.2
    cases hp : pars ts with
    | none => rw [hp] at h2; cases h2
    | some o =>
      cases o with
      | none => rw [hp] at h2; cases h2
      | some t =>
        rw [hp] at h2
        refine ⟨ts, t, ⟨e, fun u hu => okTB_ok (h.1 u hu)⟩, hp, ?_⟩
        simpa using h2
def badT : List (List Nat) := [[115, 101, 116, 32, 108, 101, 116, 32, 61, 32, 49], [40, 97, 59, 41], [40, 59, 97, 41], [102, 40, 59, 41], [102, 40, 97, 59, 98], [105, 102, 32, 97, 32, 116, 104, 101, 110, 32, 98], [115, 101, 116, 32, 97], [97, 32, 98],
  [108, 101, 116, 40, 49, 41], [115, 101, 116, 32, 49, 32, 61, 32, 97], [102, 40, 49, 44, 44, 50, 41], [115, 101, 116, 32, 102, 40, 49, 41, 32, 61, 32, 50], [97, 32, 61, 32, 98, 32, 61, 32, 99], [108, 101, 116], [102, 40, 97, 44, 41], [40, 41]]
theorem badT_no : ∀ x ∈ badT, fixB x none = true ∧ x.length ≤ 100 := by decide +kernel
def deepX : List Nat := repL [40] 10 ++ [97] ++ repL [41] 10
theorem deepX_is : fixB deepX (some 1) = true := by decide +kernel
theorem deeper_no : fixB ([40] ++ deepX ++ [41]) none = true := by decide +kernel
theorem calls_is : fixB (repL [102, 40] 10 ++ repL [41] 10) (some 10) = true := by decide +kernel
theorem calls_no : fixB (repL [102, 40] 11 ++ repL [41] 11) none = true := by decide +kernel
def rowX : List Nat := [49] ++ repL [32, 43, 32, 49] 11
theorem rowX_is : fixB rowX (some 12) = true := by decide +kernel
theorem rowX_no : fixB (rowX ++ [32, 43, 32, 49]) none = true := by decide +kernel
theorem pars_nil : pars [] = some none := by rfl
def hiT : Nat → Tr
  | 0 => .nam [97]
  | n + 1 => .op 43 (.num 1) (hiT n)
theorem hiT_ht : ∀ n, (hiT n).ht = n + 1
  | 0 => rfl
  | n + 1 => by rw [hiT, Tr.ht, hiT_ht n]; simp [Tr.ht]; omega
theorem hiT_wd : ∀ n, (hiT n).wd = 0
  | 0 => rfl
  | n + 1 => by rw [hiT, Tr.wd, hiT_wd n]; simp [Tr.wd]
theorem deep_tree : ∃ ts, Fix deepX ts ∧ pars ts = some (some (.nam [97])) := by
  have ht : deepX = [40, 40, 40, 40, 40, 40, 40, 40, 40, 40, 97, 41, 41, 41, 41, 41, 41, 41, 41, 41, 41] := by decide
  have w0 : Wt 0 4 (.nam [97]) [97] := wt_nam (by decide)
  have up : ∀ (n : Nat) (z : List Nat), Wt n 4 (.nam [97]) z → Wt (n + 1) 4 (.nam [97]) (40 :: [] ++ z ++ [41]) := fun n z h => wt_par (b := []) (.inl rfl) (h.ups (by omega))
  have w10 := up _ _ (up _ _ (up _ _ (up _ _ (up _ _ (up _ _ (up _ _ (up _ _ (up _ _ (up _ _ w0)))))))))
  obtain ⟨s, h1, h2, h3, h4⟩ := (w10.ups (Nat.zero_le 4)).parse (n := 1) (by decide) (.nam (by decide)) (by decide)
  exact ⟨s, ⟨by rw [ht]; exact h1, h4⟩, h3⟩
theorem asc_nil : Asc [] := fun c h => by cases h
theorem asc_cons {c : Nat} {l : List Nat} (h : c < 1114112) (hl : Asc l) : Asc (c :: l) := fun x hx => by
  rcases List.mem_cons.mp hx with rfl | hx
  · exact h
  · exact hl x hx
theorem asc_app {l m : List Nat} (hl : Asc l) (hm : Asc m) : Asc (l ++ m) := fun x hx => (List.mem_append.mp hx).elim (hl x) (hm x)
theorem asc_par {b : Bool} {l : List Nat} (hl : Asc l) : Asc (par b l) := by
  unfold par
  split
  · exact asc_app (asc_cons (by decide) hl) (asc_of (by decide))
  · exact hl
theorem asc_join {x : List Nat} (hx : Asc x) : ∀ {zs : List (List Nat)}, (∀ z ∈ zs, Asc z) → Asc (joinW x zs)
  | [], _ => asc_nil
  | [z], h => h z (.head _)
  | z :: y :: r, h => asc_app (asc_app (h z (.head _)) hx) (asc_join hx fun w hw => h w (.tail _ hw))
theorem asc_dg (n : Nat) : Asc (dg n) := fun c hc => by
  have := dg_digits n c hc
  omega
theorem TO.asc {n : Nat} {t : Tr} (h : TO n t) : ∀ m, Asc (t.tx m) := by
  induction h with
  | num h => intro m; rw [Tr.tx]; exact asc_dg _
  | str h => intro m; rw [Tr.tx]; exact asc_app (asc_cons (by decide) h.2.2) (asc_of (by decide))
  | nam h => intro m; rw [Tr.tx]; exact (asc_word h).1
  | @op n c l r h _ _ i1 i2 =>
    intro m
    rw [Tr.tx]
    refine asc_app (asc_app (asc_par (i1 false)) (asc_cons (by decide) (asc_cons ?_ (asc_of (by decide))))) (asc_par (i2 false))
    simp at h
    omega
  | ite _ _ _ i1 i2 i3 => intro m; rw [Tr.tx]; exact asc_app (asc_app (asc_app (asc_app (asc_app (asc_of (by decide)) (i1 false)) (asc_of (by decide))) (i2 false)) (asc_of (by decide))) (i3 false)
  | set h _ i => intro m; rw [Tr.tx]; exact asc_app (asc_app (asc_app (asc_of (by decide)) (asc_word h).1) (asc_of (by decide))) (i false)
  | thn _ _ i1 i2 => intro m; rw [Tr.tx]; exact asc_par (asc_app (asc_app (i1 false) (asc_of (by decide))) (i2 true))
  | call h hn _ i =>
    intro m
    rw [Tr.tx, txs_eq]
    refine asc_app (asc_app (asc_app (asc_word h).1 (asc_of (by decide))) (asc_join (asc_of (by decide)) fun z hz => ?_)) (asc_of (by decide))
    obtain ⟨t, ht, rfl⟩ := List.mem_map.mp hz
    exact i t ht false
end Xp

/-! k03, the plain law: lines, their texts with any glue, their reading -/
namespace Xp
open PySem PySem.NumText Lg Tok
/-! ### texts with any glue between the items of a list -/
mutual
def Tr.tg (g : List Nat) : Bool → Tr → List Nat
  | _, .num k => dg k
  | _, .str z => 34 :: z ++ [34]
  | _, .nam z => z
  | _, .op c l r => par (decide (l.lvl < lef c)) (Tr.tg g false l) ++ [32, c, 32] ++ par (decide (r.lvl < opl c + 1)) (Tr.tg g false r)
  | _, .ite a b c => [105, 102, 32] ++ Tr.tg g false a ++ [32, 116, 104, 101, 110, 32] ++ Tr.tg g false b ++ [32, 101, 108, 115, 101, 32] ++ Tr.tg g false c
  | _, .set z e => [115, 101, 116, 32] ++ z ++ [32, 61, 32] ++ Tr.tg g false e
  | m, .thn a b => par (!m) (Tr.tg g false a ++ [59, 32] ++ Tr.tg g true b)
  | _, .call z ts => z ++ [40] ++ joinW g (Tr.tgs g ts) ++ [41]
def Tr.tgs (g : List Nat) : List Tr → List (List Nat)
  | [] => []
  | t :: r => Tr.tg g false t :: Tr.tgs g r
end
theorem tgs_eq (g : List Nat) : ∀ ts : List Tr, Tr.tgs g ts = ts.map (Tr.tg g false)
  | [] => by simp [Tr.tgs]
  | t :: r => by simp [Tr.tgs, tgs_eq g r]
mutual
theorem tg_tx : ∀ (m : Bool) (t : Tr), Tr.tg [44, 32] m t = Tr.tx m t
  | _, .num k => by simp [Tr.tg, Tr.tx]
  | _, .str z => by simp [Tr.tg, Tr.tx]
  | _, .nam z => by simp [Tr.tg, Tr.tx]
  | _, .op c l r => by simp [Tr.tg, Tr.tx, tg_tx false l, tg_tx false r]
  | _, .ite a b c => by simp [Tr.tg, Tr.tx, tg_tx false a, tg_tx false b, tg_tx false c]
  | _, .set z e => by simp [Tr.tg, Tr.tx, tg_tx false e]
  | m, .thn a b => by simp [Tr.tg, Tr.tx, tg_tx false a, tg_tx true b]
  | _, .call z ts => by simp [Tr.tg, Tr.tx, tgs_tx ts]
theorem tgs_tx : ∀ ts : List Tr, Tr.tgs [44, 32] ts = Tr.txs ts
  | [] => by simp [Tr.tgs, Tr.txs]
  | t :: r => by simp [Tr.tgs, Tr.txs, tg_tx false t, tgs_tx r]
end
/-- the canonical texts, with a glue -/
theorem TO.cang {n : Nat} {t : Tr} {g : List Nat} (G : Glue 44 g) (hg : g.length ≤ 3) (h : TO n t) : (Wt (2 * n) t.lvl t (t.tg g false) ∧ (t.tg g false).length ≤ 40 * 4 ^ n) ∧
    ∃ ps : List (Tr × List Nat), ps ≠ [] ∧ seqT (ps.map (·.1)) = t ∧ t.tg g true = joinW [59, 32] (ps.map (·.2)) ∧ (∀ p ∈ ps, Wt (2 * n) 0 p.1 p.2) ∧ (t.tg g true).length ≤ 40 * 4 ^ n := by
  induction h with
  | @num n k h =>
    have hd : (dg k).length ≤ 5 := dg_len (by decide) h
    have : 1 ≤ 4 ^ (n + 1) := Nat.pow_pos (by decide)
    refine ⟨⟨by rw [Tr.tg]; exact wt_num h, by rw [Tr.tg]; omega⟩, [(.num k, dg k)], by simp, rfl, by simp [Tr.tg, joinW], ?_, by rw [Tr.tg]; omega⟩
    intro p hp
    rcases List.mem_singleton.mp hp with rfl
    exact (wt_num h).ups (by omega)
  | @str n z h =>
    have hd : z.length ≤ 20 := h.1
    have : 1 ≤ 4 ^ (n + 1) := Nat.pow_pos (by decide)
    refine ⟨⟨by rw [Tr.tg]; exact wt_str h, by rw [Tr.tg]; simp; omega⟩, [(.str z, 34 :: z ++ [34])], by simp, rfl, by simp [Tr.tg, joinW], ?_, by rw [Tr.tg]; simp; omega⟩
    intro p hp
    rcases List.mem_singleton.mp hp with rfl
    exact (wt_str h).ups (by omega)
  | @nam n z h =>
    have hd : z.length ≤ 6 := (name_ok h).2.1
    have : 1 ≤ 4 ^ (n + 1) := Nat.pow_pos (by decide)
    refine ⟨⟨by rw [Tr.tg]; exact wt_nam h, by rw [Tr.tg]; omega⟩, [(.nam z, z)], by simp, rfl, by simp [Tr.tg, joinW], ?_, by rw [Tr.tg]; omega⟩
    intro p hp
    rcases List.mem_singleton.mp hp with rfl
    exact (wt_nam h).ups (by omega)
  | @op n c l r h hl hr il ir =>
    have e4 : 4 ^ (n + 1) = 4 * 4 ^ n := by rw [Nat.pow_succ]; omega
    have hc : c ∈ sgns := by revert h; simp [sgns]; rintro (rfl | rfl | rfl | rfl | rfl) <;> simp
    have w : Wt (2 * (n + 1)) (opl c) (.op c l r) (Tr.tg g false (.op c l r)) := by
      rw [Tr.tg]
      refine (wt_op h (Glue.both hc) (wt_lvl il.1.1 (by have := lef_le c; omega)) (wt_lvl ir.1.1 (by have := opl_le c; omega))).wks (by omega)
    have hlen : ∀ m, (Tr.tg g m (.op c l r)).length ≤ 40 * 4 ^ (n + 1) := by
      intro m
      rw [Tr.tg]
      have a1 := par_len (decide (l.lvl < lef c)) (l.tg g false)
      have a2 := par_len (decide (r.lvl < opl c + 1)) (r.tg g false)
      have := il.1.2
      have := ir.1.2
      have : 1 ≤ 4 ^ n := Nat.pow_pos (by decide)
      simp only [List.length_append, List.length_cons, List.length_nil]
      omega
    refine ⟨⟨w, hlen _⟩, [(_, Tr.tg g false (.op c l r))], by simp, rfl, by simp [Tr.tg, joinW], ?_, hlen _⟩
    intro p hp
    rcases List.mem_singleton.mp hp with rfl
    exact w.ups (by omega)
  | @ite n a b c ha hb hc ia ib ic =>
    have e4 : 4 ^ (n + 1) = 4 * 4 ^ n := by rw [Nat.pow_succ]; omega
    have w : Wt (2 * (n + 1)) 0 (.ite a b c) (Tr.tg g false (.ite a b c)) := by
      rw [Tr.tg]
      exact (wt_ite (ia.1.1.ups (by omega)) (ib.1.1.ups (by omega)) (ic.1.1.ups (by omega))).wks (by omega)
    have hlen : ∀ m, (Tr.tg g m (.ite a b c)).length ≤ 40 * 4 ^ (n + 1) := by
      intro m
      rw [Tr.tg]
      have := ia.1.2
      have := ib.1.2
      have := ic.1.2
      have : 1 ≤ 4 ^ n := Nat.pow_pos (by decide)
      simp only [List.length_append, List.length_cons, List.length_nil]
      omega
    refine ⟨⟨w, hlen _⟩, [(_, Tr.tg g false (.ite a b c))], by simp, rfl, by simp [Tr.tg, joinW], ?_, hlen _⟩
    intro p hp
    rcases List.mem_singleton.mp hp with rfl
    exact w.ups (by omega)
  | @set n z e h he ih =>
    have e4 : 4 ^ (n + 1) = 4 * 4 ^ n := by rw [Nat.pow_succ]; omega
    have hd : z.length ≤ 6 := (name_ok h).2.1
    have w : Wt (2 * (n + 1)) 0 (.set z e) (Tr.tg g false (.set z e)) := by
      rw [Tr.tg]
      exact (wt_set h (Glue.both (by decide)) (ih.1.1.ups (by omega))).wks (by omega)
    have hlen : ∀ m, (Tr.tg g m (.set z e)).length ≤ 40 * 4 ^ (n + 1) := by
      intro m
      rw [Tr.tg]
      have := ih.1.2
      have : 1 ≤ 4 ^ n := Nat.pow_pos (by decide)
      simp only [List.length_append, List.length_cons, List.length_nil]
      omega
    refine ⟨⟨w, hlen _⟩, [(_, Tr.tg g false (.set z e))], by simp, rfl, by simp [Tr.tg, joinW], ?_, hlen _⟩
    intro p hp
    rcases List.mem_singleton.mp hp with rfl
    exact w.ups (by omega)
  | @thn n a b ha hb ia ib =>
    have e4 : 4 ^ (n + 1) = 4 * 4 ^ n := by rw [Nat.pow_succ]; omega
    obtain ⟨ps, p1, p2, p3, p4, p5⟩ := ib.2
    have hp : ∀ p ∈ (a, a.tg g false) :: ps, Wt (2 * n) 0 p.1 p.2 := fun p hp => by
      rcases List.mem_cons.mp hp with rfl | hp
      · exact ia.1.1.ups (by omega)
      · exact p4 p hp
    have ej : Tr.tg g true (.thn a b) = joinW [59, 32] (((a, a.tg g false) :: ps).map (·.2)) := by
      rw [Tr.tg, p3]
      cases ps with
      | nil => exact absurd rfl p1
      | cons p ps => simp [par, joinW]
    have ef : Tr.tg g false (.thn a b) = 40 :: [] ++ joinW [59, 32] (((a, a.tg g false) :: ps).map (·.2)) ++ [41] := by
      rw [← ej, Tr.tg, Tr.tg]
      simp [par]
    have es : seqT (((a, a.tg g false) :: ps).map (·.1)) = .thn a b := by
      rw [List.map_cons, seqT_cons _ (by simpa using p1), p2]
    have w : Wt (2 * n + 1) 4 (.thn a b) (Tr.tg g false (.thn a b)) := by
      rw [ef]
      have := wt_seq (b := []) (Glue.after (by decide)) (.inl rfl) (ps := (a, a.tg g false) :: ps) (by simp) hp
      rw [es] at this
      exact this
    have hlen : ∀ m, (Tr.tg g m (.thn a b)).length ≤ 40 * 4 ^ (n + 1) := by
      intro m
      rw [Tr.tg]
      have := par_len (!m) (a.tg g false ++ [59, 32] ++ b.tg g true)
      have := ia.1.2
      have : 1 ≤ 4 ^ n := Nat.pow_pos (by decide)
      simp only [List.length_append, List.length_cons, List.length_nil] at *
      omega
    refine ⟨⟨w.wks (by omega), hlen _⟩, (a, a.tg g false) :: ps, by simp, es, ej, fun p m => (hp p m).wks (by omega), hlen _⟩
  | @call n z ts h hn ht ih =>
    have e4 : 4 ^ (n + 1) = 4 * 4 ^ n := by rw [Nat.pow_succ]; omega
    have hd : z.length ≤ 6 := (name_ok h).2.1
    have ej : Tr.tgs g ts = (ts.map fun t => (t, t.tg g false)).map (·.2) := by rw [tgs_eq]; simp
    have e1 : (ts.map fun t => (t, t.tg g false)).map (·.1) = ts := by rw [List.map_map]; exact List.map_id' ts
    have w : Wt (2 * (n + 1)) 4 (.call z ts) (Tr.tg g false (.call z ts)) := by
      rw [Tr.tg, ej]
      have := wt_call h G (Glue.sgn (c := 40) (by decide)) (ps := ts.map fun t => (t, t.tg g false)) (n := 2 * n) fun p hp => by
        obtain ⟨t, m, rfl⟩ := List.mem_map.mp hp
        exact (ih t m).1.1.ups (by omega)
      rw [e1] at this
      exact this.wks (by omega)
    have hlen : ∀ m, (Tr.tg g m (.call z ts)).length ≤ 40 * 4 ^ (n + 1) := by
      intro m
      rw [Tr.tg, tgs_eq]
      have hj : (joinW g (ts.map (Tr.tg g false))).length ≤ (ts.map (Tr.tg g false)).length * (40 * 4 ^ n + g.length) := joinW_len g (B := 40 * 4 ^ n) (zs := ts.map (Tr.tg g false)) fun z hz => by
        obtain ⟨t, m, rfl⟩ := List.mem_map.mp hz
        exact (ih t m).1.2
      rw [List.length_map] at hj
      have : ts.length * (40 * 4 ^ n + g.length) ≤ 3 * (40 * 4 ^ n + g.length) := Nat.mul_le_mul_right _ hn
      have : 1 ≤ 4 ^ n := Nat.pow_pos (by decide)
      simp only [List.length_append, List.length_cons, List.length_nil] at *
      omega
    refine ⟨⟨w, hlen _⟩, [(_, Tr.tg g false (.call z ts))], by simp, rfl, by simp [Tr.tg, joinW], ?_, hlen _⟩
    intro p hp
    rcases List.mem_singleton.mp hp with rfl
    exact w.ups (by omega)
/-! ### lines -/
abbrev zimport : List Nat := [105, 109, 112, 111, 114, 116]
abbrev zexport : List Nat := [101, 120, 112, 111, 114, 116]
abbrev zlet : List Nat := [108, 101, 116]
abbrev zkeep : List Nat := [107, 101, 101, 112]
abbrev zfn : List Nat := [102, 110]
abbrev zdo : List Nat := [100, 111]
abbrev zhold : List Nat := [104, 111, 108, 100]
abbrev zas : List Nat := [97, 115]
abbrev zfrom : List Nat := [102, 114, 111, 109]
abbrev zline : List Nat := [108, 105, 110, 101]
abbrev zmodule : List Nat := [109, 111, 100, 117, 108, 101]
abbrev Nm := List Nat
inductive Ln where
  | nms (ex : Bool) (ps : List (Nm × Nm)) (m : Nm)
  | var (kp : Bool) (x : Nm) (t : Tr)
  | fn (f : Nm) (ps : List Nm) (t : Tr)
  | run (hd : Bool) (t : Tr)
def Ln.w : Ln → Nm
  | .nms ex _ _ => if ex then zexport else zimport
  | .var kp _ _ => if kp then zkeep else zlet
  | .fn _ _ _ => zfn
  | .run hd _ => if hd then zhold else zdo
abbrev smD (z : Nm) : PyData := .str (S z)
def prD (p : Nm × Nm) : PyData := .tuple [smD p.1, smD p.2]
def Ln.d : Ln → PyData
  | .nms ex ps m => .tuple [smD (if ex then zexport else zimport), .tuple (ps.map prD), smD m]
  | .var kp x t => .tuple [smD (if kp then zkeep else zlet), smD x, t.d]
  | .fn f ps t => .tuple [smD zfn, smD f, .tuple (ps.map smD), t.d]
  | .run hd t => .tuple [smD (if hd then zhold else zdo), t.d]
/-- the names that it makes available; that it exports -/
def Ln.av : Ln → List Nm
  | .nms ex ps _ => if ex then [] else ps.map Prod.snd
  | .var _ x _ => [x]
  | .fn f _ _ => [f]
  | .run _ _ => []
def Ln.ex : Ln → List Nm
  | .nms ex ps _ => if ex then ps.map Prod.snd else []
  | .var _ x _ => [x]
  | .fn f _ _ => [f]
  | .run _ _ => []
def ptx (p : Nm × Nm) : List Nat := if p.1 = p.2 then p.1 else p.1 ++ [32, 97, 115, 32] ++ p.2
def Ln.tg (g : List Nat) : Ln → List Nat
  | .nms ex ps m => (if ex then zexport else zimport) ++ [32] ++ joinW g (ps.map ptx) ++ [32, 102, 114, 111, 109, 32] ++ m
  | .var kp x t => (if kp then zkeep else zlet) ++ [32] ++ x ++ [32, 61, 32] ++ t.tg g false
  | .fn f ps t => [102, 110, 32] ++ f ++ [40] ++ joinW g ps ++ [41, 32, 61, 32] ++ t.tg g false
  | .run hd t => (if hd then zhold else zdo) ++ [32] ++ t.tg g false
abbrev Ln.tx (l : Ln) : List Nat := l.tg [44, 32]
structure NmOk (p : Nm × Nm) : Prop where
  a : isName p.1 = true
  b : isName p.2 = true
/-- lines as they are drawn -/
def Ln.ok : Ln → Prop
  | .nms _ ps m => (∀ p ∈ ps, NmOk p) ∧ ps ≠ [] ∧ ps.length ≤ 3 ∧ isName m = true
  | .var _ x t => isName x = true ∧ TO 3 t
  | .fn f ps t => isName f = true ∧ (∀ p ∈ ps, isName p = true) ∧ ps.length ≤ 3 ∧ ps.Nodup ∧ TO 3 t
  | .run _ t => TO 3 t
/-! ### reading lines -/
def nameAt (ts : List Tk) (i : Nat) : Option Nm := match ts[i]? with
  | some (.w z) => if isName z then some z else none
  | _ => none
def parsePair (ts : List Tk) : Option (Nm × Nm) := match nameAt ts 0 with
  | none => none
  | some a => if ts.length = 1 then some (a, a) else if ts.length = 3 ∧ ts[1]? = some (.w zas) then (nameAt ts 2).map fun b => (a, b) else none
def pstep (a : List (List Tk) × List Tk) (t : Tk) : List (List Tk) × List Tk := if t = .g 44 then (a.1 ++ [a.2], []) else (a.1, a.2 ++ [t])
def partsP (ts : List Tk) : List (List Tk) × List Tk := ts.foldl pstep ([], [])
def partsOf (ts : List Tk) : List (List Tk) := (partsP ts).1 ++ [(partsP ts).2]
def allSome {α : Type} : List (Option α) → Option (List α)
  | [] => some []
  | none :: _ => none
  | some a :: r => (allSome r).map (a :: ·)
def parseNames (ex : Bool) (ts : List Tk) : Option Ln :=
  if ts.length < 3 ∨ ts[ts.length - 2]? ≠ some (.w zfrom) then none
  else match nameAt ts (ts.length - 1) with
    | none => none
    | some m => (allSome ((partsOf (ts.take (ts.length - 2))).map parsePair)).map fun ps => .nms ex ps m
def parseVar (kp : Bool) (ts : List Tk) : Option (Option Ln) := match nameAt ts 0 with
  | none => some none
  | some x => if ts.length < 3 ∨ ts[1]? ≠ some (.g 61) then some none else (pars (ts.drop 2)).map fun o => o.map fun t => .var kp x t
def parseParams (ts : List Tk) : Option (List Nm) :=
  if ts = [] then some [] else (allSome ((partsOf ts).map fun p => if p.length = 1 then nameAt p 0 else none)).bind fun ns => if ns.Nodup then some ns else none
def idx41 (ts : List Tk) : Nat := (ts.takeWhile (· ≠ .g 41)).length
def parseFn (ts : List Tk) : Option (Option Ln) := match nameAt ts 0 with
  | none => some none
  | some f => if ts.length < 2 ∨ ts[1]? ≠ some (.g 40) ∨ .g 41 ∉ ts then some none
    else match parseParams ((ts.drop 2).take (idx41 ts - 2)) with
      | none => some none
      | some ps => if ts[idx41 ts + 1]? ≠ some (.g 61) then some none else (pars (ts.drop (idx41 ts + 2))).map fun o => o.map fun t => .fn f ps t
def parseL (ts : List Tk) : Option (Option Ln) := match ts with
  | .w z :: r => if z = zimport then some (parseNames false r) else if z = zexport then some (parseNames true r) else if z = zlet then parseVar false r else if z = zkeep then parseVar true r
    else if z = zfn then parseFn r else if z = zdo then (pars r).map fun o => o.map fun t => .run false t else if z = zhold then (pars r).map fun o => o.map fun t => .run true t else some none
  | _ => some none
/-! ### reading modules -/
inductive Rw where
  | bad | blank | line (l : Ln)
def rowOf (x : List Nat) : Option Rw := match spl x with
  | none => some .bad
  | some ts => if ts = [] then some .blank else match parseL ts with
    | none => none
    | some none => some .bad
    | some (some l) => some (.line l)
def addOk (n : List Nm) : List Nm → Bool
  | [] => true
  | x :: r => if x ∈ n then false else addOk (n ++ [x]) r
theorem addOk_iff : ∀ {n more : List Nm}, n.Nodup → (addOk n more = true ↔ (n ++ more).Nodup)
  | n, [], h => by simp [addOk, h]
  | n, x :: r, h => by
    rw [addOk]
    by_cases hx : x ∈ n
    · rw [if_pos hx]
      refine ⟨fun e => (by cases e), fun e => ?_⟩
      rw [List.nodup_append] at e
      exact absurd rfl (e.2.2 x hx x (.head _))
    · rw [if_neg hx]
      have h2 : (n ++ [x]).Nodup := by
        rw [List.nodup_append]
        exact ⟨h, by simp, fun a ha b hb => by rw [List.mem_singleton.mp hb]; exact fun e => hx (e ▸ ha)⟩
      rw [addOk_iff h2]
      simp
inductive Pm where
  | line (k : Nat) | mod (ls : List Ln)
def Pm.d : Pm → PyData
  | .line k => .tuple [smD zline, .int (k : Nat)]
  | .mod ls => .tuple [smD zmodule, .tuple (ls.map Ln.d)]
def modGo : Nat → List Ln → List Nm → List Nm → List (List Nat) → Option Pm
  | _, ls, _, _, [] => some (.mod ls)
  | k, ls, av, ex, x :: r => match rowOf x with
    | none => none
    | some .bad => some (.line (k + 1))
    | some .blank => modGo (k + 1) ls av ex r
    | some (.line l) => if ls.length = 12 then some (.line (k + 1)) else if (addOk av l.av && addOk ex l.ex) = true then modGo (k + 1) (ls ++ [l]) (av ++ l.av) (ex ++ l.ex) r else some (.line (k + 1))
def modOf (x : List Nat) : Option Pm := modGo 0 [] [] [] (spM 10 (x.length + 1) x)
end Xp

/-! k03, the plain law: another glue put into a line's text; the tokens of lines; lines read -/
namespace Xp
open PySem PySem.NumText Lg Tok
/-! ### the glue replaced -/
def RepTo (g a b : List Nat) : Prop := ∀ Y, StrLaws.replL [44, 32] g (a ++ Y) = b ++ StrLaws.replL [44, 32] g Y
theorem RepTo.app {g a b c d : List Nat} (h : RepTo g a b) (k : RepTo g c d) : RepTo g (a ++ c) (b ++ d) := fun Y => by
  rw [List.append_assoc, h, k, List.append_assoc]
theorem RepTo.nil {g : List Nat} : RepTo g [] [] := fun Y => rfl
theorem RepTo.free {g : List Nat} : ∀ {a : List Nat}, 44 ∉ a → RepTo g a a
  | [], _ => .nil
  | c :: a, h => fun Y => by
    have hc : c ≠ 44 := fun e => h (by rw [e]; exact .head _)
    rw [List.cons_append, StrLaws.replL_miss (by simp [List.take]; intro e; exact absurd e hc), RepTo.free (fun m => h (.tail _ m)) Y]
    rfl
theorem RepTo.hit {g : List Nat} : RepTo g [44, 32] g := fun Y => by
  show StrLaws.replL [44, 32] g (44 :: 32 :: Y) = _
  rw [StrLaws.replL_hit (by simp) (by simp)]
  rfl
theorem RepTo.all {g a b : List Nat} (h : RepTo g a b) : StrLaws.replL [44, 32] g a = b := by
  have := h []
  rw [List.append_nil, StrLaws.replL_nil, List.append_nil] at this
  exact this
theorem RepTo.par {g a b : List Nat} (q : Bool) (h : RepTo g a b) : RepTo g (par q a) (par q b) := by
  cases q with
  | false => exact h
  | true => exact ((RepTo.free (a := [40]) (by decide)).app h).app (.free (a := [41]) (by decide))
theorem RepTo.join {g : List Nat} : ∀ {ps : List (List Nat × List Nat)}, (∀ p ∈ ps, RepTo g p.1 p.2) → RepTo g (joinW [44, 32] (ps.map (·.1))) (joinW g (ps.map (·.2)))
  | [], _ => .nil
  | [p], h => h p (.head _)
  | p :: q :: r, h => by
    have := (RepTo.join (ps := q :: r) fun p hp => h p (.tail _ hp))
    have h2 := ((h p (.head _)).app .hit).app this
    simpa [joinW] using h2
/-! no comma in the strings -/
mutual
def Tr.nc : Tr → Prop
  | .num _ => True
  | .str z => 44 ∉ z ∧ 10 ∉ z
  | .nam z => isName z = true
  | .op c l r => c ∈ [43, 45, 42, 60, 61] ∧ l.nc ∧ r.nc
  | .ite a b c => a.nc ∧ b.nc ∧ c.nc
  | .set z e => isName z = true ∧ e.nc
  | .thn a b => a.nc ∧ b.nc
  | .call z ts => isName z = true ∧ Tr.ncs ts
def Tr.ncs : List Tr → Prop
  | [] => True
  | t :: r => t.nc ∧ Tr.ncs r
end
theorem ncs_all : ∀ {ts : List Tr}, Tr.ncs ts ↔ ∀ t ∈ ts, t.nc
  | [] => by simp [Tr.ncs]
  | t :: r => by simp [Tr.ncs, ncs_all (ts := r)]
theorem free_name {z : List Nat} (h : isName z = true) : 44 ∉ z := fun m => by
  have := (name_ok h).2.2 44 m
  exact absurd this (by decide)
theorem free_dg (k : Nat) : 44 ∉ dg k := fun m => by
  have h2 := dg_digits k 44 m
  omega
mutual
theorem rep_tx (g : List Nat) : ∀ (m : Bool) (t : Tr), t.nc → RepTo g (t.tx m) (t.tg g m)
  | _, .num k, _ => by rw [Tr.tx, Tr.tg]; exact .free (free_dg k)
  | _, .str z, h => by
    rw [Tr.nc] at h
    rw [Tr.tx, Tr.tg]
    exact .free (by simp; exact h.1)
  | _, .nam z, h => by
    rw [Tr.nc] at h
    rw [Tr.tx, Tr.tg]
    exact .free (free_name h)
  | _, .op c l r, h => by
    rw [Tr.nc] at h
    have hc : 44 ∉ [32, c, 32] := by
      have := h.1
      simp at this ⊢
      omega
    rw [Tr.tx, Tr.tg]
    exact ((RepTo.par _ (rep_tx g false l h.2.1)).app (.free hc)).app (RepTo.par _ (rep_tx g false r h.2.2))
  | _, .ite a b c, h => by
    rw [Tr.nc] at h
    rw [Tr.tx, Tr.tg]
    exact (((((RepTo.free (by decide)).app (rep_tx g false a h.1)).app (.free (by decide))).app (rep_tx g false b h.2.1)).app (.free (by decide))).app (rep_tx g false c h.2.2)
  | _, .set z e, h => by
    rw [Tr.nc] at h
    rw [Tr.tx, Tr.tg]
    exact (((RepTo.free (by decide)).app (.free (free_name h.1))).app (.free (by decide))).app (rep_tx g false e h.2)
  | m, .thn a b, h => by
    rw [Tr.nc] at h
    rw [Tr.tx, Tr.tg]
    exact RepTo.par _ (((rep_tx g false a h.1).app (.free (by decide))).app (rep_tx g true b h.2))
  | _, .call z ts, h => by
    rw [Tr.nc] at h
    rw [Tr.tx, Tr.tg]
    obtain ⟨ps, e1, e2, e3⟩ := rep_txs g ts h.2
    rw [← e1, ← e2]
    exact (((RepTo.free (free_name h.1)).app (.free (by decide))).app (RepTo.join e3)).app (.free (by decide))
theorem rep_txs (g : List Nat) : ∀ ts : List Tr, Tr.ncs ts → ∃ ps : List (List Nat × List Nat), ps.map (·.1) = Tr.txs ts ∧ ps.map (·.2) = Tr.tgs g ts ∧ ∀ p ∈ ps, RepTo g p.1 p.2
  | [], _ => ⟨[], by simp [Tr.txs], by simp [Tr.tgs], by simp⟩
  | t :: r, h => by
    rw [Tr.ncs] at h
    obtain ⟨ps, e1, e2, e3⟩ := rep_txs g r h.2
    refine ⟨(t.tx false, t.tg g false) :: ps, by simp [Tr.txs, e1], by simp [Tr.tgs, e2], fun p hp => ?_⟩
    rcases List.mem_cons.mp hp with rfl | hp
    · exact rep_tx g false t h.1
    · exact e3 p hp
end
def Ln.nc : Ln → Prop
  | .nms _ _ _ => True
  | .var _ _ t => t.nc
  | .fn _ _ t => t.nc
  | .run _ t => t.nc
theorem free_ptx {p : Nm × Nm} (h : NmOk p) : 44 ∉ ptx p := by
  have h1 := free_name h.a
  have h2 := free_name h.b
  unfold ptx
  split
  · exact h1
  · simp; exact ⟨h1, h2⟩
theorem rep_ln (g : List Nat) {l : Ln} (h : l.ok) (hn : l.nc) : StrLaws.replL [44, 32] g l.tx = l.tg g := by
  apply RepTo.all
  have kw : ∀ (b : Bool) (x y : List Nat), 44 ∉ x → 44 ∉ y → RepTo g (if b then x else y) (if b then x else y) := fun b x y hx hy => by
    cases b
    · exact .free hy
    · exact .free hx
  cases l with
  | nms ex ps m =>
    have e : ∀ w : List Nat, joinW w (ps.map ptx) = joinW w ((ps.map fun p => (ptx p, ptx p)).map (·.1)) := fun w => by rw [List.map_map]; rfl
    have e2 : ∀ w : List Nat, joinW w (ps.map ptx) = joinW w ((ps.map fun p => (ptx p, ptx p)).map (·.2)) := fun w => by rw [List.map_map]; rfl
    show RepTo g (_ ++ [32] ++ joinW [44, 32] (ps.map ptx) ++ [32, 102, 114, 111, 109, 32] ++ m) (_ ++ [32] ++ joinW g (ps.map ptx) ++ [32, 102, 114, 111, 109, 32] ++ m)
    rw [e, e2 g]
    refine ((((kw ex _ _ (by decide) (by decide)).app (.free (by decide))).app (RepTo.join fun p hp => ?_)).app (.free (by decide))).app (.free (free_name h.2.2.2))
    obtain ⟨q, hq, rfl⟩ := List.mem_map.mp hp
    exact .free (free_ptx (h.1 q hq))
  | var kp x t =>
    show RepTo g (_ ++ [32] ++ x ++ [32, 61, 32] ++ t.tg [44, 32] false) (_ ++ [32] ++ x ++ [32, 61, 32] ++ t.tg g false)
    rw [tg_tx]
    exact ((((kw kp _ _ (by decide) (by decide)).app (.free (by decide))).app (.free (free_name h.1))).app (.free (by decide))).app (rep_tx g false t hn)
  | fn f ps t =>
    have e : ∀ w : List Nat, joinW w ps = joinW w ((ps.map fun p => (p, p)).map (·.1)) := fun w => by rw [List.map_map]; exact congrArg _ (List.map_id' ps).symm
    have e2 : ∀ w : List Nat, joinW w ps = joinW w ((ps.map fun p => (p, p)).map (·.2)) := fun w => by rw [List.map_map]; exact congrArg _ (List.map_id' ps).symm
    show RepTo g ([102, 110, 32] ++ f ++ [40] ++ joinW [44, 32] ps ++ [41, 32, 61, 32] ++ t.tg [44, 32] false) ([102, 110, 32] ++ f ++ [40] ++ joinW g ps ++ [41, 32, 61, 32] ++ t.tg g false)
    rw [tg_tx, e, e2 g]
    refine (((((RepTo.free (by decide)).app (.free (free_name h.1))).app (.free (by decide))).app (RepTo.join fun p hp => ?_)).app (.free (by decide))).app (rep_tx g false t hn)
    obtain ⟨q, hq, rfl⟩ := List.mem_map.mp hp
    exact .free (free_name (h.2.1 q hq))
  | run hd t =>
    show RepTo g (_ ++ [32] ++ t.tg [44, 32] false) (_ ++ [32] ++ t.tg g false)
    rw [tg_tx]
    exact ((kw hd _ _ (by decide) (by decide)).app (.free (by decide))).app (rep_tx g false t hn)
/-! ### tokens of lines -/
theorem lex_join {c : Nat} {x : List Nat} (G : Glue c x) : ∀ {ps : List (List Nat × List Tk)}, (∀ p ∈ ps, LexD p.1 p.2) → LexD (joinW x (ps.map (·.1))) (sepT c (ps.map (·.2)))
  | [], _ => fun Y _ => by cases h : spl Y <;> simp [joinW, sepT, h]
  | [p], h => h p (.head _)
  | p :: q :: r, h => by
    have h2 := lex_join G (ps := q :: r) fun p hp => h p (.tail _ hp)
    have := ((h p (.head _)).appF G.lex G.ne G.sep).appD h2
    simpa [joinW, sepT] using this
abbrev kwB (b : Bool) (x y : List Nat) : List Nat := if b then x else y
theorem lex_kw (b : Bool) {x y : List Nat} (hx : Tk.ok (.w x)) (hy : Tk.ok (.w y)) : LexF (kwB b x y ++ [32]) [.w (kwB b x y)] := by
  cases b
  · exact LexF.word hy
  · exact LexF.word hx
theorem ok_w {z : List Nat} (h : (decide (1 ≤ z.length ∧ z.length ≤ 6) && z.all (fun c => decide (c ∈ letters))) = true) : Tk.ok (.w z) := by
  simp only [Bool.and_eq_true, decide_eq_true_eq, List.all_eq_true] at h
  exact ⟨fun e => by rw [e] at h; simp at h, h.1.2, h.2⟩
def pTk (p : Nm × Nm) : List Tk := if p.1 = p.2 then [.w p.1] else [.w p.1, .w zas, .w p.2]
theorem lex_ptx {p : Nm × Nm} (h : NmOk p) : LexD (ptx p) (pTk p) := by
  unfold ptx pTk
  split
  · exact LexD.tok (t := .w p.1) (name_ok h.a)
  · have h1 := (LexD.tok (t := .w p.1) (name_ok h.a)).appF (LexF.bl.app (LexF.word (z := zas) (ok_w (by decide)))) (by simp) (fun c e => by cases e; decide)
    have := h1.appD (LexD.tok (t := .w p.2) (name_ok h.b))
    simpa [Tk.sp] using this
def Ln.tk : Ln → List Tk → List Tk
  | .nms ex ps m, _ => .w (kwB ex zexport zimport) :: (sepT 44 (ps.map pTk) ++ [.w zfrom, .w m])
  | .var kp x _, s => .w (kwB kp zkeep zlet) :: .w x :: .g 61 :: s
  | .fn f ps _, s => .w zfn :: .w f :: .g 40 :: (sepT 44 (ps.map fun p => [.w p]) ++ .g 41 :: .g 61 :: s)
  | .run hd _, s => .w (kwB hd zhold zdo) :: s
theorem lex_ln {g : List Nat} (G : Glue 44 g) {l : Ln} (h : l.ok) {s : List Tk} (hs : ∀ t, (∃ n : Bool × Nm, l = .var n.1 n.2 t) ∨ (∃ n : Nm × List Nm, l = .fn n.1 n.2 t) ∨ (∃ n, l = .run n t) → LexD (t.tg g false) s) : LexD (l.tg g) (l.tk s) := by
  cases l with
  | nms ex ps m =>
    have e : ps.map ptx = (ps.map fun p => (ptx p, pTk p)).map (·.1) := by rw [List.map_map]; rfl
    have e2 : ps.map pTk = (ps.map fun p => (ptx p, pTk p)).map (·.2) := by rw [List.map_map]; rfl
    have h1 := lex_kw ex (x := zexport) (y := zimport) (ok_w (by decide)) (ok_w (by decide))
    have h2 := lex_join G (ps := ps.map fun p => (ptx p, pTk p)) fun p hp => by
      obtain ⟨q, hq, rfl⟩ := List.mem_map.mp hp
      exact lex_ptx (h.1 q hq)
    have h3 := h2.appF (LexF.bl.app (LexF.word (z := zfrom) (ok_w (by decide)))) (by simp) (fun c e => by cases e; decide)
    have h4 := (h1.app h3).appD (LexD.tok (t := .w m) (name_ok h.2.2.2))
    rw [← e, ← e2] at h4
    simpa [Ln.tg, Ln.tk, kwB, Tk.sp, List.append_assoc] using h4
  | var kp x t =>
    have h1 := lex_kw kp (x := zkeep) (y := zlet) (ok_w (by decide)) (ok_w (by decide))
    have h2 := (LexD.tok (t := .w x) (name_ok h.1)).appF (Glue.both (c := 61) (by decide)).lex (by simp) (Glue.both (c := 61) (by decide)).sep
    have h4 := (h1.app h2).appD (hs t (.inl ⟨(kp, x), rfl⟩))
    simpa [Ln.tg, Ln.tk, kwB, Tk.sp, List.append_assoc] using h4
  | fn f ps t =>
    have e : ps = (ps.map fun p => (p, [Tk.w p])).map (·.1) := by rw [List.map_map]; exact (List.map_id' ps).symm
    have e2 : (ps.map fun p => [Tk.w p]) = (ps.map fun p => (p, [Tk.w p])).map (·.2) := by rw [List.map_map]; rfl
    have h0 := LexF.word (z := zfn) (ok_w (by decide))
    have h1 := (LexD.tok (t := .w f) (name_ok h.1)).appF (LexF.sgn (c := 40) (by decide)) (by simp) (fun c e => by cases e; decide)
    have h2 := lex_join G (ps := ps.map fun p => (p, [Tk.w p])) fun p hp => by
      obtain ⟨q, hq, rfl⟩ := List.mem_map.mp hp
      exact LexD.tok (t := .w q) (name_ok (h.2.1 q hq))
    have h3 := h2.appF ((LexF.sgn (c := 41) (by decide)).app (Glue.both (c := 61) (by decide)).lex) (by simp) (fun c e => by cases e; decide)
    have h4 := ((h0.app h1).app h3).appD (hs t (.inr (.inl ⟨(f, ps), rfl⟩)))
    rw [← e, ← e2] at h4
    simpa [Ln.tg, Ln.tk, Tk.sp, List.append_assoc] using h4
  | run hd t =>
    have h1 := lex_kw hd (x := zhold) (y := zdo) (ok_w (by decide)) (ok_w (by decide))
    have h4 := h1.appD (hs t (.inr (.inr ⟨hd, rfl⟩)))
    simpa [Ln.tg, Ln.tk, kwB, Tk.sp, List.append_assoc] using h4
/-! ### parts -/
theorem pfree : ∀ {p : List Tk} (a : List (List Tk)) (b : List Tk), Tk.g 44 ∉ p → p.foldl pstep (a, b) = (a, b ++ p)
  | [], a, b, _ => by simp
  | t :: r, a, b, h => by
    have ht : t ≠ .g 44 := fun e => h (by rw [e]; exact .head _)
    rw [List.foldl_cons]
    show r.foldl pstep (if t = .g 44 then _ else _) = _
    rw [if_neg ht, pfree a (b ++ [t]) fun m => h (.tail _ m)]
    simp
theorem parts_go : ∀ {ps : List (List Tk)} (a : List (List Tk)), ps ≠ [] → (∀ p ∈ ps, Tk.g 44 ∉ p) → (fun x : List (List Tk) × List Tk => x.1 ++ [x.2]) ((sepT 44 ps).foldl pstep (a, [])) = a ++ ps
  | [], _, h, _ => absurd rfl h
  | [p], a, _, h => by
    show (fun x : List (List Tk) × List Tk => x.1 ++ [x.2]) (p.foldl pstep (a, [])) = _
    rw [pfree a [] (h p (.head _))]
    simp
  | p :: q :: r, a, _, h => by
    show (fun x : List (List Tk) × List Tk => x.1 ++ [x.2]) ((p ++ .g 44 :: sepT 44 (q :: r)).foldl pstep (a, [])) = _
    rw [List.foldl_append, pfree a [] (h p (.head _)), List.foldl_cons]
    show (fun x : List (List Tk) × List Tk => x.1 ++ [x.2]) ((sepT 44 (q :: r)).foldl pstep (a ++ [[] ++ p], [])) = _
    rw [parts_go (a ++ [[] ++ p]) (by simp) fun p hp => h p (.tail _ hp)]
    simp
theorem parts_sep {ps : List (List Tk)} (hn : ps ≠ []) (h : ∀ p ∈ ps, Tk.g 44 ∉ p) : partsOf (sepT 44 ps) = ps := parts_go [] hn h
theorem allSome_map {α β : Type} {f : α → Option β} {g : α → β} : ∀ {l : List α}, (∀ a ∈ l, f a = some (g a)) → allSome (l.map f) = some (l.map g)
  | [], _ => rfl
  | a :: r, h => by
    rw [List.map_cons, h a (.head _), allSome, allSome_map fun b hb => h b (.tail _ hb)]
    rfl
theorem pTk_free (p : Nm × Nm) : Tk.g 44 ∉ pTk p := by unfold pTk; split <;> simp
theorem pTk_pair {p : Nm × Nm} (h : NmOk p) : parsePair (pTk p) = some p := by
  obtain ⟨a, b⟩ := p
  have h1 : isName a = true := h.a
  have h2 : isName b = true := h.b
  unfold pTk
  by_cases e : a = b
  · subst e
    simp [parsePair, nameAt, h1]
  · simp [e, parsePair, nameAt, h1, h2]
theorem parse_nms {ex : Bool} {ps : List (Nm × Nm)} {m : Nm} (h : (Ln.nms ex ps m).ok) : parseNames ex (sepT 44 (ps.map pTk) ++ [.w zfrom, .w m]) = some (.nms ex ps m) := by
  obtain ⟨h1, h2, h3, h4⟩ := h
  have hl := sepT_len (s := 44) (ps.map pTk) fun p hp => by
    obtain ⟨q, hq, rfl⟩ := List.mem_map.mp hp
    unfold pTk
    split <;> simp
  have hp : 1 ≤ ps.length := by cases ps with
    | nil => exact absurd rfl h2
    | cons p ps => simp
  rw [List.length_map] at hl
  have e1 : (sepT 44 (ps.map pTk) ++ [Tk.w zfrom, .w m]).length = (sepT 44 (ps.map pTk)).length + 2 := by simp
  unfold parseNames
  rw [e1, Nat.add_sub_cancel, List.getElem?_append_right (by omega), Nat.sub_self]
  rw [if_neg (by simp; omega)]
  unfold nameAt
  rw [List.getElem?_append_right (by omega), show (sepT 44 (ps.map pTk)).length + 2 - 1 - (sepT 44 (ps.map pTk)).length = 1 by omega, List.take_left' rfl]
  show (match (if isName m then some m else none : Option Nm) with
    | none => none
    | some m => (allSome ((partsOf (sepT 44 (ps.map pTk))).map parsePair)).map fun ps => Ln.nms ex ps m) = _
  rw [if_pos h4, parts_sep (by simpa using h2) fun p hp => by
    obtain ⟨q, hq, rfl⟩ := List.mem_map.mp hp
    exact pTk_free q]
  have ea : allSome ((ps.map pTk).map parsePair) = some (ps.map fun p => p) := by
    rw [List.map_map]
    exact allSome_map (f := parsePair ∘ pTk) fun p hp => pTk_pair (h1 p hp)
  show Option.map _ (allSome ((ps.map pTk).map parsePair)) = _
  rw [ea]
  simp
theorem parse_var {kp : Bool} {x : Nm} {t : Tr} {s : List Tk} (h : isName x = true) (hs : s ≠ []) (hp : pars s = some (some t)) : parseVar kp (.w x :: .g 61 :: s) = some (some (.var kp x t)) := by
  have hl : 1 ≤ s.length := by cases s with
    | nil => exact absurd rfl hs
    | cons p ps => simp
  unfold parseVar nameAt
  simp [h, hp]
  omega
theorem idx_free : ∀ {p q : List Tk}, Tk.g 41 ∉ p → idx41 (p ++ .g 41 :: q) = p.length
  | [], q, _ => by simp [idx41]
  | t :: r, q, h => by
    have ht : t ≠ .g 41 := fun e => h (by rw [e]; exact .head _)
    have := idx_free (p := r) (q := q) fun m => h (.tail _ m)
    unfold idx41 at this ⊢
    rw [List.cons_append, List.takeWhile_cons, if_pos (by simpa using ht), List.length_cons, this, List.length_cons]
theorem sep_free {ps : List Nm} : Tk.g 41 ∉ sepT 44 (ps.map fun p => [Tk.w p]) := by
  induction ps with
  | nil => simp [sepT]
  | cons p ps ih => cases ps with
    | nil => simp [sepT]
    | cons q r =>
      simp only [List.map_cons, sepT] at ih ⊢
      simpa using ih
theorem sep_ne {ps : List Nm} (h : ps ≠ []) : sepT 44 (ps.map fun p => [Tk.w p]) ≠ [] := by
  cases ps with
  | nil => exact absurd rfl h
  | cons p ps => cases ps <;> simp [sepT]
theorem parse_ps {ps : List Nm} (h : ∀ p ∈ ps, isName p = true) (hn : ps.Nodup) : parseParams (sepT 44 (ps.map fun p => [Tk.w p])) = some ps := by
  unfold parseParams
  by_cases he : ps = []
  · subst he; rfl
  · rw [if_neg (sep_ne he), parts_sep (by simpa using he) fun p hp => by
      obtain ⟨q, hq, rfl⟩ := List.mem_map.mp hp
      simp]
    have ea : allSome ((ps.map fun p => [Tk.w p]).map fun p => if p.length = 1 then nameAt p 0 else none) = some (ps.map fun p => p) := by
      rw [List.map_map]
      refine allSome_map (f := (fun p => if p.length = 1 then nameAt p 0 else none) ∘ fun p => [Tk.w p]) fun p hp => ?_
      show (if [Tk.w p].length = 1 then nameAt [Tk.w p] 0 else none) = some p
      simp [nameAt, h p hp]
    rw [ea]
    simp [hn]
theorem parse_fn {f : Nm} {ps : List Nm} {t : Tr} {s : List Tk} (hf : isName f = true) (h : ∀ p ∈ ps, isName p = true) (hn : ps.Nodup) (hp : pars s = some (some t)) : parseFn (.w f :: .g 40 :: (sepT 44 (ps.map fun p => [Tk.w p]) ++ .g 41 :: .g 61 :: s)) = some (some (.fn f ps t)) := by
  have hi : idx41 (.w f :: .g 40 :: (sepT 44 (ps.map fun p => [Tk.w p]) ++ .g 41 :: .g 61 :: s)) = (sepT 44 (ps.map fun p => [Tk.w p])).length + 2 :=
    idx_free (p := .w f :: .g 40 :: sepT 44 (ps.map fun p => [Tk.w p])) (q := .g 61 :: s) (by simp [sep_free])
  unfold parseFn
  rw [hi]
  have e0 : nameAt (.w f :: .g 40 :: (sepT 44 (ps.map fun p => [Tk.w p]) ++ .g 41 :: .g 61 :: s)) 0 = some f := by simp [nameAt, hf]
  rw [e0]
  show (if _ then _ else match parseParams (List.take ((sepT 44 (ps.map fun p => [Tk.w p])).length + 2 - 2) (sepT 44 (ps.map fun p => [Tk.w p]) ++ Tk.g 41 :: .g 61 :: s)) with
      | none => some none
      | some ps => _) = _
  rw [if_neg (by simp), Nat.add_sub_cancel, List.take_left' rfl, parse_ps h hn]
  have e1 : (Tk.w f :: .g 40 :: (sepT 44 (ps.map fun p => [Tk.w p]) ++ .g 41 :: .g 61 :: s))[(sepT 44 (ps.map fun p => [Tk.w p])).length + 2 + 1]? = some (.g 61) := by
    show (sepT 44 (ps.map fun p => [Tk.w p]) ++ Tk.g 41 :: .g 61 :: s)[(sepT 44 (ps.map fun p => [Tk.w p])).length + 1]? = _
    rw [List.getElem?_append_right (by omega)]
    simp
  have e2 : (Tk.w f :: .g 40 :: (sepT 44 (ps.map fun p => [Tk.w p]) ++ .g 41 :: .g 61 :: s)).drop ((sepT 44 (ps.map fun p => [Tk.w p])).length + 2 + 2) = s := by
    show (sepT 44 (ps.map fun p => [Tk.w p]) ++ Tk.g 41 :: .g 61 :: s).drop ((sepT 44 (ps.map fun p => [Tk.w p])).length + 2) = _
    rw [List.drop_append]
    simp
  show (if _ then _ else _) = _
  rw [if_neg (by rw [e1]; simp), e2, hp]
  rfl
end Xp

/-! k03, the plain law: modules -/
namespace Xp
open PySem PySem.NumText Lg Tok
theorem ten_par {q : Bool} {z : List Nat} (h : 10 ∉ z) : 10 ∉ par q z := by
  cases q with
  | false => exact h
  | true =>
    show 10 ∉ 40 :: z ++ [41]
    simp [h]
theorem ten_join {g : List Nat} (hg : 10 ∉ g) : ∀ {zs : List (List Nat)}, (∀ z ∈ zs, 10 ∉ z) → 10 ∉ joinW g zs
  | [], _ => by simp [joinW]
  | [z], h => h z (.head _)
  | z :: y :: r, h => by
    have := ten_join hg (zs := y :: r) fun a ha => h a (.tail _ ha)
    have h1 := h z (.head _)
    rw [joinW]
    simp only [List.mem_append, not_or]
    exact ⟨⟨h1, hg⟩, this⟩
theorem ten_name {z : List Nat} (h : isName z = true) : 10 ∉ z := fun m => by
  have := (name_ok h).2.2 10 m
  exact absurd this (by decide)
theorem ten_dg (k : Nat) : 10 ∉ dg k := fun m => by
  have h2 := dg_digits k 10 m
  omega
mutual
theorem ten_tx {g : List Nat} (hg : 10 ∉ g) : ∀ (m : Bool) (t : Tr), t.nc → 10 ∉ t.tg g m
  | _, .num k, _ => by rw [Tr.tg]; exact ten_dg k
  | _, .str z, h => by
    rw [Tr.nc] at h
    rw [Tr.tg]
    simp; exact h.2
  | _, .nam z, h => by
    rw [Tr.nc] at h
    rw [Tr.tg]
    exact ten_name h
  | _, .op c l r, h => by
    rw [Tr.nc] at h
    have hc : 10 ∉ [32, c, 32] := by
      have := h.1
      simp at this ⊢
      omega
    have h1 := ten_par (q := decide (l.lvl < lef c)) (ten_tx hg false l h.2.1)
    have h2 := ten_par (q := decide (r.lvl < opl c + 1)) (ten_tx hg false r h.2.2)
    rw [Tr.tg]
    simp only [List.mem_append, not_or]
    exact ⟨⟨h1, hc⟩, h2⟩
  | _, .ite a b c, h => by
    rw [Tr.nc] at h
    have h1 := ten_tx hg false a h.1
    have h2 := ten_tx hg false b h.2.1
    have h3 := ten_tx hg false c h.2.2
    rw [Tr.tg]
    simp only [List.mem_append, not_or]
    exact ⟨⟨⟨⟨⟨by decide, h1⟩, by decide⟩, h2⟩, by decide⟩, h3⟩
  | _, .set z e, h => by
    rw [Tr.nc] at h
    have h1 := ten_name h.1
    have h2 := ten_tx hg false e h.2
    rw [Tr.tg]
    simp only [List.mem_append, not_or]
    exact ⟨⟨⟨by decide, h1⟩, by decide⟩, h2⟩
  | m, .thn a b, h => by
    rw [Tr.nc] at h
    have h1 := ten_tx hg false a h.1
    have h2 := ten_tx hg true b h.2
    rw [Tr.tg]
    refine ten_par ?_
    simp only [List.mem_append, not_or]
    exact ⟨⟨h1, by decide⟩, h2⟩
  | _, .call z ts, h => by
    rw [Tr.nc] at h
    have h1 := ten_name h.1
    have h2 := ten_join hg (ten_txs hg ts h.2)
    rw [Tr.tg]
    simp only [List.mem_append, not_or]
    exact ⟨⟨⟨h1, by decide⟩, h2⟩, by decide⟩
theorem ten_txs {g : List Nat} (hg : 10 ∉ g) : ∀ ts : List Tr, Tr.ncs ts → ∀ z ∈ Tr.tgs g ts, 10 ∉ z
  | [], _, z, h => by simp [Tr.tgs] at h
  | t :: r, h, z, hz => by
    rw [Tr.ncs] at h
    rw [Tr.tgs] at hz
    rcases List.mem_cons.mp hz with rfl | hz
    · exact ten_tx hg false t h.1
    · exact ten_txs hg r h.2 z hz
end
theorem ten_ln {g : List Nat} (hg : 10 ∉ g) {l : Ln} (h : l.ok) (hn : l.nc) : 10 ∉ l.tg g := by
  have kw : ∀ (b : Bool) (x y : List Nat), 10 ∉ x → 10 ∉ y → 10 ∉ (if b then x else y) := fun b x y hx hy => by cases b <;> assumption
  cases l with
  | nms ex ps m =>
    have h1 := ten_join hg (zs := ps.map ptx) fun z hz => by
      obtain ⟨p, hp, rfl⟩ := List.mem_map.mp hz
      have h1 := ten_name (h.1 p hp).a
      have h2 := ten_name (h.1 p hp).b
      unfold ptx
      split
      · exact h1
      · simp; exact ⟨h1, h2⟩
    have h2 := ten_name h.2.2.2
    simp only [Ln.tg, List.mem_append, not_or]
    exact ⟨⟨⟨⟨kw ex _ _ (by decide) (by decide), by decide⟩, h1⟩, by decide⟩, h2⟩
  | var kp x t =>
    simp only [Ln.tg, List.mem_append, not_or]
    exact ⟨⟨⟨⟨kw kp _ _ (by decide) (by decide), by decide⟩, ten_name h.1⟩, by decide⟩, ten_tx hg _ t hn⟩
  | fn f ps t =>
    have h1 := ten_join hg (zs := ps) fun z hz => ten_name (h.2.1 z hz)
    simp only [Ln.tg, List.mem_append, not_or]
    exact ⟨⟨⟨⟨⟨by decide, ten_name h.1⟩, by decide⟩, h1⟩, by decide⟩, ten_tx hg _ t hn⟩
  | run hd t =>
    simp only [Ln.tg, List.mem_append, not_or]
    exact ⟨⟨kw hd _ _ (by decide) (by decide), by decide⟩, ten_tx hg _ t hn⟩
/-! ### rows -/
theorem spl_lexD {b x : List Nat} {s : List Tk} (hb : Bl b) (h : LexD x s) : spl (b ++ x) = some s := by
  rw [spl_bl hb, h.spl]
theorem row_line {g b : List Nat} (G : Glue 44 g) (hg : g.length ≤ 3) (hb : Bl b) {l : Ln} (h : l.ok) : rowOf (b ++ l.tg g) = some (.line l) := by
  have tr : ∀ t : Tr, TO 3 t → ∃ s, LexD (t.tg g false) s ∧ pars s = some (some t) ∧ s ≠ [] := fun t ht => by
    have w := ((ht.cang G hg).1.1).ups (Nat.zero_le _)
    obtain ⟨s, a, x⟩ := w
    obtain ⟨s', e, _, p, _⟩ := Wt.parse (n := 3) (m := 6) ⟨s, a, x⟩ (by decide) ht (by decide)
    rw [a.spl] at e
    cases e
    exact ⟨s, a, p, fun e => by subst e; rw [pars_nil] at p; cases p⟩
  have one : ∀ s, LexD (l.tg g) (l.tk s) → l.tk s ≠ [] → parseL (l.tk s) = some (some l) → rowOf (b ++ l.tg g) = some (.line l) := fun s h1 h2 h3 => by
    unfold rowOf
    rw [spl_lexD hb h1]
    show (if l.tk s = [] then _ else _) = _
    rw [if_neg h2, h3]
  cases l with
  | nms ex ps m =>
    refine one [] (lex_ln G h fun t ht => ?_) (by simp [Ln.tk]) ?_
    · rcases ht with ⟨_, e⟩ | ⟨_, e⟩ | ⟨_, e⟩ <;> cases e
    · show (if kwB ex zexport zimport = zimport then _ else _) = _
      cases ex with
      | false => rw [if_pos (by decide), parse_nms h]
      | true => rw [if_neg (by decide), if_pos (by decide), parse_nms h]
  | var kp x t =>
    obtain ⟨s, a, p, hs⟩ := tr t h.2
    refine one s (lex_ln G h fun t' ht => ?_) (by simp [Ln.tk]) ?_
    · rcases ht with ⟨_, e⟩ | ⟨_, e⟩ | ⟨_, e⟩ <;> cases e
      exact a
    · show (if kwB kp zkeep zlet = zimport then _ else if _ = zexport then _ else if _ = zlet then parseVar false (.w x :: .g 61 :: s) else if _ = zkeep then parseVar true (.w x :: .g 61 :: s) else _) = _
      cases kp with
      | false => rw [if_neg (by decide), if_neg (by decide), if_pos (by decide), parse_var h.1 hs p]
      | true => rw [if_neg (by decide), if_neg (by decide), if_neg (by decide), if_pos (by decide), parse_var h.1 hs p]
  | fn f ps t =>
    obtain ⟨s, a, p, hs⟩ := tr t h.2.2.2.2
    refine one s (lex_ln G h fun t' ht => ?_) (by simp [Ln.tk]) ?_
    · rcases ht with ⟨_, e⟩ | ⟨_, e⟩ | ⟨_, e⟩ <;> cases e
      exact a
    · show parseFn (.w f :: .g 40 :: (sepT 44 (ps.map fun p => [Tk.w p]) ++ .g 41 :: .g 61 :: s)) = _
      exact parse_fn h.1 h.2.1 h.2.2.2.1 p
  | run hd t =>
    obtain ⟨s, a, p, hs⟩ := tr t h
    refine one s (lex_ln G h fun t' ht => ?_) (by simp [Ln.tk]) ?_
    · rcases ht with ⟨_, e⟩ | ⟨_, e⟩ | ⟨_, e⟩ <;> cases e
      exact a
    · cases hd with
      | false =>
        show (pars s).map (fun o => o.map fun t => Ln.run false t) = _
        rw [p]
        rfl
      | true =>
        show (pars s).map (fun o => o.map fun t => Ln.run true t) = _
        rw [p]
        rfl
theorem row_blank {b : List Nat} (hb : Bl b) : rowOf b = some .blank := by
  have : spl b = some [] := by
    have := spl_bl (X := []) hb
    rw [List.append_nil, spl_nil] at this
    exact this
  unfold rowOf
  rw [this]
  rfl
/-! ### modules -/
abbrev avs (ls : List Ln) : List Nm := ls.flatMap Ln.av
abbrev exs (ls : List Ln) : List Nm := ls.flatMap Ln.ex
/-- rows that hold these lines -/
structure Rows (r : List (List Nat)) (ls : List Ln) : Prop where
  go : ∀ (k : Nat) (pre : List Ln) (av ex : List Nm) (rest : List (List Nat)), pre.length + ls.length ≤ 12 → (av ++ avs ls).Nodup → (ex ++ exs ls).Nodup →
    modGo k pre av ex (r ++ rest) = modGo (k + r.length) (pre ++ ls) (av ++ avs ls) (ex ++ exs ls) rest
  ten : ∀ x ∈ r, 10 ∉ x
theorem Rows.nil : Rows [] [] := ⟨fun k pre av ex rest _ _ _ => by simp [avs, exs], by simp⟩
theorem Rows.app {r r' : List (List Nat)} {ls ls' : List Ln} (h : Rows r ls) (h' : Rows r' ls') : Rows (r ++ r') (ls ++ ls') := ⟨fun k pre av ex rest hl ha he => by
    unfold avs at ha
    unfold exs at he
    rw [List.flatMap_append, ← List.append_assoc] at ha he
    rw [List.length_append] at hl
    rw [List.append_assoc, h.go k pre av ex _ (by omega) (List.nodup_append.mp ha).1 (List.nodup_append.mp he).1, h'.go _ _ _ _ _ (by rw [List.length_append]; omega) ha he]
    simp [avs, exs, List.append_assoc, Nat.add_assoc], fun x hx => (List.mem_append.mp hx).elim (h.ten x) (h'.ten x)⟩
theorem Rows.blank {b : List Nat} (hb : Bl b) : Rows [b] [] := ⟨fun k pre av ex rest _ _ _ => by
    show modGo k pre av ex (b :: rest) = _
    rw [modGo, row_blank hb]
    simp [avs, exs], fun x hx m => by
      rcases List.mem_singleton.mp hx with rfl
      exact absurd (hb 10 m) (by decide)⟩
theorem Rows.line {x : List Nat} {l : Ln} (h : rowOf x = some (.line l)) (ht : 10 ∉ x) : Rows [x] [l] := ⟨fun k pre av ex rest hl ha he => by
    have e1 : avs [l] = l.av := by simp [avs]
    have e2 : exs [l] = l.ex := by simp [exs]
    rw [e1] at ha
    rw [e2] at he
    have a1 := (addOk_iff (List.nodup_append.mp ha).1).mpr ha
    have a2 := (addOk_iff (List.nodup_append.mp he).1).mpr he
    simp only [List.length_cons, List.length_nil] at hl
    show modGo k pre av ex (x :: rest) = _
    rw [modGo, h]
    show (if pre.length = 12 then _ else if _ then _ else _) = _
    rw [if_neg (by omega), if_pos (by rw [a1, a2]; rfl), e1, e2]
    rfl, fun y hy => by
      rcases List.mem_singleton.mp hy with rfl
      exact ht⟩
theorem tw10 {p r : List Nat} (h : 10 ∉ p) : (p ++ 10 :: r).takeWhile (· != 10) = p ∧ ((p ++ 10 :: r).dropWhile (· != 10)).drop 1 = r := by
  induction p with
  | nil => simp
  | cons a p ih =>
    have ha : a ≠ 10 := fun e => h (by rw [e]; exact .head _)
    obtain ⟨h1, h2⟩ := ih fun m => h (.tail _ m)
    rw [List.cons_append, List.takeWhile_cons, List.dropWhile_cons, if_pos (by simpa using ha), if_pos (by simpa using ha), h1]
    exact ⟨rfl, h2⟩
theorem sp10_app {k : Nat} {p r : List Nat} (h : 10 ∉ p) : spM 10 (k + 1) (p ++ 10 :: r) = p :: spM 10 k r := by
  rw [spM, if_pos (by simp), (tw10 h).1, (tw10 h).2]
theorem sp10_free {k : Nat} {p : List Nat} (h : 10 ∉ p) : spM 10 k p = [p] := by
  cases k with
  | zero => rfl
  | succ k => rw [spM, if_neg h]
theorem spM_join : ∀ {r : List (List Nat)} {n : Nat}, (∀ x ∈ r, 10 ∉ x) → r ≠ [] → (joinW [10] r).length < n → spM 10 n (joinW [10] r) = r
  | [], _, _, h, _ => absurd rfl h
  | [x], n, h, _, _ => sp10_free (h x (.head _))
  | x :: y :: r, 0, _, _, hn => by omega
  | x :: y :: r, n + 1, h, _, hn => by
    have e : joinW [10] (x :: y :: r) = x ++ 10 :: joinW [10] (y :: r) := by rw [joinW]; simp
    rw [e] at hn ⊢
    rw [sp10_app (h x (.head _)), spM_join (fun z hz => h z (.tail _ hz)) (by simp) (by simp at hn; omega)]
theorem modGo_blank0 : modGo 0 [] [] [] [[]] = some (.mod []) := by
  rw [modGo, row_blank (fun c h => by cases h)]
  rfl
theorem mod_good {r : List (List Nat)} {ls : List Ln} (h : Rows r ls) (hl : ls.length ≤ 12) (ha : (avs ls).Nodup) (he : (exs ls).Nodup) : modOf (joinW [10] r) = some (.mod ls) := by
  have e := h.go 0 [] [] [] [] (by simpa using hl) (by simpa using ha) (by simpa using he)
  rw [List.append_nil, List.nil_append] at e
  unfold modOf
  by_cases hr : r = []
  · subst hr
    show modGo 0 [] [] [] (spM 10 1 []) = _
    have : spM 10 1 ([] : List Nat) = [[]] := sp10_free (by simp)
    rw [this, modGo_blank0]
    have e2 : modGo 0 [] [] [] [] = some (.mod []) := rfl
    rw [← e2, e]
    rfl
  · rw [spM_join h.ten hr (by omega), e]
    rfl
/-- a row that is none, or brings a name again -/
def Bad (ls : List Ln) (x : List Nat) : Prop := rowOf x = some .bad ∨ ∃ l, rowOf x = some (.line l) ∧ (addOk (avs ls) l.av && addOk (exs ls) l.ex) = false
theorem mod_bad {r rest : List (List Nat)} {ls : List Ln} {x : List Nat} (h : Rows r ls) (hl : ls.length ≤ 12) (ha : (avs ls).Nodup) (he : (exs ls).Nodup) (hx : Bad ls x) (ht : 10 ∉ x) (hr : ∀ y ∈ rest, 10 ∉ y) : modOf (joinW [10] (r ++ x :: rest)) = some (.line (r.length + 1)) := by
  have e := h.go 0 [] [] [] (x :: rest) (by simpa using hl) (by simpa using ha) (by simpa using he)
  unfold modOf
  rw [spM_join (fun y hy => ?_) (by simp) (by omega), e]
  · rw [List.nil_append, List.nil_append, List.nil_append, modGo]
    rcases hx with hx | ⟨l, hx, hc⟩
    · rw [hx]; simp
    · rw [hx]
      show (if _ then _ else if _ then _ else _) = _
      split
      · simp
      · rw [if_neg (by rw [hc]; decide)]; simp
  · rcases List.mem_append.mp hy with hy | hy
    · exact h.ten y hy
    · rcases List.mem_cons.mp hy with rfl | hy
      · exact ht
      · exact hr y hy
theorem addOk_in {n : List Nm} {x : Nm} (h : x ∈ n) : addOk n [x] = false := by rw [addOk, if_pos h]
theorem bl_nil : Bl [] := fun c h => by cases h
/-- a line in canonical text that brings such a name -/
theorem bad_ln {ls : List Ln} {l : Ln} (h : l.ok) (hc : (addOk (avs ls) l.av && addOk (exs ls) l.ex) = false) : Bad ls l.tx :=
  .inr ⟨l, by have := row_line (Glue.after (c := 44) (by decide)) (by decide) bl_nil h; exact this, hc⟩
abbrev num1 : Tr := .num 1
theorem num1_ok : TO 3 num1 := .num (by decide)
theorem bad_let {ls : List Ln} {x : Nm} (hx : isName x = true) (h : x ∈ avs ls) : Bad ls (zlet ++ [32] ++ x ++ [32, 61, 32, 49]) := by
  have := bad_ln (ls := ls) (l := .var false x num1) ⟨hx, num1_ok⟩ (by show (addOk (avs ls) [x] && _) = false; rw [addOk_in h]; rfl)
  have e : Ln.tx (.var false x num1) = zlet ++ [32] ++ x ++ [32, 61, 32, 49] := by
    have e0 : dg 1 = [49] := by decide +kernel
    show zlet ++ [32] ++ x ++ [32, 61, 32] ++ Tr.tg _ false (.num 1) = _
    rw [Tr.tg, e0]; simp
  rwa [e] at this
theorem bad_keep {ls : List Ln} {x : Nm} (hx : isName x = true) (h : x ∈ exs ls) : Bad ls (zkeep ++ [32] ++ x ++ [32, 61, 32, 49]) := by
  have := bad_ln (ls := ls) (l := .var true x num1) ⟨hx, num1_ok⟩ (by show (_ && addOk (exs ls) [x]) = false; rw [addOk_in h, Bool.and_false])
  have e : Ln.tx (.var true x num1) = zkeep ++ [32] ++ x ++ [32, 61, 32, 49] := by
    have e0 : dg 1 = [49] := by decide +kernel
    show zkeep ++ [32] ++ x ++ [32, 61, 32] ++ Tr.tg _ false (.num 1) = _
    rw [Tr.tg, e0]; simp
  rwa [e] at this
theorem nm_q : isName [113] = true := by decide +kernel
theorem nm_b : isName [98] = true := by decide +kernel
theorem bad_nms {ls : List Ln} {ex : Bool} {x : Nm} (hx : isName x = true) (hq : x ≠ [113]) (h : x ∈ if ex then exs ls else avs ls) : Bad ls ((if ex then zexport else zimport) ++ [32, 113, 32, 97, 115, 32] ++ x ++ [32, 102, 114, 111, 109, 32, 98]) := by
  have := bad_ln (ls := ls) (l := .nms ex [([113], x)] [98]) ⟨fun p hp => by rcases List.mem_singleton.mp hp with rfl; exact ⟨nm_q, hx⟩, by simp, by simp, nm_b⟩ (by
    cases ex with
    | false =>
      show (addOk (avs ls) [x] && _) = false
      rw [addOk_in (show x ∈ avs ls from h)]; rfl
    | true =>
      show (_ && addOk (exs ls) [x]) = false
      rw [addOk_in (show x ∈ exs ls from h), Bool.and_false])
  have e : Ln.tx (.nms ex [([113], x)] [98]) = (if ex then zexport else zimport) ++ [32, 113, 32, 97, 115, 32] ++ x ++ [32, 102, 114, 111, 109, 32, 98] := by
    have e1 : ptx ([113], x) = [113, 32, 97, 115, 32] ++ x := by
      unfold ptx
      rw [if_neg (fun e => hq e.symm)]
      simp
    show (if ex then zexport else zimport) ++ [32] ++ joinW [44, 32] [ptx ([113], x)] ++ [32, 102, 114, 111, 109, 32] ++ [98] = _
    rw [e1]
    simp [joinW]
  rwa [e] at this
/-- the lines that are none, whatever the module holds -/
def badX : List (List Nat) := [[108, 101, 116, 32, 120], [108, 101, 116, 32, 49, 32, 61, 32, 50], [107, 101, 101, 112, 32, 105, 102, 32, 61, 32, 49], [102, 110, 32, 102, 40, 97, 44, 32, 97, 41, 32, 61, 32, 49], [102, 110, 32, 102, 40, 41, 32, 61], [105, 109, 112, 111, 114, 116, 32, 102, 114, 111, 109, 32, 98], [105, 109, 112, 111, 114, 116, 32, 97, 44, 32, 102, 114, 111, 109, 32, 98], [105, 109, 112, 111, 114, 116, 32, 97, 32, 97, 115, 32, 102, 114, 111, 109, 32, 98], [104, 111, 108, 100], [100, 111], [120, 32, 61, 32, 49], [108, 101, 116, 32, 120, 32, 61, 32, 49, 32, 50], [101, 120, 112, 111, 114, 116, 32, 97, 32, 102, 114, 111, 109], [105, 109, 112, 111, 114, 116, 32, 97, 32, 102, 114, 111, 109, 32, 98, 32, 99], [108, 101, 116, 32, 97, 32, 61, 32, 35]]
def rowBad (x : List Nat) : Bool := match rowOf x with
  | some .bad => true
  | _ => false
theorem badX_no : ∀ x ∈ badX, rowBad x = true ∧ 10 ∉ x ∧ x.length ≤ 30 := by decide +kernel
theorem bad_fix {ls : List Ln} {x : List Nat} (h : x ∈ badX) : Bad ls x := by
  have := (badX_no x h).1
  unfold rowBad at this
  split at this
  · rename_i e; exact .inl e
  · cases this
abbrev dblI : Ln := .nms false [([113], [113]), ([114], [113])] [98]
abbrev dblE : Ln := .nms true [([113], [113]), ([114], [113])] [98]
theorem nm_r : isName [114] = true := by decide +kernel
theorem addOk_dbl (n : List Nm) (x : Nm) : addOk n [x, x] = false := by
  rw [addOk]
  split
  · rfl
  · rw [addOk, if_pos (by simp)]
theorem bad_dblI (ls : List Ln) : Bad ls [105, 109, 112, 111, 114, 116, 32, 113, 44, 32, 114, 32, 97, 115, 32, 113, 32, 102, 114, 111, 109, 32, 98] := by
  have := bad_ln (ls := ls) (l := dblI) ⟨fun p hp => by
    rcases List.mem_cons.mp hp with rfl | hp
    · exact ⟨nm_q, nm_q⟩
    · rcases List.mem_singleton.mp hp with rfl
      exact ⟨nm_r, nm_q⟩, by simp, by simp, nm_b⟩ (by
    show (addOk (avs ls) [[113], [113]] && _) = false
    rw [addOk_dbl]; rfl)
  exact this
theorem bad_dblE (ls : List Ln) : Bad ls [101, 120, 112, 111, 114, 116, 32, 113, 44, 32, 114, 32, 97, 115, 32, 113, 32, 102, 114, 111, 109, 32, 98] := by
  have := bad_ln (ls := ls) (l := dblE) ⟨fun p hp => by
    rcases List.mem_cons.mp hp with rfl | hp
    · exact ⟨nm_q, nm_q⟩
    · rcases List.mem_singleton.mp hp with rfl
      exact ⟨nm_r, nm_q⟩, by simp, by simp, nm_b⟩ (by
    show (_ && addOk (exs ls) [[113], [113]]) = false
    rw [addOk_dbl, Bool.and_false])
  exact this
abbrev do1 : List Nat := [100, 111, 32, 49]
def doX (n : Nat) : List Nat := joinW [10, 10] (List.replicate n do1)
def isDo : Ln → Bool
  | .run false (.num 1) => true
  | _ => false
def pmB (n : Nat) : Bool := match modOf (doX n) with
  | some (.line k) => decide (n = 13) && decide (k = 25)
  | some (.mod ls) => decide (n < 13) && decide (ls.length = n) && ls.all isDo
  | none => false
theorem do_fix : pmB 11 = true ∧ pmB 12 = true ∧ pmB 13 = true := by decide +kernel
theorem all_do : ∀ {ls : List Ln}, ls.all isDo = true → ls = List.replicate ls.length (.run false (.num 1))
  | [], _ => rfl
  | l :: r, h => by
    rw [List.all_cons, Bool.and_eq_true] at h
    have e : l = .run false (.num 1) := by
      have := h.1
      unfold isDo at this
      split at this
      · rfl
      · cases this
    rw [List.length_cons, List.replicate_succ, ← all_do h.2, e]
theorem do_mod {n : Nat} (h : n = 11 ∨ n = 12) : modOf (doX n) = some (.mod (List.replicate n (.run false (.num 1)))) := by
  have hb : pmB n = true ∧ n ≠ 13 := by rcases h with rfl | rfl; exact ⟨do_fix.1, by decide⟩; exact ⟨do_fix.2.1, by decide⟩
  have hb1 := hb.1
  unfold pmB at hb1
  split at hb1
  · simp [hb.2] at hb1
  · rename_i ls e
    simp only [Bool.and_eq_true, decide_eq_true_eq] at hb1
    rw [e, all_do hb1.2, hb1.1.2]
  · cases hb1
theorem do_line : modOf (doX 13) = some (.line 25) := by
  have hb1 := do_fix.2.2
  unfold pmB at hb1
  split at hb1
  · rename_i e
    simp only [Bool.and_eq_true, decide_eq_true_eq] at hb1
    rw [e, hb1.2]
  · simp at hb1
  · cases hb1
theorem mod_nil : modOf [] = some (.mod []) := by
  have := mod_good Rows.nil (by decide) (by simp [avs]) (by simp [exs])
  exact this
end Xp

/-! k03, the plain law: what is read holds good tokens; parts, names, results as data -/
namespace Xp
open PySem PySem.NumText Lg Tok
theorem dv_lt : ∀ (n : Nat) (cs : List Nat), cs.length = n → (∀ c ∈ cs, c ∈ figs) → digitsVal cs < 10 ^ n
  | 0, cs, h, _ => by
    rw [List.length_eq_zero_iff.mp h]
    decide
  | n + 1, cs, h, hc => by
    have hne : cs ≠ [] := fun e => by rw [e] at h; cases h
    have e := List.dropLast_concat_getLast hne
    rw [← e, digitsVal_snoc]
    have h1 := dv_lt n cs.dropLast (by rw [List.length_dropLast]; omega) fun c m => hc c (List.dropLast_subset _ m)
    have h2 := mem_figs.mp (hc _ (List.getLast_mem hne))
    rw [Nat.pow_succ]
    omega
theorem tw_mem {p : Nat → Bool} {l : List Nat} {c : Nat} (h : c ∈ l.takeWhile p) : c ∈ l ∧ p c = true := ⟨(List.takeWhile_sublist p).subset h, List.all_eq_true.mp (List.all_takeWhile (p := p) (l := l)) c h⟩
theorem tok_okA {l : List Nat} {t : Tk} {k : Nat} (hA : Asc l) (h : tok l = some (t, k)) : t.ok := by
  cases l with
  | nil => cases h
  | cons c r =>
    rw [tok_cons] at h
    unfold tokc at h
    split at h
    · rename_i hc; cases h; exact hc
    split at h
    · rename_i hc
      split at h
      · rename_i hl
        cases h
        refine ⟨fun e => ?_, hl, fun x hx => by simpa using (tw_mem hx).2⟩
        rw [List.takeWhile_cons, if_pos (by simpa using hc)] at e
        cases e
      · cases h
    split at h
    · rename_i hc
      split at h
      · cases h
      · rename_i hl
        cases h
        have h1 := dv_lt _ ((c :: r).takeWhile (· ∈ figs)) rfl fun x hx => by simpa using (tw_mem hx).2
        have h2 : 10 ^ ((c :: r).takeWhile (· ∈ figs)).length ≤ 10 ^ 5 := Nat.pow_le_pow_right (by decide) (by omega)
        show digitsVal ((c :: r).takeWhile (· ∈ figs)) < 100000
        omega
    split at h
    · rename_i hc
      cases h
      refine ⟨hc.2.2, fun m => ?_, fun x hx => hA x (.tail _ (tw_mem hx).1)⟩
      have := (tw_mem m).2
      simp at this
    · cases h
theorem spl'_ok : ∀ (n : Nat) (l : List Nat) (ts : List Tk), Asc l → spl' n l = some ts → ∀ t ∈ ts, t.ok
  | n, [], ts, _, h => by
    have : ts = [] := by cases n <;> (cases h; rfl)
    subst this
    simp
  | 0, c :: r, ts, _, h => by cases h
  | n + 1, c :: r, ts, hA, h => by
    unfold spl' at h
    split at h
    · exact spl'_ok n r ts (fun x hx => hA x (.tail _ hx)) h
    · cases ht : tok (c :: r) with
      | none => rw [ht] at h; cases h
      | some q =>
        obtain ⟨t, k⟩ := q
        rw [ht] at h
        replace h : (spl' n ((c :: r).drop k)).map (t :: ·) = some ts := h
        cases h2 : spl' n ((c :: r).drop k) with
        | none => rw [h2] at h; cases h
        | some us =>
          rw [h2] at h
          cases h
          intro u hu
          rcases List.mem_cons.mp hu with rfl | hu
          · exact tok_okA hA ht
          · exact spl'_ok n _ us (fun x hx => hA x (List.drop_subset _ _ hx)) h2 u hu
theorem spl_okA {l : List Nat} {ts : List Tk} (hA : Asc l) (h : spl l = some ts) : ∀ t ∈ ts, t.ok := spl'_ok _ _ _ hA h
/-! ### parts -/
theorem partsP_mem : ∀ (ts : List Tk) (a : List (List Tk)) (b : List Tk) (T : List Tk) (n : Nat), (∀ u ∈ ts, u ∈ T) → (∀ p ∈ a, (∀ u ∈ p, u ∈ T) ∧ p.length ≤ n) → (∀ u ∈ b, u ∈ T) → b.length + ts.length ≤ n →
    ∀ p ∈ (ts.foldl pstep (a, b)).1 ++ [(ts.foldl pstep (a, b)).2], (∀ u ∈ p, u ∈ T) ∧ p.length ≤ n
  | [], a, b, T, n, _, h2, h3, h4, p, hp => by
    rcases List.mem_append.mp hp with hp | hp
    · exact h2 p hp
    · rcases List.mem_singleton.mp hp with rfl
      exact ⟨h3, by simpa using h4⟩
  | t :: r, a, b, T, n, h1, h2, h3, h4, p, hp => by
    rw [List.foldl_cons] at hp
    simp only [List.length_cons] at h4
    unfold pstep at hp
    by_cases ht : t = .g 44
    · rw [if_pos ht] at hp
      refine partsP_mem r (a ++ [b]) [] T n (fun u hu => h1 u (.tail _ hu)) (fun q hq => ?_) (by simp) (by simp; omega) p hp
      rcases List.mem_append.mp hq with hq | hq
      · exact h2 q hq
      · rcases List.mem_singleton.mp hq with rfl
        exact ⟨h3, by omega⟩
    · rw [if_neg ht] at hp
      refine partsP_mem r a (b ++ [t]) T n (fun u hu => h1 u (.tail _ hu)) h2 (fun u hu => ?_) (by simp; omega) p hp
      rcases List.mem_append.mp hu with hu | hu
      · exact h3 u hu
      · rcases List.mem_singleton.mp hu with rfl
        exact h1 u (.head _)
theorem parts_mem {ts p : List Tk} (h : p ∈ partsOf ts) : (∀ u ∈ p, u ∈ ts) ∧ p.length ≤ ts.length :=
  partsP_mem ts [] [] ts ts.length (fun _ h => h) (by simp) (by simp) (by simp) p h
theorem partsP_len : ∀ (ts : List Tk) (a : List (List Tk)) (b : List Tk), (ts.foldl pstep (a, b)).1.length ≤ a.length + ts.length
  | [], a, b => by simp
  | t :: r, a, b => by
    rw [List.foldl_cons]
    unfold pstep
    by_cases ht : t = .g 44
    · rw [if_pos ht]
      have := partsP_len r (a ++ [b]) []
      unfold pstep at this
      simp at this ⊢
      omega
    · rw [if_neg ht]
      have := partsP_len r a (b ++ [t])
      unfold pstep at this
      simp at this ⊢
      omega
theorem parts_len (ts : List Tk) : (partsOf ts).length ≤ ts.length + 1 := by
  have := partsP_len ts [] []
  unfold partsOf partsP
  simp at this ⊢
  omega
/-! ### all or none -/
theorem allSome_some {α : Type} : ∀ {os : List (Option α)} {l : List α}, allSome os = some l → os = l.map some
  | [], l, h => by cases h; rfl
  | none :: _, l, h => by cases h
  | some a :: r, l, h => by
    rw [allSome] at h
    cases h2 : allSome r with
    | none => rw [h2] at h; cases h
    | some m =>
      rw [h2] at h
      cases h
      rw [allSome_some h2]
      rfl
theorem allSome_none {α : Type} : ∀ {os : List (Option α)}, (os.map Option.isNone).any id = (allSome os).isNone
  | [] => rfl
  | none :: r => by simp [allSome]
  | some a :: r => by
    rw [List.map_cons, List.any_cons, allSome_none (os := r), allSome]
    cases allSome r <;> rfl
/-! ### results as data -/
def nmD : Option Nm → PyData
  | none => .none
  | some z => smD z
def pairD : Option (Nm × Nm) → PyData
  | none => .none
  | some p => prD p
def lnD : Option Ln → PyData
  | none => .none
  | some l => l.d
def parD : Option (List Nm) → PyData
  | none => .none
  | some ps => .tuple (ps.map smD)
theorem nameAt_w {ts : List Tk} {i : Nat} {z : Nm} (h : nameAt ts i = some z) : ts[i]? = some (.w z) ∧ isName z = true := by
  unfold nameAt at h
  split at h
  · rename_i y e
    split at h
    · rename_i hn
      cases h
      exact ⟨e, hn⟩
    · cases h
  · cases h
end Xp

/-! k03, the plain law: the modules that are drawn; lines that are faulty there -/
namespace Xp
open PySem PySem.NumText Lg Tok
/-- the letters of modules; what own names begin with -/
abbrev modL : List Nat := [97, 98, 99, 100]
abbrev ownC : List Nat := [120, 121, 107, 102, 103]
theorem own_ok : ∀ c ∈ ownC, ∀ o ∈ modL, isName [c, o] = true ∧ isName [122, c, o] = true := by decide +kernel
/-- import lines of module n -/
structure Imp (n : Nat) (ls : List Ln) : Prop where
  sh : ∀ l ∈ ls, ∃ ps o, l = .nms false ps [o] ∧ o ∈ modL ∧ o ≠ n ∧ ps ≠ [] ∧ ps.length ≤ 3 ∧ ∀ p ∈ ps, ∃ c ∈ ownC, p.1 = [c, o] ∧ (p.2 = [c, o] ∨ p.2 = [122, c, o])
  nd : (avs ls).Nodup
  len : ls.length ≤ 4
theorem mod_ok : ∀ o ∈ modL, isName [o] = true := by decide +kernel
theorem Imp.ok {n : Nat} {ls : List Ln} (h : Imp n ls) : ∀ l ∈ ls, l.ok ∧ l.nc ∧ l.ex = [] := fun l hl => by
  obtain ⟨ps, o, rfl, ho, _, h1, h2, h3⟩ := h.sh l hl
  refine ⟨⟨fun p hp => ?_, h1, h2, mod_ok o ho⟩, trivial, rfl⟩
  obtain ⟨c, hc, e1, e2⟩ := h3 p hp
  have k := own_ok c hc o ho
  exact ⟨by rw [e1]; exact k.1, by rcases e2 with e2 | e2 <;> rw [e2]; exact k.1; exact k.2⟩
theorem Imp.av {n : Nat} {ls : List Ln} (h : Imp n ls) : ∀ z ∈ avs ls, isName z = true ∧ z ≠ [113] ∧ z.getLast? ≠ some n := fun z hz => by
  obtain ⟨l, hl, hz⟩ := List.mem_flatMap.mp hz
  obtain ⟨ps, o, rfl, ho, hn, _, _, h3⟩ := h.sh l hl
  obtain ⟨p, hp, rfl⟩ := List.mem_map.mp (show z ∈ ps.map Prod.snd from hz)
  obtain ⟨c, hc, e1, e2⟩ := h3 p hp
  have k := own_ok c hc o ho
  rcases e2 with e2 | e2 <;> rw [e2]
  · exact ⟨k.1, by simp, by simpa using hn⟩
  · exact ⟨k.2, by simp, by simpa using hn⟩
theorem Imp.exs {n : Nat} {ls : List Ln} (h : Imp n ls) : exs ls = [] := by
  unfold Xp.exs
  rw [List.flatMap_eq_nil_iff]
  exact fun l hl => (h.ok l hl).2.2
theorem Imp.nil (n : Nat) : Imp n [] := ⟨by simp, by simp [avs], by simp⟩
/-- its own lines -/
structure Own (n : Nat) (ls : List Ln) : Prop where
  ok : ∀ l ∈ ls, l.ok ∧ l.nc
  av : avs ls = exs ls
  nd : (avs ls).Nodup
  nm : ∀ z ∈ avs ls, ∃ c ∈ ownC, z = [c, n]
  len : ls.length ≤ 7
/-- a whole module -/
structure Md (ls : List Ln) : Prop where
  ok : ∀ l ∈ ls, l.ok ∧ l.nc
  av : (avs ls).Nodup
  ex : (exs ls).Nodup
  nm : ∀ z, z ∈ avs ls ∨ z ∈ exs ls → isName z = true ∧ z ≠ [113]
  len : ls.length ≤ 12
theorem md_mod {n : Nat} (hn : n ∈ modL) {im ow : List Ln} (h1 : Imp n im) (h2 : Own n ow) : Md (im ++ ow) ∧ (im ++ ow).length ≤ 11 ∧ ∀ z ∈ exs (im ++ ow), ∃ c ∈ ownC, z = [c, n] := by
  have e1 : avs (im ++ ow) = avs im ++ avs ow := List.flatMap_append
  have e2 : exs (im ++ ow) = avs ow := by
    have : exs (im ++ ow) = exs im ++ exs ow := List.flatMap_append
    rw [this, h1.exs, List.nil_append, h2.av]
  have l1 := h1.len
  have l2 := h2.len
  have nm2 : ∀ z ∈ avs ow, isName z = true ∧ z ≠ [113] ∧ z.getLast? = some n := fun z hz => by
    obtain ⟨c, hc, rfl⟩ := h2.nm z hz
    exact ⟨(own_ok c hc n hn).1, by simp, by simp⟩
  refine ⟨⟨fun l hl => ?_, ?_, ?_, fun z hz => ?_, by simp; omega⟩, by simp; omega, ?_⟩
  · rcases List.mem_append.mp hl with hl | hl
    · exact ⟨(h1.ok l hl).1, (h1.ok l hl).2.1⟩
    · exact h2.ok l hl
  · rw [e1, List.nodup_append]
    refine ⟨h1.nd, h2.nd, fun a ha b hb e => ?_⟩
    subst e
    exact (h1.av a ha).2.2 (nm2 a hb).2.2
  · rw [e2]; exact h2.nd
  · rw [e1, e2] at hz
    have : z ∈ avs im ∨ z ∈ avs ow := by
      rcases hz with hz | hz
      · exact List.mem_append.mp hz
      · exact .inr hz
    rcases this with hz | hz
    · exact ⟨(h1.av z hz).1, (h1.av z hz).2.1⟩
    · exact ⟨(nm2 z hz).1, (nm2 z hz).2.1⟩
  · rw [e2]; exact h2.nm
theorem Md.take {ls : List Ln} (h : Md ls) (k : Nat) : Md (ls.take k) := by
  have s1 : (avs (ls.take k)).Sublist (avs ls) := by
    have : avs ls = avs (ls.take k) ++ avs (ls.drop k) := by
      rw [← List.flatMap_append, List.take_append_drop]
    rw [this]
    exact List.sublist_append_left _ _
  have s2 : (exs (ls.take k)).Sublist (exs ls) := by
    have : exs ls = exs (ls.take k) ++ exs (ls.drop k) := by
      rw [← List.flatMap_append, List.take_append_drop]
    rw [this]
    exact List.sublist_append_left _ _
  refine ⟨fun l hl => h.ok l (List.take_subset _ _ hl), h.av.sublist s1, h.ex.sublist s2, fun z hz => h.nm z ?_, ?_⟩
  · rcases hz with hz | hz
    · exact .inl (s1.subset hz)
    · exact .inr (s2.subset hz)
  · have := h.len
    rw [List.length_take]
    omega
theorem exs_take {ls : List Ln} {k : Nat} {z : Nm} (h : z ∈ exs (ls.take k)) : z ∈ exs ls := by
  obtain ⟨l, hl, hz⟩ := List.mem_flatMap.mp h
  exact List.mem_flatMap.mpr ⟨l, List.take_subset _ _ hl, hz⟩
abbrev expL : Ln := .nms true [([120, 100], [120, 100]), ([120, 100], [117])] [100]
theorem expL_nm : isName [120, 100] = true ∧ isName [117] = true ∧ isName [100] = true := by decide +kernel
theorem Md.exp {ls : List Ln} {n : Nat} (h : Md ls) (hl : ls.length ≤ 11) (hn : n ≠ 100) (he : ∀ z ∈ exs ls, ∃ c ∈ ownC, z = [c, n]) : Md (ls ++ [expL]) := by
  have e1 : avs (ls ++ [expL]) = avs ls := by
    have : avs (ls ++ [expL]) = avs ls ++ avs [expL] := List.flatMap_append
    rw [this]
    simp [avs, Ln.av]
  have e2 : exs (ls ++ [expL]) = exs ls ++ [[120, 100], [117]] := by
    have : exs (ls ++ [expL]) = exs ls ++ exs [expL] := List.flatMap_append
    rw [this]
    simp [exs, Ln.ex]
  refine ⟨fun l hl => ?_, by rw [e1]; exact h.av, ?_, fun z hz => ?_, by simp; omega⟩
  · rcases List.mem_append.mp hl with hl | hl
    · exact h.ok l hl
    · rcases List.mem_singleton.mp hl with rfl
      refine ⟨⟨fun p hp => ?_, by simp, by simp, expL_nm.2.2⟩, trivial⟩
      rcases List.mem_cons.mp hp with rfl | hp
      · exact ⟨expL_nm.1, expL_nm.1⟩
      · rcases List.mem_singleton.mp hp with rfl
        exact ⟨expL_nm.1, expL_nm.2.1⟩
  · rw [e2, List.nodup_append]
    refine ⟨h.ex, by simp, fun a ha b hb e => ?_⟩
    subst e
    obtain ⟨c, _, rfl⟩ := he a ha
    simp at hb
    exact hn hb.2
  · rw [e1, e2] at hz
    rcases hz with hz | hz
    · exact h.nm z (.inl hz)
    · rcases List.mem_append.mp hz with hz | hz
      · exact h.nm z (.inr hz)
      · rcases List.mem_cons.mp hz with rfl | hz
        · exact ⟨expL_nm.1, by simp⟩
        · rcases List.mem_singleton.mp hz with rfl
          exact ⟨expL_nm.2.1, by simp⟩
/-! ### faulty lines -/
structure BadX (ls : List Ln) (x : List Nat) : Prop where
  b : Bad ls x
  t : 10 ∉ x
  a : Asc x
  l : x.length ≤ 60
theorem bx_of {ls : List Ln} {x y z : List Nat} (hz : isName z = true) (h : Bad ls (x ++ z ++ y)) (h1 : (x ++ y).all (fun c => decide (c < 1114112) && decide (c ≠ 10)) = true) (hl : x.length + y.length ≤ 54) : BadX ls (x ++ z ++ y) := by
  have hq := asc_word hz
  have h3 : ∀ c ∈ x ++ y, c < 1114112 ∧ c ≠ 10 := fun c hc => by
    have := List.all_eq_true.mp h1 c hc
    simpa using this
  refine ⟨h, fun m => ?_, fun c hc => ?_, by simp; omega⟩
  · rcases List.mem_append.mp m with m | m
    · rcases List.mem_append.mp m with m | m
      · exact (h3 10 (List.mem_append_left _ m)).2 rfl
      · exact ten_name hz m
    · exact (h3 10 (List.mem_append_right _ m)).2 rfl
  · rcases List.mem_append.mp hc with m | m
    · rcases List.mem_append.mp m with m | m
      · exact (h3 c (List.mem_append_left _ m)).1
      · exact hq.1 c m
    · exact (h3 c (List.mem_append_right _ m)).1
abbrev xLet : List Nat := [108, 101, 116, 32]
abbrev xKeep : List Nat := [107, 101, 101, 112, 32]
abbrev xOne : List Nat := [32, 61, 32, 49]
abbrev xImp : List Nat := [105, 109, 112, 111, 114, 116, 32, 113, 32, 97, 115, 32]
abbrev xExp : List Nat := [101, 120, 112, 111, 114, 116, 32, 113, 32, 97, 115, 32]
abbrev xFrom : List Nat := [32, 102, 114, 111, 109, 32, 98]
theorem bx_let {ls : List Ln} (h : Md ls) {z : Nm} (hz : z ∈ avs ls) : BadX ls (xLet ++ z ++ xOne) := bx_of (h.nm z (.inl hz)).1 (bad_let (h.nm z (.inl hz)).1 hz) (by decide) (by decide)
theorem bx_keep {ls : List Ln} (h : Md ls) {z : Nm} (hz : z ∈ exs ls) : BadX ls (xKeep ++ z ++ xOne) := bx_of (h.nm z (.inr hz)).1 (bad_keep (h.nm z (.inr hz)).1 hz) (by decide) (by decide)
theorem bx_imp {ls : List Ln} (h : Md ls) {z : Nm} (hz : z ∈ avs ls) : BadX ls (xImp ++ z ++ xFrom) := bx_of (h.nm z (.inl hz)).1 (bad_nms (ex := false) (h.nm z (.inl hz)).1 (h.nm z (.inl hz)).2 hz) (by decide) (by decide)
theorem bx_exp {ls : List Ln} (h : Md ls) {z : Nm} (hz : z ∈ exs ls) : BadX ls (xExp ++ z ++ xFrom) := bx_of (h.nm z (.inr hz)).1 (bad_nms (ex := true) (h.nm z (.inr hz)).1 (h.nm z (.inr hz)).2 hz) (by decide) (by decide)
theorem badX_asc : ∀ x ∈ badX, x.all (fun c => decide (c < 1114112)) = true := by decide +kernel
theorem bx_fix {ls : List Ln} {x : List Nat} (h : x ∈ badX) : BadX ls x := ⟨bad_fix h, (badX_no x h).2.1, asc_of (badX_asc x h), Nat.le_trans (badX_no x h).2.2 (by decide)⟩
theorem bx_dblI (ls : List Ln) : BadX ls [105, 109, 112, 111, 114, 116, 32, 113, 44, 32, 114, 32, 97, 115, 32, 113, 32, 102, 114, 111, 109, 32, 98] := ⟨bad_dblI ls, by decide, asc_of (by decide), by decide⟩
theorem bx_dblE (ls : List Ln) : BadX ls [101, 120, 112, 111, 114, 116, 32, 113, 44, 32, 114, 32, 97, 115, 32, 113, 32, 102, 114, 111, 109, 32, 98] := ⟨bad_dblE ls, by decide, asc_of (by decide), by decide⟩
end Xp

/-! k05, the plain law: names followed from module to module -/
namespace Xp
open PySem PySem.NumText Lg Tok
/-- the own name of a line -/
def Ln.nm1 : Ln → Option Nm
  | .var _ x _ => some x
  | .fn f _ _ => some f
  | _ => none
def ownLn (ls : List Ln) (n : Nm) : Option Ln := ls.find? fun l => decide (l.nm1 = some n)
def otherLn (ex : Bool) (n : Nm) : List Ln → Option (Nm × Nm)
  | [] => none
  | .nms e ps m :: r => if e = ex then (match ps.find? fun p => decide (p.2 = n) with | some p => some (m, p.1) | none => otherLn ex n r) else otherLn ex n r
  | _ :: r => otherLn ex n r
abbrev Mods := List (Nm × List Ln)
def lookM (ms : Mods) (m : Nm) : Option (List Ln) := (ms.find? fun p => decide (p.1 = m)).map Prod.snd
def linesM (ms : Mods) (m : Nm) : List Ln := (lookM ms m).getD []
/-- where a name that a module exports leads; kn: what was seen -/
def followF (ms : Mods) : Nat → List (Nm × Nm) → Nm → Nm → Option (Option (Nm × Nm))
  | 0, _, _, _ => none
  | k + 1, kn, m, n => if (m, n) ∈ kn then some none else if (ownLn (linesM ms m) n).isSome = true then some (some (m, n)) else match otherLn true n (linesM ms m) with
    | none => some none
    | some (m', n') => followF ms k (kn ++ [(m, n)]) m' n'
/-- the pairs to which exports may lead -/
def cands (ms : Mods) : List (Nm × Nm) := ms.flatMap fun p => p.2.flatMap fun l => match l with
  | .nms true ps m => ps.map fun q => (m, q.1)
  | _ => []
theorem other_cand : ∀ {ls : List Ln} {n : Nm} {r : Nm × Nm}, otherLn true n ls = some r → r ∈ ls.flatMap fun l => match l with
    | .nms true ps m => ps.map fun q => (m, q.1)
    | _ => []
  | [], n, r, h => by cases h
  | l :: ls, n, r, h => by
    rw [List.flatMap_cons]
    cases l with
    | nms e ps m =>
      unfold otherLn at h
      by_cases he : e = true
      · subst he
        rw [if_pos rfl] at h
        cases hf : ps.find? fun p => decide (p.2 = n) with
        | none =>
          rw [hf] at h
          exact List.mem_append_right _ (other_cand h)
        | some p =>
          rw [hf] at h
          cases h
          exact List.mem_append_left _ (List.mem_map.mpr ⟨p, List.mem_of_find?_eq_some hf, rfl⟩)
      · rw [if_neg he] at h
        exact List.mem_append_right _ (other_cand h)
    | var _ _ _ => exact List.mem_append_right _ (other_cand (by unfold otherLn at h; exact h))
    | fn _ _ _ => exact List.mem_append_right _ (other_cand (by unfold otherLn at h; exact h))
    | run _ _ => exact List.mem_append_right _ (other_cand (by unfold otherLn at h; exact h))
theorem linesM_mem {ms : Mods} {m : Nm} {l : Ln} (h : l ∈ linesM ms m) : ∃ p ∈ ms, l ∈ p.2 := by
  unfold linesM lookM at h
  cases hf : ms.find? fun p => decide (p.1 = m) with
  | none => rw [hf] at h; simp at h
  | some p => rw [hf] at h; exact ⟨p, List.mem_of_find?_eq_some hf, by simpa using h⟩
theorem follow_cand {ms : Mods} {m n : Nm} {r : Nm × Nm} (h : otherLn true n (linesM ms m) = some r) : r ∈ cands ms := by
  obtain ⟨l, hl, hr⟩ := List.mem_flatMap.mp (other_cand h)
  obtain ⟨p, hp, hl2⟩ := linesM_mem hl
  exact List.mem_flatMap.mpr ⟨p, hp, List.mem_flatMap.mpr ⟨l, hl2, hr⟩⟩
theorem nodup_len {α : Type} [DecidableEq α] : ∀ {l m : List α}, l.Nodup → (∀ x ∈ l, x ∈ m) → l.length ≤ m.length
  | [], m, _, _ => by simp
  | x :: l, m, h, hs => by
    have hx := hs x (.head _)
    have h2 := List.nodup_cons.mp h
    have := nodup_len (l := l) (m := m.erase x) h2.2 fun y hy => (List.mem_erase_of_ne (fun e : y = x => h2.1 (by rw [← e]; exact hy))).mpr (hs y (.tail _ hy))
    rw [List.length_erase_of_mem hx] at this
    have : 1 ≤ m.length := List.length_pos_of_mem hx
    simp only [List.length_cons]
    omega
/-- it ends -/
theorem follow_ends {ms : Mods} (m0 n0 : Nm) : ∀ (k : Nat) (kn : List (Nm × Nm)) (m n : Nm), kn.Nodup → (∀ x ∈ kn, x ∈ (m0, n0) :: cands ms) → (m, n) ∈ (m0, n0) :: cands ms → (cands ms).length + 2 ≤ k + kn.length → ∃ o, followF ms k kn m n = some o
  | 0, kn, m, n, hn, hs, _, hk => by
    have := nodup_len hn hs
    simp only [List.length_cons] at this
    omega
  | k + 1, kn, m, n, hn, hs, hm, hk => by
    rw [followF]
    by_cases h1 : (m, n) ∈ kn
    · exact ⟨_, if_pos h1⟩
    rw [if_neg h1]
    by_cases h2 : (ownLn (linesM ms m) n).isSome = true
    · exact ⟨_, if_pos h2⟩
    rw [if_neg h2]
    cases h3 : otherLn true n (linesM ms m) with
    | none => exact ⟨_, rfl⟩
    | some r =>
      obtain ⟨m', n'⟩ := r
      refine follow_ends m0 n0 k (kn ++ [(m, n)]) m' n' ?_ ?_ (.tail _ (follow_cand h3)) (by simp; omega)
      · rw [List.nodup_append]
        exact ⟨hn, by simp, fun a ha b hb e => by rw [List.mem_singleton] at hb; subst e; subst hb; exact h1 ha⟩
      · intro x hx
        rcases List.mem_append.mp hx with hx | hx
        · exact hs x hx
        · rw [List.mem_singleton] at hx
          subst hx
          exact hm
theorem follow_mono {ms : Mods} : ∀ {k : Nat} {kn : List (Nm × Nm)} {m n : Nm} {o : Option (Nm × Nm)}, followF ms k kn m n = some o → ∀ j, k ≤ j → followF ms j kn m n = some o
  | 0, _, _, _, _, h, _, _ => by cases h
  | k + 1, kn, m, n, o, h, 0, hj => by omega
  | k + 1, kn, m, n, o, h, j + 1, hj => by
    rw [followF] at h ⊢
    by_cases h1 : (m, n) ∈ kn
    · rw [if_pos h1] at h ⊢; exact h
    rw [if_neg h1] at h ⊢
    by_cases h2 : (ownLn (linesM ms m) n).isSome = true
    · rw [if_pos h2] at h ⊢; exact h
    rw [if_neg h2] at h ⊢
    cases h3 : otherLn true n (linesM ms m) with
    | none => rw [h3] at h; exact h
    | some r =>
      rw [h3] at h
      exact follow_mono (k := k) h j (by omega)
/-- where it leads -/
def followM (ms : Mods) (m n : Nm) : Option (Nm × Nm) := (followF ms ((cands ms).length + 2) [] m n).getD none
theorem follow_is (ms : Mods) (m n : Nm) : followF ms ((cands ms).length + 2) [] m n = some (followM ms m n) := by
  obtain ⟨o, h⟩ := follow_ends (ms := ms) m n ((cands ms).length + 2) [] m n (by simp) (by simp) (.head _) (by simp)
  unfold followM
  rw [h]
  rfl
/-- where a name that is available leads -/
def availM (ms : Mods) (m n : Nm) : Option (Nm × Nm) := if (ownLn (linesM ms m) n).isSome = true then some (m, n) else match otherLn false n (linesM ms m) with
  | none => none
  | some (m', n') => followM ms m' n'
end Xp

/-! k05, the plain law: the names that a module exports, as a table -/
namespace Xp
open PySem PySem.NumText Lg Tok
def expD (m t : Nm) : PyData := .tuple [smD m, smD t]
def expOwn (acc : KD) (l : Ln) : KD := match l.nm1 with
  | some z => putD acc z .none
  | none => acc
def expOut (acc : KD) (l : Ln) : KD := match l with
  | .nms true ps m => ps.foldl (fun a p => putD a p.2 (expD m p.1)) acc
  | _ => acc
def expStep (acc : KD) (l : Ln) : KD := expOut (expOwn acc l) l
def expF (ls : List Ln) : KD := ls.foldl expStep []
theorem putD_len {α : Type} [DecidableEq α] (kds : KDt α) (k : α) (d : PyData) : (putD kds k d).length ≤ kds.length + 1 := by
  unfold putD
  split <;> simp
theorem expOut_len : ∀ (ps : List (Nm × Nm)) (m : Nm) (acc : KD), (ps.foldl (fun a p => putD a p.2 (expD m p.1)) acc).length ≤ acc.length + ps.length
  | [], m, acc => by simp
  | p :: r, m, acc => by
    have h1 := expOut_len r m (putD acc p.2 (expD m p.1))
    have h2 := putD_len acc p.2 (expD m p.1)
    rw [List.foldl_cons]
    simp only [List.length_cons]
    omega
theorem look_put {α : Type} [DecidableEq α] (kds : KDt α) (k n : α) (d : PyData) : lookD (putD kds k d) n = if n = k then some d else lookD kds n := by
  unfold putD
  by_cases h : (kds.any fun p => decide (p.1 = k)) = true
  · rw [if_pos h]
    induction kds with
    | nil => simp at h
    | cons p r ih =>
      unfold lookD at ih ⊢
      by_cases e : p.1 = k
      · by_cases e2 : n = k
        · subst e2
          simp [e]
        · have e3 : ¬ p.1 = n := fun h => e2 (by rw [← h, e])
          have e4 : ¬ k = n := fun h => e2 h.symm
          simp only [List.map_cons, if_pos e, List.find?_cons, e3, decide_false, if_neg e2]
          by_cases hr : (r.any fun p => decide (p.1 = k)) = true
          · rw [ih hr, if_neg e2]
          · have : r.map (fun p => if p.1 = k then (p.1, d) else p) = r := by
              have h2 : ∀ p ∈ r, ¬ p.1 = k := fun p hp e => hr (List.any_eq_true.mpr ⟨p, hp, by simpa using e⟩)
              clear ih h hr
              induction r with
              | nil => rfl
              | cons q r ih2 => rw [List.map_cons, if_neg (h2 q (.head _)), ih2 fun p hp => h2 p (.tail _ hp)]
            rw [this]
      · have hr : (r.any fun p => decide (p.1 = k)) = true := by simpa [e] using h
        have ih2 := ih hr
        simp only [List.map_cons, if_neg e, List.find?_cons]
        by_cases e3 : p.1 = n
        · have e2 : ¬ n = k := fun h => e (by rw [e3, h])
          simp [e3, e2]
        · simp only [e3, decide_false]
          exact ih2
  · rw [if_neg h]
    have h2 : ∀ p ∈ kds, ¬ p.1 = k := fun p hp e => h (List.any_eq_true.mpr ⟨p, hp, by simpa using e⟩)
    clear h
    unfold lookD
    rw [List.find?_append]
    by_cases e : n = k
    · subst e
      have : kds.find? (fun p => decide (p.1 = n)) = none := by
        rw [List.find?_eq_none]
        intro p hp e
        exact h2 p hp (by simpa using e)
      rw [this]
      simp
    · have e4 : ¬ k = n := fun h => e h.symm
      simp [e, e4]
/-- a fold of puts -/
theorem look_puts (n m : Nm) : ∀ (ps : List (Nm × Nm)) (acc : KD), (ps.map Prod.snd).Nodup → lookD (ps.foldl (fun a p => putD a p.2 (expD m p.1)) acc) n = match ps.find? fun p => decide (p.2 = n) with
    | some p => some (expD m p.1)
    | none => lookD acc n
  | [], acc, _ => rfl
  | p :: r, acc, h => by
    rw [List.map_cons, List.nodup_cons] at h
    rw [List.foldl_cons, look_puts n m r _ h.2, List.find?_cons]
    by_cases e : p.2 = n
    · have hr : r.find? (fun p => decide (p.2 = n)) = none := by
        rw [List.find?_eq_none]
        intro q hq e2
        exact h.1 (List.mem_map.mpr ⟨q, hq, by rw [e]; simpa using e2⟩)
      rw [hr]
      simp only [e, decide_true]
      rw [look_put, if_pos rfl]
    · have e2 : ¬ n = p.2 := fun h => e h.symm
      simp only [e, decide_false]
      cases r.find? (fun p => decide (p.2 = n)) with
      | some q => rfl
      | none =>
        show lookD (putD acc p.2 (expD m p.1)) n = lookD acc n
        rw [look_put, if_neg e2]
def expO (ls : List Ln) (n : Nm) : Option PyData := if (ownLn ls n).isSome = true then some .none else (otherLn true n ls).map fun r => expD r.1 r.2
theorem own_ex : ∀ {ls : List Ln} {n : Nm}, (ownLn ls n).isSome = true → n ∈ exs ls
  | [], n, h => by simp [ownLn] at h
  | l :: r, n, h => by
    have e : exs (l :: r) = l.ex ++ exs r := List.flatMap_cons
    rw [e]
    unfold ownLn at h
    rw [List.find?_cons] at h
    by_cases h1 : l.nm1 = some n
    · refine List.mem_append_left _ ?_
      cases l <;> simp [Ln.nm1] at h1 <;> simp [Ln.ex, h1]
    · simp only [h1, decide_false] at h
      exact List.mem_append_right _ (own_ex h)
theorem other_ex : ∀ {ls : List Ln} {n : Nm}, (otherLn true n ls).isSome = true → n ∈ exs ls
  | [], n, h => by simp [otherLn] at h
  | l :: r, n, h => by
    have e : exs (l :: r) = l.ex ++ exs r := List.flatMap_cons
    rw [e]
    cases l with
    | nms ex ps m =>
      unfold otherLn at h
      by_cases he : ex = true
      · subst he
        rw [if_pos rfl] at h
        cases hf : ps.find? fun p => decide (p.2 = n) with
        | some p =>
          have h2 := List.find?_some hf
          exact List.mem_append_left _ (List.mem_map.mpr ⟨p, List.mem_of_find?_eq_some hf, by simpa using h2⟩)
        | none =>
          rw [hf] at h
          exact List.mem_append_right _ (other_ex h)
      · rw [if_neg he] at h
        exact List.mem_append_right _ (other_ex h)
    | var _ _ _ => exact List.mem_append_right _ (other_ex (by unfold otherLn at h; exact h))
    | fn _ _ _ => exact List.mem_append_right _ (other_ex (by unfold otherLn at h; exact h))
    | run _ _ => exact List.mem_append_right _ (other_ex (by unfold otherLn at h; exact h))
theorem expO_out {ls : List Ln} {n : Nm} (h : n ∉ exs ls) : expO ls n = none ∧ ownLn ls n = none ∧ otherLn true n ls = none := by
  have h1 : ownLn ls n = none := by
    cases e : ownLn ls n with
    | none => rfl
    | some l => exact absurd (own_ex (by rw [e]; rfl)) h
  have h2 : otherLn true n ls = none := by
    cases e : otherLn true n ls with
    | none => rfl
    | some l => exact absurd (other_ex (by rw [e]; rfl)) h
  refine ⟨?_, h1, h2⟩
  unfold expO
  rw [h1, h2]
  rfl
theorem look_fold (n : Nm) : ∀ (ls : List Ln) (acc : KD), (exs ls).Nodup → lookD (ls.foldl expStep acc) n = match expO ls n with
    | some d => some d
    | none => lookD acc n
  | [], acc, _ => rfl
  | l :: r, acc, h => by
    have e : exs (l :: r) = l.ex ++ exs r := List.flatMap_cons
    rw [e, List.nodup_append] at h
    obtain ⟨h1, h2, h3⟩ := h
    rw [List.foldl_cons, look_fold n r _ h2]
    have same : l.nm1 ≠ some n → (otherLn true n (l :: r) = otherLn true n r) → expO (l :: r) n = expO r n := fun ha hb => by
      unfold expO
      rw [hb]
      unfold ownLn
      rw [List.find?_cons]
      simp only [ha, decide_false]
    have own : ∀ x : Nm, l.nm1 = some x → l.ex = [x] → (∀ n, otherLn true n (l :: r) = otherLn true n r) → expStep acc l = putD acc x .none → (match expO r n with
        | some d => some d
        | none => lookD (expStep acc l) n) = match expO (l :: r) n with
        | some d => some d
        | none => lookD acc n := fun x hx he ho hst => by
      by_cases hn : x = n
      · subst hn
        have hout : x ∉ exs r := fun hm => h3 x (by rw [he]; simp) x hm rfl
        rw [(expO_out hout).1]
        have e2 : expO (l :: r) x = some .none := by
          unfold expO ownLn
          rw [List.find?_cons]
          simp [hx]
        rw [e2, hst]
        show lookD (putD acc x .none) x = some .none
        rw [look_put, if_pos rfl]
      · rw [same (by rw [hx]; exact fun e => hn (by injection e)) (ho n)]
        cases expO r n with
        | some d => rfl
        | none =>
          show lookD (expStep acc l) n = lookD acc n
          rw [hst, look_put, if_neg fun e => hn e.symm]
    cases l with
    | var kp x t => exact own x rfl rfl (fun _ => rfl) rfl
    | fn f ps t => exact own f rfl rfl (fun _ => rfl) rfl
    | run hd t =>
      rw [same (by simp [Ln.nm1]) rfl]
      rfl
    | nms ex ps m =>
      cases ex with
      | false =>
        rw [same (by simp [Ln.nm1]) (by rw [otherLn, if_neg (by decide)])]
        rfl
      | true =>
        have hst : expStep acc (.nms true ps m) = ps.foldl (fun a p => putD a p.2 (expD m p.1)) acc := rfl
        have hlp := look_puts n m ps acc h1
        rw [hst, hlp]
        cases hf : ps.find? fun p => decide (p.2 = n) with
        | none =>
          rw [same (by simp [Ln.nm1]) (by rw [otherLn, if_pos rfl, hf])]
        | some p =>
          have hpn : p.2 = n := by simpa using List.find?_some hf
          have hin : n ∈ Ln.ex (.nms true ps m) := List.mem_map.mpr ⟨p, List.mem_of_find?_eq_some hf, hpn⟩
          have hout : n ∉ exs r := fun hm => h3 n hin n hm rfl
          have ho := expO_out hout
          rw [ho.1]
          have e2 : expO (.nms true ps m :: r) n = some (expD m p.1) := by
            unfold expO
            have e3 : ownLn (.nms true ps m :: r) n = none := by
              have := ho.2.1
              unfold ownLn at this ⊢
              rw [List.find?_cons]
              simpa [Ln.nm1] using this
            rw [e3, otherLn, if_pos rfl, hf]
            rfl
          rw [e2]
/-- the table tells what is exported -/
theorem look_exp {ls : List Ln} (h : (exs ls).Nodup) (n : Nm) : lookD (expF ls) n = expO ls n := by
  unfold expF
  rw [look_fold n ls [] h]
  cases expO ls n <;> rfl
end Xp

/-! k05, the plain law: the law's own search answers alike -/
namespace Xp
open PySem PySem.NumText Lg Tok
def lfollow (ms : Mods) : Nat → Nm → Nm → Option (Nm × Nm)
  | 0, _, _ => none
  | k + 1, m, n => match lookM ms m with
    | none => none
    | some ls => if (ownLn ls n).isSome = true then some (m, n) else match otherLn true n ls with
      | none => none
      | some (m', n') => lfollow ms k m' n'
/-- it ends at r behind t steps -/
inductive Term (ms : Mods) (r : Nm × Nm) : Nm → Nm → Nat → Prop
  | here {m n : Nm} : (ownLn (linesM ms m) n).isSome = true → r = (m, n) → Term ms r m n 0
  | step {m n m' n' : Nm} {t : Nat} : ¬ (ownLn (linesM ms m) n).isSome = true → otherLn true n (linesM ms m) = some (m', n') → Term ms r m' n' t → Term ms r m n (t + 1)
theorem Term.det {ms : Mods} {r r' : Nm × Nm} : ∀ {m n : Nm} {t t' : Nat}, Term ms r m n t → Term ms r' m n t' → t = t' := by
  intro m n t t' h
  induction h generalizing t' with
  | here h1 _ =>
    intro h2
    cases h2 with
    | here _ _ => rfl
    | step h3 _ _ => exact absurd h1 h3
  | step h1 h2 _ ih =>
    intro h3
    cases h3 with
    | here h4 _ => exact absurd h4 h1
    | step h4 h5 h6 =>
      rw [h2] at h5
      cases h5
      rw [ih h6]
theorem lfollow_term {ms : Mods} {r : Nm × Nm} : ∀ {k : Nat} {m n : Nm}, lfollow ms k m n = some r → ∃ t, t < k ∧ Term ms r m n t
  | 0, m, n, h => by cases h
  | k + 1, m, n, h => by
    rw [lfollow] at h
    cases hl : lookM ms m with
    | none => rw [hl] at h; cases h
    | some ls =>
      have e : linesM ms m = ls := by unfold linesM; rw [hl]; rfl
      rw [hl] at h
      dsimp only at h
      by_cases h1 : (ownLn ls n).isSome = true
      · rw [if_pos h1] at h
        cases h
        exact ⟨0, by omega, .here (by rw [e]; exact h1) rfl⟩
      · rw [if_neg h1] at h
        cases h2 : otherLn true n ls with
        | none => rw [h2] at h; cases h
        | some q =>
          obtain ⟨m', n'⟩ := q
          rw [h2] at h
          obtain ⟨t, ht, hT⟩ := lfollow_term (k := k) h
          exact ⟨t + 1, by omega, .step (by rw [e]; exact h1) (by rw [e]; exact h2) hT⟩
theorem term_follow {ms : Mods} {r : Nm × Nm} : ∀ {m n : Nm} {t : Nat}, Term ms r m n t → ∀ kn : List (Nm × Nm), (∀ x ∈ kn, ∃ s, t < s ∧ Term ms r x.1 x.2 s) → followF ms (t + 1) kn m n = some (some r) := by
  intro m n t h
  induction h with
  | @here m n h1 h2 =>
    intro kn hk
    rw [followF, if_neg fun hm => ?_, if_pos h1, h2]
    obtain ⟨s, hs, hT⟩ := hk _ hm
    have := Term.det hT (.here h1 h2)
    omega
  | @step m n m' n' t h1 h2 h3 ih =>
    intro kn hk
    rw [followF, if_neg fun hm => ?_, if_neg h1, h2]
    · refine ih (kn ++ [(m, n)]) fun x hx => ?_
      rcases List.mem_append.mp hx with hx | hx
      · obtain ⟨s, hs, hT⟩ := hk x hx
        exact ⟨s, by omega, hT⟩
      · rw [List.mem_singleton] at hx
        subst hx
        exact ⟨t + 1, by omega, .step h1 h2 h3⟩
    · obtain ⟨s, hs, hT⟩ := hk _ hm
      have := Term.det hT (.step h1 h2 h3)
      omega
theorem follow_lfollow {ms : Mods} {r : Nm × Nm} : ∀ {k : Nat} {kn : List (Nm × Nm)} {m n : Nm}, followF ms k kn m n = some (some r) → ∀ j, k ≤ j → lfollow ms j m n = some r
  | 0, _, _, _, h, _, _ => by cases h
  | k + 1, kn, m, n, h, 0, hj => by omega
  | k + 1, kn, m, n, h, j + 1, hj => by
    rw [followF] at h
    by_cases h0 : (m, n) ∈ kn
    · rw [if_pos h0] at h; cases h
    rw [if_neg h0] at h
    rw [lfollow]
    cases hl : lookM ms m with
    | none =>
      have e : linesM ms m = [] := by unfold linesM; rw [hl]; rfl
      rw [e] at h
      simp [ownLn, otherLn] at h
    | some ls =>
      have e : linesM ms m = ls := by unfold linesM; rw [hl]; rfl
      rw [e] at h
      dsimp only
      by_cases h1 : (ownLn ls n).isSome = true
      · rw [if_pos h1] at h ⊢
        exact Option.some.inj h
      · rw [if_neg h1] at h ⊢
        cases h2 : otherLn true n ls with
        | none => rw [h2] at h; cases h
        | some q =>
          rw [h2] at h
          exact follow_lfollow (k := k) h j (by omega)
/-- the law's search, with turns enough, answers as follow does -/
theorem lfollow_is {ms : Mods} {k : Nat} (hk : (cands ms).length + 2 ≤ k) (m n : Nm) : lfollow ms k m n = followM ms m n := by
  have hf := follow_is ms m n
  cases e : followM ms m n with
  | some r =>
    rw [e] at hf
    exact follow_lfollow hf k hk
  | none =>
    rw [e] at hf
    cases h : lfollow ms k m n with
    | none => rfl
    | some r =>
      obtain ⟨t, _, hT⟩ := lfollow_term h
      have h1 := term_follow hT [] (by simp)
      have h2 := follow_mono h1 (max (t + 1) ((cands ms).length + 2)) (Nat.le_max_left _ _)
      have h3 := follow_mono hf (max (t + 1) ((cands ms).length + 2)) (Nat.le_max_right _ _)
      rw [h2] at h3
      cases h3
end Xp

/-! k05, the plain law: where available names lead, line by line -/
namespace Xp
open PySem PySem.NumText Lg Tok
def leadO (ms : Mods) (n : Nm) (l : Ln) (d : Option (Nm × Nm)) : Option (Nm × Nm) := match l with
  | .nms false ps mm => (match ps.find? fun p => decide (p.2 = n) with
    | some p => followM ms mm p.1
    | none => d)
  | _ => d
def leadL (ms : Mods) (m n : Nm) : List Ln → Option (Nm × Nm)
  | [] => none
  | l :: r => if l.nm1 = some n then some (m, n) else leadO ms n l (leadL ms m n r)
theorem own_av : ∀ {ls : List Ln} {n : Nm}, (ownLn ls n).isSome = true → n ∈ avs ls
  | [], n, h => by simp [ownLn] at h
  | l :: r, n, h => by
    have e : avs (l :: r) = l.av ++ avs r := List.flatMap_cons
    rw [e]
    unfold ownLn at h
    rw [List.find?_cons] at h
    by_cases h1 : l.nm1 = some n
    · refine List.mem_append_left _ ?_
      cases l <;> simp [Ln.nm1] at h1 <;> simp [Ln.av, h1]
    · simp only [h1, decide_false] at h
      exact List.mem_append_right _ (own_av h)
theorem lead_is {ms : Mods} {m n : Nm} : ∀ {ls : List Ln}, (avs ls).Nodup → leadL ms m n ls = if (ownLn ls n).isSome = true then some (m, n) else match otherLn false n ls with
    | none => none
    | some (m', n') => followM ms m' n'
  | [], _ => by simp [leadL, ownLn, otherLn]
  | l :: r, h => by
    have e : avs (l :: r) = l.av ++ avs r := List.flatMap_cons
    rw [e, List.nodup_append] at h
    obtain ⟨h1, h2, h3⟩ := h
    have ih := lead_is (ms := ms) (m := m) (n := n) h2
    rw [leadL]
    by_cases hn : l.nm1 = some n
    · have : (ownLn (l :: r) n).isSome = true := by
        unfold ownLn
        rw [List.find?_cons]
        simp [hn]
      rw [if_pos hn, if_pos this]
    · have eo : ownLn (l :: r) n = ownLn r n := by
        unfold ownLn
        rw [List.find?_cons]
        simp only [hn, decide_false]
      rw [if_neg hn, eo]
      cases l with
      | var _ _ _ => exact ih
      | fn _ _ _ => exact ih
      | run _ _ => exact ih
      | nms ex ps mm =>
        cases ex with
        | true =>
          have : otherLn false n (.nms true ps mm :: r) = otherLn false n r := by rw [otherLn, if_neg (by decide)]
          rw [this]
          exact ih
        | false =>
          rw [otherLn, if_pos rfl]
          unfold leadO
          dsimp only
          cases hf : ps.find? fun p => decide (p.2 = n) with
          | none => exact ih
          | some p =>
            have hpn : p.2 = n := by simpa using List.find?_some hf
            have hin : n ∈ Ln.av (.nms false ps mm) := List.mem_map.mpr ⟨p, List.mem_of_find?_eq_some hf, hpn⟩
            rw [if_neg fun hs => h3 n hin n (own_av hs) rfl]
end Xp

/-! modules are reached: one visit, by its depth -/
namespace Xp
open PySem PySem.NumText Lg Tok
abbrev zmod : Nm := [109, 111, 100, 117, 108, 101]
abbrev zorder : Nm := [111, 114, 100, 101, 114]
def Ln.ref : Ln → Option Nm
  | .nms _ _ m => some m
  | _ => none
/-- a fault while modules are reached -/
inductive RF where
  | mod (m : Nm)
  | line (m : Nm) (k : Nat)
def RF.d : RF → PyData
  | .mod m => .tuple [smD zmod, smD m]
  | .line m k => .tuple [smD zline, smD m, .int k]
abbrev LF0 := Nm → Sum RF (List Ln)
/-- visited, in order -/
abbrev VSt := List Nm × List Nm
def goRefs (v : VSt → Nm → VSt × Option RF) : VSt → List Ln → VSt × Option RF
  | st, [] => (st, none)
  | st, l :: r => match l.ref with
    | none => goRefs v st r
    | some m => match v st m with
      | (st', some f) => (st', some f)
      | (st', none) => goRefs v st' r
def visitG (lf : LF0) : Nat → VSt → Nm → VSt × Option RF
  | 0, st, _ => (st, none)
  | k + 1, st, m => if m ∈ st.1 then (st, none) else match lf m with
    | .inl f => ((st.1 ++ [m], st.2), some f)
    | .inr ls => match goRefs (visitG lf k) (st.1 ++ [m], st.2) ls with
      | (st', some f) => (st', some f)
      | (st', none) => ((st'.1, st'.2 ++ [m]), none)
def visits (lf : LF0) (k : Nat) : VSt → List Nm → VSt × Option RF
  | st, [] => (st, none)
  | st, m :: r => match visitG lf k st m with
    | (st', some f) => (st', some f)
    | (st', none) => visits lf k st' r
/-- the names that may be met: closed -/
def Clo (U : List Nm) (lf : LF0) : Prop := ∀ m ∈ U, ∀ ls, lf m = .inr ls → ∀ l ∈ ls, ∀ z, l.ref = some z → z ∈ U
structure VOk (U : List Nm) (st : VSt) : Prop where
  nd : st.1.Nodup
  sub : ∀ m ∈ st.1, m ∈ U
  ord : ∀ m ∈ st.2, m ∈ st.1
  ol : st.2.length ≤ st.1.length
/-- what a visit may do -/
structure VTo (U : List Nm) (st st' : VSt) : Prop where
  nd : st'.1.Nodup
  sub : ∀ m ∈ st'.1, m ∈ U
  up : ∀ m ∈ st.1, m ∈ st'.1
  ord : ∀ m ∈ st'.2, m ∈ st'.1
  ol : st'.2.length + st.1.length ≤ st.2.length + st'.1.length
theorem VTo.refl {U : List Nm} {st : VSt} (h : VOk U st) : VTo U st st := ⟨h.nd, h.sub, fun _ h => h, h.ord, Nat.le_refl _⟩
theorem VTo.tr {U : List Nm} {a b c : VSt} (h1 : VTo U a b) (h2 : VTo U b c) : VTo U a c := ⟨h2.nd, h2.sub, fun m hm => h2.up m (h1.up m hm), h2.ord, by have := h1.ol; have := h2.ol; omega⟩
theorem VTo.ok {U : List Nm} {a b : VSt} (h : VOk U a) (t : VTo U a b) : VOk U b := ⟨t.nd, t.sub, t.ord, by have := t.ol; have := h.ol; omega⟩
theorem VOk.nil {U : List Nm} : VOk U ([], []) := ⟨List.nodup_nil, fun _ h => (by cases h), fun _ h => (by cases h), Nat.le_refl _⟩
theorem VOk.len {U : List Nm} {st : VSt} (h : VOk U st) : st.1.length ≤ U.length := nodup_len h.nd h.sub
theorem VOk.add {U : List Nm} {st : VSt} {m : Nm} (h : VOk U st) (hm : m ∈ U) (hn : m ∉ st.1) : VOk U (st.1 ++ [m], st.2) := by
  refine ⟨List.nodup_append.mpr ⟨h.nd, by simp, fun x hx y hy e => ?_⟩, fun x hx => ?_, fun x hx => List.mem_append_left _ (h.ord x hx), by have := h.ol; simp; omega⟩
  · rcases List.mem_singleton.mp hy with rfl
    exact hn (by rw [← e]; exact hx)
  · rcases List.mem_append.mp hx with hx | hx
    · exact h.sub x hx
    · rcases List.mem_singleton.mp hx with rfl
      exact hm
theorem goRefs_to {U : List Nm} {v : VSt → Nm → VSt × Option RF} (hv : ∀ st m, VOk U st → m ∈ U → VTo U st (v st m).1) : ∀ {ls : List Ln} {st : VSt}, VOk U st → (∀ l ∈ ls, ∀ z, l.ref = some z → z ∈ U) → VTo U st (goRefs v st ls).1
  | [], st, h, _ => .refl h
  | l :: r, st, h, hl => by
    rw [goRefs]
    cases hr : l.ref with
    | none => exact goRefs_to hv h fun l hm => hl l (.tail _ hm)
    | some m =>
      have h1 := hv st m h (hl l (.head _) m hr)
      generalize hx : v st m = x at h1
      obtain ⟨st', f⟩ := x
      cases f with
      | some f => simp only [hx]; exact h1
      | none =>
        simp only [hx]
        exact h1.tr (goRefs_to hv (h1.ok h) fun l hm => hl l (.tail _ hm))
theorem visit_to {U : List Nm} {lf : LF0} (hc : Clo U lf) : ∀ (k : Nat) (st : VSt) (m : Nm), VOk U st → m ∈ U → VTo U st (visitG lf k st m).1
  | 0, st, m, h, _ => .refl h
  | k + 1, st, m, h, hm => by
    rw [visitG]
    by_cases hv : m ∈ st.1
    · rw [if_pos hv]
      exact .refl h
    rw [if_neg hv]
    have ha := h.add hm hv
    have h0 : VTo U st (st.1 ++ [m], st.2) := ⟨ha.nd, ha.sub, fun x hx => List.mem_append_left _ hx, ha.ord, by simp⟩
    cases hl : lf m with
    | inl f => exact h0
    | inr ls =>
      have h1 := goRefs_to (v := visitG lf k) (fun st m h hm => visit_to hc k st m h hm) (ls := ls) ha (hc m hm ls hl)
      generalize hx : goRefs (visitG lf k) (st.1 ++ [m], st.2) ls = x at h1
      obtain ⟨st', f⟩ := x
      cases f with
      | some f => simp only [hx]; exact h0.tr h1
      | none =>
        simp only [hx]
        have h3 := h1.up m (List.mem_append_right _ (.head _))
        have h4 := h1.ol
        refine ⟨h1.nd, h1.sub, fun x hx => h1.up x (List.mem_append_left _ hx), fun x hx => ?_, by simp at h4 ⊢; omega⟩
        rcases List.mem_append.mp hx with hx | hx
        · exact h1.ord x hx
        · rcases List.mem_singleton.mp hx with rfl
          exact h3
theorem visits_to {U : List Nm} {lf : LF0} (hc : Clo U lf) (k : Nat) : ∀ {ms : List Nm} {st : VSt}, VOk U st → (∀ m ∈ ms, m ∈ U) → VTo U st (visits lf k st ms).1
  | [], st, h, _ => .refl h
  | m :: r, st, h, hm => by
    rw [visits]
    have h1 := visit_to hc k st m h (hm m (.head _))
    generalize hx : visitG lf k st m = x at h1
    obtain ⟨st', f⟩ := x
    cases f with
    | some f => exact h1
    | none => exact h1.tr (visits_to hc k (h1.ok h) fun z hz => hm z (.tail _ hz))
/-- how many are left -/
def cnt (U vis : List Nm) : Nat := (U.filter fun x => decide (x ∉ vis)).length
theorem filter_len_le {α : Type} {p q : α → Bool} : ∀ {l : List α}, (∀ x ∈ l, p x = true → q x = true) → (l.filter p).length ≤ (l.filter q).length
  | [], _ => Nat.le_refl _
  | x :: l, h => by
    have ih := filter_len_le (p := p) (q := q) (l := l) fun y hy => h y (.tail _ hy)
    have hx := h x (.head _)
    simp only [List.filter_cons]
    cases hp : p x with
    | false => cases hq : q x <;> simp <;> omega
    | true => rw [hx hp]; simp; omega
theorem cnt_le {U a b : List Nm} (h : ∀ m ∈ a, m ∈ b) : cnt U b ≤ cnt U a := filter_len_le fun x _ hx => by
  have : x ∉ b := by simpa using hx
  simpa using fun hm => this (h x hm)
theorem cnt_lt {m : Nm} {vis : List Nm} : ∀ {U : List Nm}, m ∈ U → m ∉ vis → cnt U (vis ++ [m]) < cnt U vis
  | [], h, _ => by cases h
  | x :: U, h, hn => by
    have le : cnt U (vis ++ [m]) ≤ cnt U vis := cnt_le fun y hy => List.mem_append_left _ hy
    unfold cnt at le ⊢
    simp only [List.filter_cons]
    by_cases hx : x = m
    · subst hx
      rw [if_neg (by simp), if_pos (by simpa using hn)]
      simp only [List.length_cons]
      omega
    · have ih := cnt_lt (m := m) (vis := vis) (U := U) ((List.mem_cons.mp h).resolve_left (Ne.symm hx)) hn
      unfold cnt at ih
      by_cases hv : x ∈ vis
      · rw [if_neg (by simp [hv]), if_neg (by simp [hv])]
        exact ih
      · rw [if_pos (by simp [hv, hx]), if_pos (by simp [hv])]
        simp only [List.length_cons]
        omega
/-- by the modules as they are -/
def lfM (ms : Mods) : LF0 := fun m => match lookM ms m with
  | none => .inl (.mod m)
  | some ls => .inr ls
def lfD : Sum RF (List Ln) → PyData
  | .inl f => f.d
  | .inr ls => .tuple [smD zmod, .tuple (ls.map Ln.d)]
def rfD : Option RF → PyData
  | none => .none
  | some f => f.d
/-- the law tells the name alone -/
def misD : Option RF → PyData
  | some (.mod m) => smD m
  | _ => .none
def reachD (r : VSt × Option RF) : PyData := match r.2 with
  | some f => f.d
  | none => .tuple [smD zorder, .tuple (r.1.2.map smD)]
def isMod : Option RF → Prop
  | some (.line _ _) => False
  | _ => True
theorem goRefs_mod {v : VSt → Nm → VSt × Option RF} (hv : ∀ st m, isMod (v st m).2) : ∀ (ls : List Ln) (st : VSt), isMod (goRefs v st ls).2
  | [], st => trivial
  | l :: r, st => by
    rw [goRefs]
    cases hr : l.ref with
    | none => exact goRefs_mod hv r st
    | some m =>
      have h1 := hv st m
      generalize hx : v st m = x at h1
      obtain ⟨st', f⟩ := x
      cases f with
      | some f => simp only [hx]; exact h1
      | none => simp only [hx]; exact goRefs_mod hv r st'
theorem visit_mod {ms : Mods} : ∀ (k : Nat) (st : VSt) (m : Nm), isMod (visitG (lfM ms) k st m).2
  | 0, st, m => trivial
  | k + 1, st, m => by
    rw [visitG]
    split
    · trivial
    · unfold lfM
      cases lookM ms m with
      | none => trivial
      | some ls =>
        have h1 := goRefs_mod (v := visitG (lfM ms) k) (visit_mod k) ls (st.1 ++ [m], st.2)
        show isMod (match goRefs (visitG (lfM ms) k) (st.1 ++ [m], st.2) ls with
          | (st', some f) => (st', some f)
          | (st', none) => ((st'.1, st'.2 ++ [m]), none)).2
        generalize goRefs (visitG (lfM ms) k) (st.1 ++ [m], st.2) ls = x at h1
        obtain ⟨st', f⟩ := x
        cases f with
        | some f => exact h1
        | none => trivial
theorem visits_mod {ms : Mods} (k : Nat) : ∀ (l : List Nm) (st : VSt), isMod (visits (lfM ms) k st l).2
  | [], st => trivial
  | m :: r, st => by
    rw [visits]
    have h1 := visit_mod (ms := ms) k st m
    generalize visitG (lfM ms) k st m = x at h1
    obtain ⟨st', f⟩ := x
    cases f with
    | some f => exact h1
    | none => exact visits_mod k r st'
end Xp

/-! k05: modules with export lines and one more import line -/
namespace Xp
open PySem PySem.NumText Lg Tok
/-- own lines, none of which is an import or an export -/
structure OwnB (n : Nat) (ls : List Ln) : Prop where
  o : Own n ls
  r : ∀ l ∈ ls, l.ref = none
/-- a module drawn -/
structure Shp (n : Nat) (ls : List Ln) : Prop where
  nm : n ∈ modL
  sh : ∃ im ow, ls = im ++ ow ∧ Imp n im ∧ OwnB n ow
def candL (ls : List Ln) : List (Nm × Nm) := ls.flatMap fun l => match l with
  | .nms true ps m => ps.map fun q => (m, q.1)
  | _ => []
theorem cands_eq (ms : Mods) : cands ms = ms.flatMap fun p => candL p.2 := rfl
/-- what is wanted of a module in a law of names -/
structure FinM (U : List Nm) (ls : List Ln) : Prop where
  ok : ∀ l ∈ ls, l.ok
  len : ls.length ≤ 13
  ex : (exs ls).Nodup
  av : (avs ls).Nodup
  rf : ∀ l ∈ ls, ∀ z, l.ref = some z → z ∈ U
  cd : (candL ls).length ≤ 3
abbrev exN : List Nm := [[117], [118], [119], [120, 97], [102, 98], [107, 99], [110, 111, 110, 101]]
abbrev uvw : List Nm := [[117], [118], [119]]
theorem exN_ok : ∀ z ∈ exN, isName z = true := by decide +kernel
theorem uvw_ok : ∀ z ∈ uvw, isName z = true := by decide +kernel
abbrev refU : List Nm := [[97], [98], [99], [100], [122, 122]]
theorem refU_ok : ∀ z ∈ refU, isName z = true := by decide +kernel
theorem modL_U : ∀ o ∈ modL, ([o] : Nm) ∈ refU := by decide
/-- the line that is put behind, the one that is put ahead -/
def ExpLn (l : Ln) : Prop := ∃ ps t, l = .nms true ps t ∧ ps ≠ [] ∧ (∃ k, k ≤ 2 ∧ ps.map Prod.snd = uvw.take k) ∧ (∀ p ∈ ps, p.1 ∈ exN) ∧ t ∈ refU
def impLn (t : Nm) : Ln := .nms false [([117], [117, 117]), ([120, 97], [118, 118])] t
def ImpLn (l : Ln) : Prop := ∃ t ∈ refU, l = impLn t
theorem uuvv_ok : isName [117, 117] = true ∧ isName [118, 118] = true ∧ isName [117] = true ∧ isName [120, 97] = true := by decide +kernel
theorem avs_app2 (a b : List Ln) : avs (a ++ b) = avs a ++ avs b := List.flatMap_append
theorem exs_app2 (a b : List Ln) : exs (a ++ b) = exs a ++ exs b := List.flatMap_append
theorem candL_app (a b : List Ln) : candL (a ++ b) = candL a ++ candL b := List.flatMap_append
theorem ExpLn.avs {l : Ln} (h : ExpLn l) : l.av = [] := by
  obtain ⟨ps, t, rfl, _⟩ := h
  rfl
theorem ImpLn.exs {l : Ln} (h : ImpLn l) : l.ex = [] := by
  obtain ⟨t, _, rfl⟩ := h
  rfl
theorem fin_of {n : Nat} {ls : List Ln} (h : Shp n ls) (im ex : List Ln) (hi : im.length ≤ 1) (he : ex.length ≤ 1) (him : ∀ l ∈ im, ImpLn l) (hex : ∀ l ∈ ex, ExpLn l) : FinM refU (im ++ (ls ++ ex)) := by
  obtain ⟨hn, im0, ow, rfl, hI, hO⟩ := h
  obtain ⟨m1, m2, m3⟩ := md_mod hn hI hO.o
  have a1 : avs im = [] ∨ avs im = [[117, 117], [118, 118]] := by
    match im, hi, him with
    | [], _, _ => exact .inl rfl
    | [l], _, him =>
      obtain ⟨t, _, rfl⟩ := him l (.head _)
      exact .inr rfl
  have a2 : avs ex = [] := by
    unfold Xp.avs
    rw [List.flatMap_eq_nil_iff]
    exact fun l hl => (hex l hl).avs
  have e1 : exs im = [] := by
    unfold Xp.exs
    rw [List.flatMap_eq_nil_iff]
    exact fun l hl => (him l hl).exs
  have e2 : exs ex = [] ∨ ∃ k, k ≤ 2 ∧ exs ex = uvw.take k := by
    match ex, he, hex with
    | [], _, _ => exact .inl rfl
    | [l], _, hex =>
      obtain ⟨ps, t, rfl, _, ⟨k, hk, h⟩, _⟩ := hex l (.head _)
      refine .inr ⟨k, hk, ?_⟩
      rw [← h]
      simp [Xp.exs, Ln.ex]
  have c1 : candL im = [] := by
    unfold candL
    rw [List.flatMap_eq_nil_iff]
    intro l hl
    obtain ⟨t, _, rfl⟩ := him l hl
    rfl
  have c2 : candL im0 = [] := by
    unfold candL
    rw [List.flatMap_eq_nil_iff]
    intro l hl
    obtain ⟨ps, o, rfl, _⟩ := hI.sh l hl
    rfl
  have c3 : candL ow = [] := by
    unfold candL
    rw [List.flatMap_eq_nil_iff]
    intro l hl
    have := hO.r l hl
    cases l with
    | nms ex ps m => cases this
    | var _ _ _ => rfl
    | fn _ _ _ => rfl
    | run _ _ => rfl
  have c4 : (candL ex).length ≤ 3 := by
    match ex, he, hex with
    | [], _, _ => simp [candL]
    | [l], _, hex =>
      obtain ⟨ps, t, rfl, _, ⟨k, hk, h⟩, _⟩ := hex l (.head _)
      have := congrArg List.length h
      rw [List.length_map, List.length_take] at this
      simp [candL]
      omega
  refine ⟨fun l hl => ?_, by simp at m2 ⊢; omega, ?_, ?_, fun l hl z hz => ?_, ?_⟩
  · rcases List.mem_append.mp hl with hl | hl
    · obtain ⟨t, ht, rfl⟩ := him l hl
      refine ⟨fun p hp => ?_, by simp, by simp, refU_ok t ht⟩
      simp only [List.mem_cons, List.not_mem_nil, or_false] at hp
      rcases hp with rfl | rfl
      · exact ⟨uuvv_ok.2.2.1, uuvv_ok.1⟩
      · exact ⟨uuvv_ok.2.2.2, uuvv_ok.2.1⟩
    · rcases List.mem_append.mp hl with hl | hl
      · exact (m1.ok l hl).1
      · obtain ⟨ps, t, rfl, hne, ⟨k, hk, h⟩, h2, ht⟩ := hex l hl
        have hlen := congrArg List.length h
        rw [List.length_map, List.length_take] at hlen
        refine ⟨fun p hp => ⟨exN_ok _ (h2 p hp), uvw_ok _ ?_⟩, hne, by simp at hlen; omega, refU_ok t ht⟩
        have : p.2 ∈ ps.map Prod.snd := List.mem_map.mpr ⟨p, hp, rfl⟩
        rw [h] at this
        exact List.take_subset _ _ this
  · rw [exs_app2, exs_app2, e1, List.nil_append]
    rcases e2 with e2 | ⟨k, hk, e2⟩ <;> rw [e2]
    · rw [List.append_nil]; exact m1.ex
    · refine List.nodup_append.mpr ⟨m1.ex, (show uvw.Nodup by decide).sublist (List.take_sublist _ _), fun a ha b hb e => ?_⟩
      obtain ⟨c, _, rfl⟩ := m3 a ha
      have hb2 := List.take_subset _ _ hb
      rw [← e] at hb2
      simp at hb2
  · rw [avs_app2, avs_app2, a2, List.append_nil]
    rcases a1 with a1 | a1 <;> rw [a1]
    · exact m1.av
    · refine List.nodup_append.mpr ⟨by decide, m1.av, fun a ha b hb e => ?_⟩
      rw [avs_app2] at hb
      have key : ∃ c ∈ ownC, ∃ o, b = [c, o] ∨ b = [122, c, o] := by
        rcases List.mem_append.mp hb with hb | hb
        · obtain ⟨l, hl, hz⟩ := List.mem_flatMap.mp hb
          obtain ⟨ps, o, rfl, ho, _, _, _, h3⟩ := hI.sh l hl
          obtain ⟨p, hp, rfl⟩ := List.mem_map.mp (show b ∈ ps.map Prod.snd from hz)
          obtain ⟨c, hc, _, e2⟩ := h3 p hp
          exact ⟨c, hc, o, e2⟩
        · obtain ⟨c, hc, e⟩ := hO.o.nm b hb
          exact ⟨c, hc, n, .inl e⟩
      obtain ⟨c, hc, o, hb2⟩ := key
      have hc2 : c ≠ 117 ∧ c ≠ 118 := by
        simp only [ownC, List.mem_cons, List.not_mem_nil, or_false] at hc
        omega
      simp only [List.mem_cons, List.not_mem_nil, or_false] at ha
      rcases hb2 with hb2 | hb2 <;> rcases ha with ha | ha <;> rw [e, hb2] at ha <;> simp at ha
      · exact hc2.1 ha.1
      · exact hc2.2 ha.1
  · rcases List.mem_append.mp hl with hl | hl
    · obtain ⟨t, ht, rfl⟩ := him l hl
      cases hz
      exact ht
    · rcases List.mem_append.mp hl with hl | hl
      · rcases List.mem_append.mp hl with hl | hl
        · obtain ⟨ps, o, rfl, ho, _⟩ := hI.sh l hl
          cases hz
          exact modL_U o ho
        · rw [hO.r l hl] at hz
          cases hz
      · obtain ⟨ps, t, rfl, _, _, _, ht⟩ := hex l hl
        cases hz
        exact ht
  · rw [candL_app, candL_app, candL_app, c1, c2, c3]
    exact c4
/-! a module's lines replaced -/
def putM (ms : Mods) (k : Nm) (ls : List Ln) : Mods := ms.map fun p => if p.1 = k then (p.1, ls) else p
theorem putM_keys (ms : Mods) (k : Nm) (ls : List Ln) : (putM ms k ls).map Prod.fst = ms.map Prod.fst := by
  unfold putM
  rw [List.map_map]
  refine List.map_congr_left fun p _ => ?_
  show (if p.1 = k then (p.1, ls) else p).1 = p.1
  split <;> rfl
theorem look_mem {ms : Mods} {k : Nm} {p : Nm × List Ln} (hnd : (ms.map Prod.fst).Nodup) (hp : p ∈ ms) (hk : p.1 = k) : lookM ms k = some p.2 := by
  unfold lookM
  cases hf : ms.find? fun p => decide (p.1 = k) with
  | none =>
    have := List.find?_eq_none.mp hf p hp
    simp [hk] at this
  | some q =>
    have h1 := List.mem_of_find?_eq_some hf
    have h2 : q.1 = k := by have := List.find?_some hf; simpa using this
    have : q = p := by
      have key : ∀ (l : Mods), (l.map Prod.fst).Nodup → q ∈ l → p ∈ l → q = p := by
        intro l
        induction l with
        | nil => intro _ h; cases h
        | cons x r ih =>
          intro nd hq hp
          rw [List.map_cons, List.nodup_cons] at nd
          rcases List.mem_cons.mp hq with e1 | h3 <;> rcases List.mem_cons.mp hp with e2 | h4
          · rw [e1, e2]
          · exact absurd (List.mem_map.mpr ⟨p, h4, by rw [← e1]; exact hk.trans h2.symm⟩) nd.1
          · exact absurd (List.mem_map.mpr ⟨q, h3, by rw [← e2]; exact h2.trans hk.symm⟩) nd.1
          · exact ih nd.2 h3 h4
      exact key ms hnd h1 hp
    rw [this]
    rfl
theorem look_put_same {ms : Mods} {k : Nm} {ls l0 : List Ln} (hl : lookM ms k = some l0) : lookM (putM ms k ls) k = some ls := by
  unfold lookM putM at *
  induction ms with
  | nil => simp at hl
  | cons p r ih =>
    rw [List.map_cons, List.find?_cons]
    by_cases e : p.1 = k
    · simp [e]
    · rw [if_neg e, decide_eq_false e]
      rw [List.find?_cons, decide_eq_false e] at hl
      exact ih hl
theorem look_put_ne {ms : Mods} {k m : Nm} {ls : List Ln} (hne : m ≠ k) : lookM (putM ms k ls) m = lookM ms m := by
  unfold lookM putM
  induction ms with
  | nil => rfl
  | cons p r ih =>
    rw [List.map_cons, List.find?_cons, List.find?_cons]
    by_cases e : p.1 = k
    · rw [if_pos e]
      have : ¬ p.1 = m := fun z => hne (by rw [← z, e])
      rw [decide_eq_false this]
      exact ih
    · rw [if_neg e]
      by_cases e2 : p.1 = m
      · rw [decide_eq_true e2]
      · rw [decide_eq_false e2]
        exact ih
end Xp

/-! where names lead: an own name of a module that is there -/
namespace Xp
open PySem PySem.NumText Lg Tok
theorem follow_own {ms : Mods} : ∀ {k : Nat} {kn : List (Nm × Nm)} {m n : Nm} {r : Nm × Nm}, followF ms k kn m n = some (some r) → (ownLn (linesM ms r.1) r.2).isSome = true
  | 0, kn, m, n, r, h => by simp [followF] at h
  | k + 1, kn, m, n, r, h => by
    rw [followF] at h
    by_cases h1 : (m, n) ∈ kn
    · rw [if_pos h1] at h
      injection h with h
      cases h
    rw [if_neg h1] at h
    by_cases h2 : (ownLn (linesM ms m) n).isSome = true
    · rw [if_pos h2] at h
      injection h with h
      injection h with h
      subst h
      exact h2
    rw [if_neg h2] at h
    cases h3 : otherLn true n (linesM ms m) with
    | none =>
      rw [h3] at h
      injection h with h
      cases h
    | some q =>
      rw [h3] at h
      exact follow_own h
theorem followM_own {ms : Mods} {m n : Nm} {r : Nm × Nm} (h : followM ms m n = some r) : (ownLn (linesM ms r.1) r.2).isSome = true := by
  have := follow_is ms m n
  rw [h] at this
  exact follow_own this
theorem avail_own {ms : Mods} {m n : Nm} {r : Nm × Nm} (h : availM ms m n = some r) : (ownLn (linesM ms r.1) r.2).isSome = true := by
  unfold availM at h
  by_cases h2 : (ownLn (linesM ms m) n).isSome = true
  · rw [if_pos h2] at h
    injection h with h
    subst h
    exact h2
  rw [if_neg h2] at h
  cases h3 : otherLn false n (linesM ms m) with
  | none => rw [h3] at h; cases h
  | some q => rw [h3] at h; exact followM_own h
/-- a binding -/
structure Bd (ms : Mods) (r : Nm × Nm) : Prop where
  ls : ∃ p ∈ ms, p.1 = r.1 ∧ lookM ms r.1 = some p.2 ∧ ∃ l ∈ p.2, ownLn p.2 r.2 = some l ∧ l.nm1 = some r.2
theorem bd_of {ms : Mods} {r : Nm × Nm} (h : (ownLn (linesM ms r.1) r.2).isSome = true) : Bd ms r := by
  unfold linesM at h
  cases hl : lookM ms r.1 with
  | none =>
    rw [hl] at h
    simp [ownLn] at h
  | some ls =>
    rw [hl] at h
    have h : (ownLn ls r.2).isSome = true := h
    unfold lookM at hl
    cases hf : ms.find? fun p => decide (p.1 = r.1) with
    | none => rw [hf] at hl; cases hl
    | some p =>
      rw [hf] at hl
      have e : p.2 = ls := by simpa using hl
      subst e
      have h2 : p.1 = r.1 := by have := List.find?_some hf; simpa using this
      obtain ⟨l, hl2⟩ := Option.isSome_iff_exists.mp h
      refine ⟨p, List.mem_of_find?_eq_some hf, h2, ?_, l, List.mem_of_find?_eq_some hl2, hl2, ?_⟩
      · unfold lookM
        rw [hf]
        rfl
      · have := List.find?_some hl2
        simpa using this
theorem nm1_ok {l : Ln} {n : Nm} (h : l.ok) (e : l.nm1 = some n) : isName n = true := by
  cases l with
  | nms _ _ _ => cases e
  | var _ x t => cases e; exact h.1
  | fn f ps t => cases e; exact h.1
  | run _ _ => cases e
end Xp

/-! ### the text by places, names by slots, readings, derivations (printed by tools/gen2.py) -/
namespace K05
open PySem PySem.Spec PyProof.Rows L2 Lg
structure G (K : PySem.W.Frag) (mg : Str → Option Value) : Prop where
  c_OWN : ∃ u, mg "OWN" = some u ∧ RelV (.ref (He.ga K "OWN")) u
  c_EXPORT : ∃ u, mg "EXPORT" = some u ∧ RelV (.str "export") u
  c_IMPORT : ∃ u, mg "IMPORT" = some u ∧ RelV (.str "import") u
  b_tuple : mg "tuple" = none
  k_Reach : mg "Reach" = some (.ref (He.ga K "Reach"))
  b_len : mg "len" = none
  b_range : mg "range" = none
  b_int : mg "int" = none
  b_list : mg "list" = none
  b_repr : mg "repr" = none
  b_sorted : mg "sorted" = none
  b_isinstance : mg "isinstance" = none
  cls_Reach : Cls K (He.ga K "Reach")
  mkr_Reach : Mk K (He.ga K "Reach") (He.ma K (He.ga K "Reach") "__init__")
  me_Reach_visit : Meth K (He.ga K "Reach") "visit" (He.ma K (He.ga K "Reach") "visit")
  dummy : True
/-- what is written of the classes -/
structure CF (K : PySem.W.Frag) : Prop where
  t_OWN : He.tupB K "OWN" (tab_OWN.map He.Dv.str) = true
  cls_Reach : Cls K (He.ga K "Reach")
  na_Reachorder : NoAttr K (He.ga K "Reach") "order"
  na_Reach_visited : NoAttr K (He.ga K "Reach") "_visited"
  na_Reach_lines_of : NoAttr K (He.ga K "Reach") "_lines_of"
  dummy : True
section
variable {P : Program} {w : World} {K : PySem.W.Frag} {mg : Str → Option Value} {base : Heap}
abbrev N_own : List Str := ["lines", "name", "line"]
theorem sc_own : FnScope N_own ["lines", "name"] (defScope s_own) := ⟨rfl, rfl, rfl, by decide +kernel, rfl, by decide +kernel, by decide +kernel⟩
def t_own (K : PySem.W.Frag) : TS :=
    (tSeq (tFor (iAny K (tVar 0)) (gName 2) (tIfS (tAnd (tTest (tOp (rInX K false) (tOp (rIx K) (tVar 2) (tC (.int 0))) (tC (.ref (He.ga K "OWN"))))) (tTest (tOp (rEqX K) (tOp (rIx K) (tVar 2) (tC (.int 1))) (tVar 1)))) (tRet (tVar 2)) tNext))
    (tRet (tC .non)))
theorem d_own (g : G K mg) {f : Addr} {cdv : Value} {A : Around} {outer : List Env} {s : Shared} {H : Hp} {E : XK} (hr : Room 0 (A.deeper (envOfC "_own" (defScope s_own) s.heap.objs.size f cdv))) :
    PSs (cxOf CX0 P w K mg base N_own "_own" (defScope s_own) f cdv A outer s H E).nox (defBody s_own) (t_own K) := by
  unfold t_own
  exact
    (pss_cons (ps_for PassesOwn.never rfl (pi_any (pv 0)) (pg_name (i := 2) sc_own.nd rfl (by first | exact Or.inl rfl | exact Or.inr rfl)) (pss_one (ps_if (PW.pt (pw_and (pt_cmpR o_in (pe_ix ix_seq (pv 2) pe_int (fun _ _ => rfl)) (C8.pe_gc rfl g.c_OWN) (by rfl)) (pw_and1 (pt_cmpR (o_eq hr.units) (pe_ix ix_seq (pv 2) pe_int (fun _ _ => rfl)) (pv 1) (nomark _))))) (pss_one (ps_ret (pv 2))) pss_nil)))
    (pss_one (ps_ret pe_non)))
theorem ok_own (g : G K mg) {sp : Sp} (F : ∃ fd, FunD K "_own" "_own" (defArgs s_own) (defBody s_own) (defScope s_own) [] [] (He.ga K "_own") fd) (m : mg "_own" = some (.ref (He.ga K "_own")))
    (hsp : ∀ vs H Q E, sp vs H Q E → vs.length = 2 ∧ t_own K { nx := fun _ H' => Q .non H', rt := Q } (start N_own vs) H) : C8.Cal P w K mg base 1 "_own" sp [] := by
  obtain ⟨fd, F⟩ := F
  exact ⟨_, fd, ["lines", "name"], [], FunD.ok F sc_own (fun vs H Q E h => (hsp vs H Q E h).1) (fun cdv A outer s H vs Q E hr h => ⟨_, PSs.nox (d_own g hr), (hsp vs H Q E h).2⟩), m, F.kp, (F.bindsN fun _ _ _ _ _ _ us hl => match us, hl with | [_, _], _ => rfl), .nil⟩
abbrev N_other : List Str := ["lines", "word", "name", "line", "there", "here"]
theorem sc_other : FnScope N_other ["lines", "word", "name"] (defScope s_other) := ⟨rfl, rfl, rfl, by decide +kernel, rfl, by decide +kernel, by decide +kernel⟩
def t_other (K : PySem.W.Frag) : TS :=
    (tSeq (tFor (iAny K (tVar 0)) (gName 3) (tIfS (tTest (tOp (rEqX K) (tOp (rIx K) (tVar 3) (tC (.int 0))) (tVar 1))) (tFor (iAny K (tOp (rIx K) (tVar 3) (tC (.int 1)))) (gUnp K 2 (gCons (gName 4) (gCons (gName 5) gNil))) (tIfS (tTest (tOp (rEqX K) (tVar 5) (tVar 2))) (tRet (tTup (tCons (tOp (rIx K) (tVar 3) (tC (.int 2))) (tCons (tVar 4) tNil)))) tNext)) tNext))
    (tRet (tC .non)))
theorem d_other (g : G K mg) {f : Addr} {cdv : Value} {A : Around} {outer : List Env} {s : Shared} {H : Hp} {E : XK} (hr : Room 0 (A.deeper (envOfC "_other" (defScope s_other) s.heap.objs.size f cdv))) :
    PSs (cxOf CX0 P w K mg base N_other "_other" (defScope s_other) f cdv A outer s H E).nox (defBody s_other) (t_other K) := by
  unfold t_other
  exact
    (pss_cons (ps_for PassesOwn.never rfl (pi_any (pv 0)) (pg_name (i := 3) sc_other.nd rfl (by first | exact Or.inl rfl | exact Or.inr rfl)) (pss_one (ps_if (pt_cmpR (o_eq hr.units) (pe_ix ix_seq (pv 3) pe_int (fun _ _ => rfl)) (pv 1) (nomark _)) (pss_one (ps_for PassesOwn.never rfl (pi_any (pe_ix ix_seq (pv 3) pe_int (fun _ _ => rfl))) (pg_unp rfl (pgs_cons (pg_name (i := 4) sc_other.nd rfl (by first | exact Or.inl rfl | exact Or.inr rfl)) (pgs_cons (pg_name (i := 5) sc_other.nd rfl (by first | exact Or.inl rfl | exact Or.inr rfl)) pgs_nil))) (pss_one (ps_if (pt_cmpR (o_eq hr.units) (pv 5) (pv 2) (nomark _)) (pss_one (ps_ret (pe_tup (pa_cons (pe_ix ix_seq (pv 3) pe_int (fun _ _ => rfl)) (pa_cons (pv 4) pa_nil))))) pss_nil)))) pss_nil)))
    (pss_one (ps_ret pe_non)))
theorem ok_other (g : G K mg) {sp : Sp} (F : ∃ fd, FunD K "_other" "_other" (defArgs s_other) (defBody s_other) (defScope s_other) [] [] (He.ga K "_other") fd) (m : mg "_other" = some (.ref (He.ga K "_other")))
    (hsp : ∀ vs H Q E, sp vs H Q E → vs.length = 3 ∧ t_other K { nx := fun _ H' => Q .non H', rt := Q } (start N_other vs) H) : C8.Cal P w K mg base 1 "_other" sp [] := by
  obtain ⟨fd, F⟩ := F
  exact ⟨_, fd, ["lines", "word", "name"], [], FunD.ok F sc_other (fun vs H Q E h => (hsp vs H Q E h).1) (fun cdv A outer s H vs Q E hr h => ⟨_, PSs.nox (d_other g hr), (hsp vs H Q E h).2⟩), m, F.kp, (F.bindsN fun _ _ _ _ _ _ us hl => match us, hl with | [_, _, _], _ => rfl), .nil⟩
abbrev N_follow : List Str := ["modules", "module", "name", "known", "lines", "found"]
theorem sc_follow : FnScope N_follow ["modules", "module", "name"] (defScope s_follow) := ⟨rfl, rfl, rfl, by decide +kernel, rfl, by decide +kernel, by decide +kernel⟩
def t_follow (K : PySem.W.Frag) (sp_other : Sp) (sp_own : Sp) : TS :=
    (tSeq (tAsg tDNewT (gName 3))
    (tSeq (tWhile (tB (tDNotIn (tTup (tCons (tVar 1) (tCons (tVar 2) tNil))) (tVar 3))) (tSeq (sDPut (tVar 3) (tTup (tCons (tVar 1) (tCons (tVar 2) tNil))) (tC (.bl true)))
    (tSeq (tAsg (tDGet2 (tVar 0) (tVar 1) (tTup tNil)) (gName 4))
    (tSeq (tIfS (tTest (tOp rNotNo (tCall sp_own [] C8.E0 (tCons (tVar 4) (tCons (tVar 2) tNil))) (tC .non))) (tRet (tTup (tCons (tVar 1) (tCons (tVar 2) tNil)))) tNext)
    (tSeq (tAsg (tCall sp_other [] C8.E0 (tCons (tVar 4) (tCons (tC (.str "export")) (tCons (tVar 2) tNil)))) (gName 5))
    (tSeq (tIfS (tTest (tOp rIsNo (tVar 5) (tC .non))) (tRet (tC .non)) tNext)
    (tAsg (tVar 5) (gUnp K 2 (gCons (gName 1) (gCons (gName 2) gNil))))))))))
    (tRet (tC .non))))
theorem d_follow (g : G K mg) {sp_other : Sp} (c_other : C8.Cal P w K mg base 1 "_other" sp_other []) {sp_own : Sp} (c_own : C8.Cal P w K mg base 1 "_own" sp_own []) {f : Addr} {cdv : Value} {A : Around} {outer : List Env} {s : Shared} {H : Hp} {E : XK} (hr : Room 1 (A.deeper (envOfC "follow" (defScope s_follow) s.heap.objs.size f cdv))) :
    PSs (cxOf CX0 P w K mg base N_follow "follow" (defScope s_follow) f cdv A outer s H E).nox (defBody s_follow) (t_follow K sp_other sp_own) := by
  unfold t_follow
  exact
    (pss_cons (ps_set (i := 3) sc_follow.nd rfl (by first | exact Or.inl rfl | exact Or.inr rfl) pe_dnewT)
    (pss_cons (ps_while PassesOwn.never (pt_cmp (pc_dnotin (u1 hr) (pe_tup (pa_cons (pv 1) (pa_cons (pv 2) pa_nil))) (pv 3)) (by rfl)) (pss_cons (ps_dput (u1 hr) (pv 3) (pe_tup (pa_cons (pv 1) (pa_cons (pv 2) pa_nil))) pe_bl (by rfl))
    (pss_cons (ps_set (i := 4) sc_follow.nd rfl (by first | exact Or.inl rfl | exact Or.inr rfl) (pe_dget2 (u1 hr) (pv 0) (pv 1) (pe_tup pa_nil) ⟨rfl, rfl, rfl, rfl⟩))
    (pss_cons (ps_if (pt_cmpR o_isnot (C8.pe_c c_own hr (by decide) rfl (pa_cons (pv 4) (pa_cons (pv 2) pa_nil))) pe_non (nomark _)) (pss_one (ps_ret (pe_tup (pa_cons (pv 1) (pa_cons (pv 2) pa_nil))))) pss_nil)
    (pss_cons (ps_set (i := 5) sc_follow.nd rfl (by first | exact Or.inl rfl | exact Or.inr rfl) (C8.pe_c c_other hr (by decide) rfl (pa_cons (pv 4) (pa_cons (C8.pe_gc rfl g.c_EXPORT) (pa_cons (pv 2) pa_nil)))))
    (pss_cons (ps_if (pt_cmpR o_is (pv 5) pe_non (nomark _)) (pss_one (ps_ret pe_non)) pss_nil)
    (pss_one (ps_asg (pv 5) (pg_unp rfl (pgs_cons (pg_name (i := 1) sc_follow.nd rfl (by first | exact Or.inl rfl | exact Or.inr rfl)) (pgs_cons (pg_name (i := 2) sc_follow.nd rfl (by first | exact Or.inl rfl | exact Or.inr rfl)) pgs_nil)))))))))))
    (pss_one (ps_ret pe_non))))
theorem ok_follow (g : G K mg) {sp_other : Sp} (c_other : C8.Cal P w K mg base 1 "_other" sp_other []) {sp_own : Sp} (c_own : C8.Cal P w K mg base 1 "_own" sp_own []) {sp : Sp} (F : ∃ fd, FunD K "follow" "follow" (defArgs s_follow) (defBody s_follow) (defScope s_follow) [] [] (He.ga K "follow") fd) (m : mg "follow" = some (.ref (He.ga K "follow")))
    (hsp : ∀ vs H Q E, sp vs H Q E → vs.length = 3 ∧ t_follow K sp_other sp_own { nx := fun _ H' => Q .non H', rt := Q } (start N_follow vs) H) : C8.Cal P w K mg base 2 "follow" sp [] := by
  obtain ⟨fd, F⟩ := F
  exact ⟨_, fd, ["modules", "module", "name"], [], FunD.ok F sc_follow (fun vs H Q E h => (hsp vs H Q E h).1) (fun cdv A outer s H vs Q E hr h => ⟨_, PSs.nox (d_follow g c_other c_own hr), (hsp vs H Q E h).2⟩), m, F.kp, (F.bindsN fun _ _ _ _ _ _ us hl => match us, hl with | [_, _, _], _ => rfl), .nil⟩
abbrev N_available : List Str := ["modules", "module", "name", "lines", "found"]
theorem sc_available : FnScope N_available ["modules", "module", "name"] (defScope s_available) := ⟨rfl, rfl, rfl, by decide +kernel, rfl, by decide +kernel, by decide +kernel⟩
def t_available (K : PySem.W.Frag) (sp_follow : Sp) (sp_other : Sp) (sp_own : Sp) : TS :=
    (tSeq (tAsg (tDGet2 (tVar 0) (tVar 1) (tTup tNil)) (gName 3))
    (tSeq (tIfS (tTest (tOp rNotNo (tCall sp_own [] C8.E0 (tCons (tVar 3) (tCons (tVar 2) tNil))) (tC .non))) (tRet (tTup (tCons (tVar 1) (tCons (tVar 2) tNil)))) tNext)
    (tSeq (tAsg (tCall sp_other [] C8.E0 (tCons (tVar 3) (tCons (tC (.str "import")) (tCons (tVar 2) tNil)))) (gName 4))
    (tRet (tIf (tTest (tOp rIsNo (tVar 4) (tC .non))) (tC .non) (tCall sp_follow [] C8.E0 (tCons (tVar 0) (tCons (tOp (rIx K) (tVar 4) (tC (.int 0))) (tCons (tOp (rIx K) (tVar 4) (tC (.int 1))) tNil)))))))))
theorem d_available (g : G K mg) {sp_follow : Sp} (c_follow : C8.Cal P w K mg base 2 "follow" sp_follow []) {sp_other : Sp} (c_other : C8.Cal P w K mg base 1 "_other" sp_other []) {sp_own : Sp} (c_own : C8.Cal P w K mg base 1 "_own" sp_own []) {f : Addr} {cdv : Value} {A : Around} {outer : List Env} {s : Shared} {H : Hp} {E : XK} (hr : Room 2 (A.deeper (envOfC "available" (defScope s_available) s.heap.objs.size f cdv))) :
    PSs (cxOf CX0 P w K mg base N_available "available" (defScope s_available) f cdv A outer s H E).nox (defBody s_available) (t_available K sp_follow sp_other sp_own) := by
  unfold t_available
  exact
    (pss_cons (ps_set (i := 3) sc_available.nd rfl (by first | exact Or.inl rfl | exact Or.inr rfl) (pe_dget2 (u1 hr) (pv 0) (pv 1) (pe_tup pa_nil) ⟨rfl, rfl, rfl, rfl⟩))
    (pss_cons (ps_if (pt_cmpR o_isnot (C8.pe_c c_own hr (by decide) rfl (pa_cons (pv 3) (pa_cons (pv 2) pa_nil))) pe_non (nomark _)) (pss_one (ps_ret (pe_tup (pa_cons (pv 1) (pa_cons (pv 2) pa_nil))))) pss_nil)
    (pss_cons (ps_set (i := 4) sc_available.nd rfl (by first | exact Or.inl rfl | exact Or.inr rfl) (C8.pe_c c_other hr (by decide) rfl (pa_cons (pv 3) (pa_cons (C8.pe_gc rfl g.c_IMPORT) (pa_cons (pv 2) pa_nil)))))
    (pss_one (ps_ret (pe_ifExp (pt_cmpR o_is (pv 4) pe_non (nomark _)) pe_non (C8.pe_c c_follow hr (by decide) rfl (pa_cons (pv 0) (pa_cons (pe_ix ix_seq (pv 4) pe_int (fun _ _ => rfl)) (pa_cons (pe_ix ix_seq (pv 4) pe_int (fun _ _ => rfl)) pa_nil))))))))))
theorem ok_available (g : G K mg) {sp_follow : Sp} (c_follow : C8.Cal P w K mg base 2 "follow" sp_follow []) {sp_other : Sp} (c_other : C8.Cal P w K mg base 1 "_other" sp_other []) {sp_own : Sp} (c_own : C8.Cal P w K mg base 1 "_own" sp_own []) {sp : Sp} (F : ∃ fd, FunD K "available" "available" (defArgs s_available) (defBody s_available) (defScope s_available) [] [] (He.ga K "available") fd) (m : mg "available" = some (.ref (He.ga K "available")))
    (hsp : ∀ vs H Q E, sp vs H Q E → vs.length = 3 ∧ t_available K sp_follow sp_other sp_own { nx := fun _ H' => Q .non H', rt := Q } (start N_available vs) H) : C8.Cal P w K mg base 3 "available" sp [] := by
  obtain ⟨fd, F⟩ := F
  exact ⟨_, fd, ["modules", "module", "name"], [], FunD.ok F sc_available (fun vs H Q E h => (hsp vs H Q E h).1) (fun cdv A outer s H vs Q E hr h => ⟨_, PSs.nox (d_available g c_follow c_other c_own hr), (hsp vs H Q E h).2⟩), m, F.kp, (F.bindsN fun _ _ _ _ _ _ us hl => match us, hl with | [_, _, _], _ => rfl), .nil⟩
abbrev N_declaration : List Str := ["modules", "binding"]
theorem sc_declaration : FnScope N_declaration ["modules", "binding"] (defScope s_declaration) := ⟨rfl, rfl, rfl, by decide +kernel, rfl, by decide +kernel, by decide +kernel⟩
def t_declaration (K : PySem.W.Frag) (sp_own : Sp) : TS :=
    (tRet (tCall sp_own [] C8.E0 (tCons (tDGet (tVar 0) (tOp (rIx K) (tVar 1) (tC (.int 0)))) (tCons (tOp (rIx K) (tVar 1) (tC (.int 1))) tNil))))
theorem d_declaration (g : G K mg) {sp_own : Sp} (c_own : C8.Cal P w K mg base 1 "_own" sp_own []) {f : Addr} {cdv : Value} {A : Around} {outer : List Env} {s : Shared} {H : Hp} {E : XK} (hr : Room 1 (A.deeper (envOfC "declaration" (defScope s_declaration) s.heap.objs.size f cdv))) :
    PSs (cxOf CX0 P w K mg base N_declaration "declaration" (defScope s_declaration) f cdv A outer s H E).nox (defBody s_declaration) (t_declaration K sp_own) := by
  unfold t_declaration
  exact
    (pss_one (ps_ret (C8.pe_c c_own hr (by decide) rfl (pa_cons (pe_dget (u1 hr) (pv 0) (pe_ix ix_seq (pv 1) pe_int (fun _ _ => rfl)) (fun _ _ => rfl)) (pa_cons (pe_ix ix_seq (pv 1) pe_int (fun _ _ => rfl)) pa_nil)))))
theorem ok_declaration (g : G K mg) {sp_own : Sp} (c_own : C8.Cal P w K mg base 1 "_own" sp_own []) {sp : Sp} (F : ∃ fd, FunD K "declaration" "declaration" (defArgs s_declaration) (defBody s_declaration) (defScope s_declaration) [] [] (He.ga K "declaration") fd) (m : mg "declaration" = some (.ref (He.ga K "declaration")))
    (hsp : ∀ vs H Q E, sp vs H Q E → vs.length = 2 ∧ t_declaration K sp_own { nx := fun _ H' => Q .non H', rt := Q } (start N_declaration vs) H) : C8.Cal P w K mg base 2 "declaration" sp [] := by
  obtain ⟨fd, F⟩ := F
  exact ⟨_, fd, ["modules", "binding"], [], FunD.ok F sc_declaration (fun vs H Q E h => (hsp vs H Q E h).1) (fun cdv A outer s H vs Q E hr h => ⟨_, PSs.nox (d_declaration g c_own hr), (hsp vs H Q E h).2⟩), m, F.kp, (F.bindsN fun _ _ _ _ _ _ us hl => match us, hl with | [_, _], _ => rfl), .nil⟩
abbrev N_reach : List Str := ["modules", "entries", "course", "module", "fault"]
theorem sc_reach : FnScope N_reach ["modules", "entries"] (defScope s_reach) := ⟨rfl, rfl, rfl, by decide +kernel, rfl, by decide +kernel, by decide +kernel⟩
abbrev ll_reach : Expr := lamIn (defBody s_reach)
def ml_reach (cm c' : Addr) : LF := ⟨("reach" ++ ".<locals>.") ++ "<lambda>", lamArgs ll_reach, lamBody ll_reach, lamScope ll_reach, [("modules", cm)], c'⟩
abbrev N_lam : List Str := ["name", "modules"]
def tl_lam (K : PySem.W.Frag) : TE :=
    (tIf (tB (tDIn (tVar 0) (tVar 1))) (tTup (tCons (tC (.str "module")) (tCons (tDGet (tVar 1) (tVar 0)) tNil))) (tTup (tCons (tC (.str "module")) (tCons (tVar 0) tNil))))
theorem dl_lam (g : G K mg) {cm c' f : Addr} {A : Around} {outer : List Env} {s : Shared} {H : Hp} {E : XK} (hr : Room 0 (A.deeper (NdefX.envF (ml_reach cm c').nf f s.heap.objs.size))) :
    PE (NdefX.ncx C8.CX0 P w K mg base N_lam (ml_reach cm c').nf f A outer s H E).nox (ml_reach cm c').body (tl_lam K) := by
  unfold tl_lam
  exact
    (pe_ifExp (pt_cmp (pc_din (u1 hr) (pv 0) (pv 1)) (by rfl)) (pe_tup (pa_cons pe_str (pa_cons (pe_dget (u1 hr) (pv 1) (pv 0) (fun _ _ => rfl)) pa_nil))) (pe_tup (pa_cons pe_str (pa_cons (pv 0) pa_nil))))
theorem ok_lam (g : G K mg) : CalL P w K mg base 1 (spLam ml_reach N_lam 1 (tl_lam K)) :=
  lam_ok (y := "modules") (ps := ["name"]) (fun _ _ => rfl) (fun _ _ => rfl) (fun _ _ => NdefX.nscope_by (sc := lamScope ll_reach) (by decide +kernel)) (fun cm c' pm ctv us hl => match us, hl with | [_], _ => rfl) (fun cm c' f A outer s H E hr => dl_lam g hr)
def t_reach (K : PySem.W.Frag) (sp_Reach_visit : Sp) (sp_Reach_init : Sp) (cm : Addr) : TS :=
    (tSeq (tAsg (tMake (He.ga K "Reach") sp_Reach_init [] C8.E0 (tCons (tLamF (He.cT K ("reach", none)).2 (("reach" ++ ".<locals>.") ++ "<lambda>") (ml_reach cm)) tNil)) (gName 2))
    (tSeq (tFor (iAny K (tVar 1)) (gName 3) (tSeq (tAsg (tMethL (He.ga K "Reach") "visit" sp_Reach_visit cm 0 (tVar 2) (tCons (tVar 3) tNil)) (gName 4))
    (tIfS (tTest (tOp rNotNo (tVar 4) (tC .non))) (tRet (tVar 4)) tNext)))
    (tRet (tTup (tCons (tC (.str "order")) (tCons (tCB (rTupOf K) (tCons (tFld K (tVar 2) "order") tNil)) tNil))))))
theorem d_reach (g : G K mg) (tb : LamX.TabB base mg (He.cT K ("reach", none)).1 (He.cT K ("reach", none)).2) {sp_Reach_visit : Sp} (c_Reach_visit : C8.Met P w K mg base 10 (He.ga K "Reach") "visit" sp_Reach_visit []) {sp_Reach_init : Sp} (c_Reach_init : C8.Mak P w K mg base 1 "Reach" (He.ga K "Reach") sp_Reach_init []) {f : Addr} {A : Around} {outer : List Env} {s : Shared} {H : Hp} {E : XK} (hr : Room 10 (A.deeper (envOfC "reach" (defScope s_reach) s.heap.objs.size f (.ref (He.codeOf K ("reach", none)))))) :
    PSs (cxOf CX0 P w K mg base N_reach "reach" (defScope s_reach) f (.ref (He.codeOf K ("reach", none))) A outer s H E).nox (defBody s_reach) (t_reach K sp_Reach_visit sp_Reach_init (s.heap.objs.size + 1)) := by
  unfold t_reach
  exact
    (pss_cons (ps_set (i := 2) sc_reach.nd rfl (by first | exact Or.inl rfl | exact Or.inr rfl) (C8.pe_mk c_Reach_init hr (by decide) rfl (pa_cons (pe_lamF tb rfl rfl (NdefX.ndef_free (sc := defScope s_reach) (fr := ["modules"]) (by decide +kernel))) pa_nil)))
    (pss_cons (ps_for PassesOwn.never rfl (pi_any (pv 1)) (pg_name (i := 3) sc_reach.nd rfl (by first | exact Or.inl rfl | exact Or.inr rfl)) (pss_cons (ps_set (i := 4) sc_reach.nd rfl (by first | exact Or.inl rfl | exact Or.inr rfl) (pe_mtL (y := "modules") (i := 0) c_Reach_visit hr (by decide) rfl rfl rfl rfl (pv 2) (pa_cons (pv 3) pa_nil)))
    (pss_one (ps_if (pt_cmpR o_isnot (pv 4) pe_non (nomark _)) (pss_one (ps_ret (pv 4))) pss_nil))))
    (pss_one (ps_ret (pe_tup (pa_cons pe_str (pa_cons (pe_callTy c_tuple (by rfl) g.b_tuple (by decide +kernel) (pa_cons (pe_fld (pv 2) (by rfl)) pa_nil)) pa_nil)))))))
theorem ok_reach (g : G K mg) (tb : LamX.TabB base mg (He.cT K ("reach", none)).1 (He.cT K ("reach", none)).2) {sp_Reach_visit : Sp} (c_Reach_visit : C8.Met P w K mg base 10 (He.ga K "Reach") "visit" sp_Reach_visit []) {sp_Reach_init : Sp} (c_Reach_init : C8.Mak P w K mg base 1 "Reach" (He.ga K "Reach") sp_Reach_init []) {sp : Sp} (F : ∃ fd, FunD K "reach" "reach" (defArgs s_reach) (defBody s_reach) (defScope s_reach) [] [] (He.ga K "reach") fd) (m : mg "reach" = some (.ref (He.ga K "reach")))
    (hsp : ∀ vs H Q E, sp vs H Q E → vs.length = 2 ∧ ∀ cm, t_reach K sp_Reach_visit sp_Reach_init cm { nx := fun _ H' => Q .non H', rt := Q } (start N_reach vs) H) : C8.Cal P w K mg base 11 "reach" sp [] := by
  obtain ⟨fd, F⟩ := F
  exact ⟨_, fd, ["modules", "entries"], [], fun_okC (p := ("reach", none)) F rfl sc_reach (fun vs H Q E h => (hsp vs H Q E h).1) (fun A outer s H vs Q E hr h => ⟨_, PSs.nox (d_reach g tb c_Reach_visit c_Reach_init hr), (hsp vs H Q E h).2 _⟩), m, F.kp, (F.bindsN fun _ _ _ _ _ _ us hl => match us, hl with | [_, _], _ => rfl), .nil⟩
abbrev N_l_cell : List Str := ["_law_script", "_law_k"]
theorem sc_l_cell : FnScope N_l_cell ["_law_script", "_law_k"] (defScope s_l_cell) := ⟨rfl, rfl, rfl, by decide +kernel, rfl, by decide +kernel, by decide +kernel⟩
def t_l_cell (K : PySem.W.Frag) : TS :=
    (tSeq (tIfS (tTest (tOp rLt (tVar 1) (tCB (rLenX K) (tCons (tVar 0) tNil)))) (tRet (tOp (rIx K) (tVar 0) (tVar 1))) tNext)
    (tRet (tC (.int 0))))
theorem d_l_cell (g : G K mg) {f : Addr} {cdv : Value} {A : Around} {outer : List Env} {s : Shared} {H : Hp} {E : XK} (hr : Room 0 (A.deeper (envOfC "_law_cell" (defScope s_l_cell) s.heap.objs.size f cdv))) :
    PSs (cxOf CX0 P w K mg base N_l_cell "_law_cell" (defScope s_l_cell) f cdv A outer s H E).nox (defBody s_l_cell) (t_l_cell K) := by
  unfold t_l_cell
  exact
    (pss_cons (ps_if (pt_cmpR o_lt (pv 1) (pe_callB c_len (by rfl) g.b_len (by decide +kernel) (pa_cons (pv 0) pa_nil)) (nomark _)) (pss_one (ps_ret (pe_ix ix_seq (pv 0) (pv 1) (fun _ _ => rfl)))) pss_nil)
    (pss_one (ps_ret pe_int)))
theorem ok_l_cell (g : G K mg) {sp : Sp} (F : ∃ fd, FunD K "_law_cell" "_law_cell" (defArgs s_l_cell) (defBody s_l_cell) (defScope s_l_cell) [] [] (He.ga K "_law_cell") fd) (m : mg "_law_cell" = some (.ref (He.ga K "_law_cell")))
    (hsp : ∀ vs H Q E, sp vs H Q E → vs.length = 2 ∧ t_l_cell K { nx := fun _ H' => Q .non H', rt := Q } (start N_l_cell vs) H) : C8.Cal P w K mg base 1 "_law_cell" sp [] := by
  obtain ⟨fd, F⟩ := F
  exact ⟨_, fd, ["_law_script", "_law_k"], [], FunD.ok F sc_l_cell (fun vs H Q E h => (hsp vs H Q E h).1) (fun cdv A outer s H vs Q E hr h => ⟨_, PSs.nox (d_l_cell g hr), (hsp vs H Q E h).2⟩), m, F.kp, (F.bindsN fun _ _ _ _ _ _ us hl => match us, hl with | [_, _], _ => rfl), .nil⟩
abbrev N_l_digits : List Str := ["_law_script", "_law_first", "_law_last", "_law_digits_here", "_law_k", "_law_cell_here", "_law_turn", "_law_seed"]
theorem sc_l_digits : FnScope N_l_digits ["_law_script", "_law_first", "_law_last"] (defScope s_l_digits) := ⟨rfl, rfl, rfl, by decide +kernel, rfl, by decide +kernel, by decide +kernel⟩
def t_l_digits (K : PySem.W.Frag) (sp_l_cell : Sp) : TS :=
    (tSeq (tAsg (tLst tNil) (gName 3))
    (tSeq (tFor (iRng2 (tCons (tVar 1) (tCons (tVar 2) tNil))) (gName 4) (tSeq (tAsg (tCall sp_l_cell [] C8.E0 (tCons (tVar 0) (tCons (tVar 4) tNil))) (gName 5))
    (C8.tCut (tIfS (tTest (tOp rLt (tVar 5) (tC (.int 0)))) (tAsg (tOp rMinus (tC (.int 1)) (tOp rTimes (tC (.int 2)) (tVar 5))) (gName 5)) tNext)
    (tIfS (tTest (tOp rGe (tVar 5) (tC (.int 1000000000000000000)))) (tFor (iRng1 (tCons (tC (.int 60)) tNil)) (gName 6) (tIfS (tTest (tOp rGt (tVar 5) (tC (.int 0)))) (tSeq (tDrop (tBM K "list" rAppend (tVar 3) (tCons (tOp rMod (tCB (rIntX) (tCons (tVar 5) tNil)) (tC (.int 1000))) tNil)))
    (tAsg (tOp rFdiv (tVar 5) (tC (.int 1000))) (gName 5))) tNext)) (tSeq (tAsg (tOp rMod (tCB (rIntX) (tCons (tOp (rPlus K) (tOp (rPlus K) (tOp rTimes (tVar 5) (tC (.int 40692))) (tOp rTimes (tVar 4) (tC (.int 52774)))) (tC (.int 17))) tNil)) (tC (.int 2147483399))) (gName 7))
    (tFor (iRng1 (tCons (tC (.int 12)) tNil)) (gName 6) (tSeq (tAsg (tOp rMod (tCB (rIntX) (tCons (tOp (rPlus K) (tOp (rPlus K) (tOp rTimes (tVar 7) (tC (.int 40014))) (tOp rTimes (tC (.int 5)) (tVar 6))) (tC (.int 3))) tNil)) (tC (.int 2147483563))) (gName 7))
    (tDrop (tBM K "list" rAppend (tVar 3) (tCons (tOp rMod (tCB (rIntX) (tCons (tOp rFdiv (tVar 7) (tC (.int 1009))) tNil)) (tC (.int 1000))) tNil))))))))))
    (tRet (tVar 3))))
theorem d_l_digits (g : G K mg) {sp_l_cell : Sp} (c_l_cell : C8.Cal P w K mg base 1 "_law_cell" sp_l_cell []) {f : Addr} {cdv : Value} {A : Around} {outer : List Env} {s : Shared} {H : Hp} {E : XK} (hr : Room 1 (A.deeper (envOfC "_law_digits" (defScope s_l_digits) s.heap.objs.size f cdv))) :
    PSs (cxOf CX0 P w K mg base N_l_digits "_law_digits" (defScope s_l_digits) f cdv A outer s H E).nox (defBody s_l_digits) (t_l_digits K sp_l_cell) := by
  unfold t_l_digits
  exact
    (pss_cons (ps_set (i := 3) sc_l_digits.nd rfl (by first | exact Or.inl rfl | exact Or.inr rfl) (pe_lst pa_nil))
    (pss_cons (ps_for PassesOwn.never rfl (pi_range2 rfl g.b_range (pa_cons (pv 1) (pa_cons (pv 2) pa_nil))) (pg_name (i := 4) sc_l_digits.nd rfl (by first | exact Or.inl rfl | exact Or.inr rfl)) (pss_cons (ps_set (i := 5) sc_l_digits.nd rfl (by first | exact Or.inl rfl | exact Or.inr rfl) (C8.pe_c c_l_cell hr (by decide) rfl (pa_cons (pv 0) (pa_cons (pv 4) pa_nil))))
    (C8.pss_cut (ps_if (pt_cmpR o_lt (pv 5) pe_int (nomark _)) (pss_one (ps_set (i := 5) sc_l_digits.nd rfl (by first | exact Or.inl rfl | exact Or.inr rfl) (pe_op o_minus pe_int (pe_op o_times pe_int (pv 5))))) pss_nil)
    (pss_one (ps_if (pt_cmpR o_ge (pv 5) pe_int (nomark _)) (pss_one (ps_for PassesOwn.never rfl (pi_range1 rfl g.b_range (pa_cons pe_int pa_nil)) (pg_name (i := 6) sc_l_digits.nd rfl (by first | exact Or.inl rfl | exact Or.inr rfl)) (pss_one (ps_if (pt_cmpR o_gt (pv 5) pe_int (nomark _)) (pss_cons (ps_expr (pe_bm PySem.F.plainAttrs_list PySem.F.slot_list_append PySem.F.type_list_append mt_append (pv 3) (pa_cons (pe_op o_mod (pe_callTy c_int (by rfl) g.b_int (by decide +kernel) (pa_cons (pv 5) pa_nil)) pe_int) pa_nil)))
    (pss_one (ps_set (i := 5) sc_l_digits.nd rfl (by first | exact Or.inl rfl | exact Or.inr rfl) (pe_op o_fdiv (pv 5) pe_int)))) pss_nil)))) (pss_cons (ps_set (i := 7) sc_l_digits.nd rfl (by first | exact Or.inl rfl | exact Or.inr rfl) (pe_op o_mod (pe_callTy c_int (by rfl) g.b_int (by decide +kernel) (pa_cons (pe_op o_plus (pe_op o_plus (pe_op o_times (pv 5) pe_int) (pe_op o_times (pv 4) pe_int)) pe_int) pa_nil)) pe_int))
    (pss_one (ps_for PassesOwn.never rfl (pi_range1 rfl g.b_range (pa_cons pe_int pa_nil)) (pg_name (i := 6) sc_l_digits.nd rfl (by first | exact Or.inl rfl | exact Or.inr rfl)) (pss_cons (ps_set (i := 7) sc_l_digits.nd rfl (by first | exact Or.inl rfl | exact Or.inr rfl) (pe_op o_mod (pe_callTy c_int (by rfl) g.b_int (by decide +kernel) (pa_cons (pe_op o_plus (pe_op o_plus (pe_op o_times (pv 7) pe_int) (pe_op o_times pe_int (pv 6))) pe_int) pa_nil)) pe_int))
    (pss_one (ps_expr (pe_bm PySem.F.plainAttrs_list PySem.F.slot_list_append PySem.F.type_list_append mt_append (pv 3) (pa_cons (pe_op o_mod (pe_callTy c_int (by rfl) g.b_int (by decide +kernel) (pa_cons (pe_op o_fdiv (pv 7) pe_int) pa_nil)) pe_int) pa_nil)))))))))))))
    (pss_one (ps_ret (pv 3)))))
theorem ok_l_digits (g : G K mg) {sp_l_cell : Sp} (c_l_cell : C8.Cal P w K mg base 1 "_law_cell" sp_l_cell []) {sp : Sp} (F : ∃ fd, FunD K "_law_digits" "_law_digits" (defArgs s_l_digits) (defBody s_l_digits) (defScope s_l_digits) [] [] (He.ga K "_law_digits") fd) (m : mg "_law_digits" = some (.ref (He.ga K "_law_digits")))
    (hsp : ∀ vs H Q E, sp vs H Q E → vs.length = 3 ∧ t_l_digits K sp_l_cell { nx := fun _ H' => Q .non H', rt := Q } (start N_l_digits vs) H) : C8.Cal P w K mg base 2 "_law_digits" sp [] := by
  obtain ⟨fd, F⟩ := F
  exact ⟨_, fd, ["_law_script", "_law_first", "_law_last"], [], FunD.ok F sc_l_digits (fun vs H Q E h => (hsp vs H Q E h).1) (fun cdv A outer s H vs Q E hr h => ⟨_, PSs.nox (d_l_digits g c_l_cell hr), (hsp vs H Q E h).2⟩), m, F.kp, (F.bindsN fun _ _ _ _ _ _ us hl => match us, hl with | [_, _, _], _ => rfl), .nil⟩
abbrev N_l_draw : List Str := ["_law_box", "_law_many", "_law_at"]
theorem sc_l_draw : FnScope N_l_draw ["_law_box", "_law_many"] (defScope s_l_draw) := ⟨rfl, rfl, rfl, by decide +kernel, rfl, by decide +kernel, by decide +kernel⟩
def t_l_draw (K : PySem.W.Frag) : TS :=
    (tSeq (tAsg (tOp (rIx K) (tVar 0) (tC (.int 1))) (gName 2))
    (tSeq (tAsg (tOp (rPlus K) (tVar 2) (tC (.int 1))) (gSub (tVar 0) (tC (.int 1)) rSetL))
    (tSeq (tIfS (tTest (tOp rLt (tVar 2) (tCB (rLenX K) (tCons (tOp (rIx K) (tVar 0) (tC (.int 0))) tNil)))) (tRet (tOp rMod (tCB (rIntX) (tCons (tOp (rIx K) (tOp (rIx K) (tVar 0) (tC (.int 0))) (tVar 2)) tNil)) (tVar 1))) tNext)
    (tRet (tOp rMod (tCB (rIntX) (tCons (tOp (rPlus K) (tOp rTimes (tVar 2) (tC (.int 7))) (tC (.int 3))) tNil)) (tVar 1))))))
theorem d_l_draw (g : G K mg) {f : Addr} {cdv : Value} {A : Around} {outer : List Env} {s : Shared} {H : Hp} {E : XK} (hr : Room 0 (A.deeper (envOfC "_law_draw" (defScope s_l_draw) s.heap.objs.size f cdv))) :
    PSs (cxOf CX0 P w K mg base N_l_draw "_law_draw" (defScope s_l_draw) f cdv A outer s H E).nox (defBody s_l_draw) (t_l_draw K) := by
  unfold t_l_draw
  exact
    (pss_cons (ps_set (i := 2) sc_l_draw.nd rfl (by first | exact Or.inl rfl | exact Or.inr rfl) (pe_ix ix_seq (pv 0) pe_int (fun _ _ => rfl)))
    (pss_cons (ps_asg (pe_op o_plus (pv 2) pe_int) (pg_sub (pv 0) pe_int set_list))
    (pss_cons (ps_if (pt_cmpR o_lt (pv 2) (pe_callB c_len (by rfl) g.b_len (by decide +kernel) (pa_cons (pe_ix ix_seq (pv 0) pe_int (fun _ _ => rfl)) pa_nil)) (nomark _)) (pss_one (ps_ret (pe_op o_mod (pe_callTy c_int (by rfl) g.b_int (by decide +kernel) (pa_cons (pe_ix ix_seq (pe_ix ix_seq (pv 0) pe_int (fun _ _ => rfl)) (pv 2) (fun _ _ => rfl)) pa_nil)) (pv 1)))) pss_nil)
    (pss_one (ps_ret (pe_op o_mod (pe_callTy c_int (by rfl) g.b_int (by decide +kernel) (pa_cons (pe_op o_plus (pe_op o_times (pv 2) pe_int) pe_int) pa_nil)) (pv 1)))))))
theorem ok_l_draw (g : G K mg) {sp : Sp} (F : ∃ fd, FunD K "_law_draw" "_law_draw" (defArgs s_l_draw) (defBody s_l_draw) (defScope s_l_draw) [] [] (He.ga K "_law_draw") fd) (m : mg "_law_draw" = some (.ref (He.ga K "_law_draw")))
    (hsp : ∀ vs H Q E, sp vs H Q E → vs.length = 2 ∧ t_l_draw K { nx := fun _ H' => Q .non H', rt := Q } (start N_l_draw vs) H) : C8.Cal P w K mg base 1 "_law_draw" sp [] := by
  obtain ⟨fd, F⟩ := F
  exact ⟨_, fd, ["_law_box", "_law_many"], [], FunD.ok F sc_l_draw (fun vs H Q E h => (hsp vs H Q E h).1) (fun cdv A outer s H vs Q E hr h => ⟨_, PSs.nox (d_l_draw g hr), (hsp vs H Q E h).2⟩), m, F.kp, (F.bindsN fun _ _ _ _ _ _ us hl => match us, hl with | [_, _], _ => rfl), .nil⟩
abbrev N_l_atom : List Str := ["_law_box", "_law_names", "_law_kind"]
theorem sc_l_atom : FnScope N_l_atom ["_law_box", "_law_names"] (defScope s_l_atom) := ⟨rfl, rfl, rfl, by decide +kernel, rfl, by decide +kernel, by decide +kernel⟩
def t_l_atom (K : PySem.W.Frag) (sp_l_draw : Sp) : TS :=
    (tSeq (tAsg (tCall sp_l_draw [] C8.E0 (tCons (tVar 0) (tCons (tC (.int 20)) tNil))) (gName 2))
    (tSeq (tIfS (tAnd (tTest (tOp rLe (tVar 2) (tC (.int 9)))) (tTest (tOp (rNeX K) (tVar 1) (tLst tNil)))) (tRet (tTup (tCons (tC (.str "name")) (tCons (tOp (rIx K) (tVar 1) (tCall sp_l_draw [] C8.E0 (tCons (tVar 0) (tCons (tCB (rLenX K) (tCons (tVar 1) tNil)) tNil)))) tNil)))) tNext)
    (tSeq (tIfS (tTest (tOp (rEqX K) (tVar 2) (tC (.int 10)))) (tRet (tTup (tCons (tC (.str "string")) (tCons (tOp (rIx K) (tLst (tCons (tC (.str "")) (tCons (tC (.str "s")) (tCons (tC (.str "t")) (tCons (tC (.str "ab")) (tCons (tC (.str "x y")) (tCons (tC (.str "twelve signs")) tNil))))))) (tCall sp_l_draw [] C8.E0 (tCons (tVar 0) (tCons (tC (.int 6)) tNil)))) tNil)))) tNext)
    (tRet (tTup (tCons (tC (.str "number")) (tCons (tOp (rIx K) (tLst (tCons (tC (.int 0)) (tCons (tC (.int 1)) (tCons (tC (.int 2)) (tCons (tC (.int 7)) (tCons (tC (.int 12)) (tCons (tC (.int 3)) (tCons (tC (.int 1)) (tCons (tC (.int 0)) (tCons (tC (.int 5)) (tCons (tC (.int 99999)) tNil))))))))))) (tCall sp_l_draw [] C8.E0 (tCons (tVar 0) (tCons (tC (.int 10)) tNil)))) tNil)))))))
theorem d_l_atom (g : G K mg) {sp_l_draw : Sp} (c_l_draw : C8.Cal P w K mg base 1 "_law_draw" sp_l_draw []) {f : Addr} {cdv : Value} {A : Around} {outer : List Env} {s : Shared} {H : Hp} {E : XK} (hr : Room 1 (A.deeper (envOfC "_law_atom" (defScope s_l_atom) s.heap.objs.size f cdv))) :
    PSs (cxOf CX0 P w K mg base N_l_atom "_law_atom" (defScope s_l_atom) f cdv A outer s H E).nox (defBody s_l_atom) (t_l_atom K sp_l_draw) := by
  unfold t_l_atom
  exact
    (pss_cons (ps_set (i := 2) sc_l_atom.nd rfl (by first | exact Or.inl rfl | exact Or.inr rfl) (C8.pe_c c_l_draw hr (by decide) rfl (pa_cons (pv 0) (pa_cons pe_int pa_nil))))
    (pss_cons (ps_if (PW.pt (pw_and (pt_cmpR o_le (pv 2) pe_int (nomark _)) (pw_and1 (pt_cmpR (o_ne hr.units) (pv 1) (pe_lst pa_nil) (nomark _))))) (pss_one (ps_ret (pe_tup (pa_cons pe_str (pa_cons (pe_ix ix_seq (pv 1) (C8.pe_c c_l_draw hr (by decide) rfl (pa_cons (pv 0) (pa_cons (pe_callB c_len (by rfl) g.b_len (by decide +kernel) (pa_cons (pv 1) pa_nil)) pa_nil))) (fun _ _ => rfl)) pa_nil))))) pss_nil)
    (pss_cons (ps_if (pt_cmpR (o_eq hr.units) (pv 2) pe_int (nomark _)) (pss_one (ps_ret (pe_tup (pa_cons pe_str (pa_cons (pe_ix ix_seq (pe_lst (pa_cons pe_str (pa_cons pe_str (pa_cons pe_str (pa_cons pe_str (pa_cons pe_str (pa_cons pe_str pa_nil))))))) (C8.pe_c c_l_draw hr (by decide) rfl (pa_cons (pv 0) (pa_cons pe_int pa_nil))) (fun _ _ => rfl)) pa_nil))))) pss_nil)
    (pss_one (ps_ret (pe_tup (pa_cons pe_str (pa_cons (pe_ix ix_seq (pe_lst (pa_cons pe_int (pa_cons pe_int (pa_cons pe_int (pa_cons pe_int (pa_cons pe_int (pa_cons pe_int (pa_cons pe_int (pa_cons pe_int (pa_cons pe_int (pa_cons pe_int pa_nil))))))))))) (C8.pe_c c_l_draw hr (by decide) rfl (pa_cons (pv 0) (pa_cons pe_int pa_nil))) (fun _ _ => rfl)) pa_nil))))))))
theorem ok_l_atom (g : G K mg) {sp_l_draw : Sp} (c_l_draw : C8.Cal P w K mg base 1 "_law_draw" sp_l_draw []) {sp : Sp} (F : ∃ fd, FunD K "_law_atom" "_law_atom" (defArgs s_l_atom) (defBody s_l_atom) (defScope s_l_atom) [] [] (He.ga K "_law_atom") fd) (m : mg "_law_atom" = some (.ref (He.ga K "_law_atom")))
    (hsp : ∀ vs H Q E, sp vs H Q E → vs.length = 2 ∧ t_l_atom K sp_l_draw { nx := fun _ H' => Q .non H', rt := Q } (start N_l_atom vs) H) : C8.Cal P w K mg base 2 "_law_atom" sp [] := by
  obtain ⟨fd, F⟩ := F
  exact ⟨_, fd, ["_law_box", "_law_names"], [], FunD.ok F sc_l_atom (fun vs H Q E h => (hsp vs H Q E h).1) (fun cdv A outer s H vs Q E hr h => ⟨_, PSs.nox (d_l_atom g c_l_draw hr), (hsp vs H Q E h).2⟩), m, F.kp, (F.bindsN fun _ _ _ _ _ _ us hl => match us, hl with | [_, _], _ => rfl), .nil⟩
abbrev N_l_tree : List Str := ["_law_box", "_law_names", "_law_calls_here", "_law_depth", "_law_kind", "_law_first", "_law_second", "_law_plain", "_law_name", "_law_many", "_law_k"]
theorem sc_l_tree : FnScope N_l_tree ["_law_box", "_law_names", "_law_calls_here", "_law_depth"] (defScope s_l_tree) := ⟨rfl, rfl, rfl, by decide +kernel, rfl, by decide +kernel, by decide +kernel⟩
def t_l_tree (K : PySem.W.Frag) (sp_l_tree : Sp) (sp_l_draw : Sp) (sp_l_atom : Sp) : TS :=
    (tSeq (tAsg (tCall sp_l_draw [] C8.E0 (tCons (tVar 0) (tCons (tC (.int 14)) tNil))) (gName 4))
    (tSeq (tIfS (tOr (tTest (tOp rLe (tVar 3) (tC (.int 0)))) (tTest (tOp rLe (tVar 4) (tC (.int 4))))) (tRet (tCall sp_l_atom [] C8.E0 (tCons (tVar 0) (tCons (tVar 1) tNil)))) tNext)
    (tSeq (tIfS (tTest (tOp rLe (tVar 4) (tC (.int 8)))) (tSeq (tAsg (tCall sp_l_tree [] C8.E0 (tCons (tVar 0) (tCons (tVar 1) (tCons (tVar 2) (tCons (tOp rMinus (tVar 3) (tC (.int 1))) tNil))))) (gName 5))
    (tRet (tTup (tCons (tOp (rIx K) (tLst (tCons (tC (.str "+")) (tCons (tC (.str "-")) (tCons (tC (.str "*")) (tCons (tC (.str "<")) (tCons (tC (.str "=")) (tCons (tC (.str "+")) tNil))))))) (tCall sp_l_draw [] C8.E0 (tCons (tVar 0) (tCons (tC (.int 6)) tNil)))) (tCons (tVar 5) (tCons (tCall sp_l_tree [] C8.E0 (tCons (tVar 0) (tCons (tVar 1) (tCons (tVar 2) (tCons (tOp rMinus (tVar 3) (tC (.int 1))) tNil))))) tNil)))))) tNext)
    (tSeq (tIfS (tTest (tOp (rEqX K) (tVar 4) (tC (.int 9)))) (tSeq (tAsg (tCall sp_l_tree [] C8.E0 (tCons (tVar 0) (tCons (tVar 1) (tCons (tVar 2) (tCons (tOp rMinus (tVar 3) (tC (.int 1))) tNil))))) (gName 5))
    (tSeq (tAsg (tCall sp_l_tree [] C8.E0 (tCons (tVar 0) (tCons (tVar 1) (tCons (tVar 2) (tCons (tOp rMinus (tVar 3) (tC (.int 1))) tNil))))) (gName 6))
    (tRet (tTup (tCons (tC (.str "if")) (tCons (tVar 5) (tCons (tVar 6) (tCons (tCall sp_l_tree [] C8.E0 (tCons (tVar 0) (tCons (tVar 1) (tCons (tVar 2) (tCons (tOp rMinus (tVar 3) (tC (.int 1))) tNil))))) tNil)))))))) tNext)
    (tSeq (tAsg (tLc (iAny K (tVar 1)) (gName 8) (tTest (tOp (rInX K true) (tVar 8) (tTup (tCons (tC (.str "p")) (tCons (tC (.str "q")) tNil))))) (tVar 8) [8]) (gName 7))
    (tSeq (tIfS (tAnd (tTest (tOp (rEqX K) (tVar 4) (tC (.int 10)))) (tTest (tOp (rNeX K) (tVar 7) (tLst tNil)))) (tRet (tTup (tCons (tC (.str "set")) (tCons (tOp (rIx K) (tVar 7) (tCall sp_l_draw [] C8.E0 (tCons (tVar 0) (tCons (tCB (rLenX K) (tCons (tVar 7) tNil)) tNil)))) (tCons (tCall sp_l_tree [] C8.E0 (tCons (tVar 0) (tCons (tVar 1) (tCons (tVar 2) (tCons (tOp rMinus (tVar 3) (tC (.int 1))) tNil))))) tNil))))) tNext)
    (tSeq (tIfS (tTest (tOp (rEqX K) (tVar 4) (tC (.int 11)))) (tSeq (tAsg (tCall sp_l_tree [] C8.E0 (tCons (tVar 0) (tCons (tVar 1) (tCons (tVar 2) (tCons (tOp rMinus (tVar 3) (tC (.int 1))) tNil))))) (gName 5))
    (tRet (tTup (tCons (tC (.str "then")) (tCons (tVar 5) (tCons (tCall sp_l_tree [] C8.E0 (tCons (tVar 0) (tCons (tVar 1) (tCons (tVar 2) (tCons (tOp rMinus (tVar 3) (tC (.int 1))) tNil))))) tNil)))))) tNext)
    (tSeq (tIfS (tTest (tOp (rEqX K) (tVar 2) (tLst tNil))) (tRet (tCall sp_l_atom [] C8.E0 (tCons (tVar 0) (tCons (tVar 1) tNil)))) tNext)
    (tSeq (tAsg (tOp (rIx K) (tVar 2) (tCall sp_l_draw [] C8.E0 (tCons (tVar 0) (tCons (tCB (rLenX K) (tCons (tVar 2) tNil)) tNil)))) (gUnp K 2 (gCons (gName 8) (gCons (gName 9) gNil))))
    (tRet (tTup (tCons (tC (.str "call")) (tCons (tVar 8) (tCons (tCB (rTupOf K) (tCons (tLc (iRng1 (tCons (tVar 9) tNil)) (gName 10) tYes (tCall sp_l_tree [] C8.E0 (tCons (tVar 0) (tCons (tVar 1) (tCons (tVar 2) (tCons (tOp rMinus (tVar 3) (tC (.int 1))) tNil))))) [10]) tNil)) tNil))))))))))))))
theorem d_l_tree (g : G K mg) {n : Nat} (hn : 2 ≤ n) {sp_l_tree : Sp} (c_l_tree : C8.Cal P w K mg base n "_law_tree" sp_l_tree []) {sp_l_draw : Sp} (c_l_draw : C8.Cal P w K mg base 1 "_law_draw" sp_l_draw []) {sp_l_atom : Sp} (c_l_atom : C8.Cal P w K mg base 2 "_law_atom" sp_l_atom []) {f : Addr} {cdv : Value} {A : Around} {outer : List Env} {s : Shared} {H : Hp} {E : XK} (hr : Room n (A.deeper (envOfC "_law_tree" (defScope s_l_tree) s.heap.objs.size f cdv))) :
    PSs (cxOf CX0 P w K mg base N_l_tree "_law_tree" (defScope s_l_tree) f cdv A outer s H E).nox (defBody s_l_tree) (t_l_tree K sp_l_tree sp_l_draw sp_l_atom) := by
  unfold t_l_tree
  exact
    (pss_cons (ps_set (i := 4) sc_l_tree.nd rfl (by first | exact Or.inl rfl | exact Or.inr rfl) (C8.pe_c c_l_draw hr (by omega) rfl (pa_cons (pv 0) (pa_cons pe_int pa_nil))))
    (pss_cons (ps_if (PW.pt (pw_or (pt_cmpR o_le (pv 3) pe_int (nomark _)) (pw_or1 (pt_cmpR o_le (pv 4) pe_int (nomark _))))) (pss_one (ps_ret (C8.pe_c c_l_atom hr (by omega) rfl (pa_cons (pv 0) (pa_cons (pv 1) pa_nil))))) pss_nil)
    (pss_cons (ps_if (pt_cmpR o_le (pv 4) pe_int (nomark _)) (pss_cons (ps_set (i := 5) sc_l_tree.nd rfl (by first | exact Or.inl rfl | exact Or.inr rfl) (C8.pe_c c_l_tree hr (by omega) rfl (pa_cons (pv 0) (pa_cons (pv 1) (pa_cons (pv 2) (pa_cons (pe_op o_minus (pv 3) pe_int) pa_nil))))))
    (pss_one (ps_ret (pe_tup (pa_cons (pe_ix ix_seq (pe_lst (pa_cons pe_str (pa_cons pe_str (pa_cons pe_str (pa_cons pe_str (pa_cons pe_str (pa_cons pe_str pa_nil))))))) (C8.pe_c c_l_draw hr (by omega) rfl (pa_cons (pv 0) (pa_cons pe_int pa_nil))) (fun _ _ => rfl)) (pa_cons (pv 5) (pa_cons (C8.pe_c c_l_tree hr (by omega) rfl (pa_cons (pv 0) (pa_cons (pv 1) (pa_cons (pv 2) (pa_cons (pe_op o_minus (pv 3) pe_int) pa_nil))))) pa_nil))))))) pss_nil)
    (pss_cons (ps_if (pt_cmpR (o_eq hr.units) (pv 4) pe_int (nomark _)) (pss_cons (ps_set (i := 5) sc_l_tree.nd rfl (by first | exact Or.inl rfl | exact Or.inr rfl) (C8.pe_c c_l_tree hr (by omega) rfl (pa_cons (pv 0) (pa_cons (pv 1) (pa_cons (pv 2) (pa_cons (pe_op o_minus (pv 3) pe_int) pa_nil))))))
    (pss_cons (ps_set (i := 6) sc_l_tree.nd rfl (by first | exact Or.inl rfl | exact Or.inr rfl) (C8.pe_c c_l_tree hr (by omega) rfl (pa_cons (pv 0) (pa_cons (pv 1) (pa_cons (pv 2) (pa_cons (pe_op o_minus (pv 3) pe_int) pa_nil))))))
    (pss_one (ps_ret (pe_tup (pa_cons pe_str (pa_cons (pv 5) (pa_cons (pv 6) (pa_cons (C8.pe_c c_l_tree hr (by omega) rfl (pa_cons (pv 0) (pa_cons (pv 1) (pa_cons (pv 2) (pa_cons (pe_op o_minus (pv 3) pe_int) pa_nil))))) pa_nil))))))))) pss_nil)
    (pss_cons (ps_setLc (own := [("_law_name", 8)]) (tt := (tTest (tOp (rInX K true) (tVar 8) (tTup (tCons (tC (.str "p")) (tCons (tC (.str "q")) tNil)))))) (i := 7) rfl sc_l_tree.nd rfl rfl (sw_true rfl rfl rfl (by decide +kernel)) (pi_any (pv 1)) (blkOk_by (N := N_l_tree) (sc := defScope s_l_tree) (by decide +kernel)) (fun _ _ _ _ _ => (pg_name (i := 8) sc_l_tree.nd rfl (by first | exact Or.inl rfl | exact Or.inr rfl))) (fun _ _ _ _ _ => (pts_one (pt_cmpR o_notin (pv 8) (pe_tup (pa_cons pe_str (pa_cons pe_str pa_nil))) (by rfl)))) (fun _ _ _ _ _ => (pv 8)))
    (pss_cons (ps_if (PW.pt (pw_and (pt_cmpR (o_eq hr.units) (pv 4) pe_int (nomark _)) (pw_and1 (pt_cmpR (o_ne hr.units) (pv 7) (pe_lst pa_nil) (nomark _))))) (pss_one (ps_ret (pe_tup (pa_cons pe_str (pa_cons (pe_ix ix_seq (pv 7) (C8.pe_c c_l_draw hr (by omega) rfl (pa_cons (pv 0) (pa_cons (pe_callB c_len (by rfl) g.b_len (by decide +kernel) (pa_cons (pv 7) pa_nil)) pa_nil))) (fun _ _ => rfl)) (pa_cons (C8.pe_c c_l_tree hr (by omega) rfl (pa_cons (pv 0) (pa_cons (pv 1) (pa_cons (pv 2) (pa_cons (pe_op o_minus (pv 3) pe_int) pa_nil))))) pa_nil)))))) pss_nil)
    (pss_cons (ps_if (pt_cmpR (o_eq hr.units) (pv 4) pe_int (nomark _)) (pss_cons (ps_set (i := 5) sc_l_tree.nd rfl (by first | exact Or.inl rfl | exact Or.inr rfl) (C8.pe_c c_l_tree hr (by omega) rfl (pa_cons (pv 0) (pa_cons (pv 1) (pa_cons (pv 2) (pa_cons (pe_op o_minus (pv 3) pe_int) pa_nil))))))
    (pss_one (ps_ret (pe_tup (pa_cons pe_str (pa_cons (pv 5) (pa_cons (C8.pe_c c_l_tree hr (by omega) rfl (pa_cons (pv 0) (pa_cons (pv 1) (pa_cons (pv 2) (pa_cons (pe_op o_minus (pv 3) pe_int) pa_nil))))) pa_nil))))))) pss_nil)
    (pss_cons (ps_if (pt_cmpR (o_eq hr.units) (pv 2) (pe_lst pa_nil) (nomark _)) (pss_one (ps_ret (C8.pe_c c_l_atom hr (by omega) rfl (pa_cons (pv 0) (pa_cons (pv 1) pa_nil))))) pss_nil)
    (pss_cons (ps_asg (pe_ix ix_seq (pv 2) (C8.pe_c c_l_draw hr (by omega) rfl (pa_cons (pv 0) (pa_cons (pe_callB c_len (by rfl) g.b_len (by decide +kernel) (pa_cons (pv 2) pa_nil)) pa_nil))) (fun _ _ => rfl)) (pg_unp rfl (pgs_cons (pg_name (i := 8) sc_l_tree.nd rfl (by first | exact Or.inl rfl | exact Or.inr rfl)) (pgs_cons (pg_name (i := 9) sc_l_tree.nd rfl (by first | exact Or.inl rfl | exact Or.inr rfl)) pgs_nil))))
    (pss_one (ps_ret (pe_tup (pa_cons pe_str (pa_cons (pv 8) (pa_cons (pe_callTy c_tuple (by rfl) g.b_tuple (by decide +kernel) (pa_cons (pe_lc (own := [("_law_k", 10)]) (tt := tYes) rfl sc_l_tree.nd (pi_range1 rfl g.b_range (pa_cons (pv 9) pa_nil)) (blkOk_by (N := N_l_tree) (sc := defScope s_l_tree) (by decide +kernel)) (fun _ _ _ _ _ => (pg_name (i := 10) sc_l_tree.nd rfl (by first | exact Or.inl rfl | exact Or.inr rfl))) (fun _ _ _ _ _ => pts_nil) (fun _ _ _ _ _ => (C8.pe_c c_l_tree hr (by omega) rfl (pa_cons (pv 0) (pa_cons (pv 1) (pa_cons (pv 2) (pa_cons (pe_op o_minus (pv 3) pe_int) pa_nil))))))) pa_nil)) pa_nil)))))))))))))))
theorem zz_l_tree (g : G K mg) (k : Nat) (F : ∃ fd, FunD K "_law_tree" "_law_tree" (defArgs s_l_tree) (defBody s_l_tree) (defScope s_l_tree) [] [] (He.ga K "_law_tree") fd) (m : mg "_law_tree" = some (.ref (He.ga K "_law_tree"))) : C8.Cal P w K mg base k "_law_tree" (fun _ _ _ _ => False) [] := by
  obtain ⟨fd, F⟩ := F
  exact ⟨_, fd, ["_law_box", "_law_names", "_law_calls_here", "_law_depth"], [], ⟨fun _ _ _ _ h => h.elim, fun _ _ _ _ _ _ _ _ _ _ _ _ _ h => h.elim⟩, m, F.kp, (F.bindsN fun _ _ _ _ _ _ us hl => match us, hl with | [_, _, _, _], _ => rfl), .nil⟩
theorem ok_l_tree (g : G K mg) {n : Nat} (hn : 2 ≤ n) {sp_l_tree : Sp} (c_l_tree : C8.Cal P w K mg base n "_law_tree" sp_l_tree []) {sp_l_draw : Sp} (c_l_draw : C8.Cal P w K mg base 1 "_law_draw" sp_l_draw []) {sp_l_atom : Sp} (c_l_atom : C8.Cal P w K mg base 2 "_law_atom" sp_l_atom []) {sp : Sp} (F : ∃ fd, FunD K "_law_tree" "_law_tree" (defArgs s_l_tree) (defBody s_l_tree) (defScope s_l_tree) [] [] (He.ga K "_law_tree") fd) (m : mg "_law_tree" = some (.ref (He.ga K "_law_tree")))
    (hsp : ∀ vs H Q E, sp vs H Q E → vs.length = 4 ∧ t_l_tree K sp_l_tree sp_l_draw sp_l_atom { nx := fun _ H' => Q .non H', rt := Q } (start N_l_tree vs) H) : C8.Cal P w K mg base (n + 1) "_law_tree" sp [] := by
  obtain ⟨fd, F⟩ := F
  exact ⟨_, fd, ["_law_box", "_law_names", "_law_calls_here", "_law_depth"], [], FunD.ok F sc_l_tree (fun vs H Q E h => (hsp vs H Q E h).1) (fun cdv A outer s H vs Q E hr h => ⟨_, PSs.nox (d_l_tree g hn c_l_tree c_l_draw c_l_atom hr), (hsp vs H Q E h).2⟩), m, F.kp, (F.bindsN fun _ _ _ _ _ _ us hl => match us, hl with | [_, _, _, _], _ => rfl), .nil⟩
abbrev N_l_own : List Str := ["_law_name"]
theorem sc_l_own : FnScope N_l_own ["_law_name"] (defScope s_l_own) := ⟨rfl, rfl, rfl, by decide +kernel, rfl, by decide +kernel, by decide +kernel⟩
def t_l_own (K : PySem.W.Frag) : TS :=
    (tRet (tLst (tCons (tTup (tCons (tOp (rPlus K) (tC (.str "x")) (tVar 0)) (tCons (tC (.str "let")) tNil))) (tCons (tTup (tCons (tOp (rPlus K) (tC (.str "y")) (tVar 0)) (tCons (tC (.str "let")) tNil))) (tCons (tTup (tCons (tOp (rPlus K) (tC (.str "k")) (tVar 0)) (tCons (tC (.str "keep")) tNil))) (tCons (tTup (tCons (tOp (rPlus K) (tC (.str "f")) (tVar 0)) (tCons (tC (.str "fn")) tNil))) (tCons (tTup (tCons (tOp (rPlus K) (tC (.str "g")) (tVar 0)) (tCons (tC (.str "fn")) tNil))) tNil)))))))
theorem d_l_own (g : G K mg) {f : Addr} {cdv : Value} {A : Around} {outer : List Env} {s : Shared} {H : Hp} {E : XK} (hr : Room 0 (A.deeper (envOfC "_law_own" (defScope s_l_own) s.heap.objs.size f cdv))) :
    PSs (cxOf CX0 P w K mg base N_l_own "_law_own" (defScope s_l_own) f cdv A outer s H E).nox (defBody s_l_own) (t_l_own K) := by
  unfold t_l_own
  exact
    (pss_one (ps_ret (pe_lst (pa_cons (pe_tup (pa_cons (pe_op o_plus pe_str (pv 0)) (pa_cons pe_str pa_nil))) (pa_cons (pe_tup (pa_cons (pe_op o_plus pe_str (pv 0)) (pa_cons pe_str pa_nil))) (pa_cons (pe_tup (pa_cons (pe_op o_plus pe_str (pv 0)) (pa_cons pe_str pa_nil))) (pa_cons (pe_tup (pa_cons (pe_op o_plus pe_str (pv 0)) (pa_cons pe_str pa_nil))) (pa_cons (pe_tup (pa_cons (pe_op o_plus pe_str (pv 0)) (pa_cons pe_str pa_nil))) pa_nil))))))))
theorem ok_l_own (g : G K mg) {sp : Sp} (F : ∃ fd, FunD K "_law_own" "_law_own" (defArgs s_l_own) (defBody s_l_own) (defScope s_l_own) [] [] (He.ga K "_law_own") fd) (m : mg "_law_own" = some (.ref (He.ga K "_law_own")))
    (hsp : ∀ vs H Q E, sp vs H Q E → vs.length = 1 ∧ t_l_own K { nx := fun _ H' => Q .non H', rt := Q } (start N_l_own vs) H) : C8.Cal P w K mg base 1 "_law_own" sp [] := by
  obtain ⟨fd, F⟩ := F
  exact ⟨_, fd, ["_law_name"], [], FunD.ok F sc_l_own (fun vs H Q E h => (hsp vs H Q E h).1) (fun cdv A outer s H vs Q E hr h => ⟨_, PSs.nox (d_l_own g hr), (hsp vs H Q E h).2⟩), m, F.kp, (F.bindsN fun _ _ _ _ _ _ us hl => match us, hl with | [_], _ => rfl), .nil⟩
abbrev N_l_imports : List Str := ["_law_box", "_law_name", "_law_others", "_law_lines", "_law_taken", "_law_other", "_law_wanted", "_law_pairs", "_law_own_here", "_law_kind", "_law_called"]
theorem sc_l_imports : FnScope N_l_imports ["_law_box", "_law_name", "_law_others"] (defScope s_l_imports) := ⟨rfl, rfl, rfl, by decide +kernel, rfl, by decide +kernel, by decide +kernel⟩
def t_l_imports (K : PySem.W.Frag) (sp_l_draw : Sp) (sp_l_own : Sp) : TS :=
    (tSeq (tAsg (tLst tNil) (gName 3))
    (tSeq (tAsg (tLst tNil) (gName 4))
    (tSeq (tFor (iAny K (tVar 2)) (gName 5) (tSeq (tAsg (tOrV (tOp rGtX (tVar 5) (tVar 1)) (tOp (rEqX K) (tCall sp_l_draw [] C8.E0 (tCons (tVar 0) (tCons (tC (.int 12)) tNil))) (tC (.int 0)))) (gName 6))
    (tIfS (tAnd (tTest (tOp (rNeX K) (tVar 5) (tVar 1))) (tAnd (tTruX K (tVar 6)) (tTest (tOp rGt (tCall sp_l_draw [] C8.E0 (tCons (tVar 0) (tCons (tC (.int 4)) tNil))) (tC (.int 0)))))) (tSeq (tAsg (tLst tNil) (gName 7))
    (tSeq (tFor (iAny K (tCall sp_l_own [] C8.E0 (tCons (tVar 5) tNil))) (gUnp K 2 (gCons (gName 8) (gCons (gName 9) gNil))) (tSeq (tAsg (tOp (rIx K) (tLst (tCons (tVar 8) (tCons (tVar 8) (tCons (tOp (rPlus K) (tC (.str "z")) (tVar 8)) tNil)))) (tCall sp_l_draw [] C8.E0 (tCons (tVar 0) (tCons (tC (.int 3)) tNil)))) (gName 10))
    (tIfS (tAnd (tTest (tOp (rEqX K) (tCall sp_l_draw [] C8.E0 (tCons (tVar 0) (tCons (tC (.int 2)) tNil))) (tC (.int 0)))) (tAnd (tTest (tOp (rInX K true) (tVar 10) (tVar 4))) (tTest (tOp rLt (tCB (rLenX K) (tCons (tVar 7) tNil)) (tC (.int 3)))))) (tSeq (tDrop (tBM K "list" rAppend (tVar 7) (tCons (tTup (tCons (tVar 8) (tCons (tVar 10) tNil))) tNil)))
    (tDrop (tBM K "list" rAppend (tVar 4) (tCons (tVar 10) tNil)))) tNext)))
    (tIfS (tTest (tOp (rNeX K) (tVar 7) (tLst tNil))) (tDrop (tBM K "list" rAppend (tVar 3) (tCons (tTup (tCons (tC (.str "import")) (tCons (tCB (rTupOf K) (tCons (tVar 7) tNil)) (tCons (tVar 5) tNil)))) tNil))) tNext))) tNext)))
    (tRet (tVar 3)))))
theorem d_l_imports (g : G K mg) {sp_l_draw : Sp} (c_l_draw : C8.Cal P w K mg base 1 "_law_draw" sp_l_draw []) {sp_l_own : Sp} (c_l_own : C8.Cal P w K mg base 1 "_law_own" sp_l_own []) {f : Addr} {cdv : Value} {A : Around} {outer : List Env} {s : Shared} {H : Hp} {E : XK} (hr : Room 1 (A.deeper (envOfC "_law_imports" (defScope s_l_imports) s.heap.objs.size f cdv))) :
    PSs (cxOf CX0 P w K mg base N_l_imports "_law_imports" (defScope s_l_imports) f cdv A outer s H E).nox (defBody s_l_imports) (t_l_imports K sp_l_draw sp_l_own) := by
  unfold t_l_imports
  exact
    (pss_cons (ps_set (i := 3) sc_l_imports.nd rfl (by first | exact Or.inl rfl | exact Or.inr rfl) (pe_lst pa_nil))
    (pss_cons (ps_set (i := 4) sc_l_imports.nd rfl (by first | exact Or.inl rfl | exact Or.inr rfl) (pe_lst pa_nil))
    (pss_cons (ps_for PassesOwn.never rfl (pi_any (pv 2)) (pg_name (i := 5) sc_l_imports.nd rfl (by first | exact Or.inl rfl | exact Or.inr rfl)) (pss_cons (ps_set (i := 6) sc_l_imports.nd rfl (by first | exact Or.inl rfl | exact Or.inr rfl) (pe_or (pe_cmpR o_gtX (pv 5) (pv 1) (nomark _)) (pe_one (pe_cmpR (o_eq hr.units) (C8.pe_c c_l_draw hr (by decide) rfl (pa_cons (pv 0) (pa_cons pe_int pa_nil))) pe_int (nomark _)))))
    (pss_one (ps_if (PW.pt (pw_and (pt_cmpR (o_ne hr.units) (pv 5) (pv 1) (nomark _)) (pw_and (pt_tru (pv 6)) (pw_and1 (pt_cmpR o_gt (C8.pe_c c_l_draw hr (by decide) rfl (pa_cons (pv 0) (pa_cons pe_int pa_nil))) pe_int (nomark _)))))) (pss_cons (ps_set (i := 7) sc_l_imports.nd rfl (by first | exact Or.inl rfl | exact Or.inr rfl) (pe_lst pa_nil))
    (pss_cons (ps_for PassesOwn.never rfl (pi_any (C8.pe_c c_l_own hr (by decide) rfl (pa_cons (pv 5) pa_nil))) (pg_unp rfl (pgs_cons (pg_name (i := 8) sc_l_imports.nd rfl (by first | exact Or.inl rfl | exact Or.inr rfl)) (pgs_cons (pg_name (i := 9) sc_l_imports.nd rfl (by first | exact Or.inl rfl | exact Or.inr rfl)) pgs_nil))) (pss_cons (ps_set (i := 10) sc_l_imports.nd rfl (by first | exact Or.inl rfl | exact Or.inr rfl) (pe_ix ix_seq (pe_lst (pa_cons (pv 8) (pa_cons (pv 8) (pa_cons (pe_op o_plus pe_str (pv 8)) pa_nil)))) (C8.pe_c c_l_draw hr (by decide) rfl (pa_cons (pv 0) (pa_cons pe_int pa_nil))) (fun _ _ => rfl)))
    (pss_one (ps_if (PW.pt (pw_and (pt_cmpR (o_eq hr.units) (C8.pe_c c_l_draw hr (by decide) rfl (pa_cons (pv 0) (pa_cons pe_int pa_nil))) pe_int (nomark _)) (pw_and (pt_cmpR o_notin (pv 10) (pv 4) (by rfl)) (pw_and1 (pt_cmpR o_lt (pe_callB c_len (by rfl) g.b_len (by decide +kernel) (pa_cons (pv 7) pa_nil)) pe_int (nomark _)))))) (pss_cons (ps_expr (pe_bm PySem.F.plainAttrs_list PySem.F.slot_list_append PySem.F.type_list_append mt_append (pv 7) (pa_cons (pe_tup (pa_cons (pv 8) (pa_cons (pv 10) pa_nil))) pa_nil)))
    (pss_one (ps_expr (pe_bm PySem.F.plainAttrs_list PySem.F.slot_list_append PySem.F.type_list_append mt_append (pv 4) (pa_cons (pv 10) pa_nil))))) pss_nil))))
    (pss_one (ps_if (pt_cmpR (o_ne hr.units) (pv 7) (pe_lst pa_nil) (nomark _)) (pss_one (ps_expr (pe_bm PySem.F.plainAttrs_list PySem.F.slot_list_append PySem.F.type_list_append mt_append (pv 3) (pa_cons (pe_tup (pa_cons pe_str (pa_cons (pe_callTy c_tuple (by rfl) g.b_tuple (by decide +kernel) (pa_cons (pv 7) pa_nil)) (pa_cons (pv 5) pa_nil)))) pa_nil)))) pss_nil)))) pss_nil))))
    (pss_one (ps_ret (pv 3))))))
theorem ok_l_imports (g : G K mg) {sp_l_draw : Sp} (c_l_draw : C8.Cal P w K mg base 1 "_law_draw" sp_l_draw []) {sp_l_own : Sp} (c_l_own : C8.Cal P w K mg base 1 "_law_own" sp_l_own []) {sp : Sp} (F : ∃ fd, FunD K "_law_imports" "_law_imports" (defArgs s_l_imports) (defBody s_l_imports) (defScope s_l_imports) [] [] (He.ga K "_law_imports") fd) (m : mg "_law_imports" = some (.ref (He.ga K "_law_imports")))
    (hsp : ∀ vs H Q E, sp vs H Q E → vs.length = 3 ∧ t_l_imports K sp_l_draw sp_l_own { nx := fun _ H' => Q .non H', rt := Q } (start N_l_imports vs) H) : C8.Cal P w K mg base 2 "_law_imports" sp [] := by
  obtain ⟨fd, F⟩ := F
  exact ⟨_, fd, ["_law_box", "_law_name", "_law_others"], [], FunD.ok F sc_l_imports (fun vs H Q E h => (hsp vs H Q E h).1) (fun cdv A outer s H vs Q E hr h => ⟨_, PSs.nox (d_l_imports g c_l_draw c_l_own hr), (hsp vs H Q E h).2⟩), m, F.kp, (F.bindsN fun _ _ _ _ _ _ us hl => match us, hl with | [_, _, _], _ => rfl), .nil⟩
abbrev N_l_usable : List Str := ["_law_lines", "_law_name", "_law_wanted", "_law_found", "_law_line", "_law_own_here", "_law_kind", "_law_called"]
theorem sc_l_usable : FnScope N_l_usable ["_law_lines", "_law_name", "_law_wanted"] (defScope s_l_usable) := ⟨rfl, rfl, rfl, by decide +kernel, rfl, by decide +kernel, by decide +kernel⟩
def t_l_usable (K : PySem.W.Frag) (sp_l_own : Sp) : TS :=
    (tSeq (tAsg (tLst tNil) (gName 3))
    (tSeq (tFor (iAny K (tVar 0)) (gName 4) (tIfS (tTest (tOp (rEqX K) (tOp (rIx K) (tVar 4) (tC (.int 0))) (tC (.str "import")))) (tAsg (tOp (rPlus K) (tVar 3) (tLc (iAny K (tOp (rIx K) (tVar 4) (tC (.int 1)))) (gUnp K 2 (gCons (gName 5) (gCons (gName 7) gNil))) (tTest (tOp (rInX K false) (tOp (rIx K) (tVar 5) (tC (.int 0))) (tVar 2))) (tVar 7) [5, 7])) (gName 3)) tNext))
    (tRet (tOp (rPlus K) (tVar 3) (tLc (iAny K (tCall sp_l_own [] C8.E0 (tCons (tVar 1) tNil))) (gUnp K 2 (gCons (gName 5) (gCons (gName 6) gNil))) (tTest (tOp (rInX K false) (tOp (rIx K) (tVar 5) (tC (.int 0))) (tVar 2))) (tVar 5) [5, 6])))))
theorem d_l_usable (g : G K mg) {sp_l_own : Sp} (c_l_own : C8.Cal P w K mg base 1 "_law_own" sp_l_own []) {f : Addr} {cdv : Value} {A : Around} {outer : List Env} {s : Shared} {H : Hp} {E : XK} (hr : Room 1 (A.deeper (envOfC "_law_usable" (defScope s_l_usable) s.heap.objs.size f cdv))) :
    PSs (cxOf CX0 P w K mg base N_l_usable "_law_usable" (defScope s_l_usable) f cdv A outer s H E).nox (defBody s_l_usable) (t_l_usable K sp_l_own) := by
  unfold t_l_usable
  exact
    (pss_cons (ps_set (i := 3) sc_l_usable.nd rfl (by first | exact Or.inl rfl | exact Or.inr rfl) (pe_lst pa_nil))
    (pss_cons (ps_for PassesOwn.never rfl (pi_any (pv 0)) (pg_name (i := 4) sc_l_usable.nd rfl (by first | exact Or.inl rfl | exact Or.inr rfl)) (pss_one (ps_if (pt_cmpR (o_eq hr.units) (pe_ix ix_seq (pv 4) pe_int (fun _ _ => rfl)) pe_str (nomark _)) (pss_one (ps_set (i := 3) sc_l_usable.nd rfl (by first | exact Or.inl rfl | exact Or.inr rfl) (pe_op o_plus (pv 3) (pe_lc (own := [("_law_own_here", 5), ("_law_called", 7)]) (tt := (tTest (tOp (rInX K false) (tOp (rIx K) (tVar 5) (tC (.int 0))) (tVar 2)))) rfl sc_l_usable.nd (pi_any (pe_ix ix_seq (pv 4) pe_int (fun _ _ => rfl))) (blkOk_by (N := N_l_usable) (sc := defScope s_l_usable) (by decide +kernel)) (fun _ _ _ _ _ => (pg_unp rfl (pgs_cons (pg_name (i := 5) sc_l_usable.nd rfl (by first | exact Or.inl rfl | exact Or.inr rfl)) (pgs_cons (pg_name (i := 7) sc_l_usable.nd rfl (by first | exact Or.inl rfl | exact Or.inr rfl)) pgs_nil)))) (fun _ _ _ _ _ => (pts_one (pt_cmpR o_in (pe_ix ix_seq (pv 5) pe_int (fun _ _ => rfl)) (pv 2) (by rfl)))) (fun _ _ _ _ _ => (pv 7)))))) pss_nil)))
    (pss_one (ps_ret (pe_op o_plus (pv 3) (pe_lc (own := [("_law_own_here", 5), ("_law_kind", 6)]) (tt := (tTest (tOp (rInX K false) (tOp (rIx K) (tVar 5) (tC (.int 0))) (tVar 2)))) rfl sc_l_usable.nd (pi_any (C8.pe_c c_l_own hr (by decide) rfl (pa_cons (pv 1) pa_nil))) (blkOk_by (N := N_l_usable) (sc := defScope s_l_usable) (by decide +kernel)) (fun _ _ _ _ _ => (pg_unp rfl (pgs_cons (pg_name (i := 5) sc_l_usable.nd rfl (by first | exact Or.inl rfl | exact Or.inr rfl)) (pgs_cons (pg_name (i := 6) sc_l_usable.nd rfl (by first | exact Or.inl rfl | exact Or.inr rfl)) pgs_nil)))) (fun _ _ _ _ _ => (pts_one (pt_cmpR o_in (pe_ix ix_seq (pv 5) pe_int (fun _ _ => rfl)) (pv 2) (by rfl)))) (fun _ _ _ _ _ => (pv 5))))))))
theorem ok_l_usable (g : G K mg) {sp_l_own : Sp} (c_l_own : C8.Cal P w K mg base 1 "_law_own" sp_l_own []) {sp : Sp} (F : ∃ fd, FunD K "_law_usable" "_law_usable" (defArgs s_l_usable) (defBody s_l_usable) (defScope s_l_usable) [] [] (He.ga K "_law_usable") fd) (m : mg "_law_usable" = some (.ref (He.ga K "_law_usable")))
    (hsp : ∀ vs H Q E, sp vs H Q E → vs.length = 3 ∧ t_l_usable K sp_l_own { nx := fun _ H' => Q .non H', rt := Q } (start N_l_usable vs) H) : C8.Cal P w K mg base 2 "_law_usable" sp [] := by
  obtain ⟨fd, F⟩ := F
  exact ⟨_, fd, ["_law_lines", "_law_name", "_law_wanted"], [], FunD.ok F sc_l_usable (fun vs H Q E h => (hsp vs H Q E h).1) (fun cdv A outer s H vs Q E hr h => ⟨_, PSs.nox (d_l_usable g c_l_own hr), (hsp vs H Q E h).2⟩), m, F.kp, (F.bindsN fun _ _ _ _ _ _ us hl => match us, hl with | [_, _, _], _ => rfl), .nil⟩
abbrev N_l_calls : List Str := ["_law_lines", "_law_name", "_law_rows", "_law_line", "_law_own_here", "_law_called"]
theorem sc_l_calls : FnScope N_l_calls ["_law_lines", "_law_name"] (defScope s_l_calls) := ⟨rfl, rfl, rfl, by decide +kernel, rfl, by decide +kernel, by decide +kernel⟩
def t_l_calls (K : PySem.W.Frag) : TS :=
    (tSeq (tAsg (tLst tNil) (gName 2))
    (tSeq (tFor (iAny K (tVar 0)) (gName 3) (tIfS (tTest (tOp (rEqX K) (tOp (rIx K) (tVar 3) (tC (.int 0))) (tC (.str "import")))) (tAsg (tOp (rPlus K) (tVar 2) (tLc (iAny K (tOp (rIx K) (tVar 3) (tC (.int 1)))) (gUnp K 2 (gCons (gName 4) (gCons (gName 5) gNil))) (tTest (tOp (rInX K false) (tOp (rIx K) (tVar 4) (tC (.int 0))) (tC (.str "fg")))) (tTup (tCons (tVar 5) (tCons (tOp (rIx K) (tLst (tCons (tC (.int 1)) (tCons (tC (.int 2)) tNil))) (tCB (rIntY) (tCons (tOp (rEqX K) (tOp (rIx K) (tVar 4) (tC (.int 0))) (tC (.str "g"))) tNil))) tNil))) [4, 5])) (gName 2)) tNext))
    (tRet (tOp (rPlus K) (tVar 2) (tLst (tCons (tTup (tCons (tOp (rPlus K) (tC (.str "f")) (tVar 1)) (tCons (tC (.int 1)) tNil))) (tCons (tTup (tCons (tOp (rPlus K) (tC (.str "g")) (tVar 1)) (tCons (tC (.int 2)) tNil))) tNil)))))))
theorem d_l_calls (g : G K mg) {f : Addr} {cdv : Value} {A : Around} {outer : List Env} {s : Shared} {H : Hp} {E : XK} (hr : Room 0 (A.deeper (envOfC "_law_calls" (defScope s_l_calls) s.heap.objs.size f cdv))) :
    PSs (cxOf CX0 P w K mg base N_l_calls "_law_calls" (defScope s_l_calls) f cdv A outer s H E).nox (defBody s_l_calls) (t_l_calls K) := by
  unfold t_l_calls
  exact
    (pss_cons (ps_set (i := 2) sc_l_calls.nd rfl (by first | exact Or.inl rfl | exact Or.inr rfl) (pe_lst pa_nil))
    (pss_cons (ps_for PassesOwn.never rfl (pi_any (pv 0)) (pg_name (i := 3) sc_l_calls.nd rfl (by first | exact Or.inl rfl | exact Or.inr rfl)) (pss_one (ps_if (pt_cmpR (o_eq hr.units) (pe_ix ix_seq (pv 3) pe_int (fun _ _ => rfl)) pe_str (nomark _)) (pss_one (ps_set (i := 2) sc_l_calls.nd rfl (by first | exact Or.inl rfl | exact Or.inr rfl) (pe_op o_plus (pv 2) (pe_lc (own := [("_law_own_here", 4), ("_law_called", 5)]) (tt := (tTest (tOp (rInX K false) (tOp (rIx K) (tVar 4) (tC (.int 0))) (tC (.str "fg"))))) rfl sc_l_calls.nd (pi_any (pe_ix ix_seq (pv 3) pe_int (fun _ _ => rfl))) (blkOk_by (N := N_l_calls) (sc := defScope s_l_calls) (by decide +kernel)) (fun _ _ _ _ _ => (pg_unp rfl (pgs_cons (pg_name (i := 4) sc_l_calls.nd rfl (by first | exact Or.inl rfl | exact Or.inr rfl)) (pgs_cons (pg_name (i := 5) sc_l_calls.nd rfl (by first | exact Or.inl rfl | exact Or.inr rfl)) pgs_nil)))) (fun _ _ _ _ _ => (pts_one (pt_cmpR o_in (pe_ix ix_seq (pv 4) pe_int (fun _ _ => rfl)) pe_str (by rfl)))) (fun _ _ _ _ _ => (pe_tup (pa_cons (pv 5) (pa_cons (pe_ix ix_seq (pe_lst (pa_cons pe_int (pa_cons pe_int pa_nil))) (pe_callTy c_int2 (by rfl) g.b_int (by decide +kernel) (pa_cons (pe_cmpR (o_eq hr.units) (pe_ix ix_seq (pv 4) pe_int (fun _ _ => rfl)) pe_str (nomark _)) pa_nil)) (fun _ _ => rfl)) pa_nil)))))))) pss_nil)))
    (pss_one (ps_ret (pe_op o_plus (pv 2) (pe_lst (pa_cons (pe_tup (pa_cons (pe_op o_plus pe_str (pv 1)) (pa_cons pe_int pa_nil))) (pa_cons (pe_tup (pa_cons (pe_op o_plus pe_str (pv 1)) (pa_cons pe_int pa_nil))) pa_nil))))))))
theorem ok_l_calls (g : G K mg) {sp : Sp} (F : ∃ fd, FunD K "_law_calls" "_law_calls" (defArgs s_l_calls) (defBody s_l_calls) (defScope s_l_calls) [] [] (He.ga K "_law_calls") fd) (m : mg "_law_calls" = some (.ref (He.ga K "_law_calls")))
    (hsp : ∀ vs H Q E, sp vs H Q E → vs.length = 2 ∧ t_l_calls K { nx := fun _ H' => Q .non H', rt := Q } (start N_l_calls vs) H) : C8.Cal P w K mg base 1 "_law_calls" sp [] := by
  obtain ⟨fd, F⟩ := F
  exact ⟨_, fd, ["_law_lines", "_law_name"], [], FunD.ok F sc_l_calls (fun vs H Q E h => (hsp vs H Q E h).1) (fun cdv A outer s H vs Q E hr h => ⟨_, PSs.nox (d_l_calls g hr), (hsp vs H Q E h).2⟩), m, F.kp, (F.bindsN fun _ _ _ _ _ _ us hl => match us, hl with | [_, _], _ => rfl), .nil⟩
abbrev N_l_module : List Str := ["_law_box", "_law_name", "_law_others", "_law_lines", "_law_names", "_law_calls_here", "_law_mine", "_law_own_here", "_law_every", "_law_kind", "_law_row"]
theorem sc_l_module : FnScope N_l_module ["_law_box", "_law_name", "_law_others"] (defScope s_l_module) := ⟨rfl, rfl, rfl, by decide +kernel, rfl, by decide +kernel, by decide +kernel⟩
def t_l_module (K : PySem.W.Frag) (sp_l_draw : Sp) (sp_l_tree : Sp) (sp_l_calls : Sp) (sp_l_usable : Sp) (sp_l_imports : Sp) : TS :=
    (tSeq (tAsg (tCall sp_l_imports [] C8.E0 (tCons (tVar 0) (tCons (tVar 1) (tCons (tVar 2) tNil)))) (gName 3))
    (tSeq (tAsg (tSl (rSlX K) (tCall sp_l_usable [] C8.E0 (tCons (tVar 3) (tCons (tVar 1) (tCons (tC (.str "xy")) tNil)))) tNoPart (tPart (tUn (rU fun i => .int (-i)) (tC (.int 2))))) (gName 4))
    (tSeq (tAsg (tLc (iAny K (tSl (rSlX K) (tCall sp_l_calls [] C8.E0 (tCons (tVar 3) (tCons (tVar 1) tNil))) tNoPart (tPart (tUn (rU fun i => .int (-i)) (tC (.int 2)))))) (gName 10) (tTest (tOp (rEqX K) (tOp (rIx K) (tVar 10) (tC (.int 1))) (tC (.int 1)))) (tVar 10) [10]) (gName 5))
    (tSeq (tAsg (tOp (rPlus K) (tVar 4) (tLst (tCons (tOp (rPlus K) (tC (.str "x")) (tVar 1)) tNil))) (gName 6))
    (tSeq (tAsg (tLst tNil) (gName 7))
    (tSeq (tDrop (tBM K "list" rAppend (tVar 7) (tCons (tTup (tCons (tC (.str "let")) (tCons (tOp (rPlus K) (tC (.str "x")) (tVar 1)) (tCons (tCall sp_l_tree [] C8.E0 (tCons (tVar 0) (tCons (tVar 4) (tCons (tVar 5) (tCons (tC (.int 1)) tNil))))) tNil)))) tNil)))
    (tSeq (tDrop (tBM K "list" rAppend (tVar 7) (tCons (tTup (tCons (tC (.str "fn")) (tCons (tOp (rPlus K) (tC (.str "f")) (tVar 1)) (tCons (tTup (tCons (tC (.str "p")) tNil)) (tCons (tCall sp_l_tree [] C8.E0 (tCons (tVar 0) (tCons (tOp (rPlus K) (tVar 6) (tLst (tCons (tC (.str "p")) tNil))) (tCons (tLst tNil) (tCons (tC (.int 2)) tNil))))) tNil))))) tNil)))
    (tSeq (tDrop (tBM K "list" rAppend (tVar 7) (tCons (tTup (tCons (tC (.str "let")) (tCons (tOp (rPlus K) (tC (.str "y")) (tVar 1)) (tCons (tCall sp_l_tree [] C8.E0 (tCons (tVar 0) (tCons (tVar 6) (tCons (tOp (rPlus K) (tVar 5) (tLst (tCons (tTup (tCons (tOp (rPlus K) (tC (.str "f")) (tVar 1)) (tCons (tC (.int 1)) tNil))) tNil))) (tCons (tC (.int 2)) tNil))))) tNil)))) tNil)))
    (tSeq (tDrop (tBM K "list" rAppend (tVar 7) (tCons (tTup (tCons (tC (.str "keep")) (tCons (tOp (rPlus K) (tC (.str "k")) (tVar 1)) (tCons (tCall sp_l_tree [] C8.E0 (tCons (tVar 0) (tCons (tVar 6) (tCons (tLst tNil) (tCons (tC (.int 1)) tNil))))) tNil)))) tNil)))
    (tSeq (tAsg (tCall sp_l_usable [] C8.E0 (tCons (tVar 3) (tCons (tVar 1) (tCons (tC (.str "xyk")) tNil)))) (gName 8))
    (tSeq (tDrop (tBM K "list" rAppend (tVar 7) (tCons (tTup (tCons (tC (.str "fn")) (tCons (tOp (rPlus K) (tC (.str "g")) (tVar 1)) (tCons (tTup (tCons (tC (.str "p")) (tCons (tC (.str "q")) tNil))) (tCons (tCall sp_l_tree [] C8.E0 (tCons (tVar 0) (tCons (tOp (rPlus K) (tVar 8) (tLst (tCons (tC (.str "p")) (tCons (tC (.str "q")) tNil)))) (tCons (tVar 5) (tCons (tC (.int 2)) tNil))))) tNil))))) tNil)))
    (tSeq (tAsg (tCall sp_l_draw [] C8.E0 (tCons (tVar 0) (tCons (tC (.int 9)) tNil))) (gName 9))
    (C8.tCut (tIfS (tTest (tOp rLe (tVar 9) (tC (.int 1)))) (tDrop (tBM K "list" rAppend (tVar 7) (tCons (tTup (tCons (tC (.str "do")) (tCons (tCall sp_l_tree [] C8.E0 (tCons (tVar 0) (tCons (tOp (rPlus K) (tVar 6) (tLst (tCons (tOp (rPlus K) (tC (.str "y")) (tVar 1)) tNil))) (tCons (tOp (rIx K) (tLst (tCons (tVar 5) (tCons (tCall sp_l_calls [] C8.E0 (tCons (tVar 3) (tCons (tVar 1) tNil))) tNil))) (tVar 9)) (tCons (tC (.int 2)) tNil))))) tNil))) tNil))) tNext)
    (C8.tCut (tIfS (tTest (tOp rLe (tVar 9) (tC (.int 3)))) (tDrop (tBM K "list" rAppend (tVar 7) (tCons (tTup (tCons (tC (.str "hold")) (tCons (tOp (rIx K) (tLst (tCons (tTup (tCons (tC (.str "string")) (tCons (tOp (rPlus K) (tC (.str "r")) (tVar 1)) tNil))) (tCons (tTup (tCons (tC (.str "string")) (tCons (tC (.str "common")) tNil))) (tCons (tTup (tCons (tC (.str "+")) (tCons (tTup (tCons (tC (.str "string")) (tCons (tC (.str "r")) tNil))) (tCons (tTup (tCons (tC (.str "string")) (tCons (tVar 1) tNil))) tNil)))) tNil)))) (tCall sp_l_draw [] C8.E0 (tCons (tVar 0) (tCons (tC (.int 3)) tNil)))) tNil))) tNil))) tNext)
    (C8.tCut (tIfS (tTest (tOp (rEqX K) (tCall sp_l_draw [] C8.E0 (tCons (tVar 0) (tCons (tC (.int 20)) tNil))) (tC (.int 0)))) (tAsg (tOp (rPlus K) (tSl (rSlX K) (tVar 7) (tPart (tC (.int 2))) tNoPart) (tSl (rSlX K) (tVar 7) tNoPart (tPart (tC (.int 2))))) (gName 7)) tNext)
    (tRet (tCB (rTupOf K) (tCons (tOp (rPlus K) (tVar 3) (tVar 7)) tNil))))))))))))))))))
theorem d_l_module (g : G K mg) {sp_l_draw : Sp} (c_l_draw : C8.Cal P w K mg base 1 "_law_draw" sp_l_draw []) {sp_l_tree : Sp} (c_l_tree : C8.Cal P w K mg base 13 "_law_tree" sp_l_tree []) {sp_l_calls : Sp} (c_l_calls : C8.Cal P w K mg base 1 "_law_calls" sp_l_calls []) {sp_l_usable : Sp} (c_l_usable : C8.Cal P w K mg base 2 "_law_usable" sp_l_usable []) {sp_l_imports : Sp} (c_l_imports : C8.Cal P w K mg base 2 "_law_imports" sp_l_imports []) {f : Addr} {cdv : Value} {A : Around} {outer : List Env} {s : Shared} {H : Hp} {E : XK} (hr : Room 13 (A.deeper (envOfC "_law_module" (defScope s_l_module) s.heap.objs.size f cdv))) :
    PSs (cxOf CX0 P w K mg base N_l_module "_law_module" (defScope s_l_module) f cdv A outer s H E).nox (defBody s_l_module) (t_l_module K sp_l_draw sp_l_tree sp_l_calls sp_l_usable sp_l_imports) := by
  unfold t_l_module
  exact
    (pss_cons (ps_set (i := 3) sc_l_module.nd rfl (by first | exact Or.inl rfl | exact Or.inr rfl) (C8.pe_c c_l_imports hr (by decide) rfl (pa_cons (pv 0) (pa_cons (pv 1) (pa_cons (pv 2) pa_nil)))))
    (pss_cons (ps_set (i := 4) sc_l_module.nd rfl (by first | exact Or.inl rfl | exact Or.inr rfl) (pe_slice sl_any (C8.pe_c c_l_usable hr (by decide) rfl (pa_cons (pv 3) (pa_cons (pv 1) (pa_cons pe_str pa_nil)))) po_none (po_some (pe_un un_neg pe_int))))
    (pss_cons (ps_setLc (own := [("_law_row", 10)]) (tt := (tTest (tOp (rEqX K) (tOp (rIx K) (tVar 10) (tC (.int 1))) (tC (.int 1))))) (i := 5) rfl sc_l_module.nd rfl rfl (sw_true rfl rfl rfl (by decide +kernel)) (pi_any (pe_slice sl_any (C8.pe_c c_l_calls hr (by decide) rfl (pa_cons (pv 3) (pa_cons (pv 1) pa_nil))) po_none (po_some (pe_un un_neg pe_int)))) (blkOk_by (N := N_l_module) (sc := defScope s_l_module) (by decide +kernel)) (fun _ _ _ _ _ => (pg_name (i := 10) sc_l_module.nd rfl (by first | exact Or.inl rfl | exact Or.inr rfl))) (fun _ _ _ _ _ => (pts_one (pt_cmpR (o_eq hr.units) (pe_ix ix_seq (pv 10) pe_int (fun _ _ => rfl)) pe_int (nomark _)))) (fun _ _ _ _ _ => (pv 10)))
    (pss_cons (ps_set (i := 6) sc_l_module.nd rfl (by first | exact Or.inl rfl | exact Or.inr rfl) (pe_op o_plus (pv 4) (pe_lst (pa_cons (pe_op o_plus pe_str (pv 1)) pa_nil))))
    (pss_cons (ps_set (i := 7) sc_l_module.nd rfl (by first | exact Or.inl rfl | exact Or.inr rfl) (pe_lst pa_nil))
    (pss_cons (ps_expr (pe_bm PySem.F.plainAttrs_list PySem.F.slot_list_append PySem.F.type_list_append mt_append (pv 7) (pa_cons (pe_tup (pa_cons pe_str (pa_cons (pe_op o_plus pe_str (pv 1)) (pa_cons (C8.pe_c c_l_tree hr (by decide) rfl (pa_cons (pv 0) (pa_cons (pv 4) (pa_cons (pv 5) (pa_cons pe_int pa_nil))))) pa_nil)))) pa_nil)))
    (pss_cons (ps_expr (pe_bm PySem.F.plainAttrs_list PySem.F.slot_list_append PySem.F.type_list_append mt_append (pv 7) (pa_cons (pe_tup (pa_cons pe_str (pa_cons (pe_op o_plus pe_str (pv 1)) (pa_cons (pe_tup (pa_cons pe_str pa_nil)) (pa_cons (C8.pe_c c_l_tree hr (by decide) rfl (pa_cons (pv 0) (pa_cons (pe_op o_plus (pv 6) (pe_lst (pa_cons pe_str pa_nil))) (pa_cons (pe_lst pa_nil) (pa_cons pe_int pa_nil))))) pa_nil))))) pa_nil)))
    (pss_cons (ps_expr (pe_bm PySem.F.plainAttrs_list PySem.F.slot_list_append PySem.F.type_list_append mt_append (pv 7) (pa_cons (pe_tup (pa_cons pe_str (pa_cons (pe_op o_plus pe_str (pv 1)) (pa_cons (C8.pe_c c_l_tree hr (by decide) rfl (pa_cons (pv 0) (pa_cons (pv 6) (pa_cons (pe_op o_plus (pv 5) (pe_lst (pa_cons (pe_tup (pa_cons (pe_op o_plus pe_str (pv 1)) (pa_cons pe_int pa_nil))) pa_nil))) (pa_cons pe_int pa_nil))))) pa_nil)))) pa_nil)))
    (pss_cons (ps_expr (pe_bm PySem.F.plainAttrs_list PySem.F.slot_list_append PySem.F.type_list_append mt_append (pv 7) (pa_cons (pe_tup (pa_cons pe_str (pa_cons (pe_op o_plus pe_str (pv 1)) (pa_cons (C8.pe_c c_l_tree hr (by decide) rfl (pa_cons (pv 0) (pa_cons (pv 6) (pa_cons (pe_lst pa_nil) (pa_cons pe_int pa_nil))))) pa_nil)))) pa_nil)))
    (pss_cons (ps_set (i := 8) sc_l_module.nd rfl (by first | exact Or.inl rfl | exact Or.inr rfl) (C8.pe_c c_l_usable hr (by decide) rfl (pa_cons (pv 3) (pa_cons (pv 1) (pa_cons pe_str pa_nil)))))
    (pss_cons (ps_expr (pe_bm PySem.F.plainAttrs_list PySem.F.slot_list_append PySem.F.type_list_append mt_append (pv 7) (pa_cons (pe_tup (pa_cons pe_str (pa_cons (pe_op o_plus pe_str (pv 1)) (pa_cons (pe_tup (pa_cons pe_str (pa_cons pe_str pa_nil))) (pa_cons (C8.pe_c c_l_tree hr (by decide) rfl (pa_cons (pv 0) (pa_cons (pe_op o_plus (pv 8) (pe_lst (pa_cons pe_str (pa_cons pe_str pa_nil)))) (pa_cons (pv 5) (pa_cons pe_int pa_nil))))) pa_nil))))) pa_nil)))
    (pss_cons (ps_set (i := 9) sc_l_module.nd rfl (by first | exact Or.inl rfl | exact Or.inr rfl) (C8.pe_c c_l_draw hr (by decide) rfl (pa_cons (pv 0) (pa_cons pe_int pa_nil))))
    (C8.pss_cut (ps_if (pt_cmpR o_le (pv 9) pe_int (nomark _)) (pss_one (ps_expr (pe_bm PySem.F.plainAttrs_list PySem.F.slot_list_append PySem.F.type_list_append mt_append (pv 7) (pa_cons (pe_tup (pa_cons pe_str (pa_cons (C8.pe_c c_l_tree hr (by decide) rfl (pa_cons (pv 0) (pa_cons (pe_op o_plus (pv 6) (pe_lst (pa_cons (pe_op o_plus pe_str (pv 1)) pa_nil))) (pa_cons (pe_ix ix_seq (pe_lst (pa_cons (pv 5) (pa_cons (C8.pe_c c_l_calls hr (by decide) rfl (pa_cons (pv 3) (pa_cons (pv 1) pa_nil))) pa_nil))) (pv 9) (fun _ _ => rfl)) (pa_cons pe_int pa_nil))))) pa_nil))) pa_nil)))) pss_nil)
    (C8.pss_cut (ps_if (pt_cmpR o_le (pv 9) pe_int (nomark _)) (pss_one (ps_expr (pe_bm PySem.F.plainAttrs_list PySem.F.slot_list_append PySem.F.type_list_append mt_append (pv 7) (pa_cons (pe_tup (pa_cons pe_str (pa_cons (pe_ix ix_seq (pe_lst (pa_cons (pe_tup (pa_cons pe_str (pa_cons (pe_op o_plus pe_str (pv 1)) pa_nil))) (pa_cons (pe_tup (pa_cons pe_str (pa_cons pe_str pa_nil))) (pa_cons (pe_tup (pa_cons pe_str (pa_cons (pe_tup (pa_cons pe_str (pa_cons pe_str pa_nil))) (pa_cons (pe_tup (pa_cons pe_str (pa_cons (pv 1) pa_nil))) pa_nil)))) pa_nil)))) (C8.pe_c c_l_draw hr (by decide) rfl (pa_cons (pv 0) (pa_cons pe_int pa_nil))) (fun _ _ => rfl)) pa_nil))) pa_nil)))) pss_nil)
    (C8.pss_cut (ps_if (pt_cmpR (o_eq hr.units) (C8.pe_c c_l_draw hr (by decide) rfl (pa_cons (pv 0) (pa_cons pe_int pa_nil))) pe_int (nomark _)) (pss_one (ps_set (i := 7) sc_l_module.nd rfl (by first | exact Or.inl rfl | exact Or.inr rfl) (pe_op o_plus (pe_slice sl_any (pv 7) (po_some pe_int) po_none) (pe_slice sl_any (pv 7) po_none (po_some pe_int))))) pss_nil)
    (pss_one (ps_ret (pe_callTy c_tuple (by rfl) g.b_tuple (by decide +kernel) (pa_cons (pe_op o_plus (pv 3) (pv 7)) pa_nil)))))))))))))))))))
theorem ok_l_module (g : G K mg) {sp_l_draw : Sp} (c_l_draw : C8.Cal P w K mg base 1 "_law_draw" sp_l_draw []) {sp_l_tree : Sp} (c_l_tree : C8.Cal P w K mg base 13 "_law_tree" sp_l_tree []) {sp_l_calls : Sp} (c_l_calls : C8.Cal P w K mg base 1 "_law_calls" sp_l_calls []) {sp_l_usable : Sp} (c_l_usable : C8.Cal P w K mg base 2 "_law_usable" sp_l_usable []) {sp_l_imports : Sp} (c_l_imports : C8.Cal P w K mg base 2 "_law_imports" sp_l_imports []) {sp : Sp} (F : ∃ fd, FunD K "_law_module" "_law_module" (defArgs s_l_module) (defBody s_l_module) (defScope s_l_module) [] [] (He.ga K "_law_module") fd) (m : mg "_law_module" = some (.ref (He.ga K "_law_module")))
    (hsp : ∀ vs H Q E, sp vs H Q E → vs.length = 3 ∧ t_l_module K sp_l_draw sp_l_tree sp_l_calls sp_l_usable sp_l_imports { nx := fun _ H' => Q .non H', rt := Q } (start N_l_module vs) H) : C8.Cal P w K mg base 14 "_law_module" sp [] := by
  obtain ⟨fd, F⟩ := F
  exact ⟨_, fd, ["_law_box", "_law_name", "_law_others"], [], FunD.ok F sc_l_module (fun vs H Q E h => (hsp vs H Q E h).1) (fun cdv A outer s H vs Q E hr h => ⟨_, PSs.nox (d_l_module g c_l_draw c_l_tree c_l_calls c_l_usable c_l_imports hr), (hsp vs H Q E h).2⟩), m, F.kp, (F.bindsN fun _ _ _ _ _ _ us hl => match us, hl with | [_, _, _], _ => rfl), .nil⟩
abbrev N_l_modules : List Str := ["_law_box", "_law_names", "_law_modules_here", "_law_name"]
theorem sc_l_modules : FnScope N_l_modules ["_law_box", "_law_names"] (defScope s_l_modules) := ⟨rfl, rfl, rfl, by decide +kernel, rfl, by decide +kernel, by decide +kernel⟩
def t_l_modules (K : PySem.W.Frag) (sp_l_module : Sp) : TS :=
    (tSeq (tAsg tDNewK (gName 2))
    (tSeq (tFor (iAny K (tVar 1)) (gName 3) (sDPut (tVar 2) (tVar 3) (tCall sp_l_module [] C8.E0 (tCons (tVar 0) (tCons (tVar 3) (tCons (tVar 1) tNil))))))
    (tRet (tVar 2))))
theorem d_l_modules (g : G K mg) {sp_l_module : Sp} (c_l_module : C8.Cal P w K mg base 14 "_law_module" sp_l_module []) {f : Addr} {cdv : Value} {A : Around} {outer : List Env} {s : Shared} {H : Hp} {E : XK} (hr : Room 14 (A.deeper (envOfC "_law_modules" (defScope s_l_modules) s.heap.objs.size f cdv))) :
    PSs (cxOf CX0 P w K mg base N_l_modules "_law_modules" (defScope s_l_modules) f cdv A outer s H E).nox (defBody s_l_modules) (t_l_modules K sp_l_module) := by
  unfold t_l_modules
  exact
    (pss_cons (ps_set (i := 2) sc_l_modules.nd rfl (by first | exact Or.inl rfl | exact Or.inr rfl) pe_dnewK)
    (pss_cons (ps_for PassesOwn.never rfl (pi_any (pv 1)) (pg_name (i := 3) sc_l_modules.nd rfl (by first | exact Or.inl rfl | exact Or.inr rfl)) (pss_one (ps_dput (u1 hr) (pv 2) (pv 3) (C8.pe_c c_l_module hr (by decide) rfl (pa_cons (pv 0) (pa_cons (pv 3) (pa_cons (pv 1) pa_nil)))) (by rfl))))
    (pss_one (ps_ret (pv 2)))))
theorem ok_l_modules (g : G K mg) {sp_l_module : Sp} (c_l_module : C8.Cal P w K mg base 14 "_law_module" sp_l_module []) {sp : Sp} (F : ∃ fd, FunD K "_law_modules" "_law_modules" (defArgs s_l_modules) (defBody s_l_modules) (defScope s_l_modules) [] [] (He.ga K "_law_modules") fd) (m : mg "_law_modules" = some (.ref (He.ga K "_law_modules")))
    (hsp : ∀ vs H Q E, sp vs H Q E → vs.length = 2 ∧ t_l_modules K sp_l_module { nx := fun _ H' => Q .non H', rt := Q } (start N_l_modules vs) H) : C8.Cal P w K mg base 15 "_law_modules" sp [] := by
  obtain ⟨fd, F⟩ := F
  exact ⟨_, fd, ["_law_box", "_law_names"], [], FunD.ok F sc_l_modules (fun vs H Q E h => (hsp vs H Q E h).1) (fun cdv A outer s H vs Q E hr h => ⟨_, PSs.nox (d_l_modules g c_l_module hr), (hsp vs H Q E h).2⟩), m, F.kp, (F.bindsN fun _ _ _ _ _ _ us hl => match us, hl with | [_, _], _ => rfl), .nil⟩
abbrev N_l_exports : List Str := ["_law_lines", "_law_found", "_law_line", "_law_name", "_law_called"]
theorem sc_l_exports : FnScope N_l_exports ["_law_lines"] (defScope s_l_exports) := ⟨rfl, rfl, rfl, by decide +kernel, rfl, by decide +kernel, by decide +kernel⟩
def t_l_exports (K : PySem.W.Frag) : TS :=
    (tSeq (tAsg tDNewK (gName 1))
    (tSeq (tFor (iAny K (tVar 0)) (gName 2) (C8.tCut (tIfS (tTest (tOp (rInX K false) (tOp (rIx K) (tVar 2) (tC (.int 0))) (tTup (tCons (tC (.str "let")) (tCons (tC (.str "keep")) (tCons (tC (.str "fn")) tNil)))))) (sDPut (tVar 1) (tOp (rIx K) (tVar 2) (tC (.int 1))) (tC .non)) tNext)
    (tIfS (tTest (tOp (rEqX K) (tOp (rIx K) (tVar 2) (tC (.int 0))) (tC (.str "export")))) (tFor (iAny K (tOp (rIx K) (tVar 2) (tC (.int 1)))) (gUnp K 2 (gCons (gName 3) (gCons (gName 4) gNil))) (sDPut (tVar 1) (tVar 4) (tTup (tCons (tOp (rIx K) (tVar 2) (tC (.int 2))) (tCons (tVar 3) tNil))))) tNext)))
    (tRet (tVar 1))))
theorem d_l_exports (g : G K mg) {f : Addr} {cdv : Value} {A : Around} {outer : List Env} {s : Shared} {H : Hp} {E : XK} (hr : Room 0 (A.deeper (envOfC "_law_exports" (defScope s_l_exports) s.heap.objs.size f cdv))) :
    PSs (cxOf CX0 P w K mg base N_l_exports "_law_exports" (defScope s_l_exports) f cdv A outer s H E).nox (defBody s_l_exports) (t_l_exports K) := by
  unfold t_l_exports
  exact
    (pss_cons (ps_set (i := 1) sc_l_exports.nd rfl (by first | exact Or.inl rfl | exact Or.inr rfl) pe_dnewK)
    (pss_cons (ps_for PassesOwn.never rfl (pi_any (pv 0)) (pg_name (i := 2) sc_l_exports.nd rfl (by first | exact Or.inl rfl | exact Or.inr rfl)) (C8.pss_cut (ps_if (pt_cmpR o_in (pe_ix ix_seq (pv 2) pe_int (fun _ _ => rfl)) (pe_tup (pa_cons pe_str (pa_cons pe_str (pa_cons pe_str pa_nil)))) (by rfl)) (pss_one (ps_dput (u1 hr) (pv 1) (pe_ix ix_seq (pv 2) pe_int (fun _ _ => rfl)) pe_non (by rfl))) pss_nil)
    (pss_one (ps_if (pt_cmpR (o_eq hr.units) (pe_ix ix_seq (pv 2) pe_int (fun _ _ => rfl)) pe_str (nomark _)) (pss_one (ps_for PassesOwn.never rfl (pi_any (pe_ix ix_seq (pv 2) pe_int (fun _ _ => rfl))) (pg_unp rfl (pgs_cons (pg_name (i := 3) sc_l_exports.nd rfl (by first | exact Or.inl rfl | exact Or.inr rfl)) (pgs_cons (pg_name (i := 4) sc_l_exports.nd rfl (by first | exact Or.inl rfl | exact Or.inr rfl)) pgs_nil))) (pss_one (ps_dput (u1 hr) (pv 1) (pv 4) (pe_tup (pa_cons (pe_ix ix_seq (pv 2) pe_int (fun _ _ => rfl)) (pa_cons (pv 3) pa_nil))) (by rfl))))) pss_nil))))
    (pss_one (ps_ret (pv 1)))))
theorem ok_l_exports (g : G K mg) {sp : Sp} (F : ∃ fd, FunD K "_law_exports" "_law_exports" (defArgs s_l_exports) (defBody s_l_exports) (defScope s_l_exports) [] [] (He.ga K "_law_exports") fd) (m : mg "_law_exports" = some (.ref (He.ga K "_law_exports")))
    (hsp : ∀ vs H Q E, sp vs H Q E → vs.length = 1 ∧ t_l_exports K { nx := fun _ H' => Q .non H', rt := Q } (start N_l_exports vs) H) : C8.Cal P w K mg base 1 "_law_exports" sp [] := by
  obtain ⟨fd, F⟩ := F
  exact ⟨_, fd, ["_law_lines"], [], FunD.ok F sc_l_exports (fun vs H Q E h => (hsp vs H Q E h).1) (fun cdv A outer s H vs Q E hr h => ⟨_, PSs.nox (d_l_exports g hr), (hsp vs H Q E h).2⟩), m, F.kp, (F.bindsN fun _ _ _ _ _ _ us hl => match us, hl with | [_], _ => rfl), .nil⟩
abbrev N_l_follow : List Str := ["_law_modules_here", "_law_module_here", "_law_name", "_law_turn", "_law_found"]
theorem sc_l_follow : FnScope N_l_follow ["_law_modules_here", "_law_module_here", "_law_name"] (defScope s_l_follow) := ⟨rfl, rfl, rfl, by decide +kernel, rfl, by decide +kernel, by decide +kernel⟩
def t_l_follow (K : PySem.W.Frag) (sp_l_exports : Sp) : TS :=
    (tSeq (tFor (iRng1 (tCons (tC (.int 100)) tNil)) (gName 3) (tSeq (tIfS (tB (tDNotIn (tVar 1) (tVar 0))) (tRet (tC .non)) tNext)
    (tSeq (tAsg (tCall sp_l_exports [] C8.E0 (tCons (tDGet (tVar 0) (tVar 1)) tNil)) (gName 4))
    (tSeq (tIfS (tB (tDNotIn (tVar 2) (tVar 4))) (tRet (tC .non)) tNext)
    (tSeq (tIfS (tTest (tOp rIsNo (tDGet (tVar 4) (tVar 2)) (tC .non))) (tRet (tTup (tCons (tVar 1) (tCons (tVar 2) tNil)))) tNext)
    (tAsg (tDGet (tVar 4) (tVar 2)) (gUnp K 2 (gCons (gName 1) (gCons (gName 2) gNil)))))))))
    (tRet (tC .non)))
theorem d_l_follow (g : G K mg) {sp_l_exports : Sp} (c_l_exports : C8.Cal P w K mg base 1 "_law_exports" sp_l_exports []) {f : Addr} {cdv : Value} {A : Around} {outer : List Env} {s : Shared} {H : Hp} {E : XK} (hr : Room 1 (A.deeper (envOfC "_law_follow" (defScope s_l_follow) s.heap.objs.size f cdv))) :
    PSs (cxOf CX0 P w K mg base N_l_follow "_law_follow" (defScope s_l_follow) f cdv A outer s H E).nox (defBody s_l_follow) (t_l_follow K sp_l_exports) := by
  unfold t_l_follow
  exact
    (pss_cons (ps_for PassesOwn.never rfl (pi_range1 rfl g.b_range (pa_cons pe_int pa_nil)) (pg_name (i := 3) sc_l_follow.nd rfl (by first | exact Or.inl rfl | exact Or.inr rfl)) (pss_cons (ps_if (pt_cmp (pc_dnotin (u1 hr) (pv 1) (pv 0)) (by rfl)) (pss_one (ps_ret pe_non)) pss_nil)
    (pss_cons (ps_set (i := 4) sc_l_follow.nd rfl (by first | exact Or.inl rfl | exact Or.inr rfl) (C8.pe_c c_l_exports hr (by decide) rfl (pa_cons (pe_dget (u1 hr) (pv 0) (pv 1) (fun _ _ => rfl)) pa_nil)))
    (pss_cons (ps_if (pt_cmp (pc_dnotin (u1 hr) (pv 2) (pv 4)) (by rfl)) (pss_one (ps_ret pe_non)) pss_nil)
    (pss_cons (ps_if (pt_cmpR o_is (pe_dget (u1 hr) (pv 4) (pv 2) (fun _ _ => rfl)) pe_non (nomark _)) (pss_one (ps_ret (pe_tup (pa_cons (pv 1) (pa_cons (pv 2) pa_nil))))) pss_nil)
    (pss_one (ps_asg (pe_dget (u1 hr) (pv 4) (pv 2) (fun _ _ => rfl)) (pg_unp rfl (pgs_cons (pg_name (i := 1) sc_l_follow.nd rfl (by first | exact Or.inl rfl | exact Or.inr rfl)) (pgs_cons (pg_name (i := 2) sc_l_follow.nd rfl (by first | exact Or.inl rfl | exact Or.inr rfl)) pgs_nil))))))))))
    (pss_one (ps_ret pe_non)))
theorem ok_l_follow (g : G K mg) {sp_l_exports : Sp} (c_l_exports : C8.Cal P w K mg base 1 "_law_exports" sp_l_exports []) {sp : Sp} (F : ∃ fd, FunD K "_law_follow" "_law_follow" (defArgs s_l_follow) (defBody s_l_follow) (defScope s_l_follow) [] [] (He.ga K "_law_follow") fd) (m : mg "_law_follow" = some (.ref (He.ga K "_law_follow")))
    (hsp : ∀ vs H Q E, sp vs H Q E → vs.length = 3 ∧ t_l_follow K sp_l_exports { nx := fun _ H' => Q .non H', rt := Q } (start N_l_follow vs) H) : C8.Cal P w K mg base 2 "_law_follow" sp [] := by
  obtain ⟨fd, F⟩ := F
  exact ⟨_, fd, ["_law_modules_here", "_law_module_here", "_law_name"], [], FunD.ok F sc_l_follow (fun vs H Q E h => (hsp vs H Q E h).1) (fun cdv A outer s H vs Q E hr h => ⟨_, PSs.nox (d_l_follow g c_l_exports hr), (hsp vs H Q E h).2⟩), m, F.kp, (F.bindsN fun _ _ _ _ _ _ us hl => match us, hl with | [_, _, _], _ => rfl), .nil⟩
abbrev N_l_leads : List Str := ["_law_modules_here", "_law_module_here", "_law_name", "_law_line", "_law_other", "_law_called"]
theorem sc_l_leads : FnScope N_l_leads ["_law_modules_here", "_law_module_here", "_law_name"] (defScope s_l_leads) := ⟨rfl, rfl, rfl, by decide +kernel, rfl, by decide +kernel, by decide +kernel⟩
def t_l_leads (K : PySem.W.Frag) (sp_l_follow : Sp) : TS :=
    (tSeq (tIfS (tB (tDNotIn (tVar 1) (tVar 0))) (tRet (tC .non)) tNext)
    (tSeq (tFor (iAny K (tDGet (tVar 0) (tVar 1))) (gName 3) (tSeq (tIfS (tAnd (tTest (tOp (rInX K false) (tOp (rIx K) (tVar 3) (tC (.int 0))) (tTup (tCons (tC (.str "let")) (tCons (tC (.str "keep")) (tCons (tC (.str "fn")) tNil)))))) (tTest (tOp (rEqX K) (tOp (rIx K) (tVar 3) (tC (.int 1))) (tVar 2)))) (tRet (tTup (tCons (tVar 1) (tCons (tVar 2) tNil)))) tNext)
    (tIfS (tTest (tOp (rEqX K) (tOp (rIx K) (tVar 3) (tC (.int 0))) (tC (.str "import")))) (tFor (iAny K (tOp (rIx K) (tVar 3) (tC (.int 1)))) (gUnp K 2 (gCons (gName 4) (gCons (gName 5) gNil))) (tIfS (tTest (tOp (rEqX K) (tVar 5) (tVar 2))) (tRet (tCall sp_l_follow [] C8.E0 (tCons (tVar 0) (tCons (tOp (rIx K) (tVar 3) (tC (.int 2))) (tCons (tVar 4) tNil))))) tNext)) tNext)))
    (tRet (tC .non))))
theorem d_l_leads (g : G K mg) {sp_l_follow : Sp} (c_l_follow : C8.Cal P w K mg base 2 "_law_follow" sp_l_follow []) {f : Addr} {cdv : Value} {A : Around} {outer : List Env} {s : Shared} {H : Hp} {E : XK} (hr : Room 2 (A.deeper (envOfC "_law_leads" (defScope s_l_leads) s.heap.objs.size f cdv))) :
    PSs (cxOf CX0 P w K mg base N_l_leads "_law_leads" (defScope s_l_leads) f cdv A outer s H E).nox (defBody s_l_leads) (t_l_leads K sp_l_follow) := by
  unfold t_l_leads
  exact
    (pss_cons (ps_if (pt_cmp (pc_dnotin (u1 hr) (pv 1) (pv 0)) (by rfl)) (pss_one (ps_ret pe_non)) pss_nil)
    (pss_cons (ps_for PassesOwn.never rfl (pi_any (pe_dget (u1 hr) (pv 0) (pv 1) (fun _ _ => rfl))) (pg_name (i := 3) sc_l_leads.nd rfl (by first | exact Or.inl rfl | exact Or.inr rfl)) (pss_cons (ps_if (PW.pt (pw_and (pt_cmpR o_in (pe_ix ix_seq (pv 3) pe_int (fun _ _ => rfl)) (pe_tup (pa_cons pe_str (pa_cons pe_str (pa_cons pe_str pa_nil)))) (by rfl)) (pw_and1 (pt_cmpR (o_eq hr.units) (pe_ix ix_seq (pv 3) pe_int (fun _ _ => rfl)) (pv 2) (nomark _))))) (pss_one (ps_ret (pe_tup (pa_cons (pv 1) (pa_cons (pv 2) pa_nil))))) pss_nil)
    (pss_one (ps_if (pt_cmpR (o_eq hr.units) (pe_ix ix_seq (pv 3) pe_int (fun _ _ => rfl)) pe_str (nomark _)) (pss_one (ps_for PassesOwn.never rfl (pi_any (pe_ix ix_seq (pv 3) pe_int (fun _ _ => rfl))) (pg_unp rfl (pgs_cons (pg_name (i := 4) sc_l_leads.nd rfl (by first | exact Or.inl rfl | exact Or.inr rfl)) (pgs_cons (pg_name (i := 5) sc_l_leads.nd rfl (by first | exact Or.inl rfl | exact Or.inr rfl)) pgs_nil))) (pss_one (ps_if (pt_cmpR (o_eq hr.units) (pv 5) (pv 2) (nomark _)) (pss_one (ps_ret (C8.pe_c c_l_follow hr (by decide) rfl (pa_cons (pv 0) (pa_cons (pe_ix ix_seq (pv 3) pe_int (fun _ _ => rfl)) (pa_cons (pv 4) pa_nil)))))) pss_nil)))) pss_nil))))
    (pss_one (ps_ret pe_non))))
theorem ok_l_leads (g : G K mg) {sp_l_follow : Sp} (c_l_follow : C8.Cal P w K mg base 2 "_law_follow" sp_l_follow []) {sp : Sp} (F : ∃ fd, FunD K "_law_leads" "_law_leads" (defArgs s_l_leads) (defBody s_l_leads) (defScope s_l_leads) [] [] (He.ga K "_law_leads") fd) (m : mg "_law_leads" = some (.ref (He.ga K "_law_leads")))
    (hsp : ∀ vs H Q E, sp vs H Q E → vs.length = 3 ∧ t_l_leads K sp_l_follow { nx := fun _ H' => Q .non H', rt := Q } (start N_l_leads vs) H) : C8.Cal P w K mg base 3 "_law_leads" sp [] := by
  obtain ⟨fd, F⟩ := F
  exact ⟨_, fd, ["_law_modules_here", "_law_module_here", "_law_name"], [], FunD.ok F sc_l_leads (fun vs H Q E h => (hsp vs H Q E h).1) (fun cdv A outer s H vs Q E hr h => ⟨_, PSs.nox (d_l_leads g c_l_follow hr), (hsp vs H Q E h).2⟩), m, F.kp, (F.bindsN fun _ _ _ _ _ _ us hl => match us, hl with | [_, _, _], _ => rfl), .nil⟩
abbrev N_l_declared : List Str := ["_law_modules_here", "_law_binding", "_law_line"]
theorem sc_l_declared : FnScope N_l_declared ["_law_modules_here", "_law_binding"] (defScope s_l_declared) := ⟨rfl, rfl, rfl, by decide +kernel, rfl, by decide +kernel, by decide +kernel⟩
def t_l_declared (K : PySem.W.Frag) : TS :=
    (tSeq (tFor (iAny K (tDGet (tVar 0) (tOp (rIx K) (tVar 1) (tC (.int 0))))) (gName 2) (tIfS (tAnd (tTest (tOp (rInX K false) (tOp (rIx K) (tVar 2) (tC (.int 0))) (tTup (tCons (tC (.str "let")) (tCons (tC (.str "keep")) (tCons (tC (.str "fn")) tNil)))))) (tTest (tOp (rEqX K) (tOp (rIx K) (tVar 2) (tC (.int 1))) (tOp (rIx K) (tVar 1) (tC (.int 1)))))) (tRet (tVar 2)) tNext))
    (tRet (tC .non)))
theorem d_l_declared (g : G K mg) {f : Addr} {cdv : Value} {A : Around} {outer : List Env} {s : Shared} {H : Hp} {E : XK} (hr : Room 0 (A.deeper (envOfC "_law_declared" (defScope s_l_declared) s.heap.objs.size f cdv))) :
    PSs (cxOf CX0 P w K mg base N_l_declared "_law_declared" (defScope s_l_declared) f cdv A outer s H E).nox (defBody s_l_declared) (t_l_declared K) := by
  unfold t_l_declared
  exact
    (pss_cons (ps_for PassesOwn.never rfl (pi_any (pe_dget (u1 hr) (pv 0) (pe_ix ix_seq (pv 1) pe_int (fun _ _ => rfl)) (fun _ _ => rfl))) (pg_name (i := 2) sc_l_declared.nd rfl (by first | exact Or.inl rfl | exact Or.inr rfl)) (pss_one (ps_if (PW.pt (pw_and (pt_cmpR o_in (pe_ix ix_seq (pv 2) pe_int (fun _ _ => rfl)) (pe_tup (pa_cons pe_str (pa_cons pe_str (pa_cons pe_str pa_nil)))) (by rfl)) (pw_and1 (pt_cmpR (o_eq hr.units) (pe_ix ix_seq (pv 2) pe_int (fun _ _ => rfl)) (pe_ix ix_seq (pv 1) pe_int (fun _ _ => rfl)) (nomark _))))) (pss_one (ps_ret (pv 2))) pss_nil)))
    (pss_one (ps_ret pe_non)))
theorem ok_l_declared (g : G K mg) {sp : Sp} (F : ∃ fd, FunD K "_law_declared" "_law_declared" (defArgs s_l_declared) (defBody s_l_declared) (defScope s_l_declared) [] [] (He.ga K "_law_declared") fd) (m : mg "_law_declared" = some (.ref (He.ga K "_law_declared")))
    (hsp : ∀ vs H Q E, sp vs H Q E → vs.length = 2 ∧ t_l_declared K { nx := fun _ H' => Q .non H', rt := Q } (start N_l_declared vs) H) : C8.Cal P w K mg base 1 "_law_declared" sp [] := by
  obtain ⟨fd, F⟩ := F
  exact ⟨_, fd, ["_law_modules_here", "_law_binding"], [], FunD.ok F sc_l_declared (fun vs H Q E h => (hsp vs H Q E h).1) (fun cdv A outer s H vs Q E hr h => ⟨_, PSs.nox (d_l_declared g hr), (hsp vs H Q E h).2⟩), m, F.kp, (F.bindsN fun _ _ _ _ _ _ us hl => match us, hl with | [_, _], _ => rfl), .nil⟩
abbrev N_l_visit : List Str := ["_law_modules_here", "_law_name", "_law_seen", "_law_order_here", "_law_line", "_law_missing"]
theorem sc_l_visit : FnScope N_l_visit ["_law_modules_here", "_law_name", "_law_seen", "_law_order_here"] (defScope s_l_visit) := ⟨rfl, rfl, rfl, by decide +kernel, rfl, by decide +kernel, by decide +kernel⟩
def t_l_visit (K : PySem.W.Frag) (sp_l_visit : Sp) : TS :=
    (tSeq (tIfS (tTest (tOp (rInX K false) (tVar 1) (tVar 2))) (tRet (tC .non)) tNext)
    (tSeq (tDrop (tBM K "list" rAppend (tVar 2) (tCons (tVar 1) tNil)))
    (tSeq (tIfS (tB (tDNotIn (tVar 1) (tVar 0))) (tRet (tVar 1)) tNext)
    (tSeq (tFor (iAny K (tDGet (tVar 0) (tVar 1))) (gName 4) (tIfS (tTest (tOp (rInX K false) (tOp (rIx K) (tVar 4) (tC (.int 0))) (tTup (tCons (tC (.str "import")) (tCons (tC (.str "export")) tNil))))) (tSeq (tAsg (tCall sp_l_visit [] C8.E0 (tCons (tVar 0) (tCons (tOp (rIx K) (tVar 4) (tC (.int 2))) (tCons (tVar 2) (tCons (tVar 3) tNil))))) (gName 5))
    (tIfS (tTest (tOp rNotNo (tVar 5) (tC .non))) (tRet (tVar 5)) tNext)) tNext))
    (tSeq (tDrop (tBM K "list" rAppend (tVar 3) (tCons (tVar 1) tNil)))
    (tRet (tC .non)))))))
theorem d_l_visit (g : G K mg) {n : Nat} (hn : 0 ≤ n) {sp_l_visit : Sp} (c_l_visit : C8.Cal P w K mg base n "_law_visit" sp_l_visit []) {f : Addr} {cdv : Value} {A : Around} {outer : List Env} {s : Shared} {H : Hp} {E : XK} (hr : Room n (A.deeper (envOfC "_law_visit" (defScope s_l_visit) s.heap.objs.size f cdv))) :
    PSs (cxOf CX0 P w K mg base N_l_visit "_law_visit" (defScope s_l_visit) f cdv A outer s H E).nox (defBody s_l_visit) (t_l_visit K sp_l_visit) := by
  unfold t_l_visit
  exact
    (pss_cons (ps_if (pt_cmpR o_in (pv 1) (pv 2) (by rfl)) (pss_one (ps_ret pe_non)) pss_nil)
    (pss_cons (ps_expr (pe_bm PySem.F.plainAttrs_list PySem.F.slot_list_append PySem.F.type_list_append mt_append (pv 2) (pa_cons (pv 1) pa_nil)))
    (pss_cons (ps_if (pt_cmp (pc_dnotin (u1 hr) (pv 1) (pv 0)) (by rfl)) (pss_one (ps_ret (pv 1))) pss_nil)
    (pss_cons (ps_for PassesOwn.never rfl (pi_any (pe_dget (u1 hr) (pv 0) (pv 1) (fun _ _ => rfl))) (pg_name (i := 4) sc_l_visit.nd rfl (by first | exact Or.inl rfl | exact Or.inr rfl)) (pss_one (ps_if (pt_cmpR o_in (pe_ix ix_seq (pv 4) pe_int (fun _ _ => rfl)) (pe_tup (pa_cons pe_str (pa_cons pe_str pa_nil))) (by rfl)) (pss_cons (ps_set (i := 5) sc_l_visit.nd rfl (by first | exact Or.inl rfl | exact Or.inr rfl) (C8.pe_c c_l_visit hr (by omega) rfl (pa_cons (pv 0) (pa_cons (pe_ix ix_seq (pv 4) pe_int (fun _ _ => rfl)) (pa_cons (pv 2) (pa_cons (pv 3) pa_nil))))))
    (pss_one (ps_if (pt_cmpR o_isnot (pv 5) pe_non (nomark _)) (pss_one (ps_ret (pv 5))) pss_nil))) pss_nil)))
    (pss_cons (ps_expr (pe_bm PySem.F.plainAttrs_list PySem.F.slot_list_append PySem.F.type_list_append mt_append (pv 3) (pa_cons (pv 1) pa_nil)))
    (pss_one (ps_ret pe_non)))))))
theorem zz_l_visit (g : G K mg) (k : Nat) (F : ∃ fd, FunD K "_law_visit" "_law_visit" (defArgs s_l_visit) (defBody s_l_visit) (defScope s_l_visit) [] [] (He.ga K "_law_visit") fd) (m : mg "_law_visit" = some (.ref (He.ga K "_law_visit"))) : C8.Cal P w K mg base k "_law_visit" (fun _ _ _ _ => False) [] := by
  obtain ⟨fd, F⟩ := F
  exact ⟨_, fd, ["_law_modules_here", "_law_name", "_law_seen", "_law_order_here"], [], ⟨fun _ _ _ _ h => h.elim, fun _ _ _ _ _ _ _ _ _ _ _ _ _ h => h.elim⟩, m, F.kp, (F.bindsN fun _ _ _ _ _ _ us hl => match us, hl with | [_, _, _, _], _ => rfl), .nil⟩
theorem ok_l_visit (g : G K mg) {n : Nat} (hn : 0 ≤ n) {sp_l_visit : Sp} (c_l_visit : C8.Cal P w K mg base n "_law_visit" sp_l_visit []) {sp : Sp} (F : ∃ fd, FunD K "_law_visit" "_law_visit" (defArgs s_l_visit) (defBody s_l_visit) (defScope s_l_visit) [] [] (He.ga K "_law_visit") fd) (m : mg "_law_visit" = some (.ref (He.ga K "_law_visit")))
    (hsp : ∀ vs H Q E, sp vs H Q E → vs.length = 4 ∧ t_l_visit K sp_l_visit { nx := fun _ H' => Q .non H', rt := Q } (start N_l_visit vs) H) : C8.Cal P w K mg base (n + 1) "_law_visit" sp [] := by
  obtain ⟨fd, F⟩ := F
  exact ⟨_, fd, ["_law_modules_here", "_law_name", "_law_seen", "_law_order_here"], [], FunD.ok F sc_l_visit (fun vs H Q E h => (hsp vs H Q E h).1) (fun cdv A outer s H vs Q E hr h => ⟨_, PSs.nox (d_l_visit g hn c_l_visit hr), (hsp vs H Q E h).2⟩), m, F.kp, (F.bindsN fun _ _ _ _ _ _ us hl => match us, hl with | [_, _, _, _], _ => rfl), .nil⟩
abbrev N_l_order : List Str := ["_law_modules_here", "_law_entries", "_law_order_here", "_law_seen", "_law_name", "_law_missing"]
theorem sc_l_order : FnScope N_l_order ["_law_modules_here", "_law_entries"] (defScope s_l_order) := ⟨rfl, rfl, rfl, by decide +kernel, rfl, by decide +kernel, by decide +kernel⟩
def t_l_order (K : PySem.W.Frag) (sp_l_visit : Sp) : TS :=
    (tSeq (tAsg (tLst tNil) (gName 2))
    (tSeq (tAsg (tLst tNil) (gName 3))
    (tSeq (tFor (iAny K (tVar 1)) (gName 4) (tSeq (tAsg (tCall sp_l_visit [] C8.E0 (tCons (tVar 0) (tCons (tVar 4) (tCons (tVar 3) (tCons (tVar 2) tNil))))) (gName 5))
    (tIfS (tTest (tOp rNotNo (tVar 5) (tC .non))) (tRet (tTup (tCons (tC (.str "module")) (tCons (tVar 5) tNil)))) tNext)))
    (tRet (tTup (tCons (tC (.str "order")) (tCons (tCB (rTupOf K) (tCons (tVar 2) tNil)) tNil)))))))
theorem d_l_order (g : G K mg) {sp_l_visit : Sp} (c_l_visit : C8.Cal P w K mg base 9 "_law_visit" sp_l_visit []) {f : Addr} {cdv : Value} {A : Around} {outer : List Env} {s : Shared} {H : Hp} {E : XK} (hr : Room 9 (A.deeper (envOfC "_law_order" (defScope s_l_order) s.heap.objs.size f cdv))) :
    PSs (cxOf CX0 P w K mg base N_l_order "_law_order" (defScope s_l_order) f cdv A outer s H E).nox (defBody s_l_order) (t_l_order K sp_l_visit) := by
  unfold t_l_order
  exact
    (pss_cons (ps_set (i := 2) sc_l_order.nd rfl (by first | exact Or.inl rfl | exact Or.inr rfl) (pe_lst pa_nil))
    (pss_cons (ps_set (i := 3) sc_l_order.nd rfl (by first | exact Or.inl rfl | exact Or.inr rfl) (pe_lst pa_nil))
    (pss_cons (ps_for PassesOwn.never rfl (pi_any (pv 1)) (pg_name (i := 4) sc_l_order.nd rfl (by first | exact Or.inl rfl | exact Or.inr rfl)) (pss_cons (ps_set (i := 5) sc_l_order.nd rfl (by first | exact Or.inl rfl | exact Or.inr rfl) (C8.pe_c c_l_visit hr (by decide) rfl (pa_cons (pv 0) (pa_cons (pv 4) (pa_cons (pv 3) (pa_cons (pv 2) pa_nil))))))
    (pss_one (ps_if (pt_cmpR o_isnot (pv 5) pe_non (nomark _)) (pss_one (ps_ret (pe_tup (pa_cons pe_str (pa_cons (pv 5) pa_nil))))) pss_nil))))
    (pss_one (ps_ret (pe_tup (pa_cons pe_str (pa_cons (pe_callTy c_tuple (by rfl) g.b_tuple (by decide +kernel) (pa_cons (pv 2) pa_nil)) pa_nil))))))))
theorem ok_l_order (g : G K mg) {sp_l_visit : Sp} (c_l_visit : C8.Cal P w K mg base 9 "_law_visit" sp_l_visit []) {sp : Sp} (F : ∃ fd, FunD K "_law_order" "_law_order" (defArgs s_l_order) (defBody s_l_order) (defScope s_l_order) [] [] (He.ga K "_law_order") fd) (m : mg "_law_order" = some (.ref (He.ga K "_law_order")))
    (hsp : ∀ vs H Q E, sp vs H Q E → vs.length = 2 ∧ t_l_order K sp_l_visit { nx := fun _ H' => Q .non H', rt := Q } (start N_l_order vs) H) : C8.Cal P w K mg base 10 "_law_order" sp [] := by
  obtain ⟨fd, F⟩ := F
  exact ⟨_, fd, ["_law_modules_here", "_law_entries"], [], FunD.ok F sc_l_order (fun vs H Q E h => (hsp vs H Q E h).1) (fun cdv A outer s H vs Q E hr h => ⟨_, PSs.nox (d_l_order g c_l_visit hr), (hsp vs H Q E h).2⟩), m, F.kp, (F.bindsN fun _ _ _ _ _ _ us hl => match us, hl with | [_, _], _ => rfl), .nil⟩
abbrev N_l_tree_fault : List Str := ["_law_modules_here", "_law_module_here", "_law_tree_here", "_law_inner", "_law_word", "_law_fault", "_law_parts", "_law_part"]
theorem sc_l_tree_fault : FnScope N_l_tree_fault ["_law_modules_here", "_law_module_here", "_law_tree_here", "_law_inner"] (defScope s_l_tree_fault) := ⟨rfl, rfl, rfl, by decide +kernel, rfl, by decide +kernel, by decide +kernel⟩
def t_l_tree_fault (K : PySem.W.Frag) (sp_l_tree_fault : Sp) (sp_l_use_fault : Sp) : TS :=
    (tSeq (tAsg (tOp (rIx K) (tVar 2) (tC (.int 0))) (gName 4))
    (tSeq (tIfS (tTest (tOp (rInX K false) (tVar 4) (tTup (tCons (tC (.str "number")) (tCons (tC (.str "string")) tNil))))) (tRet (tC .non)) tNext)
    (C8.tCut (tIfS (tTest (tOp (rInX K false) (tVar 4) (tTup (tCons (tC (.str "name")) (tCons (tC (.str "set")) (tCons (tC (.str "call")) tNil)))))) (tSeq (tAsg (tCall sp_l_use_fault [] C8.E0 (tCons (tVar 0) (tCons (tVar 1) (tCons (tVar 2) (tCons (tVar 3) tNil))))) (gName 5))
    (tIfS (tOr (tTest (tOp rNotNo (tVar 5) (tC .non))) (tTest (tOp (rEqX K) (tVar 4) (tC (.str "name"))))) (tRet (tVar 5)) tNext)) tNext)
    (tSeq (tAsg (tCB (rListOf K) (tCons (tSl (rSlX K) (tVar 2) (tPart (tC (.int 1))) tNoPart) tNil)) (gName 6))
    (C8.tCut (tIfS (tTest (tOp (rEqX K) (tVar 4) (tC (.str "set")))) (tAsg (tLst (tCons (tOp (rIx K) (tVar 2) (tC (.int 2))) tNil)) (gName 6)) tNext)
    (C8.tCut (tIfS (tTest (tOp (rEqX K) (tVar 4) (tC (.str "call")))) (tAsg (tCB (rListOf K) (tCons (tOp (rIx K) (tVar 2) (tC (.int 2))) tNil)) (gName 6)) tNext)
    (tSeq (tFor (iAny K (tVar 6)) (gName 7) (tSeq (tAsg (tCall sp_l_tree_fault [] C8.E0 (tCons (tVar 0) (tCons (tVar 1) (tCons (tVar 7) (tCons (tVar 3) tNil))))) (gName 5))
    (tIfS (tTest (tOp rNotNo (tVar 5) (tC .non))) (tRet (tVar 5)) tNext)))
    (tRet (tC .non)))))))))
theorem d_l_tree_fault (g : G K mg) {n : Nat} (hn : 4 ≤ n) {sp_l_tree_fault : Sp} (c_l_tree_fault : C8.Cal P w K mg base n "_law_tree_fault" sp_l_tree_fault []) {sp_l_use_fault : Sp} (c_l_use_fault : C8.Cal P w K mg base 4 "_law_use_fault" sp_l_use_fault []) {f : Addr} {cdv : Value} {A : Around} {outer : List Env} {s : Shared} {H : Hp} {E : XK} (hr : Room n (A.deeper (envOfC "_law_tree_fault" (defScope s_l_tree_fault) s.heap.objs.size f cdv))) :
    PSs (cxOf CX0 P w K mg base N_l_tree_fault "_law_tree_fault" (defScope s_l_tree_fault) f cdv A outer s H E).nox (defBody s_l_tree_fault) (t_l_tree_fault K sp_l_tree_fault sp_l_use_fault) := by
  unfold t_l_tree_fault
  exact
    (pss_cons (ps_set (i := 4) sc_l_tree_fault.nd rfl (by first | exact Or.inl rfl | exact Or.inr rfl) (pe_ix ix_seq (pv 2) pe_int (fun _ _ => rfl)))
    (pss_cons (ps_if (pt_cmpR o_in (pv 4) (pe_tup (pa_cons pe_str (pa_cons pe_str pa_nil))) (by rfl)) (pss_one (ps_ret pe_non)) pss_nil)
    (C8.pss_cut (ps_if (pt_cmpR o_in (pv 4) (pe_tup (pa_cons pe_str (pa_cons pe_str (pa_cons pe_str pa_nil)))) (by rfl)) (pss_cons (ps_set (i := 5) sc_l_tree_fault.nd rfl (by first | exact Or.inl rfl | exact Or.inr rfl) (C8.pe_c c_l_use_fault hr (by omega) rfl (pa_cons (pv 0) (pa_cons (pv 1) (pa_cons (pv 2) (pa_cons (pv 3) pa_nil))))))
    (pss_one (ps_if (PW.pt (pw_or (pt_cmpR o_isnot (pv 5) pe_non (nomark _)) (pw_or1 (pt_cmpR (o_eq hr.units) (pv 4) pe_str (nomark _))))) (pss_one (ps_ret (pv 5))) pss_nil))) pss_nil)
    (pss_cons (ps_set (i := 6) sc_l_tree_fault.nd rfl (by first | exact Or.inl rfl | exact Or.inr rfl) (pe_callTy c_list (by rfl) g.b_list (by decide +kernel) (pa_cons (pe_slice sl_any (pv 2) (po_some pe_int) po_none) pa_nil)))
    (C8.pss_cut (ps_if (pt_cmpR (o_eq hr.units) (pv 4) pe_str (nomark _)) (pss_one (ps_set (i := 6) sc_l_tree_fault.nd rfl (by first | exact Or.inl rfl | exact Or.inr rfl) (pe_lst (pa_cons (pe_ix ix_seq (pv 2) pe_int (fun _ _ => rfl)) pa_nil)))) pss_nil)
    (C8.pss_cut (ps_if (pt_cmpR (o_eq hr.units) (pv 4) pe_str (nomark _)) (pss_one (ps_set (i := 6) sc_l_tree_fault.nd rfl (by first | exact Or.inl rfl | exact Or.inr rfl) (pe_callTy c_list (by rfl) g.b_list (by decide +kernel) (pa_cons (pe_ix ix_seq (pv 2) pe_int (fun _ _ => rfl)) pa_nil)))) pss_nil)
    (pss_cons (ps_for PassesOwn.never rfl (pi_any (pv 6)) (pg_name (i := 7) sc_l_tree_fault.nd rfl (by first | exact Or.inl rfl | exact Or.inr rfl)) (pss_cons (ps_set (i := 5) sc_l_tree_fault.nd rfl (by first | exact Or.inl rfl | exact Or.inr rfl) (C8.pe_c c_l_tree_fault hr (by omega) rfl (pa_cons (pv 0) (pa_cons (pv 1) (pa_cons (pv 7) (pa_cons (pv 3) pa_nil))))))
    (pss_one (ps_if (pt_cmpR o_isnot (pv 5) pe_non (nomark _)) (pss_one (ps_ret (pv 5))) pss_nil))))
    (pss_one (ps_ret pe_non)))))))))
theorem zz_l_tree_fault (g : G K mg) (k : Nat) (F : ∃ fd, FunD K "_law_tree_fault" "_law_tree_fault" (defArgs s_l_tree_fault) (defBody s_l_tree_fault) (defScope s_l_tree_fault) [] [] (He.ga K "_law_tree_fault") fd) (m : mg "_law_tree_fault" = some (.ref (He.ga K "_law_tree_fault"))) : C8.Cal P w K mg base k "_law_tree_fault" (fun _ _ _ _ => False) [] := by
  obtain ⟨fd, F⟩ := F
  exact ⟨_, fd, ["_law_modules_here", "_law_module_here", "_law_tree_here", "_law_inner"], [], ⟨fun _ _ _ _ h => h.elim, fun _ _ _ _ _ _ _ _ _ _ _ _ _ h => h.elim⟩, m, F.kp, (F.bindsN fun _ _ _ _ _ _ us hl => match us, hl with | [_, _, _, _], _ => rfl), .nil⟩
theorem ok_l_tree_fault (g : G K mg) {n : Nat} (hn : 4 ≤ n) {sp_l_tree_fault : Sp} (c_l_tree_fault : C8.Cal P w K mg base n "_law_tree_fault" sp_l_tree_fault []) {sp_l_use_fault : Sp} (c_l_use_fault : C8.Cal P w K mg base 4 "_law_use_fault" sp_l_use_fault []) {sp : Sp} (F : ∃ fd, FunD K "_law_tree_fault" "_law_tree_fault" (defArgs s_l_tree_fault) (defBody s_l_tree_fault) (defScope s_l_tree_fault) [] [] (He.ga K "_law_tree_fault") fd) (m : mg "_law_tree_fault" = some (.ref (He.ga K "_law_tree_fault")))
    (hsp : ∀ vs H Q E, sp vs H Q E → vs.length = 4 ∧ t_l_tree_fault K sp_l_tree_fault sp_l_use_fault { nx := fun _ H' => Q .non H', rt := Q } (start N_l_tree_fault vs) H) : C8.Cal P w K mg base (n + 1) "_law_tree_fault" sp [] := by
  obtain ⟨fd, F⟩ := F
  exact ⟨_, fd, ["_law_modules_here", "_law_module_here", "_law_tree_here", "_law_inner"], [], FunD.ok F sc_l_tree_fault (fun vs H Q E h => (hsp vs H Q E h).1) (fun cdv A outer s H vs Q E hr h => ⟨_, PSs.nox (d_l_tree_fault g hn c_l_tree_fault c_l_use_fault hr), (hsp vs H Q E h).2⟩), m, F.kp, (F.bindsN fun _ _ _ _ _ _ us hl => match us, hl with | [_, _, _, _], _ => rfl), .nil⟩
abbrev N_l_use_fault : List Str := ["_law_modules_here", "_law_module_here", "_law_tree_here", "_law_inner", "_law_word", "_law_name", "_law_binding", "_law_line"]
theorem sc_l_use_fault : FnScope N_l_use_fault ["_law_modules_here", "_law_module_here", "_law_tree_here", "_law_inner"] (defScope s_l_use_fault) := ⟨rfl, rfl, rfl, by decide +kernel, rfl, by decide +kernel, by decide +kernel⟩
def t_l_use_fault (K : PySem.W.Frag) (sp_l_declared : Sp) (sp_l_leads : Sp) : TS :=
    (tSeq (tAsg (tOp (rIx K) (tVar 2) (tC (.int 0))) (gName 4))
    (tSeq (tAsg (tOp (rIx K) (tVar 2) (tC (.int 1))) (gName 5))
    (tSeq (tIfS (tTest (tOp (rInX K false) (tVar 5) (tVar 3))) (tRet (tOp (rIx K) (tLst (tCons (tC .non) (tCons (tTup (tCons (tC (.str "variable")) (tCons (tVar 1) (tCons (tVar 5) tNil)))) (tCons (tTup (tCons (tC (.str "function")) (tCons (tVar 1) (tCons (tVar 5) tNil)))) tNil)))) (tBM K "list" (rIndexD K) (tTup (tCons (tC (.str "name")) (tCons (tC (.str "set")) (tCons (tC (.str "call")) tNil)))) (tCons (tVar 4) tNil)))) tNext)
    (tSeq (tAsg (tCall sp_l_leads [] C8.E0 (tCons (tVar 0) (tCons (tVar 1) (tCons (tVar 5) tNil)))) (gName 6))
    (tSeq (tIfS (tTest (tOp rIsNo (tVar 6) (tC .non))) (tRet (tTup (tCons (tC (.str "name")) (tCons (tVar 1) (tCons (tVar 5) tNil))))) tNext)
    (tSeq (tAsg (tCall sp_l_declared [] C8.E0 (tCons (tVar 0) (tCons (tVar 6) tNil))) (gName 7))
    (tSeq (tIfS (tTest (tOp (rEqX K) (tVar 4) (tC (.str "call")))) (tSeq (tIfS (tTest (tOp (rNeX K) (tOp (rIx K) (tVar 7) (tC (.int 0))) (tC (.str "fn")))) (tRet (tTup (tCons (tC (.str "function")) (tCons (tVar 1) (tCons (tVar 5) tNil))))) tNext)
    (tSeq (tIfS (tTest (tOp (rNeX K) (tCB (rLenX K) (tCons (tOp (rIx K) (tVar 7) (tC (.int 2))) tNil)) (tCB (rLenX K) (tCons (tOp (rIx K) (tVar 2) (tC (.int 2))) tNil)))) (tRet (tTup (tCons (tC (.str "count")) (tCons (tVar 1) (tCons (tVar 5) tNil))))) tNext)
    (tRet (tC .non)))) tNext)
    (tSeq (tIfS (tTest (tOp (rEqX K) (tOp (rIx K) (tVar 7) (tC (.int 0))) (tC (.str "fn")))) (tRet (tTup (tCons (tC (.str "variable")) (tCons (tVar 1) (tCons (tVar 5) tNil))))) tNext)
    (tRet (tC .non))))))))))
theorem d_l_use_fault (g : G K mg) {sp_l_declared : Sp} (c_l_declared : C8.Cal P w K mg base 1 "_law_declared" sp_l_declared []) {sp_l_leads : Sp} (c_l_leads : C8.Cal P w K mg base 3 "_law_leads" sp_l_leads []) {f : Addr} {cdv : Value} {A : Around} {outer : List Env} {s : Shared} {H : Hp} {E : XK} (hr : Room 3 (A.deeper (envOfC "_law_use_fault" (defScope s_l_use_fault) s.heap.objs.size f cdv))) :
    PSs (cxOf CX0 P w K mg base N_l_use_fault "_law_use_fault" (defScope s_l_use_fault) f cdv A outer s H E).nox (defBody s_l_use_fault) (t_l_use_fault K sp_l_declared sp_l_leads) := by
  unfold t_l_use_fault
  exact
    (pss_cons (ps_set (i := 4) sc_l_use_fault.nd rfl (by first | exact Or.inl rfl | exact Or.inr rfl) (pe_ix ix_seq (pv 2) pe_int (fun _ _ => rfl)))
    (pss_cons (ps_set (i := 5) sc_l_use_fault.nd rfl (by first | exact Or.inl rfl | exact Or.inr rfl) (pe_ix ix_seq (pv 2) pe_int (fun _ _ => rfl)))
    (pss_cons (ps_if (pt_cmpR o_in (pv 5) (pv 3) (by rfl)) (pss_one (ps_ret (pe_ix ix_seq (pe_lst (pa_cons pe_non (pa_cons (pe_tup (pa_cons pe_str (pa_cons (pv 1) (pa_cons (pv 5) pa_nil)))) (pa_cons (pe_tup (pa_cons pe_str (pa_cons (pv 1) (pa_cons (pv 5) pa_nil)))) pa_nil)))) (pe_bm PySem.F.plainAttrs_list PySem.F.slot_list_index PySem.F.type_list_index (mt_indexD (u65 hr)) (pe_tup (pa_cons pe_str (pa_cons pe_str (pa_cons pe_str pa_nil)))) (pa_cons (pv 4) pa_nil)) (fun _ _ => rfl)))) pss_nil)
    (pss_cons (ps_set (i := 6) sc_l_use_fault.nd rfl (by first | exact Or.inl rfl | exact Or.inr rfl) (C8.pe_c c_l_leads hr (by decide) rfl (pa_cons (pv 0) (pa_cons (pv 1) (pa_cons (pv 5) pa_nil)))))
    (pss_cons (ps_if (pt_cmpR o_is (pv 6) pe_non (nomark _)) (pss_one (ps_ret (pe_tup (pa_cons pe_str (pa_cons (pv 1) (pa_cons (pv 5) pa_nil)))))) pss_nil)
    (pss_cons (ps_set (i := 7) sc_l_use_fault.nd rfl (by first | exact Or.inl rfl | exact Or.inr rfl) (C8.pe_c c_l_declared hr (by decide) rfl (pa_cons (pv 0) (pa_cons (pv 6) pa_nil))))
    (pss_cons (ps_if (pt_cmpR (o_eq hr.units) (pv 4) pe_str (nomark _)) (pss_cons (ps_if (pt_cmpR (o_ne hr.units) (pe_ix ix_seq (pv 7) pe_int (fun _ _ => rfl)) pe_str (nomark _)) (pss_one (ps_ret (pe_tup (pa_cons pe_str (pa_cons (pv 1) (pa_cons (pv 5) pa_nil)))))) pss_nil)
    (pss_cons (ps_if (pt_cmpR (o_ne hr.units) (pe_callB c_len (by rfl) g.b_len (by decide +kernel) (pa_cons (pe_ix ix_seq (pv 7) pe_int (fun _ _ => rfl)) pa_nil)) (pe_callB c_len (by rfl) g.b_len (by decide +kernel) (pa_cons (pe_ix ix_seq (pv 2) pe_int (fun _ _ => rfl)) pa_nil)) (nomark _)) (pss_one (ps_ret (pe_tup (pa_cons pe_str (pa_cons (pv 1) (pa_cons (pv 5) pa_nil)))))) pss_nil)
    (pss_one (ps_ret pe_non)))) pss_nil)
    (pss_cons (ps_if (pt_cmpR (o_eq hr.units) (pe_ix ix_seq (pv 7) pe_int (fun _ _ => rfl)) pe_str (nomark _)) (pss_one (ps_ret (pe_tup (pa_cons pe_str (pa_cons (pv 1) (pa_cons (pv 5) pa_nil)))))) pss_nil)
    (pss_one (ps_ret pe_non))))))))))
theorem ok_l_use_fault (g : G K mg) {sp_l_declared : Sp} (c_l_declared : C8.Cal P w K mg base 1 "_law_declared" sp_l_declared []) {sp_l_leads : Sp} (c_l_leads : C8.Cal P w K mg base 3 "_law_leads" sp_l_leads []) {sp : Sp} (F : ∃ fd, FunD K "_law_use_fault" "_law_use_fault" (defArgs s_l_use_fault) (defBody s_l_use_fault) (defScope s_l_use_fault) [] [] (He.ga K "_law_use_fault") fd) (m : mg "_law_use_fault" = some (.ref (He.ga K "_law_use_fault")))
    (hsp : ∀ vs H Q E, sp vs H Q E → vs.length = 4 ∧ t_l_use_fault K sp_l_declared sp_l_leads { nx := fun _ H' => Q .non H', rt := Q } (start N_l_use_fault vs) H) : C8.Cal P w K mg base 4 "_law_use_fault" sp [] := by
  obtain ⟨fd, F⟩ := F
  exact ⟨_, fd, ["_law_modules_here", "_law_module_here", "_law_tree_here", "_law_inner"], [], FunD.ok F sc_l_use_fault (fun vs H Q E h => (hsp vs H Q E h).1) (fun cdv A outer s H vs Q E hr h => ⟨_, PSs.nox (d_l_use_fault g c_l_declared c_l_leads hr), (hsp vs H Q E h).2⟩), m, F.kp, (F.bindsN fun _ _ _ _ _ _ us hl => match us, hl with | [_, _, _, _], _ => rfl), .nil⟩
abbrev N_l_line_fault : List Str := ["_law_modules_here", "_law_module_here", "_law_line", "_law_name", "_law_called", "_law_inner"]
theorem sc_l_line_fault : FnScope N_l_line_fault ["_law_modules_here", "_law_module_here", "_law_line"] (defScope s_l_line_fault) := ⟨rfl, rfl, rfl, by decide +kernel, rfl, by decide +kernel, by decide +kernel⟩
def t_l_line_fault (K : PySem.W.Frag) (sp_l_tree_fault : Sp) (sp_l_follow : Sp) : TS :=
    (tSeq (tIfS (tTest (tOp (rInX K false) (tOp (rIx K) (tVar 2) (tC (.int 0))) (tTup (tCons (tC (.str "import")) (tCons (tC (.str "export")) tNil))))) (tSeq (tFor (iAny K (tOp (rIx K) (tVar 2) (tC (.int 1)))) (gUnp K 2 (gCons (gName 3) (gCons (gName 4) gNil))) (tIfS (tTest (tOp rIsNo (tCall sp_l_follow [] C8.E0 (tCons (tVar 0) (tCons (tOp (rIx K) (tVar 2) (tC (.int 2))) (tCons (tVar 3) tNil)))) (tC .non))) (tRet (tTup (tCons (tC (.str "name")) (tCons (tOp (rIx K) (tVar 2) (tC (.int 2))) (tCons (tVar 3) tNil))))) tNext))
    (tRet (tC .non))) tNext)
    (tSeq (tAsg (tTup tNil) (gName 5))
    (C8.tCut (tIfS (tTest (tOp (rEqX K) (tOp (rIx K) (tVar 2) (tC (.int 0))) (tC (.str "fn")))) (tAsg (tOp (rIx K) (tVar 2) (tC (.int 2))) (gName 5)) tNext)
    (tRet (tCall sp_l_tree_fault [] C8.E0 (tCons (tVar 0) (tCons (tVar 1) (tCons (tOp (rIx K) (tVar 2) (tUn (rU fun i => .int (-i)) (tC (.int 1)))) (tCons (tVar 5) tNil)))))))))
theorem d_l_line_fault (g : G K mg) {sp_l_tree_fault : Sp} (c_l_tree_fault : C8.Cal P w K mg base 45 "_law_tree_fault" sp_l_tree_fault []) {sp_l_follow : Sp} (c_l_follow : C8.Cal P w K mg base 2 "_law_follow" sp_l_follow []) {f : Addr} {cdv : Value} {A : Around} {outer : List Env} {s : Shared} {H : Hp} {E : XK} (hr : Room 45 (A.deeper (envOfC "_law_line_fault" (defScope s_l_line_fault) s.heap.objs.size f cdv))) :
    PSs (cxOf CX0 P w K mg base N_l_line_fault "_law_line_fault" (defScope s_l_line_fault) f cdv A outer s H E).nox (defBody s_l_line_fault) (t_l_line_fault K sp_l_tree_fault sp_l_follow) := by
  unfold t_l_line_fault
  exact
    (pss_cons (ps_if (pt_cmpR o_in (pe_ix ix_seq (pv 2) pe_int (fun _ _ => rfl)) (pe_tup (pa_cons pe_str (pa_cons pe_str pa_nil))) (by rfl)) (pss_cons (ps_for PassesOwn.never rfl (pi_any (pe_ix ix_seq (pv 2) pe_int (fun _ _ => rfl))) (pg_unp rfl (pgs_cons (pg_name (i := 3) sc_l_line_fault.nd rfl (by first | exact Or.inl rfl | exact Or.inr rfl)) (pgs_cons (pg_name (i := 4) sc_l_line_fault.nd rfl (by first | exact Or.inl rfl | exact Or.inr rfl)) pgs_nil))) (pss_one (ps_if (pt_cmpR o_is (C8.pe_c c_l_follow hr (by decide) rfl (pa_cons (pv 0) (pa_cons (pe_ix ix_seq (pv 2) pe_int (fun _ _ => rfl)) (pa_cons (pv 3) pa_nil)))) pe_non (nomark _)) (pss_one (ps_ret (pe_tup (pa_cons pe_str (pa_cons (pe_ix ix_seq (pv 2) pe_int (fun _ _ => rfl)) (pa_cons (pv 3) pa_nil)))))) pss_nil)))
    (pss_one (ps_ret pe_non))) pss_nil)
    (pss_cons (ps_set (i := 5) sc_l_line_fault.nd rfl (by first | exact Or.inl rfl | exact Or.inr rfl) (pe_tup pa_nil))
    (C8.pss_cut (ps_if (pt_cmpR (o_eq hr.units) (pe_ix ix_seq (pv 2) pe_int (fun _ _ => rfl)) pe_str (nomark _)) (pss_one (ps_set (i := 5) sc_l_line_fault.nd rfl (by first | exact Or.inl rfl | exact Or.inr rfl) (pe_ix ix_seq (pv 2) pe_int (fun _ _ => rfl)))) pss_nil)
    (pss_one (ps_ret (C8.pe_c c_l_tree_fault hr (by decide) rfl (pa_cons (pv 0) (pa_cons (pv 1) (pa_cons (pe_ix ix_seq (pv 2) (pe_un un_neg pe_int) (fun _ _ => rfl)) (pa_cons (pv 5) pa_nil))))))))))
theorem ok_l_line_fault (g : G K mg) {sp_l_tree_fault : Sp} (c_l_tree_fault : C8.Cal P w K mg base 45 "_law_tree_fault" sp_l_tree_fault []) {sp_l_follow : Sp} (c_l_follow : C8.Cal P w K mg base 2 "_law_follow" sp_l_follow []) {sp : Sp} (F : ∃ fd, FunD K "_law_line_fault" "_law_line_fault" (defArgs s_l_line_fault) (defBody s_l_line_fault) (defScope s_l_line_fault) [] [] (He.ga K "_law_line_fault") fd) (m : mg "_law_line_fault" = some (.ref (He.ga K "_law_line_fault")))
    (hsp : ∀ vs H Q E, sp vs H Q E → vs.length = 3 ∧ t_l_line_fault K sp_l_tree_fault sp_l_follow { nx := fun _ H' => Q .non H', rt := Q } (start N_l_line_fault vs) H) : C8.Cal P w K mg base 46 "_law_line_fault" sp [] := by
  obtain ⟨fd, F⟩ := F
  exact ⟨_, fd, ["_law_modules_here", "_law_module_here", "_law_line"], [], FunD.ok F sc_l_line_fault (fun vs H Q E h => (hsp vs H Q E h).1) (fun cdv A outer s H vs Q E hr h => ⟨_, PSs.nox (d_l_line_fault g c_l_tree_fault c_l_follow hr), (hsp vs H Q E h).2⟩), m, F.kp, (F.bindsN fun _ _ _ _ _ _ us hl => match us, hl with | [_, _, _], _ => rfl), .nil⟩
abbrev N_l_names_fault : List Str := ["_law_modules_here", "_law_order_here", "_law_module_here", "_law_line", "_law_fault"]
theorem sc_l_names_fault : FnScope N_l_names_fault ["_law_modules_here", "_law_order_here"] (defScope s_l_names_fault) := ⟨rfl, rfl, rfl, by decide +kernel, rfl, by decide +kernel, by decide +kernel⟩
def t_l_names_fault (K : PySem.W.Frag) (sp_l_line_fault : Sp) : TS :=
    (tSeq (tFor (iAny K (tVar 1)) (gName 2) (tFor (iAny K (tDGet (tVar 0) (tVar 2))) (gName 3) (tSeq (tAsg (tCall sp_l_line_fault [] C8.E0 (tCons (tVar 0) (tCons (tVar 2) (tCons (tVar 3) tNil)))) (gName 4))
    (tIfS (tTest (tOp rNotNo (tVar 4) (tC .non))) (tRet (tVar 4)) tNext))))
    (tRet (tC .non)))
theorem d_l_names_fault (g : G K mg) {sp_l_line_fault : Sp} (c_l_line_fault : C8.Cal P w K mg base 46 "_law_line_fault" sp_l_line_fault []) {f : Addr} {cdv : Value} {A : Around} {outer : List Env} {s : Shared} {H : Hp} {E : XK} (hr : Room 46 (A.deeper (envOfC "_law_names_fault" (defScope s_l_names_fault) s.heap.objs.size f cdv))) :
    PSs (cxOf CX0 P w K mg base N_l_names_fault "_law_names_fault" (defScope s_l_names_fault) f cdv A outer s H E).nox (defBody s_l_names_fault) (t_l_names_fault K sp_l_line_fault) := by
  unfold t_l_names_fault
  exact
    (pss_cons (ps_for PassesOwn.never rfl (pi_any (pv 1)) (pg_name (i := 2) sc_l_names_fault.nd rfl (by first | exact Or.inl rfl | exact Or.inr rfl)) (pss_one (ps_for PassesOwn.never rfl (pi_any (pe_dget (u1 hr) (pv 0) (pv 2) (fun _ _ => rfl))) (pg_name (i := 3) sc_l_names_fault.nd rfl (by first | exact Or.inl rfl | exact Or.inr rfl)) (pss_cons (ps_set (i := 4) sc_l_names_fault.nd rfl (by first | exact Or.inl rfl | exact Or.inr rfl) (C8.pe_c c_l_line_fault hr (by decide) rfl (pa_cons (pv 0) (pa_cons (pv 2) (pa_cons (pv 3) pa_nil)))))
    (pss_one (ps_if (pt_cmpR o_isnot (pv 4) pe_non (nomark _)) (pss_one (ps_ret (pv 4))) pss_nil))))))
    (pss_one (ps_ret pe_non)))
theorem ok_l_names_fault (g : G K mg) {sp_l_line_fault : Sp} (c_l_line_fault : C8.Cal P w K mg base 46 "_law_line_fault" sp_l_line_fault []) {sp : Sp} (F : ∃ fd, FunD K "_law_names_fault" "_law_names_fault" (defArgs s_l_names_fault) (defBody s_l_names_fault) (defScope s_l_names_fault) [] [] (He.ga K "_law_names_fault") fd) (m : mg "_law_names_fault" = some (.ref (He.ga K "_law_names_fault")))
    (hsp : ∀ vs H Q E, sp vs H Q E → vs.length = 2 ∧ t_l_names_fault K sp_l_line_fault { nx := fun _ H' => Q .non H', rt := Q } (start N_l_names_fault vs) H) : C8.Cal P w K mg base 47 "_law_names_fault" sp [] := by
  obtain ⟨fd, F⟩ := F
  exact ⟨_, fd, ["_law_modules_here", "_law_order_here"], [], FunD.ok F sc_l_names_fault (fun vs H Q E h => (hsp vs H Q E h).1) (fun cdv A outer s H vs Q E hr h => ⟨_, PSs.nox (d_l_names_fault g c_l_line_fault hr), (hsp vs H Q E h).2⟩), m, F.kp, (F.bindsN fun _ _ _ _ _ _ us hl => match us, hl with | [_, _], _ => rfl), .nil⟩
abbrev N_l_alike : List Str := ["_law_one", "_law_two"]
theorem sc_l_alike : FnScope N_l_alike ["_law_one", "_law_two"] (defScope s_l_alike) := ⟨rfl, rfl, rfl, by decide +kernel, rfl, by decide +kernel, by decide +kernel⟩
def t_l_alike (K : PySem.W.Frag) : TS :=
    (tRet (tOp (rEqX K) (tCB (rReprX K) (tCons (tVar 0) tNil)) (tCB (rReprX K) (tCons (tVar 1) tNil))))
theorem d_l_alike (g : G K mg) {f : Addr} {cdv : Value} {A : Around} {outer : List Env} {s : Shared} {H : Hp} {E : XK} (hr : Room 0 (A.deeper (envOfC "_law_alike" (defScope s_l_alike) s.heap.objs.size f cdv))) (hgd : (A.deeper (envOfC "_law_alike" (defScope s_l_alike) s.heap.objs.size f cdv)).guards = some []) :
    PSs (cxOf CX0 P w K mg base N_l_alike "_law_alike" (defScope s_l_alike) f cdv A outer s H E).nox (defBody s_l_alike) (t_l_alike K) := by
  unfold t_l_alike
  exact
    (pss_one (ps_ret (pe_cmpR (o_eq hr.units) (pe_callB (c_repr hr.units hgd) (by rfl) g.b_repr (by decide +kernel) (pa_cons (pv 0) pa_nil)) (pe_callB (c_repr hr.units hgd) (by rfl) g.b_repr (by decide +kernel) (pa_cons (pv 1) pa_nil)) (nomark _))))
theorem ok_l_alike (g : G K mg) {sp : Sp} (F : ∃ fd, FunD K "_law_alike" "_law_alike" (defArgs s_l_alike) (defBody s_l_alike) (defScope s_l_alike) [] [] (He.ga K "_law_alike") fd) (m : mg "_law_alike" = some (.ref (He.ga K "_law_alike")))
    (hsp : ∀ vs H Q E, sp vs H Q E → vs.length = 2 ∧ t_l_alike K { nx := fun _ H' => Q .non H', rt := Q } (start N_l_alike vs) H) : CalG P w K mg base 1 "_law_alike" sp [] := by
  obtain ⟨fd, F⟩ := F
  exact ⟨_, fd, ["_law_one", "_law_two"], [], okG F sc_l_alike (fun vs H Q E h => (hsp vs H Q E h).1) (fun cdv A outer s H vs Q E hr hgd h => ⟨_, PSs.nox (d_l_alike g hr hgd), (hsp vs H Q E h).2⟩), m, F.kp, (F.bindsN fun _ _ _ _ _ _ us hl => match us, hl with | [_, _], _ => rfl), .nil⟩
abbrev N_l_with_exports : List Str := ["_law_box", "_law_modules_here", "_law_names", "_law_name", "_law_pairs", "_law_turn", "_law_called"]
theorem sc_l_with_exports : FnScope N_l_with_exports ["_law_box", "_law_modules_here"] (defScope s_l_with_exports) := ⟨rfl, rfl, rfl, by decide +kernel, rfl, by decide +kernel, by decide +kernel⟩
def t_l_with_exports (K : PySem.W.Frag) (sp_l_draw : Sp) : TS :=
    (tSeq (tAsg (tCB rSortD (tCons (tVar 1) tNil)) (gName 2))
    (tFor (iAny K (tVar 2)) (gName 3) (tSeq (tAsg (tLst tNil) (gName 4))
    (tSeq (tFor (iRng1 (tCons (tCall sp_l_draw [] C8.E0 (tCons (tVar 0) (tCons (tC (.int 3)) tNil))) tNil)) (gName 5) (tSeq (tAsg (tOp (rIx K) (tLst (tCons (tC (.str "u")) (tCons (tC (.str "v")) (tCons (tC (.str "w")) tNil)))) (tVar 5)) (gName 6))
    (tDrop (tBM K "list" rAppend (tVar 4) (tCons (tTup (tCons (tOp (rIx K) (tLst (tCons (tC (.str "u")) (tCons (tC (.str "v")) (tCons (tC (.str "w")) (tCons (tC (.str "xa")) (tCons (tC (.str "fb")) (tCons (tC (.str "kc")) (tCons (tC (.str "none")) tNil)))))))) (tCall sp_l_draw [] C8.E0 (tCons (tVar 0) (tCons (tC (.int 7)) tNil)))) (tCons (tVar 6) tNil))) tNil)))))
    (C8.tCut (tIfS (tTest (tOp (rNeX K) (tVar 4) (tLst tNil))) (sDPut (tVar 1) (tVar 3) (tOp (rPlus K) (tDGet (tVar 1) (tVar 3)) (tTup (tCons (tTup (tCons (tC (.str "export")) (tCons (tCB (rTupOf K) (tCons (tVar 4) tNil)) (tCons (tOp (rIx K) (tOp (rPlus K) (tVar 2) (tLst (tCons (tC (.str "zz")) tNil))) (tCall sp_l_draw [] C8.E0 (tCons (tVar 0) (tCons (tOp (rPlus K) (tCB (rLenX K) (tCons (tVar 2) tNil)) (tC (.int 1))) tNil)))) tNil)))) tNil)))) tNext)
    (tIfS (tTest (tOp (rEqX K) (tCall sp_l_draw [] C8.E0 (tCons (tVar 0) (tCons (tC (.int 3)) tNil))) (tC (.int 0)))) (sDPut (tVar 1) (tVar 3) (tOp (rPlus K) (tTup (tCons (tTup (tCons (tC (.str "import")) (tCons (tTup (tCons (tTup (tCons (tC (.str "u")) (tCons (tC (.str "uu")) tNil))) (tCons (tTup (tCons (tC (.str "xa")) (tCons (tC (.str "vv")) tNil))) tNil))) (tCons (tOp (rIx K) (tVar 2) (tCall sp_l_draw [] C8.E0 (tCons (tVar 0) (tCons (tCB (rLenX K) (tCons (tVar 2) tNil)) tNil)))) tNil)))) tNil)) (tDGet (tVar 1) (tVar 3)))) tNext))))))
theorem d_l_with_exports (g : G K mg) {sp_l_draw : Sp} (c_l_draw : C8.Cal P w K mg base 1 "_law_draw" sp_l_draw []) {f : Addr} {cdv : Value} {A : Around} {outer : List Env} {s : Shared} {H : Hp} {E : XK} (hr : Room 1 (A.deeper (envOfC "_law_with_exports" (defScope s_l_with_exports) s.heap.objs.size f cdv))) :
    PSs (cxOf CX0 P w K mg base N_l_with_exports "_law_with_exports" (defScope s_l_with_exports) f cdv A outer s H E).nox (defBody s_l_with_exports) (t_l_with_exports K sp_l_draw) := by
  unfold t_l_with_exports
  exact
    (pss_cons (ps_set (i := 2) sc_l_with_exports.nd rfl (by first | exact Or.inl rfl | exact Or.inr rfl) (pe_callB (c_sortD rfl) (by rfl) g.b_sorted (by decide +kernel) (pa_cons (pv 1) pa_nil)))
    (pss_one (ps_for PassesOwn.never rfl (pi_any (pv 2)) (pg_name (i := 3) sc_l_with_exports.nd rfl (by first | exact Or.inl rfl | exact Or.inr rfl)) (pss_cons (ps_set (i := 4) sc_l_with_exports.nd rfl (by first | exact Or.inl rfl | exact Or.inr rfl) (pe_lst pa_nil))
    (pss_cons (ps_for PassesOwn.never rfl (pi_range1 rfl g.b_range (pa_cons (C8.pe_c c_l_draw hr (by decide) rfl (pa_cons (pv 0) (pa_cons pe_int pa_nil))) pa_nil)) (pg_name (i := 5) sc_l_with_exports.nd rfl (by first | exact Or.inl rfl | exact Or.inr rfl)) (pss_cons (ps_set (i := 6) sc_l_with_exports.nd rfl (by first | exact Or.inl rfl | exact Or.inr rfl) (pe_ix ix_seq (pe_lst (pa_cons pe_str (pa_cons pe_str (pa_cons pe_str pa_nil)))) (pv 5) (fun _ _ => rfl)))
    (pss_one (ps_expr (pe_bm PySem.F.plainAttrs_list PySem.F.slot_list_append PySem.F.type_list_append mt_append (pv 4) (pa_cons (pe_tup (pa_cons (pe_ix ix_seq (pe_lst (pa_cons pe_str (pa_cons pe_str (pa_cons pe_str (pa_cons pe_str (pa_cons pe_str (pa_cons pe_str (pa_cons pe_str pa_nil)))))))) (C8.pe_c c_l_draw hr (by decide) rfl (pa_cons (pv 0) (pa_cons pe_int pa_nil))) (fun _ _ => rfl)) (pa_cons (pv 6) pa_nil))) pa_nil))))))
    (C8.pss_cut (ps_if (pt_cmpR (o_ne hr.units) (pv 4) (pe_lst pa_nil) (nomark _)) (pss_one (ps_dput (u1 hr) (pv 1) (pv 3) (pe_op o_plus (pe_dget (u1 hr) (pv 1) (pv 3) (fun _ _ => rfl)) (pe_tup (pa_cons (pe_tup (pa_cons pe_str (pa_cons (pe_callTy c_tuple (by rfl) g.b_tuple (by decide +kernel) (pa_cons (pv 4) pa_nil)) (pa_cons (pe_ix ix_seq (pe_op o_plus (pv 2) (pe_lst (pa_cons pe_str pa_nil))) (C8.pe_c c_l_draw hr (by decide) rfl (pa_cons (pv 0) (pa_cons (pe_op o_plus (pe_callB c_len (by rfl) g.b_len (by decide +kernel) (pa_cons (pv 2) pa_nil)) pe_int) pa_nil))) (fun _ _ => rfl)) pa_nil)))) pa_nil))) (by rfl))) pss_nil)
    (pss_one (ps_if (pt_cmpR (o_eq hr.units) (C8.pe_c c_l_draw hr (by decide) rfl (pa_cons (pv 0) (pa_cons pe_int pa_nil))) pe_int (nomark _)) (pss_one (ps_dput (u1 hr) (pv 1) (pv 3) (pe_op o_plus (pe_tup (pa_cons (pe_tup (pa_cons pe_str (pa_cons (pe_tup (pa_cons (pe_tup (pa_cons pe_str (pa_cons pe_str pa_nil))) (pa_cons (pe_tup (pa_cons pe_str (pa_cons pe_str pa_nil))) pa_nil))) (pa_cons (pe_ix ix_seq (pv 2) (C8.pe_c c_l_draw hr (by decide) rfl (pa_cons (pv 0) (pa_cons (pe_callB c_len (by rfl) g.b_len (by decide +kernel) (pa_cons (pv 2) pa_nil)) pa_nil))) (fun _ _ => rfl)) pa_nil)))) pa_nil)) (pe_dget (u1 hr) (pv 1) (pv 3) (fun _ _ => rfl))) (by rfl))) pss_nil))))))))
theorem ok_l_with_exports (g : G K mg) {sp_l_draw : Sp} (c_l_draw : C8.Cal P w K mg base 1 "_law_draw" sp_l_draw []) {sp : Sp} (F : ∃ fd, FunD K "_law_with_exports" "_law_with_exports" (defArgs s_l_with_exports) (defBody s_l_with_exports) (defScope s_l_with_exports) [] [] (He.ga K "_law_with_exports") fd) (m : mg "_law_with_exports" = some (.ref (He.ga K "_law_with_exports")))
    (hsp : ∀ vs H Q E, sp vs H Q E → vs.length = 2 ∧ t_l_with_exports K sp_l_draw { nx := fun _ H' => Q .non H', rt := Q } (start N_l_with_exports vs) H) : C8.Cal P w K mg base 2 "_law_with_exports" sp [] := by
  obtain ⟨fd, F⟩ := F
  exact ⟨_, fd, ["_law_box", "_law_modules_here"], [], FunD.ok F sc_l_with_exports (fun vs H Q E h => (hsp vs H Q E h).1) (fun cdv A outer s H vs Q E hr h => ⟨_, PSs.nox (d_l_with_exports g c_l_draw hr), (hsp vs H Q E h).2⟩), m, F.kp, (F.bindsN fun _ _ _ _ _ _ us hl => match us, hl with | [_, _], _ => rfl), .nil⟩
abbrev N_law : List Str := ["_law_script", "_law_box", "_law_turn", "_law_names", "_law_modules_here", "_law_module_here", "_law_name", "_law_due", "_law_entries", "_law_k"]
theorem sc_law : FnScope N_law ["_law_script"] (defScope s_law) := ⟨rfl, rfl, rfl, by decide +kernel, rfl, by decide +kernel, by decide +kernel⟩
def t_law (K : PySem.W.Frag) (sp_l_alike : Sp) (sp_l_order : Sp) (sp_reach : Sp) (sp_l_draw : Sp) (sp_l_leads : Sp) (sp_available : Sp) (sp_l_declared : Sp) (sp_declaration : Sp) (sp_follow : Sp) (sp_l_follow : Sp) (sp_l_with_exports : Sp) (sp_l_modules : Sp) (sp_l_digits : Sp) : TS :=
    (tSeq (tAsg (tLst (tCons (tCall sp_l_digits [] C8.E0 (tCons (tVar 0) (tCons (tC (.int 0)) (tCons (tC (.int 63)) tNil)))) (tCons (tC (.int 0)) tNil))) (gName 1))
    (tSeq (tFor (iRng1 (tCons (tC (.int 3)) tNil)) (gName 2) (tSeq (tAsg (tSl (rSlX K) (tLst (tCons (tC (.str "a")) (tCons (tC (.str "b")) (tCons (tC (.str "c")) (tCons (tC (.str "d")) tNil))))) tNoPart (tPart (tOp (rPlus K) (tC (.int 2)) (tCall sp_l_draw [] C8.E0 (tCons (tVar 1) (tCons (tC (.int 3)) tNil)))))) (gName 3))
    (tSeq (tAsg (tCall sp_l_modules [] C8.E0 (tCons (tVar 1) (tCons (tVar 3) tNil))) (gName 4))
    (tSeq (tDrop (tCall sp_l_with_exports [] C8.E0 (tCons (tVar 1) (tCons (tVar 4) tNil))))
    (tSeq (tFor (iAny K (tOp (rPlus K) (tVar 3) (tLst (tCons (tC (.str "zz")) tNil)))) (gName 5) (tSeq (tFor (iAny K (tLst (tCons (tC (.str "u")) (tCons (tC (.str "v")) (tCons (tC (.str "w")) (tCons (tC (.str "xa")) (tCons (tC (.str "fb")) (tCons (tC (.str "kc")) (tCons (tC (.str "ya")) (tCons (tC (.str "none")) tNil)))))))))) (gName 6) (tSeq (tAsg (tCall sp_l_follow [] C8.E0 (tCons (tVar 4) (tCons (tVar 5) (tCons (tVar 6) tNil)))) (gName 7))
    (tSeq (tIfS (tNot (tTruX K (tCall sp_l_alike [] C8.E0 (tCons (tCall sp_follow [] C8.E0 (tCons (tVar 4) (tCons (tVar 5) (tCons (tVar 6) tNil)))) (tCons (tVar 7) tNil))))) (tRet (tC (.bl false))) tNext)
    (tIfS (tAnd (tTest (tOp rNotNo (tVar 7) (tC .non))) (tNot (tTruX K (tCall sp_l_alike [] C8.E0 (tCons (tCall sp_declaration [] C8.E0 (tCons (tVar 4) (tCons (tVar 7) tNil))) (tCons (tCall sp_l_declared [] C8.E0 (tCons (tVar 4) (tCons (tVar 7) tNil))) tNil)))))) (tRet (tC (.bl false))) tNext))))
    (tFor (iAny K (tLst (tCons (tC (.str "u")) (tCons (tC (.str "uu")) (tCons (tC (.str "vv")) (tCons (tC (.str "xa")) (tCons (tC (.str "xb")) (tCons (tC (.str "zxa")) (tCons (tC (.str "zfb")) (tCons (tC (.str "kc")) (tCons (tC (.str "fa")) (tCons (tC (.str "none")) tNil)))))))))))) (gName 6) (tIfS (tNot (tTruX K (tCall sp_l_alike [] C8.E0 (tCons (tCall sp_available [] C8.E0 (tCons (tVar 4) (tCons (tVar 5) (tCons (tVar 6) tNil)))) (tCons (tCall sp_l_leads [] C8.E0 (tCons (tVar 4) (tCons (tVar 5) (tCons (tVar 6) tNil)))) tNil))))) (tRet (tC (.bl false))) tNext))))
    (tSeq (tAsg (tCB (rTupOf K) (tCons (tLc (iRng1 (tCons (tC (.int 1)) tNil)) (gName 9) tYes (tOp (rIx K) (tOp (rPlus K) (tVar 3) (tLst (tCons (tC (.str "zz")) tNil))) (tCall sp_l_draw [] C8.E0 (tCons (tVar 1) (tCons (tOp (rPlus K) (tCB (rLenX K) (tCons (tVar 3) tNil)) (tCB (rIntY) (tCons (tOp (rEqX K) (tCall sp_l_draw [] C8.E0 (tCons (tVar 1) (tCons (tC (.int 4)) tNil))) (tC (.int 0))) tNil))) tNil)))) [9]) tNil)) (gName 8))
    (C8.tCut (tIfS (tTest (tOp (rEqX K) (tCall sp_l_draw [] C8.E0 (tCons (tVar 1) (tCons (tC (.int 2)) tNil))) (tC (.int 0)))) (tAsg (tOp (rPlus K) (tVar 8) (tCB (rTupOf K) (tCons (tSl (rSlX K) (tLc (iAny K (tVar 3)) (gName 6) (tTest (tOp (rInX K true) (tVar 6) (tVar 8))) (tVar 6) [6]) tNoPart (tPart (tC (.int 2)))) tNil))) (gName 8)) tNext)
    (tIfS (tNot (tTruX K (tCall sp_l_alike [] C8.E0 (tCons (tCall sp_reach [] C8.E0 (tCons (tVar 4) (tCons (tVar 8) tNil))) (tCons (tCall sp_l_order [] C8.E0 (tCons (tVar 4) (tCons (tVar 8) tNil))) tNil))))) (tRet (tC (.bl false))) tNext))))))))
    (tRet (tC (.bl true)))))
theorem d_law (g : G K mg) {sp_l_alike : Sp} (c_l_alike : CalG P w K mg base 1 "_law_alike" sp_l_alike []) {sp_l_order : Sp} (c_l_order : C8.Cal P w K mg base 10 "_law_order" sp_l_order []) {sp_reach : Sp} (c_reach : C8.Cal P w K mg base 11 "reach" sp_reach []) {sp_l_draw : Sp} (c_l_draw : C8.Cal P w K mg base 1 "_law_draw" sp_l_draw []) {sp_l_leads : Sp} (c_l_leads : C8.Cal P w K mg base 3 "_law_leads" sp_l_leads []) {sp_available : Sp} (c_available : C8.Cal P w K mg base 3 "available" sp_available []) {sp_l_declared : Sp} (c_l_declared : C8.Cal P w K mg base 1 "_law_declared" sp_l_declared []) {sp_declaration : Sp} (c_declaration : C8.Cal P w K mg base 2 "declaration" sp_declaration []) {sp_follow : Sp} (c_follow : C8.Cal P w K mg base 2 "follow" sp_follow []) {sp_l_follow : Sp} (c_l_follow : C8.Cal P w K mg base 2 "_law_follow" sp_l_follow []) {sp_l_with_exports : Sp} (c_l_with_exports : C8.Cal P w K mg base 2 "_law_with_exports" sp_l_with_exports []) {sp_l_modules : Sp} (c_l_modules : C8.Cal P w K mg base 15 "_law_modules" sp_l_modules []) {sp_l_digits : Sp} (c_l_digits : C8.Cal P w K mg base 2 "_law_digits" sp_l_digits []) {f : Addr} {cdv : Value} {A : Around} {outer : List Env} {s : Shared} {H : Hp} {E : XK} (hr : Room 15 (A.deeper (envOfC "law" (defScope s_law) s.heap.objs.size f cdv))) (hgd : (A.deeper (envOfC "law" (defScope s_law) s.heap.objs.size f cdv)).guards = some []) :
    PSs (cxOf CX0 P w K mg base N_law "law" (defScope s_law) f cdv A outer s H E).nox (defBody s_law) (t_law K sp_l_alike sp_l_order sp_reach sp_l_draw sp_l_leads sp_available sp_l_declared sp_declaration sp_follow sp_l_follow sp_l_with_exports sp_l_modules sp_l_digits) := by
  unfold t_law
  exact
    (pss_cons (ps_set (i := 1) sc_law.nd rfl (by first | exact Or.inl rfl | exact Or.inr rfl) (pe_lst (pa_cons (C8.pe_c c_l_digits hr (by decide) rfl (pa_cons (pv 0) (pa_cons pe_int (pa_cons pe_int pa_nil)))) (pa_cons pe_int pa_nil))))
    (pss_cons (ps_for PassesOwn.never rfl (pi_range1 rfl g.b_range (pa_cons pe_int pa_nil)) (pg_name (i := 2) sc_law.nd rfl (by first | exact Or.inl rfl | exact Or.inr rfl)) (pss_cons (ps_set (i := 3) sc_law.nd rfl (by first | exact Or.inl rfl | exact Or.inr rfl) (pe_slice sl_any (pe_lst (pa_cons pe_str (pa_cons pe_str (pa_cons pe_str (pa_cons pe_str pa_nil))))) po_none (po_some (pe_op o_plus pe_int (C8.pe_c c_l_draw hr (by decide) rfl (pa_cons (pv 1) (pa_cons pe_int pa_nil)))))))
    (pss_cons (ps_set (i := 4) sc_law.nd rfl (by first | exact Or.inl rfl | exact Or.inr rfl) (C8.pe_c c_l_modules hr (by decide) rfl (pa_cons (pv 1) (pa_cons (pv 3) pa_nil))))
    (pss_cons (ps_expr (C8.pe_c c_l_with_exports hr (by decide) rfl (pa_cons (pv 1) (pa_cons (pv 4) pa_nil))))
    (pss_cons (ps_for PassesOwn.never rfl (pi_any (pe_op o_plus (pv 3) (pe_lst (pa_cons pe_str pa_nil)))) (pg_name (i := 5) sc_law.nd rfl (by first | exact Or.inl rfl | exact Or.inr rfl)) (pss_cons (ps_for PassesOwn.never rfl (pi_any (pe_lst (pa_cons pe_str (pa_cons pe_str (pa_cons pe_str (pa_cons pe_str (pa_cons pe_str (pa_cons pe_str (pa_cons pe_str (pa_cons pe_str pa_nil)))))))))) (pg_name (i := 6) sc_law.nd rfl (by first | exact Or.inl rfl | exact Or.inr rfl)) (pss_cons (ps_set (i := 7) sc_law.nd rfl (by first | exact Or.inl rfl | exact Or.inr rfl) (C8.pe_c c_l_follow hr (by decide) rfl (pa_cons (pv 4) (pa_cons (pv 5) (pa_cons (pv 6) pa_nil)))))
    (pss_cons (ps_if (pt_not (pt_tru (pe_cG c_l_alike hr hgd (by decide) rfl (pa_cons (C8.pe_c c_follow hr (by decide) rfl (pa_cons (pv 4) (pa_cons (pv 5) (pa_cons (pv 6) pa_nil)))) (pa_cons (pv 7) pa_nil))))) (pss_one (ps_ret pe_bl)) pss_nil)
    (pss_one (ps_if (PW.pt (pw_and (pt_cmpR o_isnot (pv 7) pe_non (nomark _)) (pw_and1 (pt_not (pt_tru (pe_cG c_l_alike hr hgd (by decide) rfl (pa_cons (C8.pe_c c_declaration hr (by decide) rfl (pa_cons (pv 4) (pa_cons (pv 7) pa_nil))) (pa_cons (C8.pe_c c_l_declared hr (by decide) rfl (pa_cons (pv 4) (pa_cons (pv 7) pa_nil))) pa_nil)))))))) (pss_one (ps_ret pe_bl)) pss_nil)))))
    (pss_one (ps_for PassesOwn.never rfl (pi_any (pe_lst (pa_cons pe_str (pa_cons pe_str (pa_cons pe_str (pa_cons pe_str (pa_cons pe_str (pa_cons pe_str (pa_cons pe_str (pa_cons pe_str (pa_cons pe_str (pa_cons pe_str pa_nil)))))))))))) (pg_name (i := 6) sc_law.nd rfl (by first | exact Or.inl rfl | exact Or.inr rfl)) (pss_one (ps_if (pt_not (pt_tru (pe_cG c_l_alike hr hgd (by decide) rfl (pa_cons (C8.pe_c c_available hr (by decide) rfl (pa_cons (pv 4) (pa_cons (pv 5) (pa_cons (pv 6) pa_nil)))) (pa_cons (C8.pe_c c_l_leads hr (by decide) rfl (pa_cons (pv 4) (pa_cons (pv 5) (pa_cons (pv 6) pa_nil)))) pa_nil))))) (pss_one (ps_ret pe_bl)) pss_nil))))))
    (pss_cons (ps_set (i := 8) sc_law.nd rfl (by first | exact Or.inl rfl | exact Or.inr rfl) (pe_callTy c_tuple (by rfl) g.b_tuple (by decide +kernel) (pa_cons (pe_lc (own := [("_law_k", 9)]) (tt := tYes) rfl sc_law.nd (pi_range1 rfl g.b_range (pa_cons pe_int pa_nil)) (blkOk_by (N := N_law) (sc := defScope s_law) (by decide +kernel)) (fun _ _ _ _ _ => (pg_name (i := 9) sc_law.nd rfl (by first | exact Or.inl rfl | exact Or.inr rfl))) (fun _ _ _ _ _ => pts_nil) (fun _ _ _ _ _ => (pe_ix ix_seq (pe_op o_plus (pv 3) (pe_lst (pa_cons pe_str pa_nil))) (C8.pe_c c_l_draw hr (by decide) rfl (pa_cons (pv 1) (pa_cons (pe_op o_plus (pe_callB c_len (by rfl) g.b_len (by decide +kernel) (pa_cons (pv 3) pa_nil)) (pe_callTy c_int2 (by rfl) g.b_int (by decide +kernel) (pa_cons (pe_cmpR (o_eq hr.units) (C8.pe_c c_l_draw hr (by decide) rfl (pa_cons (pv 1) (pa_cons pe_int pa_nil))) pe_int (nomark _)) pa_nil))) pa_nil))) (fun _ _ => rfl)))) pa_nil)))
    (C8.pss_cut (ps_if (pt_cmpR (o_eq hr.units) (C8.pe_c c_l_draw hr (by decide) rfl (pa_cons (pv 1) (pa_cons pe_int pa_nil))) pe_int (nomark _)) (pss_one (ps_set (i := 8) sc_law.nd rfl (by first | exact Or.inl rfl | exact Or.inr rfl) (pe_op o_plus (pv 8) (pe_callTy c_tuple (by rfl) g.b_tuple (by decide +kernel) (pa_cons (pe_slice sl_any (pe_lc (own := [("_law_name", 6)]) (tt := (tTest (tOp (rInX K true) (tVar 6) (tVar 8)))) rfl sc_law.nd (pi_any (pv 3)) (blkOk_by (N := N_law) (sc := defScope s_law) (by decide +kernel)) (fun _ _ _ _ _ => (pg_name (i := 6) sc_law.nd rfl (by first | exact Or.inl rfl | exact Or.inr rfl))) (fun _ _ _ _ _ => (pts_one (pt_cmpR o_notin (pv 6) (pv 8) (by rfl)))) (fun _ _ _ _ _ => (pv 6))) po_none (po_some pe_int)) pa_nil))))) pss_nil)
    (pss_one (ps_if (pt_not (pt_tru (pe_cG c_l_alike hr hgd (by decide) rfl (pa_cons (C8.pe_c c_reach hr (by decide) rfl (pa_cons (pv 4) (pa_cons (pv 8) pa_nil))) (pa_cons (C8.pe_c c_l_order hr (by decide) rfl (pa_cons (pv 4) (pa_cons (pv 8) pa_nil))) pa_nil))))) (pss_one (ps_ret pe_bl)) pss_nil)))))))))
    (pss_one (ps_ret pe_bl))))
theorem ok_law (g : G K mg) {sp_l_alike : Sp} (c_l_alike : CalG P w K mg base 1 "_law_alike" sp_l_alike []) {sp_l_order : Sp} (c_l_order : C8.Cal P w K mg base 10 "_law_order" sp_l_order []) {sp_reach : Sp} (c_reach : C8.Cal P w K mg base 11 "reach" sp_reach []) {sp_l_draw : Sp} (c_l_draw : C8.Cal P w K mg base 1 "_law_draw" sp_l_draw []) {sp_l_leads : Sp} (c_l_leads : C8.Cal P w K mg base 3 "_law_leads" sp_l_leads []) {sp_available : Sp} (c_available : C8.Cal P w K mg base 3 "available" sp_available []) {sp_l_declared : Sp} (c_l_declared : C8.Cal P w K mg base 1 "_law_declared" sp_l_declared []) {sp_declaration : Sp} (c_declaration : C8.Cal P w K mg base 2 "declaration" sp_declaration []) {sp_follow : Sp} (c_follow : C8.Cal P w K mg base 2 "follow" sp_follow []) {sp_l_follow : Sp} (c_l_follow : C8.Cal P w K mg base 2 "_law_follow" sp_l_follow []) {sp_l_with_exports : Sp} (c_l_with_exports : C8.Cal P w K mg base 2 "_law_with_exports" sp_l_with_exports []) {sp_l_modules : Sp} (c_l_modules : C8.Cal P w K mg base 15 "_law_modules" sp_l_modules []) {sp_l_digits : Sp} (c_l_digits : C8.Cal P w K mg base 2 "_law_digits" sp_l_digits []) {sp : Sp} (F : ∃ fd, FunD K "law" "law" (defArgs s_law) (defBody s_law) (defScope s_law) [] [] (He.ga K "law") fd) (m : mg "law" = some (.ref (He.ga K "law")))
    (hsp : ∀ vs H Q E, sp vs H Q E → vs.length = 1 ∧ t_law K sp_l_alike sp_l_order sp_reach sp_l_draw sp_l_leads sp_available sp_l_declared sp_declaration sp_follow sp_l_follow sp_l_with_exports sp_l_modules sp_l_digits { nx := fun _ H' => Q .non H', rt := Q } (start N_law vs) H) : CalG P w K mg base 16 "law" sp [] := by
  obtain ⟨fd, F⟩ := F
  exact ⟨_, fd, ["_law_script"], [], okG F sc_law (fun vs H Q E h => (hsp vs H Q E h).1) (fun cdv A outer s H vs Q E hr hgd h => ⟨_, PSs.nox (d_law g c_l_alike c_l_order c_reach c_l_draw c_l_leads c_available c_l_declared c_declaration c_follow c_l_follow c_l_with_exports c_l_modules c_l_digits hr hgd), (hsp vs H Q E h).2⟩), m, F.kp, (F.bindsN fun _ _ _ _ _ _ us hl => match us, hl with | [_], _ => rfl), .nil⟩
abbrev N_Reach_init : List Str := ["self", "lines_of"]
theorem sc_Reach_init : FnScope N_Reach_init ["self", "lines_of"] (defScope s_Reach_init) := ⟨rfl, rfl, rfl, by decide +kernel, rfl, by decide +kernel, by decide +kernel⟩
def t_Reach_init (K : PySem.W.Frag) : TS :=
    (tSeq (sFld K (tVar 0) (tVar 1) "_lines_of")
    (tSeq (sFld K (tVar 0) tDNewK "_visited")
    (sFld K (tVar 0) (tLst tNil) "order")))
theorem d_Reach_init (g : G K mg) {f : Addr} {cdv : Value} {A : Around} {outer : List Env} {s : Shared} {H : Hp} {E : XK} (hr : Room 0 (A.deeper (envOfC "Reach.__init__" (defScope s_Reach_init) s.heap.objs.size f cdv))) :
    PSs (cxOf CX0 P w K mg base N_Reach_init "Reach.__init__" (defScope s_Reach_init) f cdv A outer s H E).nox (defBody s_Reach_init) (t_Reach_init K) := by
  unfold t_Reach_init
  exact
    (pss_cons (ps_fld (pv 0) (pv 1) (by rfl))
    (pss_cons (ps_fld (pv 0) pe_dnewK (by rfl))
    (pss_one (ps_fld (pv 0) (pe_lst pa_nil) (by rfl)))))
theorem ok_Reach_init (g : G K mg) {sp : Sp} (F : ∃ fd, FunD K "__init__" "Reach.__init__" (defArgs s_Reach_init) (defBody s_Reach_init) (defScope s_Reach_init) [] [] (He.ma K (He.ga K "Reach") "__init__") fd)
    (hsp : ∀ vs H Q E, sp vs H Q E → vs.length = 2 ∧ t_Reach_init K { nx := fun _ H' => Q .non H', rt := Q } (start N_Reach_init vs) H) : C8.Mak P w K mg base 1 "Reach" (He.ga K "Reach") sp [] := by
  obtain ⟨fd, F⟩ := F
  exact ⟨_, fd, ["self", "lines_of"], [], g.mkr_Reach, FunD.ok F sc_Reach_init (fun vs H Q E h => (hsp vs H Q E h).1) (fun cdv A outer s H vs Q E hr h => ⟨_, PSs.nox (d_Reach_init g hr), (hsp vs H Q E h).2⟩), g.k_Reach, (F.bindsN fun _ _ _ _ _ _ us hl => match us, hl with | [_, _], _ => rfl), .nil⟩
abbrev N_Reach_visit : List Str := ["self", "module", "found", "line", "fault"]
theorem sc_Reach_visit : FnScope N_Reach_visit ["self", "module"] (defScope s_Reach_visit) := ⟨rfl, rfl, rfl, by decide +kernel, rfl, by decide +kernel, by decide +kernel⟩
def t_Reach_visit (K : PySem.W.Frag) (sp_Reach_visit : Sp) (sp_lam : Sp) : TS :=
    (tSeq (tIfS (tB (tDIn (tVar 1) (tFld K (tVar 0) "_visited"))) (tRet (tC .non)) tNext)
    (tSeq (sDPut (tFld K (tVar 0) "_visited") (tVar 1) (tC (.bl true)))
    (tSeq (tAsg (tFCall K "_lines_of" sp_lam (tVar 0) (tCons (tVar 1) tNil)) (gName 2))
    (tSeq (tIfS (tOr (tTest (tOp (rNeX K) (tOp (rIx K) (tVar 2) (tC (.int 0))) (tC (.str "module")))) (tOr (tTest (tOp (rNeX K) (tCB (rLenX K) (tCons (tVar 2) tNil)) (tC (.int 2)))) (tNot (tTruX K (tCB (rIsi K) (tCons (tOp (rIx K) (tVar 2) (tC (.int 1))) (tCons (tC (.ty "tuple")) tNil))))))) (tRet (tVar 2)) tNext)
    (tSeq (tFor (iAny K (tOp (rIx K) (tVar 2) (tC (.int 1)))) (gName 3) (tIfS (tOr (tTest (tOp (rEqX K) (tOp (rIx K) (tVar 3) (tC (.int 0))) (tC (.str "import")))) (tTest (tOp (rEqX K) (tOp (rIx K) (tVar 3) (tC (.int 0))) (tC (.str "export"))))) (tSeq (tAsg (tMeth (He.ga K "Reach") "visit" sp_Reach_visit [] C8.E0 (tVar 0) (tCons (tOp (rIx K) (tVar 3) (tC (.int 2))) tNil)) (gName 4))
    (tIfS (tTest (tOp rNotNo (tVar 4) (tC .non))) (tRet (tVar 4)) tNext)) tNext))
    (tSeq (tDrop (tBM K "list" rAppend (tFld K (tVar 0) "order") (tCons (tVar 1) tNil)))
    (tRet (tC .non))))))))
theorem d_Reach_visit (g : G K mg) {n : Nat} (hn : 1 ≤ n) {sp_Reach_visit : Sp} (c_Reach_visit : C8.Met P w K mg base n (He.ga K "Reach") "visit" sp_Reach_visit []) {sp_lam : Sp} (c_lam : CalL P w K mg base 1 sp_lam) {f : Addr} {cdv : Value} {A : Around} {outer : List Env} {s : Shared} {H : Hp} {E : XK} (hr : Room n (A.deeper (envOfC "Reach.visit" (defScope s_Reach_visit) s.heap.objs.size f cdv))) :
    PSs (cxOf CX0 P w K mg base N_Reach_visit "Reach.visit" (defScope s_Reach_visit) f cdv A outer s H E).nox (defBody s_Reach_visit) (t_Reach_visit K sp_Reach_visit sp_lam) := by
  unfold t_Reach_visit
  exact
    (pss_cons (ps_if (pt_cmp (pc_din (u1 hr) (pv 1) (pe_fld (pv 0) (by rfl))) (by rfl)) (pss_one (ps_ret pe_non)) pss_nil)
    (pss_cons (ps_dput (u1 hr) (pe_fld (pv 0) (by rfl)) (pv 1) pe_bl (by rfl))
    (pss_cons (ps_set (i := 2) sc_Reach_visit.nd rfl (by first | exact Or.inl rfl | exact Or.inr rfl) (pe_fc c_lam hr (by omega) (pv 0) (pa_cons (pv 1) pa_nil)))
    (pss_cons (ps_if (PW.pt (pw_or (pt_cmpR (o_ne hr.units) (pe_ix ix_seq (pv 2) pe_int (fun _ _ => rfl)) pe_str (nomark _)) (pw_or (pt_cmpR (o_ne hr.units) (pe_callB c_len (by rfl) g.b_len (by decide +kernel) (pa_cons (pv 2) pa_nil)) pe_int (nomark _)) (pw_or1 (pt_not (pt_tru (pe_callB c_isi (by rfl) g.b_isinstance (by decide +kernel) (pa_cons (pe_ix ix_seq (pv 2) pe_int (fun _ _ => rfl)) (pa_cons (pe_bltn (by rfl) g.b_tuple (by decide +kernel) rfl) pa_nil))))))))) (pss_one (ps_ret (pv 2))) pss_nil)
    (pss_cons (ps_for PassesOwn.never rfl (pi_any (pe_ix ix_seq (pv 2) pe_int (fun _ _ => rfl))) (pg_name (i := 3) sc_Reach_visit.nd rfl (by first | exact Or.inl rfl | exact Or.inr rfl)) (pss_one (ps_if (PW.pt (pw_or (pt_cmpR (o_eq hr.units) (pe_ix ix_seq (pv 3) pe_int (fun _ _ => rfl)) (C8.pe_gc rfl g.c_IMPORT) (nomark _)) (pw_or1 (pt_cmpR (o_eq hr.units) (pe_ix ix_seq (pv 3) pe_int (fun _ _ => rfl)) (C8.pe_gc rfl g.c_EXPORT) (nomark _))))) (pss_cons (ps_set (i := 4) sc_Reach_visit.nd rfl (by first | exact Or.inl rfl | exact Or.inr rfl) (C8.pe_mt c_Reach_visit hr (by omega) (pv 0) (pa_cons (pe_ix ix_seq (pv 3) pe_int (fun _ _ => rfl)) pa_nil)))
    (pss_one (ps_if (pt_cmpR o_isnot (pv 4) pe_non (nomark _)) (pss_one (ps_ret (pv 4))) pss_nil))) pss_nil)))
    (pss_cons (ps_expr (pe_bm PySem.F.plainAttrs_list PySem.F.slot_list_append PySem.F.type_list_append mt_append (pe_fld (pv 0) (by rfl)) (pa_cons (pv 1) pa_nil)))
    (pss_one (ps_ret pe_non))))))))
theorem zz_Reach_visit (g : G K mg) (k : Nat) (F : ∃ fd, FunD K "visit" "Reach.visit" (defArgs s_Reach_visit) (defBody s_Reach_visit) (defScope s_Reach_visit) [] [] (He.ma K (He.ga K "Reach") "visit") fd) : C8.Met P w K mg base k (He.ga K "Reach") "visit" (fun _ _ _ _ => False) [] := by
  obtain ⟨fd, F⟩ := F
  exact ⟨_, fd, ["self", "module"], [], g.cls_Reach, g.me_Reach_visit, ⟨fun _ _ _ _ h => h.elim, fun _ _ _ _ _ _ _ _ _ _ _ _ _ h => h.elim⟩, (F.bindsN fun _ _ _ _ _ _ us hl => match us, hl with | [_, _], _ => rfl), .nil⟩
theorem ok_Reach_visit (g : G K mg) {n : Nat} (hn : 1 ≤ n) {sp_Reach_visit : Sp} (c_Reach_visit : C8.Met P w K mg base n (He.ga K "Reach") "visit" sp_Reach_visit []) {sp_lam : Sp} (c_lam : CalL P w K mg base 1 sp_lam) {sp : Sp} (F : ∃ fd, FunD K "visit" "Reach.visit" (defArgs s_Reach_visit) (defBody s_Reach_visit) (defScope s_Reach_visit) [] [] (He.ma K (He.ga K "Reach") "visit") fd)
    (hsp : ∀ vs H Q E, sp vs H Q E → vs.length = 2 ∧ t_Reach_visit K sp_Reach_visit sp_lam { nx := fun _ H' => Q .non H', rt := Q } (start N_Reach_visit vs) H) : C8.Met P w K mg base (n + 1) (He.ga K "Reach") "visit" sp [] := by
  obtain ⟨fd, F⟩ := F
  exact ⟨_, fd, ["self", "module"], [], g.cls_Reach, g.me_Reach_visit, FunD.ok F sc_Reach_visit (fun vs H Q E h => (hsp vs H Q E h).1) (fun cdv A outer s H vs Q E hr h => ⟨_, PSs.nox (d_Reach_visit g hn c_Reach_visit c_lam hr), (hsp vs H Q E h).2⟩), (F.bindsN fun _ _ _ _ _ _ us hl => match us, hl with | [_, _], _ => rfl), .nil⟩
end
theorem tab_at {K : PySem.W.Frag} (h : tabs K = true) (i : Nat) {b : Bool} (e : (tabl K)[i]? = some b) : b = true := List.all_eq_true.mp h b (List.mem_of_getElem? e)
theorem mk_G {K : PySem.W.Frag} {h : Heap} {mg : Str → Option Value} (X : K.In h) (N : h.Ns mainGlobals mg) (c : He.SaysD hfa hfn K) (cx : tabs K = true) : G K mg where
  c_OWN := ⟨_, He.glo_ok X N (c.fact 0 (f := .glo "OWN") rfl), rfl⟩
  c_EXPORT := (let ⟨t, h⟩ := He.str_ok X N (c.fact 1 (f := .str "EXPORT" "export") rfl); ⟨_, h, t, rfl⟩)
  c_IMPORT := (let ⟨t, h⟩ := He.str_ok X N (c.fact 2 (f := .str "IMPORT" "import") rfl); ⟨_, h, t, rfl⟩)
  b_tuple := He.free_ok X N (c.fact 3 (f := .free "tuple") rfl)
  k_Reach := He.glo_ok X N (c.fact 4 (f := .glo "Reach") rfl)
  b_len := He.free_ok X N (c.fact 5 (f := .free "len") rfl)
  b_range := He.free_ok X N (c.fact 6 (f := .free "range") rfl)
  b_int := He.free_ok X N (c.fact 7 (f := .free "int") rfl)
  b_list := He.free_ok X N (c.fact 8 (f := .free "list") rfl)
  b_repr := He.free_ok X N (c.fact 9 (f := .free "repr") rfl)
  b_sorted := He.free_ok X N (c.fact 10 (f := .free "sorted") rfl)
  b_isinstance := He.free_ok X N (c.fact 11 (f := .free "isinstance") rfl)
  cls_Reach := He.cls_ok (c.fact 12 (f := .cls "Reach") rfl)
  mkr_Reach := He.mkr_ok (c.fact 13 (f := .mkr "Reach") rfl)
  me_Reach_visit := He.meth_ok (c.fact 14 (f := .meth "Reach" "visit") rfl)
  dummy := trivial
theorem mk_CF {K : PySem.W.Frag} (c : He.SaysD hfa hfn K) (cx : tabs K = true) : CF K where
  t_OWN := (tab_at cx 0 rfl)
  cls_Reach := He.cls_ok (c.fact 12 (f := .cls "Reach") rfl)
  na_Reachorder := He.noat_ok (c.fact 15 (f := .noat "Reach" "order") rfl)
  na_Reach_visited := He.noat_ok (c.fact 16 (f := .noat "Reach" "_visited") rfl)
  na_Reach_lines_of := He.noat_ok (c.fact 17 (f := .noat "Reach" "_lines_of") rfl)
  dummy := trivial
theorem fd_own {K : PySem.W.Frag} (c : He.SaysD hfa hfn K) : ∃ fd, FunD K "_own" "_own" (defArgs s_own) (defBody s_own) (defScope s_own) [] [] (He.ga K "_own") fd := c.def_ 0 (d := hd_own) rfl
theorem fd_other {K : PySem.W.Frag} (c : He.SaysD hfa hfn K) : ∃ fd, FunD K "_other" "_other" (defArgs s_other) (defBody s_other) (defScope s_other) [] [] (He.ga K "_other") fd := c.def_ 1 (d := hd_other) rfl
theorem fd_follow {K : PySem.W.Frag} (c : He.SaysD hfa hfn K) : ∃ fd, FunD K "follow" "follow" (defArgs s_follow) (defBody s_follow) (defScope s_follow) [] [] (He.ga K "follow") fd := c.def_ 2 (d := hd_follow) rfl
theorem fd_available {K : PySem.W.Frag} (c : He.SaysD hfa hfn K) : ∃ fd, FunD K "available" "available" (defArgs s_available) (defBody s_available) (defScope s_available) [] [] (He.ga K "available") fd := c.def_ 3 (d := hd_available) rfl
theorem fd_declaration {K : PySem.W.Frag} (c : He.SaysD hfa hfn K) : ∃ fd, FunD K "declaration" "declaration" (defArgs s_declaration) (defBody s_declaration) (defScope s_declaration) [] [] (He.ga K "declaration") fd := c.def_ 4 (d := hd_declaration) rfl
theorem fd_reach {K : PySem.W.Frag} (c : He.SaysD hfa hfn K) : ∃ fd, FunD K "reach" "reach" (defArgs s_reach) (defBody s_reach) (defScope s_reach) [] [] (He.ga K "reach") fd := c.def_ 5 (d := hd_reach) rfl
theorem fd_l_cell {K : PySem.W.Frag} (c : He.SaysD hfa hfn K) : ∃ fd, FunD K "_law_cell" "_law_cell" (defArgs s_l_cell) (defBody s_l_cell) (defScope s_l_cell) [] [] (He.ga K "_law_cell") fd := c.def_ 6 (d := hd_l_cell) rfl
theorem fd_l_digits {K : PySem.W.Frag} (c : He.SaysD hfa hfn K) : ∃ fd, FunD K "_law_digits" "_law_digits" (defArgs s_l_digits) (defBody s_l_digits) (defScope s_l_digits) [] [] (He.ga K "_law_digits") fd := c.def_ 7 (d := hd_l_digits) rfl
theorem fd_l_draw {K : PySem.W.Frag} (c : He.SaysD hfa hfn K) : ∃ fd, FunD K "_law_draw" "_law_draw" (defArgs s_l_draw) (defBody s_l_draw) (defScope s_l_draw) [] [] (He.ga K "_law_draw") fd := c.def_ 8 (d := hd_l_draw) rfl
theorem fd_l_atom {K : PySem.W.Frag} (c : He.SaysD hfa hfn K) : ∃ fd, FunD K "_law_atom" "_law_atom" (defArgs s_l_atom) (defBody s_l_atom) (defScope s_l_atom) [] [] (He.ga K "_law_atom") fd := c.def_ 9 (d := hd_l_atom) rfl
theorem fd_l_tree {K : PySem.W.Frag} (c : He.SaysD hfa hfn K) : ∃ fd, FunD K "_law_tree" "_law_tree" (defArgs s_l_tree) (defBody s_l_tree) (defScope s_l_tree) [] [] (He.ga K "_law_tree") fd := c.def_ 10 (d := hd_l_tree) rfl
theorem fd_l_own {K : PySem.W.Frag} (c : He.SaysD hfa hfn K) : ∃ fd, FunD K "_law_own" "_law_own" (defArgs s_l_own) (defBody s_l_own) (defScope s_l_own) [] [] (He.ga K "_law_own") fd := c.def_ 11 (d := hd_l_own) rfl
theorem fd_l_imports {K : PySem.W.Frag} (c : He.SaysD hfa hfn K) : ∃ fd, FunD K "_law_imports" "_law_imports" (defArgs s_l_imports) (defBody s_l_imports) (defScope s_l_imports) [] [] (He.ga K "_law_imports") fd := c.def_ 12 (d := hd_l_imports) rfl
theorem fd_l_usable {K : PySem.W.Frag} (c : He.SaysD hfa hfn K) : ∃ fd, FunD K "_law_usable" "_law_usable" (defArgs s_l_usable) (defBody s_l_usable) (defScope s_l_usable) [] [] (He.ga K "_law_usable") fd := c.def_ 13 (d := hd_l_usable) rfl
theorem fd_l_calls {K : PySem.W.Frag} (c : He.SaysD hfa hfn K) : ∃ fd, FunD K "_law_calls" "_law_calls" (defArgs s_l_calls) (defBody s_l_calls) (defScope s_l_calls) [] [] (He.ga K "_law_calls") fd := c.def_ 14 (d := hd_l_calls) rfl
theorem fd_l_module {K : PySem.W.Frag} (c : He.SaysD hfa hfn K) : ∃ fd, FunD K "_law_module" "_law_module" (defArgs s_l_module) (defBody s_l_module) (defScope s_l_module) [] [] (He.ga K "_law_module") fd := c.def_ 15 (d := hd_l_module) rfl
theorem fd_l_modules {K : PySem.W.Frag} (c : He.SaysD hfa hfn K) : ∃ fd, FunD K "_law_modules" "_law_modules" (defArgs s_l_modules) (defBody s_l_modules) (defScope s_l_modules) [] [] (He.ga K "_law_modules") fd := c.def_ 16 (d := hd_l_modules) rfl
theorem fd_l_exports {K : PySem.W.Frag} (c : He.SaysD hfa hfn K) : ∃ fd, FunD K "_law_exports" "_law_exports" (defArgs s_l_exports) (defBody s_l_exports) (defScope s_l_exports) [] [] (He.ga K "_law_exports") fd := c.def_ 17 (d := hd_l_exports) rfl
theorem fd_l_follow {K : PySem.W.Frag} (c : He.SaysD hfa hfn K) : ∃ fd, FunD K "_law_follow" "_law_follow" (defArgs s_l_follow) (defBody s_l_follow) (defScope s_l_follow) [] [] (He.ga K "_law_follow") fd := c.def_ 18 (d := hd_l_follow) rfl
theorem fd_l_leads {K : PySem.W.Frag} (c : He.SaysD hfa hfn K) : ∃ fd, FunD K "_law_leads" "_law_leads" (defArgs s_l_leads) (defBody s_l_leads) (defScope s_l_leads) [] [] (He.ga K "_law_leads") fd := c.def_ 19 (d := hd_l_leads) rfl
theorem fd_l_declared {K : PySem.W.Frag} (c : He.SaysD hfa hfn K) : ∃ fd, FunD K "_law_declared" "_law_declared" (defArgs s_l_declared) (defBody s_l_declared) (defScope s_l_declared) [] [] (He.ga K "_law_declared") fd := c.def_ 20 (d := hd_l_declared) rfl
theorem fd_l_visit {K : PySem.W.Frag} (c : He.SaysD hfa hfn K) : ∃ fd, FunD K "_law_visit" "_law_visit" (defArgs s_l_visit) (defBody s_l_visit) (defScope s_l_visit) [] [] (He.ga K "_law_visit") fd := c.def_ 21 (d := hd_l_visit) rfl
theorem fd_l_order {K : PySem.W.Frag} (c : He.SaysD hfa hfn K) : ∃ fd, FunD K "_law_order" "_law_order" (defArgs s_l_order) (defBody s_l_order) (defScope s_l_order) [] [] (He.ga K "_law_order") fd := c.def_ 22 (d := hd_l_order) rfl
theorem fd_l_tree_fault {K : PySem.W.Frag} (c : He.SaysD hfa hfn K) : ∃ fd, FunD K "_law_tree_fault" "_law_tree_fault" (defArgs s_l_tree_fault) (defBody s_l_tree_fault) (defScope s_l_tree_fault) [] [] (He.ga K "_law_tree_fault") fd := c.def_ 23 (d := hd_l_tree_fault) rfl
theorem fd_l_use_fault {K : PySem.W.Frag} (c : He.SaysD hfa hfn K) : ∃ fd, FunD K "_law_use_fault" "_law_use_fault" (defArgs s_l_use_fault) (defBody s_l_use_fault) (defScope s_l_use_fault) [] [] (He.ga K "_law_use_fault") fd := c.def_ 24 (d := hd_l_use_fault) rfl
theorem fd_l_line_fault {K : PySem.W.Frag} (c : He.SaysD hfa hfn K) : ∃ fd, FunD K "_law_line_fault" "_law_line_fault" (defArgs s_l_line_fault) (defBody s_l_line_fault) (defScope s_l_line_fault) [] [] (He.ga K "_law_line_fault") fd := c.def_ 25 (d := hd_l_line_fault) rfl
theorem fd_l_names_fault {K : PySem.W.Frag} (c : He.SaysD hfa hfn K) : ∃ fd, FunD K "_law_names_fault" "_law_names_fault" (defArgs s_l_names_fault) (defBody s_l_names_fault) (defScope s_l_names_fault) [] [] (He.ga K "_law_names_fault") fd := c.def_ 26 (d := hd_l_names_fault) rfl
theorem fd_l_alike {K : PySem.W.Frag} (c : He.SaysD hfa hfn K) : ∃ fd, FunD K "_law_alike" "_law_alike" (defArgs s_l_alike) (defBody s_l_alike) (defScope s_l_alike) [] [] (He.ga K "_law_alike") fd := c.def_ 27 (d := hd_l_alike) rfl
theorem fd_l_with_exports {K : PySem.W.Frag} (c : He.SaysD hfa hfn K) : ∃ fd, FunD K "_law_with_exports" "_law_with_exports" (defArgs s_l_with_exports) (defBody s_l_with_exports) (defScope s_l_with_exports) [] [] (He.ga K "_law_with_exports") fd := c.def_ 28 (d := hd_l_with_exports) rfl
theorem fd_law {K : PySem.W.Frag} (c : He.SaysD hfa hfn K) : ∃ fd, FunD K "law" "law" (defArgs s_law) (defBody s_law) (defScope s_law) [] [] (He.ga K "law") fd := c.def_ 29 (d := hd_law) rfl
theorem fd_Reach_init {K : PySem.W.Frag} (c : He.SaysD hfa hfn K) : ∃ fd, FunD K "__init__" "Reach.__init__" (defArgs s_Reach_init) (defBody s_Reach_init) (defScope s_Reach_init) [] [] (He.ma K (He.ga K "Reach") "__init__") fd := c.def_ 30 (d := hd_Reach_init) rfl
theorem fd_Reach_visit {K : PySem.W.Frag} (c : He.SaysD hfa hfn K) : ∃ fd, FunD K "visit" "Reach.visit" (defArgs s_Reach_visit) (defBody s_Reach_visit) (defScope s_Reach_visit) [] [] (He.ma K (He.ga K "Reach") "visit") fd := c.def_ 31 (d := hd_Reach_visit) rfl
theorem mg_own {K : PySem.W.Frag} {h : Heap} {mg : Str → Option Value} (X : K.In h) (N : h.Ns mainGlobals mg) (c : He.SaysD hfa hfn K) : mg "_own" = some (.ref (He.ga K "_own")) := He.glo_ok X N (c.fact 18 (f := .glo "_own") rfl)
theorem mg_other {K : PySem.W.Frag} {h : Heap} {mg : Str → Option Value} (X : K.In h) (N : h.Ns mainGlobals mg) (c : He.SaysD hfa hfn K) : mg "_other" = some (.ref (He.ga K "_other")) := He.glo_ok X N (c.fact 19 (f := .glo "_other") rfl)
theorem mg_follow {K : PySem.W.Frag} {h : Heap} {mg : Str → Option Value} (X : K.In h) (N : h.Ns mainGlobals mg) (c : He.SaysD hfa hfn K) : mg "follow" = some (.ref (He.ga K "follow")) := He.glo_ok X N (c.fact 20 (f := .glo "follow") rfl)
theorem mg_available {K : PySem.W.Frag} {h : Heap} {mg : Str → Option Value} (X : K.In h) (N : h.Ns mainGlobals mg) (c : He.SaysD hfa hfn K) : mg "available" = some (.ref (He.ga K "available")) := He.glo_ok X N (c.fact 21 (f := .glo "available") rfl)
theorem mg_declaration {K : PySem.W.Frag} {h : Heap} {mg : Str → Option Value} (X : K.In h) (N : h.Ns mainGlobals mg) (c : He.SaysD hfa hfn K) : mg "declaration" = some (.ref (He.ga K "declaration")) := He.glo_ok X N (c.fact 22 (f := .glo "declaration") rfl)
theorem mg_reach {K : PySem.W.Frag} {h : Heap} {mg : Str → Option Value} (X : K.In h) (N : h.Ns mainGlobals mg) (c : He.SaysD hfa hfn K) : mg "reach" = some (.ref (He.ga K "reach")) := He.glo_ok X N (c.fact 23 (f := .glo "reach") rfl)
theorem mg_l_cell {K : PySem.W.Frag} {h : Heap} {mg : Str → Option Value} (X : K.In h) (N : h.Ns mainGlobals mg) (c : He.SaysD hfa hfn K) : mg "_law_cell" = some (.ref (He.ga K "_law_cell")) := He.glo_ok X N (c.fact 24 (f := .glo "_law_cell") rfl)
theorem mg_l_digits {K : PySem.W.Frag} {h : Heap} {mg : Str → Option Value} (X : K.In h) (N : h.Ns mainGlobals mg) (c : He.SaysD hfa hfn K) : mg "_law_digits" = some (.ref (He.ga K "_law_digits")) := He.glo_ok X N (c.fact 25 (f := .glo "_law_digits") rfl)
theorem mg_l_draw {K : PySem.W.Frag} {h : Heap} {mg : Str → Option Value} (X : K.In h) (N : h.Ns mainGlobals mg) (c : He.SaysD hfa hfn K) : mg "_law_draw" = some (.ref (He.ga K "_law_draw")) := He.glo_ok X N (c.fact 26 (f := .glo "_law_draw") rfl)
theorem mg_l_atom {K : PySem.W.Frag} {h : Heap} {mg : Str → Option Value} (X : K.In h) (N : h.Ns mainGlobals mg) (c : He.SaysD hfa hfn K) : mg "_law_atom" = some (.ref (He.ga K "_law_atom")) := He.glo_ok X N (c.fact 27 (f := .glo "_law_atom") rfl)
theorem mg_l_tree {K : PySem.W.Frag} {h : Heap} {mg : Str → Option Value} (X : K.In h) (N : h.Ns mainGlobals mg) (c : He.SaysD hfa hfn K) : mg "_law_tree" = some (.ref (He.ga K "_law_tree")) := He.glo_ok X N (c.fact 28 (f := .glo "_law_tree") rfl)
theorem mg_l_own {K : PySem.W.Frag} {h : Heap} {mg : Str → Option Value} (X : K.In h) (N : h.Ns mainGlobals mg) (c : He.SaysD hfa hfn K) : mg "_law_own" = some (.ref (He.ga K "_law_own")) := He.glo_ok X N (c.fact 29 (f := .glo "_law_own") rfl)
theorem mg_l_imports {K : PySem.W.Frag} {h : Heap} {mg : Str → Option Value} (X : K.In h) (N : h.Ns mainGlobals mg) (c : He.SaysD hfa hfn K) : mg "_law_imports" = some (.ref (He.ga K "_law_imports")) := He.glo_ok X N (c.fact 30 (f := .glo "_law_imports") rfl)
theorem mg_l_usable {K : PySem.W.Frag} {h : Heap} {mg : Str → Option Value} (X : K.In h) (N : h.Ns mainGlobals mg) (c : He.SaysD hfa hfn K) : mg "_law_usable" = some (.ref (He.ga K "_law_usable")) := He.glo_ok X N (c.fact 31 (f := .glo "_law_usable") rfl)
theorem mg_l_calls {K : PySem.W.Frag} {h : Heap} {mg : Str → Option Value} (X : K.In h) (N : h.Ns mainGlobals mg) (c : He.SaysD hfa hfn K) : mg "_law_calls" = some (.ref (He.ga K "_law_calls")) := He.glo_ok X N (c.fact 32 (f := .glo "_law_calls") rfl)
theorem mg_l_module {K : PySem.W.Frag} {h : Heap} {mg : Str → Option Value} (X : K.In h) (N : h.Ns mainGlobals mg) (c : He.SaysD hfa hfn K) : mg "_law_module" = some (.ref (He.ga K "_law_module")) := He.glo_ok X N (c.fact 33 (f := .glo "_law_module") rfl)
theorem mg_l_modules {K : PySem.W.Frag} {h : Heap} {mg : Str → Option Value} (X : K.In h) (N : h.Ns mainGlobals mg) (c : He.SaysD hfa hfn K) : mg "_law_modules" = some (.ref (He.ga K "_law_modules")) := He.glo_ok X N (c.fact 34 (f := .glo "_law_modules") rfl)
theorem mg_l_exports {K : PySem.W.Frag} {h : Heap} {mg : Str → Option Value} (X : K.In h) (N : h.Ns mainGlobals mg) (c : He.SaysD hfa hfn K) : mg "_law_exports" = some (.ref (He.ga K "_law_exports")) := He.glo_ok X N (c.fact 35 (f := .glo "_law_exports") rfl)
theorem mg_l_follow {K : PySem.W.Frag} {h : Heap} {mg : Str → Option Value} (X : K.In h) (N : h.Ns mainGlobals mg) (c : He.SaysD hfa hfn K) : mg "_law_follow" = some (.ref (He.ga K "_law_follow")) := He.glo_ok X N (c.fact 36 (f := .glo "_law_follow") rfl)
theorem mg_l_leads {K : PySem.W.Frag} {h : Heap} {mg : Str → Option Value} (X : K.In h) (N : h.Ns mainGlobals mg) (c : He.SaysD hfa hfn K) : mg "_law_leads" = some (.ref (He.ga K "_law_leads")) := He.glo_ok X N (c.fact 37 (f := .glo "_law_leads") rfl)
theorem mg_l_declared {K : PySem.W.Frag} {h : Heap} {mg : Str → Option Value} (X : K.In h) (N : h.Ns mainGlobals mg) (c : He.SaysD hfa hfn K) : mg "_law_declared" = some (.ref (He.ga K "_law_declared")) := He.glo_ok X N (c.fact 38 (f := .glo "_law_declared") rfl)
theorem mg_l_visit {K : PySem.W.Frag} {h : Heap} {mg : Str → Option Value} (X : K.In h) (N : h.Ns mainGlobals mg) (c : He.SaysD hfa hfn K) : mg "_law_visit" = some (.ref (He.ga K "_law_visit")) := He.glo_ok X N (c.fact 39 (f := .glo "_law_visit") rfl)
theorem mg_l_order {K : PySem.W.Frag} {h : Heap} {mg : Str → Option Value} (X : K.In h) (N : h.Ns mainGlobals mg) (c : He.SaysD hfa hfn K) : mg "_law_order" = some (.ref (He.ga K "_law_order")) := He.glo_ok X N (c.fact 40 (f := .glo "_law_order") rfl)
theorem mg_l_tree_fault {K : PySem.W.Frag} {h : Heap} {mg : Str → Option Value} (X : K.In h) (N : h.Ns mainGlobals mg) (c : He.SaysD hfa hfn K) : mg "_law_tree_fault" = some (.ref (He.ga K "_law_tree_fault")) := He.glo_ok X N (c.fact 41 (f := .glo "_law_tree_fault") rfl)
theorem mg_l_use_fault {K : PySem.W.Frag} {h : Heap} {mg : Str → Option Value} (X : K.In h) (N : h.Ns mainGlobals mg) (c : He.SaysD hfa hfn K) : mg "_law_use_fault" = some (.ref (He.ga K "_law_use_fault")) := He.glo_ok X N (c.fact 42 (f := .glo "_law_use_fault") rfl)
theorem mg_l_line_fault {K : PySem.W.Frag} {h : Heap} {mg : Str → Option Value} (X : K.In h) (N : h.Ns mainGlobals mg) (c : He.SaysD hfa hfn K) : mg "_law_line_fault" = some (.ref (He.ga K "_law_line_fault")) := He.glo_ok X N (c.fact 43 (f := .glo "_law_line_fault") rfl)
theorem mg_l_names_fault {K : PySem.W.Frag} {h : Heap} {mg : Str → Option Value} (X : K.In h) (N : h.Ns mainGlobals mg) (c : He.SaysD hfa hfn K) : mg "_law_names_fault" = some (.ref (He.ga K "_law_names_fault")) := He.glo_ok X N (c.fact 44 (f := .glo "_law_names_fault") rfl)
theorem mg_l_alike {K : PySem.W.Frag} {h : Heap} {mg : Str → Option Value} (X : K.In h) (N : h.Ns mainGlobals mg) (c : He.SaysD hfa hfn K) : mg "_law_alike" = some (.ref (He.ga K "_law_alike")) := He.glo_ok X N (c.fact 45 (f := .glo "_law_alike") rfl)
theorem mg_l_with_exports {K : PySem.W.Frag} {h : Heap} {mg : Str → Option Value} (X : K.In h) (N : h.Ns mainGlobals mg) (c : He.SaysD hfa hfn K) : mg "_law_with_exports" = some (.ref (He.ga K "_law_with_exports")) := He.glo_ok X N (c.fact 46 (f := .glo "_law_with_exports") rfl)
theorem mg_law {K : PySem.W.Frag} {h : Heap} {mg : Str → Option Value} (X : K.In h) (N : h.Ns mainGlobals mg) (c : He.SaysD hfa hfn K) : mg "law" = some (.ref (He.ga K "law")) := He.glo_ok X N (c.fact 47 (f := .glo "law") rfl)
theorem z_0 : ("export" : Str) = S [101, 120, 112, 111, 114, 116] := by decide +kernel
theorem z_1 : ("import" : Str) = S [105, 109, 112, 111, 114, 116] := by decide +kernel
theorem z_2 : ("order" : Str) = S [111, 114, 100, 101, 114] := by decide +kernel
theorem z_3 : ("name" : Str) = S [110, 97, 109, 101] := by decide +kernel
theorem z_4 : ("string" : Str) = S [115, 116, 114, 105, 110, 103] := by decide +kernel
theorem z_5 : ("" : Str) = S [] := by decide +kernel
theorem z_6 : ("s" : Str) = S [115] := by decide +kernel
theorem z_7 : ("t" : Str) = S [116] := by decide +kernel
theorem z_8 : ("ab" : Str) = S [97, 98] := by decide +kernel
theorem z_9 : ("x y" : Str) = S [120, 32, 121] := by decide +kernel
theorem z_10 : ("twelve signs" : Str) = S [116, 119, 101, 108, 118, 101, 32, 115, 105, 103, 110, 115] := by decide +kernel
theorem z_11 : ("number" : Str) = S [110, 117, 109, 98, 101, 114] := by decide +kernel
theorem z_12 : ("+" : Str) = S [43] := by decide +kernel
theorem z_13 : ("-" : Str) = S [45] := by decide +kernel
theorem z_14 : ("*" : Str) = S [42] := by decide +kernel
theorem z_15 : ("<" : Str) = S [60] := by decide +kernel
theorem z_16 : ("=" : Str) = S [61] := by decide +kernel
theorem z_17 : ("if" : Str) = S [105, 102] := by decide +kernel
theorem z_18 : ("p" : Str) = S [112] := by decide +kernel
theorem z_19 : ("q" : Str) = S [113] := by decide +kernel
theorem z_20 : ("set" : Str) = S [115, 101, 116] := by decide +kernel
theorem z_21 : ("then" : Str) = S [116, 104, 101, 110] := by decide +kernel
theorem z_22 : ("call" : Str) = S [99, 97, 108, 108] := by decide +kernel
theorem z_23 : ("x" : Str) = S [120] := by decide +kernel
theorem z_24 : ("let" : Str) = S [108, 101, 116] := by decide +kernel
theorem z_25 : ("y" : Str) = S [121] := by decide +kernel
theorem z_26 : ("k" : Str) = S [107] := by decide +kernel
theorem z_27 : ("keep" : Str) = S [107, 101, 101, 112] := by decide +kernel
theorem z_28 : ("f" : Str) = S [102] := by decide +kernel
theorem z_29 : ("fn" : Str) = S [102, 110] := by decide +kernel
theorem z_30 : ("g" : Str) = S [103] := by decide +kernel
theorem z_31 : ("z" : Str) = S [122] := by decide +kernel
theorem z_32 : ("fg" : Str) = S [102, 103] := by decide +kernel
theorem z_33 : ("xy" : Str) = S [120, 121] := by decide +kernel
theorem z_34 : ("xyk" : Str) = S [120, 121, 107] := by decide +kernel
theorem z_35 : ("do" : Str) = S [100, 111] := by decide +kernel
theorem z_36 : ("hold" : Str) = S [104, 111, 108, 100] := by decide +kernel
theorem z_37 : ("r" : Str) = S [114] := by decide +kernel
theorem z_38 : ("common" : Str) = S [99, 111, 109, 109, 111, 110] := by decide +kernel
theorem z_39 : ("module" : Str) = S [109, 111, 100, 117, 108, 101] := by decide +kernel
theorem z_40 : ("variable" : Str) = S [118, 97, 114, 105, 97, 98, 108, 101] := by decide +kernel
theorem z_41 : ("function" : Str) = S [102, 117, 110, 99, 116, 105, 111, 110] := by decide +kernel
theorem z_42 : ("count" : Str) = S [99, 111, 117, 110, 116] := by decide +kernel
theorem z_43 : ("u" : Str) = S [117] := by decide +kernel
theorem z_44 : ("v" : Str) = S [118] := by decide +kernel
theorem z_45 : ("w" : Str) = S [119] := by decide +kernel
theorem z_46 : ("xa" : Str) = S [120, 97] := by decide +kernel
theorem z_47 : ("fb" : Str) = S [102, 98] := by decide +kernel
theorem z_48 : ("kc" : Str) = S [107, 99] := by decide +kernel
theorem z_49 : ("none" : Str) = S [110, 111, 110, 101] := by decide +kernel
theorem z_50 : ("zz" : Str) = S [122, 122] := by decide +kernel
theorem z_51 : ("uu" : Str) = S [117, 117] := by decide +kernel
theorem z_52 : ("vv" : Str) = S [118, 118] := by decide +kernel
theorem z_53 : ("a" : Str) = S [97] := by decide +kernel
theorem z_54 : ("b" : Str) = S [98] := by decide +kernel
theorem z_55 : ("c" : Str) = S [99] := by decide +kernel
theorem z_56 : ("d" : Str) = S [100] := by decide +kernel
theorem z_57 : ("ya" : Str) = S [121, 97] := by decide +kernel
theorem z_58 : ("xb" : Str) = S [120, 98] := by decide +kernel
theorem z_59 : ("zxa" : Str) = S [122, 120, 97] := by decide +kernel
theorem z_60 : ("zfb" : Str) = S [122, 102, 98] := by decide +kernel
theorem z_61 : ("fa" : Str) = S [102, 97] := by decide +kernel
end K05

/-! k05: names followed -/
namespace K05
open PySem PySem.Spec PyProof.Rows L2 Lg Tok Xp PySem.NumText
local macro_rules | `(tactic| walk_at "ar") => `(tactic| first | omega | (simp; done) | (simp; omega) | (simp only [S_len]; omega) | (simp [Lg.repL_len]; done) | (simp [Lg.repL_len]; omega))
local macro_rules | `(tactic| walk_at "gt") => `(tactic| repeat (first | exact GetAt.here | apply GetAt.there))
local macro_rules | `(tactic| walk_at "st") => `(tactic| repeat (first | exact SetAt.here | apply SetAt.there))
local macro_rules | `(tactic| walk_at "mem") => `(tactic| first | assumption | exact List.mem_cons_self | (apply List.mem_cons_of_mem; walk_at "mem"))
local macro_rules | `(tactic| walk_at "put") => `(tactic| repeat (first | exact Put.here | apply Put.there))
local macro_rules | `(tactic| walk_at "rem") => `(tactic| repeat (first | exact Rem.here | apply Rem.there))
local macro_rules | `(tactic| walk_at "pick") => `(tactic| first | exact Pick.refl | exact Pick.cons (by walk_at "rem") (by walk_at "pick") | (apply Pick.drop; walk_at "pick") | exact Pick.nil)
local macro_rules | `(tactic| walk_at "is") => `(tactic| first | exact Is.int | exact Is.str | exact Is.bl | exact Is.non | assumption | exact Is.dat (by walk_at "mem") | (apply Is.cons; walk_at "is"))
local macro_rules | `(tactic| walk_at "isall") => `(tactic| first | exact IsAll.nil | exact IsAll.cons (by walk_at "is") (by walk_at "isall"))
local macro_rules | `(tactic| walk_at "lsin") => `(tactic| first | assumption | exact LsIn.own (by walk_at "mem") | exact LsIn.dat (by walk_at "mem") | (apply LsIn.cons; walk_at "lsin"))
local macro_rules | `(tactic| walk_at "see") => `(tactic| first | exact See.own (by walk_at "mem") | exact See.is (by walk_at "is"))
local macro_rules | `(tactic| walk_at "w1") => `(tactic| first
  | (with_reducible apply Lg.w_seq)
  | (with_reducible apply Lg.w_asg)
  | ((with_reducible show gName _ _ _ _ _); (with_reducible refine Lg.w_name (by walk_at "st") ?_))
  | ((with_reducible show tVar _ _ _ _); (with_reducible refine Lg.w_var (by walk_at "gt") ?_))
  | (with_reducible apply Lg.w_c)
  | (with_reducible apply Lg.w_op)
  | (with_reducible apply Lg.w_un)
  | (with_reducible apply Lg.w_nil)
  | (with_reducible apply Lg.w_cons)
  | (with_reducible apply Lg.w_call)
  | (with_reducible apply Lg.w_cb)
  | (with_reducible apply Lg.w_tup)
  | (with_reducible apply Lg.w_lst)
  | (with_reducible apply Lg.w_bm)
  | (with_reducible apply Lg.w_bm0)
  | (with_reducible apply Lg.w_sl)
  | (with_reducible apply Lg.w_nopart)
  | (with_reducible apply Lg.w_part)
  | (with_reducible apply Lg.w_isint)
  | (with_reducible apply Lg.w_test)
  | (with_reducible apply Lg.w_tB)
  | (with_reducible apply Lg.w_isbl')
  | (with_reducible apply Lg.w_not)
  | (with_reducible apply Lg.w_tru)
  | (with_reducible apply Lg.w_truI)
  | (with_reducible apply Lg.w_truB)
  | (with_reducible apply Lg.w_ifs)
  | (with_reducible apply Lg.w_next)
  | (with_reducible apply Lg.w_break)
  | (with_reducible apply Lg.w_cont)
  | (with_reducible apply Lg.w_ret)
  | (with_reducible apply Lg.w_retn)
  | (with_reducible apply Lg.w_drop)
  | (with_reducible apply Lg.w_sub)
  | (with_reducible apply Lg.w_gnil)
  | (with_reducible apply Lg.w_gcons)
  | (with_reducible apply Lg.w_ifT)
  | (with_reducible apply Lg.w_ifF)
  | (with_reducible apply Lg.w_add)
  | (with_reducible apply Lg.w_sub2)
  | ((with_reducible show rTimes (V.int _) (V.int _) _ _); (with_reducible refine Lg.w_mulR (by omega) ?_))
  | ((with_reducible show rTimes (V.int _) (V.int _) _ _); (with_reducible refine Lg.w_mulL (by omega) ?_))
  | ((with_reducible show rMod (V.int _) (V.int _) _ _); (with_reducible refine Lg.w_mod (by first | decide | omega) ?_))
  | ((with_reducible show rFdiv (V.int _) (V.int _) _ _); (with_reducible refine Lg.w_fdiv (by first | decide | omega) ?_))
  | (with_reducible apply Lg.w_band)
  | (with_reducible apply Lg.w_lt)
  | (with_reducible apply Lg.w_le)
  | (with_reducible apply Lg.w_gt)
  | (with_reducible apply Lg.w_ge)
  | (with_reducible apply Lg.w_eqI)
  | (with_reducible apply Lg.w_neI)
  | (with_reducible apply Lg.w_intI2)
  | (with_reducible apply Lg.w_neg)
  | (with_reducible apply Lg.w_inSS)
  | (with_reducible apply Lg.w_ninSS)
  | (with_reducible apply Lg.w_inSS')
  | (with_reducible apply Lg.w_neSS)
  | (with_reducible apply Lg.w_strS)
  | (with_reducible apply Lg.w_fldE)
  | (with_reducible apply Lg.w_sfldE)
  | (with_reducible apply Lg.w_makeE)
  | (with_reducible apply Lg.w_methE)
  | (with_reducible apply Lg.w_methSE)
  | (with_reducible apply Lg.w_callS)
  | (with_reducible apply Lg.w_raiseO)
  | (with_reducible apply Lg.w_raiseB)
  | (with_reducible apply Lg.w_try)
  | (with_reducible apply Lg.w_strS)
  | (with_reducible apply Lg.w_eqSS)
  | (with_reducible apply Lg.w_eqS)
  | (with_reducible apply Lg.w_neS)
  | (with_reducible apply Lg.w_isN)
  | (with_reducible apply Lg.w_isR)
  | (with_reducible apply Lg.w_isI)
  | (with_reducible apply Lg.w_isS)
  | (with_reducible apply Lg.w_nsN)
  | (with_reducible apply Lg.w_nsR)
  | (with_reducible apply Lg.w_nsI)
  | (with_reducible apply Lg.w_nsS)
  | (with_reducible apply Lg.w_int)
  | (with_reducible apply Lg.w_intb)
  | (with_reducible apply Lg.w_ord1)
  | (with_reducible apply Lg.w_tyS)
  | (with_reducible apply Lg.w_inSg)
  | (with_reducible apply Lg.w_ninSg)
  | ((with_reducible show NewL _ _ _); (with_reducible refine Lg.w_newL (by assumption) (by walk_at "isall") (by simp) ?_); (intro p' H' hS'))
  | ((with_reducible show NewT _ _ _); (with_reducible refine Lg.w_newT (by assumption) (by walk_at "isall") (by simp) ?_); (intro p' H' hS'))
  | ((with_reducible show TyThen _ _ (V.ref _) _ _); (with_reducible refine Lg.w_tyL (by assumption) (by walk_at "lsin") ?_))
  | ((with_reducible show rLenX _ [V.ref _] _ _); (with_reducible refine Lg.w_lenL (by assumption) (by walk_at "lsin") ?_))
  | ((with_reducible show rLenX _ [V.ref _] _ _); (with_reducible refine Lg.w_lenT (by assumption) (by walk_at "is") ?_))
  | ((with_reducible show spDraw _ _ _ _ _); (with_reducible refine Lg.w_draw (by assumption) (by walk_at "mem") (by first | decide | omega) ?_); (intro k' H' hk0' hk1' hS'))
  | ((with_reducible show rSlX _ (V.ref _) _ _ _ _); (with_reducible refine Lg.w_slL (by assumption) (by walk_at "lsin") ?_); (intro p' H' hS'))
  | ((with_reducible show rListOf _ [V.ref _] _ _); (with_reducible refine Lg.w_listL (by assumption) (by walk_at "lsin") ?_); (intro p' H' hS'))
  | (with_reducible apply Lg.w_for)
  | (with_reducible apply Lg.w_lc)
  | ((with_reducible show iAny _ (tVar _) _ _ _); (with_reducible refine Lg.w_anyVar (by walk_at "gt") ?_))
  | (with_reducible apply Lg.w_anyC)
  | (with_reducible apply Lg.w_vS)
  | (with_reducible apply Lg.w_itS)
  | ((with_reducible show AnyV _ (V.ref _) _ _); (with_reducible refine Lg.w_vL (by assumption) (by walk_at "lsin") ?_))
  | ((with_reducible show AnyL _ (V.ref _) _ _); (with_reducible refine Lg.w_itL (by assumption) (by walk_at "lsin") ?_))
  | ((with_reducible show AnyV _ (V.ref _) _ _); (with_reducible refine Lg.w_vT (by assumption) (by walk_at "is") ?_))
  | ((with_reducible show AnyT _ (V.ref _) _ _); (with_reducible refine Lg.w_itT (by assumption) (by walk_at "is") ?_))
  | ((with_reducible show Enu _ [V.ref _] _ _); (with_reducible refine Lg.w_itE (by assumption) (by walk_at "lsin") ?_))
  | ((with_reducible show rPlus _ (V.ref _) (V.ref _) _ _); (with_reducible refine Lg.w_plusL (by assumption) (by walk_at "lsin") (by walk_at "lsin") (by walk_at "ar") ?_); (intro p' H' hS'))
  | ((with_reducible show rTimes (V.ref _) (V.int _) _ _); (with_reducible refine Lg.w_repLs (by assumption) (by walk_at "lsin") (by walk_at "ar") (by walk_at "ar") (by walk_at "ar") ?_); (intro p' H' hS'))
  | ((with_reducible show rLenX _ [V.str (S _)] _ _); (with_reducible refine Lg.w_lenSS (by walk_at "ar") ?_))
  | ((with_reducible show rLenX _ [V.str _] _ _); (with_reducible refine Lg.w_lenS (by walk_at "ar") ?_))
  | ((with_reducible show rSlX _ (V.str _) _ _ _ _); (with_reducible refine Lg.w_slS (by walk_at "ar") ?_))
  | (with_reducible apply Lg.w_rng1)
  | (with_reducible apply Lg.w_rng2)
  | (with_reducible apply Lg.w_rng3)
  | (with_reducible apply Lg.w_enum)
  | ((with_reducible show Rng1 _ _ _); (with_reducible refine Lg.w_itR1 (by omega) ?_))
  | ((with_reducible show Rng2 _ _ _); (with_reducible refine Lg.w_itR2 (by omega) (by omega) ?_))
  | ((with_reducible show rIx _ (V.ref _) (V.int _) _ _); (with_reducible refine Lg.w_ixN (by assumption) (by walk_at "lsin") (by walk_at "ar") (by walk_at "ar") ?_))
  | ((with_reducible show rPlus _ (V.str (S _)) (V.str (S _)) _ _); (with_reducible refine Lg.w_addSS (by walk_at "ar") ?_))
  | ((with_reducible show rTimes (V.str (S _)) (V.int _) _ _); (with_reducible refine Lg.w_repSS (by walk_at "ar") (by walk_at "ar") (by walk_at "ar") ?_))
  | ((with_reducible show rIsi _ [V.ref _, V.ty "list"] _ _); (with_reducible refine Lg.w_isLL (by assumption) (by walk_at "lsin") ?_))
  | ((with_reducible show rIsi _ [V.ref _, V.ty "tuple"] _ _); (with_reducible refine Lg.w_isTT (by assumption) (by walk_at "is") ?_))
  | (with_reducible apply Lg.w_isII)
  | (with_reducible apply Lg.w_isSI)
  | (with_reducible apply Lg.w_isSS)
  | (with_reducible apply Lg.w_isIS)
  | (with_reducible apply Lg.w_ifexp)
  | (with_reducible apply Lg.w_chain)
  | ((with_reducible show ChainK _ _ _ _ _ _ _); (with_reducible refine Lg.w_chainLe (by (intro R' hR'; walk_at "w"; exact hR')) ?_))
  | ((with_reducible show ChainK _ _ _ _ _ _ _); (with_reducible refine Lg.w_chainLt (by (intro R' hR'; walk_at "w"; exact hR')) ?_))
  | ((with_reducible show tAnd _ _ _ _ _); (with_reducible refine Lg.w_andP (by (intro R' hR'; walk_at "w"; exact hR')) (by (intro hb' R' hR'; walk_at "w"; exact hR')) ?_))
  | ((with_reducible show tOr _ _ _ _ _); (with_reducible refine Lg.w_orP (by (intro R' hR'; walk_at "w"; exact hR')) (by (intro hb' R' hR'; walk_at "w"; exact hR')) ?_))
  | ((with_reducible show tAndV _ _ _ _ _); (with_reducible refine Lg.w_andVP (by (intro R' hR'; walk_at "w"; exact hR')) (by (intro hb' R' hR'; walk_at "w"; exact hR')) ?_))
  | ((with_reducible show tOrV _ _ _ _ _); (with_reducible refine Lg.w_orVP (by (intro R' hR'; walk_at "w"; exact hR')) (by (intro hb' R' hR'; walk_at "w"; exact hR')) ?_))
  | (with_reducible apply Lg.w_notV))
local macro_rules | `(tactic| walk_at "w") => `(tactic| repeat (walk_at "w1"))
local macro_rules | `(tactic| walk_at "k") => `(tactic| repeat (first | walk_at "w1" | ((with_reducible show (if _ = true then _ else _ : Prop)); (first | (refine Lg.w_bt (by first | rfl | decide | (simp; done) | fail) ?_) | (refine Lg.w_bf (by first | rfl | decide | (simp; done) | fail) ?_) | fail))))
local macro_rules | `(tactic| walk_at "z") => `(tactic| simp only [z_0, z_1, z_2, z_3, z_4, z_5, z_6, z_7, z_8, z_9, z_10, z_11, z_12, z_13, z_14, z_15, z_16, z_17, z_18, z_19, z_20, z_21, z_22, z_23, z_24, z_25, z_26, z_27, z_28, z_29, z_30, z_31, z_32, z_33, z_34, z_35, z_36, z_37, z_38, z_39, z_40, z_41, z_42, z_43, z_44, z_45, z_46, z_47, z_48, z_49, z_50, z_51, z_52, z_53, z_54, z_55, z_56, z_57, z_58, z_59, z_60, z_61])
section
variable {K : PySem.W.Frag}
/-! ### names followed (shared) -/
abbrev lnsT (ls : List Ln) : PyData := .tuple (ls.map Ln.d)
def msD (ms : Mods) : KD := ms.map fun p => (p.1, lnsT p.2)
theorem look_ms (k : Nm) : ∀ ms : Mods, lookD (msD ms) k = (lookM ms k).map lnsT
  | [] => rfl
  | p :: r => by
    have ih := look_ms k r
    unfold lookD lookM msD at ih ⊢
    by_cases e : p.1 = k
    · simp [e]
    · simpa [e] using ih
def ownZ : List Nm := [zlet, zkeep, zfn]
theorem tab_own : tab_OWN = ownZ.map S := by decide +kernel
theorem own_tab {K : PySem.W.Frag} (cf : CF K) (H : Hp) : SqT K H (He.ga K "OWN") (sV ownZ) := by
  have h2 := He.tupB_ok cf.t_OWN H
  rw [tab_own] at h2
  exact h2
theorem w_forTA {α : Type} {zs : List α} {c : α → PyData} {xs : List V} {a : Addr} {σ : L2.St} {H : Hp} {g : TG} {tbody : TS} {D : Ends} (hx : xs.length = zs.length) (I : Nat → L2.St → Hp → Prop) (h0 : I 0 σ H)
    (hI : ∀ i σ H, i ≤ zs.length → I i σ H → ∃ L, St K L H ∧ Ent.fact (Fr.tupf K a xs (zs.map c)) ∈ L)
    (hs : ∀ i z v σ H, zs[i]? = some z → I i σ H → (∀ L, St K L H → Ent.fact (Fr.tupf K a xs (zs.map c)) ∈ L → St K (.dat v (c z) :: L) H) → g v σ H fun σ2 H2 => tbody { D with nx := I (i + 1), ct := I (i + 1), bk := D.nx } σ2 H2)
    (hd : ∀ σ H, I zs.length σ H → D.nx σ H) : ForW (Itt K a) g tbody D σ H := by
  refine w_forT (ds := zs.map c) (xs := xs) (by rw [List.length_map]; exact hx) I h0 (fun i σ H hi hI' => ?_) (fun i d v σ H hd' hv hI' => ?_) (fun σ H h => hd σ H (by rw [List.length_map] at h; exact h))
  · obtain ⟨L, hS, hm⟩ := hI i σ H (by rw [List.length_map] at hi; exact hi) hI'
    exact (hS.tf hm).1
  · obtain ⟨z, hz, rfl⟩ := map_at hd'
    exact hs i z v σ H hz hI' fun L hS hm => (hS.tf hm).2.2 i _ v hd' hv
theorem ln_hd {L : List Ent} {H : Hp} {v : V} {l : Ln} (hS : St K L H) (hm : Lg.dat v l.d ∈ L) : ∃ q ds, v = .ref q ∧ Lg.dat (.ref q) (.tuple (sD l.w :: ds)) ∈ L ∧ (∀ z, l.nm1 = some z → l.w ∈ ownZ ∧ ∃ es, ds = sD z :: es) ∧ (l.nm1 = none → l.w ∉ ownZ) := by
  cases l with
  | nms ex ps m => rw [Ln.d] at hm; obtain ⟨q, rfl⟩ := (hS.learn (.dat hm)).tup_of; exact ⟨q, _, rfl, hm, fun z h => (by cases h), fun _ => (by cases ex <;> simp [Ln.w, ownZ])⟩
  | var kp x t => rw [Ln.d] at hm; obtain ⟨q, rfl⟩ := (hS.learn (.dat hm)).tup_of; exact ⟨q, _, rfl, hm, fun z h => (by cases h; exact ⟨(by cases kp <;> simp [Ln.w, ownZ]), _, rfl⟩), fun h => (by cases h)⟩
  | fn f ps t => rw [Ln.d] at hm; obtain ⟨q, rfl⟩ := (hS.learn (.dat hm)).tup_of; exact ⟨q, _, rfl, hm, fun z h => (by cases h; exact ⟨(by simp [Ln.w, ownZ]), _, rfl⟩), fun h => (by cases h)⟩
  | run hd t => rw [Ln.d] at hm; obtain ⟨q, rfl⟩ := (hS.learn (.dat hm)).tup_of; exact ⟨q, _, rfl, hm, fun z h => (by cases h), fun _ => (by cases hd <;> simp [Ln.w, ownZ])⟩
def spOwn (K : PySem.W.Frag) : Sp := fun vs H Q _ => ∃ (L : List Ent) (v : V) (ls : List Ln) (n : Nm), vs = [v, .str (S n)] ∧ St K L H ∧ Lg.dat v (lnsT ls) ∈ L ∧ ∀ w H', St K (Lg.dat w (lnD (ownLn ls n)) :: L) H' → Q w H'
theorem p_own (cf : CF K) (vs : List V) (H : Hp) (Q : VK) (E : XK) (h : spOwn K vs H Q E) : vs.length = 2 ∧ t_own K { nx := fun _ H' => Q .non H', rt := Q } (start N_own vs) H := by
  obtain ⟨L, v, ls, n, rfl, hS, hm, hQ⟩ := h
  refine ⟨rfl, ?_⟩
  unfold t_own
  obtain ⟨p, rfl⟩ := (hS.learn (.dat hm)).tup_of
  obtain ⟨xs, _, hS0⟩ := hS.tupF (.dat hm)
  have hxl := (hS0.tf (.head _)).2.1
  rw [List.length_map] at hxl
  have hS1 := hS0.tupK (ys := ownZ) (own_tab cf)
  show tSeq _ _ _ [some (.ref p), some (.str (S n)), none] H
  clear hS0 hS
  walk_at "w"
  refine w_forTA (zs := ls) (c := Ln.d) hxl (fun i σ H' => (∃ v2, σ = [some (.ref p), some (.str (S n)), v2]) ∧ St K (Lg.dat (.ref (He.ga K "OWN")) (.tuple (ownZ.map fun y => PyData.str (S y))) :: Ent.fact (Fr.tupf K p xs (ls.map Ln.d)) :: L) H' ∧ ownLn ls n = ownLn (ls.drop i) n)
    ⟨⟨_, rfl⟩, hS1, rfl⟩ (fun i σ H' _ hI => ⟨_, hI.2.1, .tail _ (.head _)⟩) ?_ ?_
  · rintro i l v σ H2 hl ⟨⟨v2, rfl⟩, hS2, hf⟩ more
    have hS3 := more _ hS2 (.tail _ (.head _))
    obtain ⟨q, ds, rfl, hml, h1, h2⟩ := ln_hd hS3 (.head _)
    have e1 : ls.drop i = l :: ls.drop (i + 1) := by
      rw [(List.getElem?_eq_some_iff.mp hl).2.symm, List.getElem_cons_drop]
    rw [e1] at hf
    clear hS1
    walk_at "w"
    have rest : l.nm1 ≠ some n → (∃ v2, [some (V.ref p), some (V.str (S n)), some (V.ref q)] = [some (V.ref p), some (V.str (S n)), v2]) ∧ St K (Lg.dat (.ref (He.ga K "OWN")) (.tuple (ownZ.map fun y => PyData.str (S y))) :: Ent.fact (Fr.tupf K p xs (ls.map Ln.d)) :: L) H2 ∧ ownLn ls n = ownLn (ls.drop (i + 1)) n := fun hne => by
      refine ⟨⟨_, rfl⟩, hS2, ?_⟩
      rw [hf]
      unfold ownLn
      rw [List.find?_cons]
      simp [hne]
    refine w_and ?_
    walk_at "w"
    refine w_ixTs (k := 0) (m := S l.w) hS3 (.dat hml) rfl rfl ?_
    walk_at "w"
    refine w_inTS (ys := ownZ) hS3 (.dat (.tail _ (.head _))) ?_
    walk_at "w"
    refine w_ifd (fun h3 => ?_) (fun h3 => ?_)
    · cases hn1 : l.nm1 with
      | none => exact absurd h3 (h2 hn1)
      | some z =>
        obtain ⟨_, es, rfl⟩ := h1 z hn1
        walk_at "w"
        refine w_ixTs (k := 1) (m := S z) hS3 (.dat hml) rfl rfl ?_
        walk_at "w"
        refine w_ifd (fun h4 => ?_) (fun h4 => ?_)
        · walk_at "w"
          refine hQ _ _ ?_
          have e : ownLn ls n = some l := by
            rw [hf]
            unfold ownLn
            rw [List.find?_cons]
            simp [hn1, h4]
          rw [e]
          exact hS3.to (by walk_at "pick")
        · walk_at "w"
          exact rest (by rw [hn1]; exact fun e => h4 (by injection e))
    · walk_at "w"
      exact rest (fun e => h3 (h1 n e).1)
  · rintro σ H2 ⟨⟨v2, rfl⟩, hS2, hf⟩
    rw [List.drop_length] at hf
    walk_at "w"
    refine hQ _ _ ?_
    rw [hf]
    exact (hS2.to (L' := L) (by walk_at "pick")).learn .non
end

/-! k05: names followed -/
section
variable {K : PySem.W.Frag}
/-! ### names of imports and exports; follow, available (shared) -/
def spOther (K : PySem.W.Frag) : Sp := fun vs H Q _ => ∃ (L : List Ent) (v : V) (ls : List Ln) (ex : Bool) (n : Nm), vs = [v, .str (S (if ex then zexport else zimport)), .str (S n)] ∧ St K L H ∧ Lg.dat v (lnsT ls) ∈ L ∧ ∀ w H', St K (Lg.dat w (Xp.pairD (otherLn ex n ls)) :: L) H' → Q w H'
theorem p_other (vs : List V) (H : Hp) (Q : VK) (E : XK) (h : spOther K vs H Q E) : vs.length = 3 ∧ t_other K { nx := fun _ H' => Q .non H', rt := Q } (start N_other vs) H := by
  obtain ⟨L, v, ls, ex, n, rfl, hS, hm, hQ⟩ := h
  refine ⟨rfl, ?_⟩
  unfold t_other
  obtain ⟨p, rfl⟩ := (hS.learn (.dat hm)).tup_of
  obtain ⟨xs, _, hS0⟩ := hS.tupF (.dat hm)
  have hxl := (hS0.tf (.head _)).2.1
  rw [List.length_map] at hxl
  show tSeq _ _ _ [some (.ref p), some (.str (S (if ex then zexport else zimport))), some (.str (S n)), none, none, none] H
  have hwz : ∀ b : Bool, (if b then zexport else zimport) = (if ex then zexport else zimport) ↔ b = ex := fun b => by cases b <;> cases ex <;> simp
  generalize hw : (if ex then zexport else zimport) = wd at hwz ⊢
  have hwo : ∀ z ∈ [zlet, zkeep, zfn, zdo, zhold], z ≠ wd := fun z hz => by
    subst hw
    simp at hz
    rcases hz with rfl | rfl | rfl | rfl | rfl <;> cases ex <;> decide
  clear hS
  walk_at "w"
  refine w_forTA (zs := ls) (c := Ln.d) hxl (fun i σ H' => (∃ v3 v4 v5, σ = [some (.ref p), some (.str (S wd)), some (.str (S n)), v3, v4, v5]) ∧ St K (Ent.fact (Fr.tupf K p xs (ls.map Ln.d)) :: L) H' ∧ otherLn ex n ls = otherLn ex n (ls.drop i))
    ⟨⟨_, _, _, rfl⟩, hS0, rfl⟩ (fun i σ H' _ hI => ⟨_, hI.2.1, .head _⟩) ?_ ?_
  · rintro i l v σ H2 hl ⟨⟨v3, v4, v5, rfl⟩, hS2, hf⟩ more
    have hS3 := more _ hS2 (.head _)
    obtain ⟨q, ds, rfl, hml, _, _⟩ := ln_hd hS3 (.head _)
    have e1 : ls.drop i = l :: ls.drop (i + 1) := by
      rw [(List.getElem?_eq_some_iff.mp hl).2.symm, List.getElem_cons_drop]
    rw [e1] at hf
    clear hS0
    walk_at "w"
    refine w_ixTs (k := 0) (m := S l.w) hS3 (.dat hml) rfl rfl ?_
    walk_at "w"
    have skip : (∀ ps m, l ≠ .nms ex ps m) → otherLn ex n ls = otherLn ex n (ls.drop (i + 1)) := fun h => by
      rw [hf]
      cases l with
      | nms e ps m =>
        rw [otherLn, if_neg fun h2 => h ps m (by rw [h2])]
      | var _ _ _ => rfl
      | fn _ _ _ => rfl
      | run _ _ => rfl
    refine w_ifd (fun h3 => ?_) (fun h3 => ?_)
    rotate_left
    · walk_at "w"
      refine ⟨⟨_, _, _, rfl⟩, hS2, skip fun ps m e => h3 ?_⟩
      subst e
      exact hw
    cases l with
    | var kp x t => exact absurd h3 (by cases kp <;> exact hwo _ (by simp [Ln.w]))
    | fn f ps t => exact absurd h3 (hwo _ (by simp [Ln.w]))
    | run hd t => exact absurd h3 (by cases hd <;> exact hwo _ (by simp [Ln.w]))
    | nms e ps m =>
      have he : e = ex := (hwz e).mp h3
      subst he
      rw [otherLn, if_pos rfl] at hf
      have hS4 := hS3
      rw [Ln.d] at hS4
      clear hml
      walk_at "w"
      refine w_anyT1 ?_
      walk_at "w"
      refine w_ixT (k := 1) hS4 (.dat (.head _)) rfl rfl fun v1 hS5 => ?_
      obtain ⟨q5, rfl⟩ := hS5.tup_of
      refine w_itT hS5 (.dat (.head _)) ?_
      obtain ⟨ys, _, hS6⟩ := hS5.tupF (.dat (.head _))
      have hyl := (hS6.tf (.head _)).2.1
      rw [List.length_map] at hyl
      have hS7 := hS6.to (L' := Ent.fact (Fr.tupf K q5 ys (ps.map Xp.prD)) :: Lg.dat (.ref q) (.tuple [smD (if e then zexport else zimport), .tuple (ps.map Xp.prD), smD m]) :: Ent.fact (Fr.tupf K p xs (ls.map Ln.d)) :: L) (by walk_at "pick")
      clear hS4 hS5 hS6 hS3
      refine w_forTA (zs := ps) (c := Xp.prD) hyl (fun j σ H' => (∃ v4 v5, σ = [some (.ref p), some (.str (S wd)), some (.str (S n)), some (.ref q), v4, v5]) ∧ St K (Ent.fact (Fr.tupf K q5 ys (ps.map Xp.prD)) :: Lg.dat (.ref q) (.tuple [smD (if e then zexport else zimport), .tuple (ps.map Xp.prD), smD m]) :: Ent.fact (Fr.tupf K p xs (ls.map Ln.d)) :: L) H' ∧ (ps.find? fun p => decide (p.2 = n)) = (ps.drop j).find? fun p => decide (p.2 = n))
        ⟨⟨_, _, rfl⟩, hS7, rfl⟩ (fun i σ H' _ hI => ⟨_, hI.2.1, .head _⟩) ?_ ?_
      · rintro j pr v σ H8 hpr ⟨⟨w4, w5, rfl⟩, hS8, hg⟩ more2
        have hS9 := more2 _ hS8 (.head _)
        have e2 : ps.drop j = pr :: ps.drop (j + 1) := by
          rw [(List.getElem?_eq_some_iff.mp hpr).2.symm, List.getElem_cons_drop]
        rw [e2, List.find?_cons] at hg
        obtain ⟨qp, rfl⟩ := hS9.tup_of
        clear hS7
        refine w_unpT2 (d1 := smD pr.1) (d2 := smD pr.2) hS9 (.dat (.head _)) fun u1 u2 hSa => ?_
        obtain rfl := hSa.str_of
        obtain rfl := hSa.tail.str_of
        have hSb := hSa.tail.tail.tail
        clear hS8 hS9 hSa
        walk_at "w"
        refine w_ifd (fun h5 => ?_) (fun h5 => ?_)
        · rw [decide_eq_true h5] at hg
          walk_at "w"
          refine w_ixTs (k := 2) (m := S m) hSb (.dat (.tail _ (.head _))) rfl rfl ?_
          walk_at "w"
          rename_i qc Hc hSc
          refine hQ _ _ ?_
          rw [hf, hg]
          exact hSc.to (by walk_at "pick")
        · rw [decide_eq_false h5] at hg
          walk_at "w"
          exact ⟨⟨_, _, rfl⟩, hSb, hg⟩
      · rintro σ H8 ⟨⟨w4, w5, rfl⟩, hS8, hg⟩
        rw [List.drop_length] at hg
        refine ⟨⟨_, _, _, rfl⟩, hS8.to (by walk_at "pick"), ?_⟩
        rw [hf, hg]
        rfl
  · rintro σ H2 ⟨⟨v3, v4, v5, rfl⟩, hS2, hf⟩
    rw [List.drop_length] at hf
    walk_at "w"
    refine hQ _ _ ?_
    rw [hf]
    exact (hS2.to (L' := L) (by walk_at "pick")).learn .non
end

/-! k05: names followed -/
section
variable {K : PySem.W.Frag}
/-! ### declaration, follow, available (shared) -/
def spDecl (K : PySem.W.Frag) : Sp := fun vs H Q _ => ∃ (L : List Ent) (a : Addr) (v : V) (ms : Mods) (b : Nm × Nm) (ls : List Ln), vs = [.ref a, v] ∧ St K L H ∧ Lg.dks K a (msD ms) ∈ L ∧ Lg.dat v (Xp.prD b) ∈ L ∧ lookM ms b.1 = some ls ∧ ∀ w H', St K (Lg.dat w (lnD (ownLn ls b.2)) :: L) H' → Q w H'
theorem p_declaration (vs : List V) (H : Hp) (Q : VK) (E : XK) (h : spDecl K vs H Q E) : vs.length = 2 ∧ t_declaration K (spOwn K) { nx := fun _ H' => Q .non H', rt := Q } (start N_declaration vs) H := by
  obtain ⟨L, a, v, ms, b, ls, rfl, hS, hm, hb, hl, hQ⟩ := h
  refine ⟨rfl, ?_⟩
  unfold t_declaration
  obtain ⟨p, rfl⟩ := (hS.learn (.dat hb)).tup_of
  show tRet _ _ [some (.ref a), some (.ref p)] H
  walk_at "w"
  refine w_dgetE ?_
  walk_at "w"
  refine w_ixTs (k := 0) (m := S b.1) hS (.dat hb) rfl rfl ?_
  obtain ⟨o, h1, _, h3⟩ := hS.dget hm b.1
  obtain ⟨w, rfl, hS1⟩ := h3 (lnsT ls) (by rw [look_ms, hl]; rfl)
  refine ⟨_, w, rfl, h1, ?_⟩
  walk_at "w"
  refine w_ixTs (k := 1) (m := S b.2) hS1 (.dat (.tail _ hb)) rfl rfl ?_
  walk_at "w"
  exact ⟨_, w, ls, b.2, rfl, hS1, .head _, fun u H2 hS2 => hQ _ _ (hS2.to (by walk_at "pick"))⟩
theorem put_new {α : Type} [DecidableEq α] {kds : KDt α} {k : α} {d : PyData} (h : lookD kds k = none) : putD kds k d = kds ++ [(k, d)] := by
  unfold putD
  rw [if_neg]
  intro h2
  obtain ⟨p, hp, e⟩ := List.any_eq_true.mp h2
  unfold lookD at h
  cases hf : kds.find? fun p => decide (p.1 = k) with
  | none =>
    have := List.find?_eq_none.mp hf p hp
    exact this e
  | some q => rw [hf] at h; cases h
def knD (kn : List (Nm × Nm)) : KD2 := kn.map fun p => (p, .bool true)
theorem look_kn (x : Nm × Nm) : ∀ kn : List (Nm × Nm), (lookD (knD kn) x).isSome = decide (x ∈ kn)
  | [] => by simp [knD, lookD]
  | y :: r => by
    have ih := look_kn x r
    unfold lookD knD at ih ⊢
    by_cases e : y = x
    · simp [e]
    · have e2 : ¬ x = y := fun h => e h.symm
      simpa [e, e2] using ih
/-- the lines of a module, or none -/
theorem lines_get {L : List Ent} {H : Hp} {a : Addr} {ms : Mods} {z : V} (m : Nm) (hS : St K L H) (hm : Lg.dks K a (msD ms) ∈ L) (hz : Lg.dat z (.tuple []) ∈ L) : ∃ o : Option V, DGet H a (.str (S m)) o ∧ St K (Lg.dat (o.getD z) (lnsT (linesM ms m)) :: L) H := by
  obtain ⟨o, h1, h2, h3⟩ := hS.dget hm m
  rw [look_ms] at h2 h3
  cases e : lookM ms m with
  | none =>
    rw [e] at h2
    have : o = none := by cases o <;> simp at h2; rfl
    subst this
    refine ⟨none, h1, ?_⟩
    have e2 : linesM ms m = [] := by unfold linesM; rw [e]; rfl
    rw [e2]
    exact hS.learn (.dat hz)
  | some ls =>
    rw [e] at h3
    obtain ⟨v, rfl, hS2⟩ := h3 _ rfl
    refine ⟨some v, h1, ?_⟩
    have e2 : linesM ms m = ls := by unfold linesM; rw [e]; rfl
    rw [e2]
    exact hS2
def bindD (b : Option (Nm × Nm)) : PyData := Xp.pairD b
def spFollow (K : PySem.W.Frag) : Sp := fun vs H Q _ => ∃ (L : List Ent) (a : Addr) (ms : Mods) (m n : Nm), vs = [.ref a, .str (S m), .str (S n)] ∧ St K L H ∧ Lg.dks K a (msD ms) ∈ L ∧ (cands ms).length ≤ 90000 ∧ ∀ w H', St K (Lg.dat w (Xp.pairD (followM ms m n)) :: L) H' → Q w H'
theorem p_follow (vs : List V) (H : Hp) (Q : VK) (E : XK) (h : spFollow K vs H Q E) : vs.length = 3 ∧ t_follow K (spOther K) (spOwn K) { nx := fun _ H' => Q .non H', rt := Q } (start N_follow vs) H := by
  obtain ⟨L, a, ms, m0, n0, rfl, hS, hm, hc, hQ⟩ := h
  refine ⟨rfl, ?_⟩
  unfold t_follow
  walk_at "z"
  show tSeq _ _ _ [some (.ref a), some (.str (S m0)), some (.str (S n0)), none, none, none] H
  walk_at "w"
  refine w_dnewT hS fun q H1 hS1 => ?_
  walk_at "w"
  refine w_whileN (fun k σ H => ∃ kn m n v4 v5, σ = [some (.ref a), some (.str (S m)), some (.str (S n)), some (.ref q), v4, v5] ∧ St K (dkt K q (knD kn) :: L) H ∧ kn.length + k ≤ (cands ms).length + 2 ∧ followF ms k kn m n = some (followM ms m0 n0)) ((cands ms).length + 2)
    ⟨[], m0, n0, none, none, rfl, hS1, by simp, follow_is ms m0 n0⟩ ?_
  rintro k σ H2 ⟨kn, m, n, v4, v5, rfl, hS2, hk, hf⟩
  clear hS1 hS
  cases k with
  | zero => cases hf
  | succ k =>
  rw [followF] at hf
  refine w_tB ?_
  refine w_dninE (w_tup (w_cons (w_var (by walk_at "gt") (w_cons (w_var (by walk_at "gt") (w_nil ?_))))))
  refine w_newTr hS2 (by simp) fun b H3 hS3 => ?_
  refine w_var (by walk_at "gt") ?_
  obtain ⟨o, h1, h2, _⟩ := hS3.dgetT (kp := (m, n)) (kdt := knD kn) (a := q) (.tail _ (.head _)) (.head _)
  refine ⟨q, o, rfl, h1, ?_⟩
  rw [h2, look_kn]
  have hS4 := hS3.tail
  clear hS2 hS3 h1 h2
  walk_at "w"
  refine w_wbn (fun hc1 => ?_) (fun hc1 => ?_)
  rotate_left
  · have hin : (m, n) ∈ kn := by simpa using hc1
    rw [if_pos hin] at hf
    walk_at "w"
    refine hQ _ _ ?_
    rw [← Option.some.inj hf]
    exact (hS4.tail).learn .non
  have hin : (m, n) ∉ kn := by simpa using hc1
  rw [if_neg hin] at hf
  refine w_seq (w_dputE (w_c (w_var (by walk_at "gt") (w_tup (w_cons (w_var (by walk_at "gt") (w_cons (w_var (by walk_at "gt") (w_nil ?_)))))))))
  refine w_newTr hS4 (by simp) fun b2 H5 hS5 => ?_
  have hl0 : lookD (knD kn) (m, n) = none := by
    have := look_kn (m, n) kn
    rw [decide_eq_false hin] at this
    cases h : lookD (knD kn) (m, n) with
    | none => rfl
    | some d => rw [h] at this; cases this
  obtain ⟨H6, h1, hS6⟩ := w_dputT (kp := (m, n)) (d := .bool true) hS5 (.there .here) (.head _) (v := .bl true) .bl (by simp [knD]; omega)
  refine ⟨q, H6, rfl, h1, ?_⟩
  rw [put_new hl0] at hS6
  have hS7 : St K (dkt K q (knD (kn ++ [(m, n)])) :: L) H6 := by
    have e : knD (kn ++ [(m, n)]) = knD kn ++ [((m, n), .bool true)] := by unfold knD; rw [List.map_append]; rfl
    rw [e]
    exact hS6.to (by walk_at "pick")
  clear hS4 hS5 hS6 h1 hl0
  walk_at "w"
  refine w_dget2E ?_
  refine w_var (by walk_at "gt") ?_
  refine ⟨a, rfl, hS7.isD (.tail _ hm), ?_⟩
  walk_at "w"
  rename_i qt H8 hS8
  obtain ⟨o, h1, hS9⟩ := lines_get m hS8 (.tail _ (.tail _ hm)) (.head _)
  refine ⟨o, h1, ?_⟩
  generalize o.getD (.ref qt) = lv at hS9
  have hSa := hS9.to (L' := Lg.dat lv (lnsT (linesM ms m)) :: dkt K q (knD (kn ++ [(m, n)])) :: L) (by walk_at "pick")
  clear hS7 hS8 hS9 h1
  walk_at "w"
  refine ⟨_, lv, linesM ms m, n, rfl, hSa, .head _, fun w Hb hSb => ?_⟩
  cases ho : ownLn (linesM ms m) n with
  | some l =>
    rw [ho] at hSb hf
    have hvr : ∃ qv, w = .ref qv := by cases l <;> exact hSb.tup_of
    obtain ⟨qv, rfl⟩ := hvr
    clear hSa
    walk_at "w"
    rename_i qc Hc hSc
    refine hQ _ _ ?_
    rw [← Option.some.inj (show some (some (m, n)) = some (followM ms m0 n0) from hf)]
    exact hSc.to (by walk_at "pick")
  | none =>
    rw [ho] at hSb hf
    replace hf : (match otherLn true n (linesM ms m) with
      | none => some none
      | some (m', n') => followF ms k (kn ++ [(m, n)]) m' n') = some (followM ms m0 n0) := hf
    have hw : w = .non := hSb.non_of
    subst hw
    have hSa2 := hSb.tail
    clear hSb hSa
    walk_at "w"
    refine ⟨_, lv, linesM ms m, true, n, rfl, hSa2, .head _, fun w Hb hSb => ?_⟩
    clear hSa2
    cases h3 : otherLn true n (linesM ms m) with
    | none =>
      rw [h3] at hSb hf
      have hw : w = .non := hSb.non_of
      subst hw
      walk_at "w"
      refine hQ _ _ ?_
      rw [← Option.some.inj (show some none = some (followM ms m0 n0) from hf)]
      exact (hSb.to (L' := L) (by walk_at "pick")).learn .non
    | some r =>
      obtain ⟨m', n'⟩ := r
      rw [h3] at hSb hf
      replace hf : followF ms k (kn ++ [(m, n)]) m' n' = some (followM ms m0 n0) := hf
      obtain ⟨qv, rfl⟩ := hSb.tup_of
      walk_at "w"
      refine w_unpT2 (d1 := smD m') (d2 := smD n') hSb (.dat (.head _)) fun u1 u2 hSc => ?_
      obtain rfl := hSc.str_of
      obtain rfl := hSc.tail.str_of
      have hSd := hSc.to (L' := dkt K q (knD (kn ++ [(m, n)])) :: L) (by walk_at "pick")
      clear hSb hSc
      walk_at "w"
      exact ⟨k, Nat.lt_succ_self _, kn ++ [(m, n)], m', n', _, _, rfl, hSd, by simp; omega, hf⟩
def spAvail (K : PySem.W.Frag) : Sp := fun vs H Q _ => ∃ (L : List Ent) (a : Addr) (ms : Mods) (m n : Nm), vs = [.ref a, .str (S m), .str (S n)] ∧ St K L H ∧ Lg.dks K a (msD ms) ∈ L ∧ (cands ms).length ≤ 90000 ∧ ∀ w H', St K (Lg.dat w (Xp.pairD (availM ms m n)) :: L) H' → Q w H'
theorem p_available (vs : List V) (H : Hp) (Q : VK) (E : XK) (h : spAvail K vs H Q E) : vs.length = 3 ∧ t_available K (spFollow K) (spOther K) (spOwn K) { nx := fun _ H' => Q .non H', rt := Q } (start N_available vs) H := by
  obtain ⟨L, a, ms, m, n, rfl, hS, hm, hc, hQ⟩ := h
  refine ⟨rfl, ?_⟩
  unfold t_available
  walk_at "z"
  show tSeq _ _ _ [some (.ref a), some (.str (S m)), some (.str (S n)), none, none] H
  walk_at "w"
  refine w_dget2E ?_
  refine w_var (by walk_at "gt") ?_
  refine ⟨a, rfl, hS.isD hm, ?_⟩
  walk_at "w"
  rename_i qt H8 hS8
  obtain ⟨o, h1, hS9⟩ := lines_get m hS8 (.tail _ hm) (.head _)
  refine ⟨o, h1, ?_⟩
  generalize o.getD (.ref qt) = lv at hS9
  have hSa := hS9.to (L' := Lg.dat lv (lnsT (linesM ms m)) :: L) (by walk_at "pick")
  clear hS hS8 hS9 h1
  walk_at "w"
  refine ⟨_, lv, linesM ms m, n, rfl, hSa, .head _, fun w Hb hSb => ?_⟩
  unfold availM at hQ
  cases ho : ownLn (linesM ms m) n with
  | some l =>
    rw [ho] at hSb hQ
    have hvr : ∃ qv, w = .ref qv := by cases l <;> exact hSb.tup_of
    obtain ⟨qv, rfl⟩ := hvr
    clear hSa
    walk_at "w"
    rename_i qc Hc hSc
    exact hQ _ _ (hSc.to (by walk_at "pick"))
  | none =>
    rw [ho] at hSb hQ
    have hw : w = .non := hSb.non_of
    subst hw
    have hSa2 := hSb.tail
    clear hSb hSa
    walk_at "w"
    refine ⟨_, lv, linesM ms m, false, n, rfl, hSa2, .head _, fun w Hb hSb => ?_⟩
    clear hSa2
    cases h3 : otherLn false n (linesM ms m) with
    | none =>
      rw [h3] at hSb hQ
      have hw : w = .non := hSb.non_of
      subst hw
      walk_at "w"
      exact hQ _ _ ((hSb.to (L' := L) (by walk_at "pick")).learn .non)
    | some r =>
      obtain ⟨m', n'⟩ := r
      rw [h3] at hSb hQ
      obtain ⟨qv, rfl⟩ := hSb.tup_of
      walk_at "w"
      refine w_ixTs (k := 0) (m := S m') hSb (.dat (.head _)) rfl rfl ?_
      walk_at "w"
      refine w_ixTs (k := 1) (m := S n') hSb (.dat (.head _)) rfl rfl ?_
      walk_at "w"
      refine ⟨_, a, ms, m', n', rfl, hSb, .tail _ (.tail _ hm), hc, fun u Hd hSd => ?_⟩
      exact hQ _ _ (hSd.to (by walk_at "pick"))
end

/-! k05: trees drawn -/
section
variable {K : PySem.W.Frag}
def okS (l : List Nat) : Bool := decide (l.length ≤ 20) && (!decide (34 ∈ l) && l.all fun c => decide (c < 1114112))
theorem okS_ok {l : List Nat} (h : okS l = true) : (Tk.s l).ok := by
  unfold okS at h
  simp only [Bool.and_eq_true, decide_eq_true_eq, Bool.not_eq_true', decide_eq_false_iff_not, List.all_eq_true] at h
  exact ⟨h.1, h.2.1, h.2.2⟩
/-! ### the law's own trees and their texts (shared) -/
/-! ### trees whose strings hold no comma and no end of line -/
structure TN (n : Nat) (t : Tr) : Prop where
  o : TO n t
  c : t.nc
theorem TN.num {n k : Nat} (h : k < 100000) : TN (n + 1) (.num k) := ⟨.num h, trivial⟩
theorem TN.str {n : Nat} {z : List Nat} (h : Tk.ok (.s z) ∧ 44 ∉ z ∧ 10 ∉ z) : TN (n + 1) (.str z) := ⟨.str h.1, h.2⟩
theorem TN.nam {n : Nat} {z : List Nat} (h : isName z = true) : TN (n + 1) (.nam z) := ⟨.nam h, h⟩
theorem TN.op {n c : Nat} {l r : Tr} (h : c ∈ [43, 45, 42, 60, 61]) (hl : TN n l) (hr : TN n r) : TN (n + 1) (.op c l r) := ⟨.op h hl.o hr.o, ⟨h, hl.c, hr.c⟩⟩
theorem TN.ite {n : Nat} {a b c : Tr} (ha : TN n a) (hb : TN n b) (hc : TN n c) : TN (n + 1) (.ite a b c) := ⟨.ite ha.o hb.o hc.o, ⟨ha.c, hb.c, hc.c⟩⟩
theorem TN.set {n : Nat} {z : List Nat} {e : Tr} (h : isName z = true) (he : TN n e) : TN (n + 1) (.set z e) := ⟨.set h he.o, ⟨h, he.c⟩⟩
theorem TN.thn {n : Nat} {a b : Tr} (ha : TN n a) (hb : TN n b) : TN (n + 1) (.thn a b) := ⟨.thn ha.o hb.o, ⟨ha.c, hb.c⟩⟩
theorem TN.call {n : Nat} {z : List Nat} {ts : List Tr} (h : isName z = true) (hn : ts.length ≤ 3) (ht : ∀ t ∈ ts, TN n t) : TN (n + 1) (.call z ts) := ⟨.call h hn fun t m => (ht t m).o, ⟨h, ncs_all.mpr fun t m => (ht t m).c⟩⟩
theorem TN.le {n m : Nat} {t : Tr} (h : TN n t) (hm : n ≤ m) : TN m t := ⟨h.o.le hm, h.c⟩
def spAlike (K : PySem.W.Frag) : Sp := fun vs H Q _ => ∃ (x y : V) (d : PyData) (n w : Nat), vs = [x, y] ∧ Dp K H x d ∧ Dp K H y d ∧ Shw n w d ∧ n ≤ 60 ∧ w ≤ 1048576 ∧ Q (.bl true) H
theorem p_alike (vs : List V) (H : Hp) (Q : VK) (E : XK) (h : spAlike K vs H Q E) : vs.length = 2 ∧ t_l_alike K { nx := fun _ H' => Q .non H', rt := Q } (start N_l_alike vs) H := by
  obtain ⟨x, y, d, n, w, rfl, hx, hy, sh, hn, hw, hQ⟩ := h
  refine ⟨rfl, ?_⟩
  unfold t_l_alike
  show tRet _ _ [some x, some y] H
  walk_at "w"
  refine ⟨x, d, n, w, rfl, hx, sh, hn, hw, ?_⟩
  walk_at "w"
  refine ⟨y, d, n, w, rfl, hy, sh, hn, hw, ?_⟩
  walk_at "w"
  rw [decide_eq_true rfl]
  exact hQ
abbrev nmD (z : List Nat) : PyData := .str (S z)
theorem sh_names {ns : List (List Nat)} (h : ∀ z ∈ ns, isName z = true) : SeqAt.shaped (.list (ns.map nmD)) = true := by
  refine (sh_list (n := 0) (w := 6) (m := (ns.map nmD).length * 7) (fun d hd => ?_) (Nat.le_refl _)).shaped (by decide)
  obtain ⟨z, hz, rfl⟩ := List.mem_map.mp hd
  obtain ⟨h1, h2⟩ := asc_word (h z hz)
  exact sh_str _ h1 h2
theorem sh_nil : SeqAt.shaped (.list []) = true := by decide +kernel
def spLAtom (K : PySem.W.Frag) : Sp := fun vs H Q _ => ∃ (L : List Ent) (b p : Addr) (ns : List (List Nat)), vs = [.ref b, .ref p] ∧ St K L H ∧ bx K b ∈ L ∧ LsIn K L p (ns.map nmD) ∧ (∀ z ∈ ns, isName z = true) ∧ ns.length ≤ 1000 ∧
  ∀ t v H', TN 1 t → St K (Lg.dat v t.d :: L) H' → Q v H'
theorem p_latom (vs : List V) (H : Hp) (Q : VK) (E : XK) (h : spLAtom K vs H Q E) : vs.length = 2 ∧ t_l_atom K (spDraw K) { nx := fun _ H' => Q .non H', rt := Q } (start N_l_atom vs) H := by
  obtain ⟨L, b, p, ns, rfl, hS, hb, hp, hns, hn, hQ⟩ := h
  refine ⟨rfl, ?_⟩
  unfold t_l_atom
  walk_at "z"
  show tSeq _ _ _ [some (.ref b), some (.ref p), none] H
  walk_at "w"
  rename_i k H1 hk0 hk1 hS1
  refine w_and3 (St K L) (fun H2 hS2 => ?_) (fun rest => ?_)
  · walk_at "w"
    refine w_ifd (fun e => ?_) (fun e => ?_)
    · walk_at "w"
      rename_i q3 H3 hS3 k4 H4 h40 h41 hS4
      refine w_ixLSP (P := fun m => Tk.ok (.s m) ∧ 44 ∉ m ∧ 10 ∉ m) hS4 (.own (.head _)) h40 (by simp; omega) (fun d hd => ?_) fun m hm => ?_
      · simp only [List.mem_cons, List.not_mem_nil, or_false] at hd
        rcases hd with rfl | rfl | rfl | rfl | rfl | rfl <;> exact ⟨_, rfl, okS_ok (by decide +kernel), by decide, by decide⟩
      walk_at "w"
      rename_i q5 H5 hS5
      refine hQ (.str m) _ _ (.str hm) (?_ : St K _ _)
      rw [Tr.d]
      exact hS5.to (by walk_at "pick")
    · walk_at "w"
      rename_i q3 H3 hS3 k4 H4 h40 h41 hS4
      refine w_ixLP (P := fun m => 0 ≤ m ∧ m < 100000) hS4 (.own (.head _)) h40 (by simp; omega) (fun d hd => ?_) fun m hm => ?_
      · simp only [List.mem_cons, List.not_mem_nil, or_false] at hd
        rcases hd with rfl | rfl | rfl | rfl | rfl | rfl | rfl | rfl | rfl | rfl <;> exact ⟨_, rfl, by decide⟩
      obtain ⟨j, rfl⟩ := Int.eq_ofNat_of_zero_le hm.1
      walk_at "w"
      rename_i q5 H5 hS5
      refine hQ (.num j) _ _ (.num (by omega)) (?_ : St K _ _)
      rw [Tr.d]
      exact hS5.to (by walk_at "pick")
  · walk_at "w"
    refine w_ifd (fun e => ?_) (fun e => rest _ hS1)
    walk_at "w"
    rename_i q2 H2 hS2
    refine w_neD hS2 hp.cons.see (.own (.head _)) (sh_names hns) sh_nil ?_
    rw [eqv_nil]
    walk_at "w"
    by_cases hne : ns = []
    · have hr := rest _ hS2.tail
      subst hne
      exact hr
    · have e2 : (!(ns.map nmD).isEmpty) = true := by cases ns with
        | nil => exact absurd rfl hne
        | cons x r => rfl
      rw [e2]
      walk_at "w"
      have hS3 := hS2.tail
      have hpos : 0 < ns.length := List.length_pos_iff.mpr hne
      rw [List.length_map]
      walk_at "w"
      rename_i k4 H4 h40 h41 hS4
      refine w_ixLSP (P := fun m => isName m = true) hS4 hp h40 (by rw [List.length_map]; exact h41) (fun d hd => ?_) fun m hm => ?_
      · obtain ⟨z, hz, rfl⟩ := List.mem_map.mp hd
        exact ⟨z, rfl, hns z hz⟩
      walk_at "w"
      rename_i q5 H5 hS5
      refine hQ (.nam m) _ _ (.nam hm) (?_ : St K _ _)
      rw [Tr.d]
      exact hS5.to (by walk_at "pick")
/-- who may be called, with how many arguments -/
abbrev clD (c : List Nat × Nat) : PyData := .tuple [.str (S c.1), .int (c.2 : Nat)]
theorem sh_calls {cs : List (List Nat × Nat)} (h : ∀ c ∈ cs, isName c.1 = true ∧ c.2 ≤ 3) : SeqAt.shaped (.list (cs.map clD)) = true := by
  refine (sh_list (n := 1) (w := 86) (m := (cs.map clD).length * 87) (fun d hd => ?_) (Nat.le_refl _)).shaped (by decide)
  obtain ⟨c, hc, rfl⟩ := List.mem_map.mp hd
  obtain ⟨h1, h2⟩ := asc_word (h c hc).1
  refine sh_tuple (n := 0) (w := 42) (fun d hd => ?_) (by simp)
  simp only [List.mem_cons, List.not_mem_nil, or_false] at hd
  rcases hd with rfl | rfl
  · exact (sh_str 0 h1 (Nat.le_refl _)).mono (Nat.le_refl _) (by omega)
  · exact sh_int _ (by have := (h c hc).2; omega) (by omega)
theorem trs_of {n : Nat} : ∀ {es : List PyData}, (∀ e ∈ es, ∃ t : Tr, TN n t ∧ e = t.d) → ∃ ts : List Tr, es = ts.map Tr.d ∧ ∀ t ∈ ts, TN n t
  | [], _ => ⟨[], rfl, fun _ h => by cases h⟩
  | e :: r, h => by
    obtain ⟨t, ht, rfl⟩ := h e (.head _)
    obtain ⟨ts, rfl, hts⟩ := trs_of fun e he => h e (.tail _ he)
    exact ⟨t :: ts, rfl, fun u hu => by
      rcases List.mem_cons.mp hu with rfl | hu
      · exact ht
      · exact hts u hu⟩
def spLTree (d : Nat) (K : PySem.W.Frag) : Sp := fun vs H Q _ => ∃ (L : List Ent) (b p q : Addr) (ns : List (List Nat)) (cs : List (List Nat × Nat)) (i : Int) (dp : Nat), vs = [.ref b, .ref p, .ref q, .int i] ∧ i = (dp : Nat) ∧ dp < d ∧ dp ≤ 100 ∧ St K L H ∧ bx K b ∈ L ∧
  LsIn K L p (ns.map nmD) ∧ (∀ z ∈ ns, isName z = true) ∧ ns.length ≤ 1000 ∧ LsIn K L q (cs.map clD) ∧ (∀ c ∈ cs, isName c.1 = true ∧ c.2 ≤ 3) ∧ cs.length ≤ 1000 ∧
  ∀ t v H', TN (dp + 1) t → St K (Lg.dat v t.d :: L) H' → Q v H'
def pqOut (ns : List (List Nat)) : List (List Nat) := ns.filter fun z => !decide (z ∈ [[112], [113]])
def pqF : PyData → Option PyData
  | .str x => if x.cps.toList ∈ [[112], [113]] then none else some (.str x)
  | _ => none
theorem pqF_S (z : List Nat) : pqF (.str (S z)) = if z ∈ [[112], [113]] then none else some (.str (S z)) := by simp [pqF, S]
theorem pqF_all : ∀ ns : List (List Nat), (ns.map nmD).filterMap pqF = (pqOut ns).map nmD
  | [] => rfl
  | z :: r => by
    have ih := pqF_all r
    unfold pqOut at ih ⊢
    rw [List.map_cons, List.filterMap_cons, pqF_S, List.filter_cons]
    by_cases h : z ∈ [[112], [113]]
    · rw [if_pos h, if_neg (by simp only [decide_eq_true h]; decide)]
      exact ih
    · rw [if_neg h, if_pos (by simp only [decide_eq_false h]; decide), List.map_cons, ← ih]
theorem p_ltree (d : Nat) (vs : List V) (H : Hp) (Q : VK) (E : XK) (h : spLTree (d + 1) K vs H Q E) : vs.length = 4 ∧ t_l_tree K (spLTree d K) (spDraw K) (spLAtom K) { nx := fun _ H' => Q .non H', rt := Q } (start N_l_tree vs) H := by
  obtain ⟨L, b, p, q, ns, cs, i, dp, rfl, hi, hd1, hd2, hS, hb, hp, hns, hn, hq, hcs, hc, hQ⟩ := h
  refine ⟨rfl, ?_⟩
  unfold t_l_tree
  walk_at "z"
  show tSeq _ _ _ [some (.ref b), some (.ref p), some (.ref q), some (.int i), none, none, none, none, none, none, none] H
  walk_at "w"
  rename_i k H1 hk0 hk1 hS1
  clear hS H
  refine w_ite (fun e => ?_) (fun e => ?_)
  · walk_at "w"
    exact ⟨L, b, p, ns, rfl, hS1, hb, hp, hns, hn, fun t v H' ht hS' => hQ t v H' (ht.le (by omega)) hS'⟩
  have hpos : 1 ≤ dp := by
    have : ¬ i ≤ 0 := by simp at e; omega
    omega
  obtain ⟨dp, rfl⟩ : ∃ z, dp = z + 1 := ⟨dp - 1, by omega⟩
  have hi1 : i - 1 = ((dp : Nat) : Int) := by omega
  clear e
  -- a call for a part
  have part : ∀ (L' : List Ent) (H' : Hp) (Q' : VK) (E' : XK), (∀ x ∈ L, x ∈ L') → St K L' H' → (∀ t v H2, TN (dp + 1) t → St K (Lg.dat v t.d :: L') H2 → Q' v H2) → spLTree d K [.ref b, .ref p, .ref q, .int (i - 1)] H' Q' E' := fun L' H' Q' E' hm hS' h =>
    ⟨L', b, p, q, ns, cs, i - 1, dp, rfl, hi1, by omega, by omega, hS', hm _ hb, hp.more hm, hns, hn, hq.more hm, hcs, hc, h⟩
  walk_at "w"
  refine w_ifd (fun e => ?_) (fun e => ?_)
  · walk_at "w"
    refine part L _ _ _ (fun _ h => h) hS1 fun t1 v1 H2 ht1 hS2 => ?_
    walk_at "w"
    rename_i q3 H3 hS3 k4 H4 h40 h41 hS4
    refine w_ixLSP (P := fun m => ∃ c, m = [c] ∧ c ∈ [43, 45, 42, 60, 61]) hS4 (.own (.head _)) h40 (by simp; omega) (fun d hd => ?_) fun m hm => ?_
    · simp only [List.mem_cons, List.not_mem_nil, or_false] at hd
      rcases hd with rfl | rfl | rfl | rfl | rfl | rfl <;> exact ⟨_, rfl, _, rfl, by decide⟩
    obtain ⟨c, rfl, hc5⟩ := hm
    walk_at "w"
    refine part _ _ _ _ (fun _ h => .tail _ (.tail _ h)) hS4 fun t2 v2 H5 ht2 hS5 => ?_
    walk_at "w"
    rename_i q6 H6 hS6
    refine hQ (.op c t1 t2) _ _ (.op hc5 ht1 ht2) (?_ : St K _ _)
    rw [Tr.d]
    exact hS6.to (by walk_at "pick")
  walk_at "w"
  refine w_ifd (fun e9 => ?_) (fun e9 => ?_)
  · walk_at "w"
    refine part L _ _ _ (fun _ h => h) hS1 fun t1 v1 H2 ht1 hS2 => ?_
    walk_at "w"
    refine part _ _ _ _ (fun _ h => .tail _ h) hS2 fun t2 v2 H3 ht2 hS3 => ?_
    walk_at "w"
    refine part _ _ _ _ (fun _ h => .tail _ (.tail _ h)) hS3 fun t3 v3 H5 ht3 hS5 => ?_
    walk_at "w"
    rename_i q6 H6 hS6
    refine hQ (.ite t1 t2 t3) _ _ (.ite ht1 ht2 ht3) (?_ : St K _ _)
    rw [Tr.d]
    exact hS6.to (by walk_at "pick")
  walk_at "w"
  refine w_lcG pqF hS1 hp (by rw [List.length_map]; omega) (fun v d H2 q2 es Z1 Z2 hd hS2 h1 h2 => ?_) fun q2 H2 hS2 => ?_
  · obtain ⟨z, hz, rfl⟩ := List.mem_map.mp hd
    obtain rfl := hS2.str_of
    show gName 8 _ [some (.ref b), some (.ref p), some (.ref q), some (.int i), some (.int k), none, none, none, none, none, none] _ _
    walk_at "w"
    refine ⟨rfl, ?_⟩
    walk_at "w"
    rename_i q3 H3 hS3
    refine w_ninTS (ys := [[112], [113]]) hS3 (.dat (.head _)) ?_
    rw [pqF_S] at h1 h2
    by_cases hz2 : z ∈ [[112], [113]]
    · rw [decide_eq_true hz2]
      rw [if_pos hz2] at h2
      walk_at "w"
      refine w_bf rfl ?_
      exact h2 rfl _ (hS3.to (by walk_at "pick"))
    · rw [decide_eq_false hz2]
      rw [if_neg hz2] at h1
      walk_at "w"
      refine w_bt rfl ?_
      walk_at "w"
      exact h1 _ rfl _ _ (hS3.to (by walk_at "pick"))
  rw [pqF_all] at hS2
  have hpo : ∀ z ∈ pqOut ns, isName z = true := fun z hz => hns z (List.mem_filter.mp hz).1
  have hpl : (pqOut ns).length ≤ 1000 := Nat.le_trans (List.length_filter_le _ _) hn
  walk_at "w"
  refine w_and3 (fun H3 => ∃ L', (∀ x ∈ L, x ∈ L') ∧ St K L' H3) (fun H3 hS3 => ?_) (fun rest => ?_)
  · obtain ⟨L', hm, hS3⟩ := hS3
    have hb' := hm _ hb
    walk_at "w"
    refine w_ifd (fun e11 => ?_) (fun e11 => ?_)
    · walk_at "w"
      refine part _ _ _ _ hm hS3 fun t1 v1 H4 ht1 hS4 => ?_
      walk_at "w"
      refine part _ _ _ _ (fun _ h => .tail _ (hm _ h)) hS4 fun t2 v2 H5 ht2 hS5 => ?_
      walk_at "w"
      rename_i q6 H6 hS6
      refine hQ (.thn t1 t2) _ _ (.thn ht1 ht2) (?_ : St K _ _)
      rw [Tr.d]
      refine hS6.mono_mem (fun x hx => ?_) ?_
      · rcases List.mem_cons.mp hx with rfl | hx
        · exact .head _
        · exact .tail _ (.tail _ (.tail _ (hm _ hx)))
      · exact hS1.nd
    walk_at "w"
    rename_i q4 H4 hS4
    refine w_eqD hS4 (LsIn.see (hq.more (fun x hx => .tail _ (hm x hx)))) (.own (.head _)) (sh_calls hcs) sh_nil ?_
    rw [eqv_nil]
    by_cases hne : cs = []
    · subst hne
      walk_at "k"
      exact ⟨_, b, p, ns, rfl, hS4.tail, hb', hp.more hm, hns, hn, fun t v H' ht hS' => hQ t v H' (ht.le (by omega)) (hS'.mono_mem (fun x hx => by
        rcases List.mem_cons.mp hx with rfl | hx
        · exact .head _
        · exact .tail _ (hm _ hx)) hS1.nd)⟩
    · have e2 : (cs.map clD).isEmpty = false := by cases cs with
        | nil => exact absurd rfl hne
        | cons x r => rfl
      rw [e2]
      have hS5 := hS4.tail
      have hpos : 0 < cs.length := List.length_pos_iff.mpr hne
      have hq' := hq.more hm
      walk_at "k"
      rw [List.length_map]
      walk_at "w"
      rename_i k6 H6 h60 h61 hS6
      refine w_ixLD (P := fun d => ∃ c ∈ cs, d = clD c) hS6 (hq.more hm) h60 (by rw [List.length_map]; exact h61) (fun d hd => ?_) fun v d hd hS7 => ?_
      · obtain ⟨z, hz, rfl⟩ := List.mem_map.mp hd
        exact ⟨z, hz, rfl⟩
      obtain ⟨c, hc1, rfl⟩ := hd
      obtain ⟨hcn, hc3⟩ := hcs c hc1
      obtain ⟨q7, rfl⟩ := hS7.tup_of
      walk_at "w"
      refine w_unpT2 hS7 (.dat (.head _)) fun u1 u2 hS8 => ?_
      obtain rfl := hS8.str_of
      obtain rfl := hS8.tail.int_of
      walk_at "w"
      have hS9 := hS8.tail.tail.tail
      refine w_lcR (R := fun _ e => ∃ t, TN (dp + 1) t ∧ e = t.d) hS9 (by omega) ?_ ?_
      · intro j q10 es H10 hj hlen hS10 Z hZ
        show gName 10 _ [some (.ref b), some (.ref p), some (.ref q), some (.int i), some (.int k), none, none, some (.ref q2), some (.str (S c.1)), some (.int (c.2 : Nat)), none] _ _
        walk_at "w"
        refine ⟨rfl, ?_⟩
        walk_at "w"
        exact part _ _ _ _ (fun _ h => .tail _ (hm _ h)) hS10 fun t v H11 ht hS11 => hZ v _ H11 ⟨t, ht, rfl⟩ hS11
      · intro q10 es H10 hlen hR hS10
        obtain ⟨ts, rfl, hts⟩ := trs_of (es := es) fun e he => by
          obtain ⟨j, hj⟩ := List.getElem?_of_mem he
          exact hR j e hj
        walk_at "w"
        refine w_tupL hS10 (.own (.head _)) fun q11 H11 hS11 => ?_
        walk_at "w"
        rename_i q12 H12 hS12
        have htl : ts.length ≤ 3 := by rw [List.length_map] at hlen; omega
        refine hQ (.call c.1 ts) _ _ (.call hcn htl hts) (?_ : St K _ _)
        rw [Tr.d, ds_eq]
        refine hS12.mono_mem (fun x hx => ?_) ?_
        · rcases List.mem_cons.mp hx with rfl | hx
          · exact .head _
          · exact .tail _ (.tail _ (.tail _ (hm _ hx)))
        · exact hS1.nd
  · walk_at "w"
    refine w_ifd (fun e10 => ?_) (fun e10 => rest _ ⟨_, fun x hx => .tail _ hx, hS2⟩)
    walk_at "w"
    rename_i q3 H3 hS3
    refine w_neD hS3 (.own (.tail _ (.head _))) (.own (.head _)) (sh_names hpo) sh_nil ?_
    rw [eqv_nil]
    walk_at "w"
    by_cases hne : pqOut ns = []
    · have e2 : (!((pqOut ns).map nmD).isEmpty) = false := by rw [hne]; rfl
      rw [e2]
      exact rest _ ⟨_, fun x hx => .tail _ (.tail _ hx), hS3⟩
    · have e2 : (!((pqOut ns).map nmD).isEmpty) = true := by
        cases hz : pqOut ns with
        | nil => exact absurd hz hne
        | cons x r => rfl
      rw [e2]
      have hS4 := hS3.tail
      have hpos : 0 < (pqOut ns).length := List.length_pos_iff.mpr hne
      walk_at "k"
      rw [List.length_map]
      walk_at "w"
      rename_i k5 H5 h50 h51 hS5
      refine w_ixLSP (P := fun m => isName m = true) hS5 (.own (.head _)) h50 (by rw [List.length_map]; exact h51) (fun d hd => ?_) fun m hm => ?_
      · obtain ⟨z, hz, rfl⟩ := List.mem_map.mp hd
        exact ⟨z, rfl, hpo z hz⟩
      walk_at "w"
      refine part _ _ _ _ (fun _ h => .tail _ h) hS5 fun t2 v2 H6 ht2 hS6 => ?_
      walk_at "w"
      rename_i q7 H7 hS7
      refine hQ (.set m t2) _ _ (.set hm ht2) (?_ : St K _ _)
      rw [Tr.d]
      exact hS7.to (by walk_at "pick")
end

/-! k05: imports drawn -/
section
variable {K : PySem.W.Frag}
/-! ### modules drawn: names, imports (shared) -/
theorem w_rest3 {σ : L2.St} {H : Hp} {Q : VK} {te : TE} (P : V → Hp → Prop) (hf : ∀ x H2, P x H2 → Q x H2) (h : (∀ x H2, P x H2 → Q x H2) → te σ H Q) : te σ H Q := h hf
abbrev ownKs : List (Nat × Nm) := [(120, zlet), (121, zlet), (107, zkeep), (102, zfn), (103, zfn)]
def owD (o : Nat) (ck : Nat × Nm) : PyData := .tuple [smD [ck.1, o], smD ck.2]
def spLOwn (K : PySem.W.Frag) : Sp := fun vs H Q _ => ∃ (L : List Ent) (o : Nat), vs = [.str (S [o])] ∧ St K L H ∧ ∀ q H', St K (Lg.ls K q (ownKs.map (owD o)) :: L) H' → Q (.ref q) H'
theorem p_l_own (vs : List V) (H : Hp) (Q : VK) (E : XK) (h : spLOwn K vs H Q E) : vs.length = 1 ∧ t_l_own K { nx := fun _ H' => Q .non H', rt := Q } (start N_l_own vs) H := by
  obtain ⟨L, o, rfl, hS, hQ⟩ := h
  refine ⟨rfl, ?_⟩
  unfold t_l_own
  walk_at "z"
  show tRet _ _ [some (.str (S [o]))] H
  walk_at "w"
  rename_i q6 H6 hS6
  exact hQ _ _ (hS6.to (by walk_at "pick"))
/-- pairs of an import of module o -/
structure PrsOk (o : Nat) (ps : List (Nm × Nm)) : Prop where
  len : ps.length ≤ 3
  sh : ∀ p ∈ ps, ∃ c ∈ ownC, p.1 = [c, o] ∧ (p.2 = [c, o] ∨ p.2 = [122, c, o])
theorem sh_prs {o : Nat} {ps : List (Nm × Nm)} (ho : o ∈ modL) (h : PrsOk o ps) : SeqAt.shaped (.list (ps.map Xp.prD)) = true := by
  refine (sh_list (n := 1) (w := 86) (m := (ps.map Xp.prD).length * 87) (fun d hd => ?_) (Nat.le_refl _)).shaped (by decide)
  obtain ⟨p, hp, rfl⟩ := List.mem_map.mp hd
  obtain ⟨c, hc, e1, e2⟩ := h.sh p hp
  have k := own_ok c hc o ho
  have n1 : isName p.1 = true := by rw [e1]; exact k.1
  have n2 : isName p.2 = true := by rcases e2 with e2 | e2 <;> rw [e2]; exact k.1; exact k.2
  have a1 := asc_word n1
  have a2 := asc_word n2
  refine sh_tuple (n := 0) (w := 42) (fun d hd => ?_) (by simp)
  simp only [List.mem_cons, List.not_mem_nil, or_false] at hd
  rcases hd with rfl | rfl
  · exact (sh_str 0 a1.1 (Nat.le_refl _)).mono (Nat.le_refl _) (by omega)
  · exact (sh_str 0 a2.1 (Nat.le_refl _)).mono (Nat.le_refl _) (by omega)
abbrev modDs (os : List Nat) : List PyData := os.map fun o => smD [o]
def spLImports (K : PySem.W.Frag) : Sp := fun vs H Q _ => ∃ (L : List Ent) (b p : Addr) (n : Nat) (os : List Nat), vs = [.ref b, .str (S [n]), .ref p] ∧ St K L H ∧ bx K b ∈ L ∧ LsIn K L p (modDs os) ∧ (∀ o ∈ os, o ∈ modL) ∧ os.length ≤ 4 ∧ ∀ q ls H', Imp n ls → St K (Lg.ls K q (ls.map Ln.d) :: L) H' → Q (.ref q) H'
theorem p_l_imports (vs : List V) (H : Hp) (Q : VK) (E : XK) (h : spLImports K vs H Q E) : vs.length = 3 ∧ t_l_imports K (spDraw K) (spLOwn K) { nx := fun _ H' => Q .non H', rt := Q } (start N_l_imports vs) H := by
  obtain ⟨L, b, p, n, os, rfl, hS, hb, hp, hos, hol, hQ⟩ := h
  refine ⟨rfl, ?_⟩
  unfold t_l_imports
  walk_at "z"
  show tSeq _ _ _ [some (.ref b), some (.str (S [n])), some (.ref p), none, none, none, none, none, none, none, none] H
  walk_at "w"
  rename_i q1 H1 hS1 q2 H2 hS2
  have hI0 : Imp n [] := Imp.nil n
  have hS3 := hS2.to (L' := Lg.ls K q1 (List.map Ln.d []) :: Lg.ls K q2 (List.map smD (avs [])) :: L) (by walk_at "pick")
  refine w_forL (ds := modDs os) (fun i σ H' => ∃ v5 v6 v7 v8 v9 v10 ls, σ = [some (.ref b), some (.str (S [n])), some (.ref p), some (.ref q1), some (.ref q2), v5, v6, v7, v8, v9, v10] ∧ Imp n ls ∧ ls.length ≤ i ∧ St K (Lg.ls K q1 (ls.map Ln.d) :: Lg.ls K q2 ((avs ls).map smD) :: L) H')
    ⟨_, _, _, _, _, _, [], rfl, hI0, by simp, hS3⟩ ?_ ?_ ?_
  · rintro i σ H4 _ ⟨v5, v6, v7, v8, v9, v10, ls, rfl, _, _, hS4⟩
    exact ⟨_, hS4, hp.more fun x hx => .tail _ (.tail _ hx)⟩
  · rintro i d v σ H4 hd ⟨v5, v6, v7, v8, v9, v10, ls, rfl, hI, hil, hS4⟩ more
    clear hS1 hS2 hS3 hS
    have hS5 := (more _ hS4 (hp.more fun x hx => .tail _ (.tail _ hx)))
    obtain ⟨o, hom, rfl⟩ := map_at hd
    have ho : o ∈ modL := hos o (List.mem_of_getElem? hom)
    have hi4 : i < 4 := Nat.lt_of_lt_of_le (List.getElem?_eq_some_iff.mp hom).1 hol
    obtain rfl := hS5.str_of
    clear hS5
    have hbm : bx K b ∈ Lg.ls K q1 (ls.map Ln.d) :: Lg.ls K q2 ((avs ls).map smD) :: L := .tail _ (.tail _ hb)
    walk_at "w"
    refine w_rest3 (fun x H2 => ∃ w, x = .bl w ∧ St K (Lg.ls K q1 (ls.map Ln.d) :: Lg.ls K q2 ((avs ls).map smD) :: L) H2) (fun x H5 h5 => ?_) (fun rest => ?_)
    rotate_left
    · refine w_orV ?_
      walk_at "w"
      refine w_gtS fun bb => ⟨_, rfl, ?_⟩
      cases bb with
      | true => exact rest _ _ ⟨_, rfl, hS4⟩
      | false =>
        refine w_bf rfl ?_
        walk_at "w"
        rename_i k6 H6 h60 h61 hS6
        exact rest _ _ ⟨_, rfl, hS6⟩
    obtain ⟨w, rfl, hS5⟩ := h5
    clear hS4
    walk_at "w"
    refine w_and3 (fun H2 => St K (Lg.ls K q1 (ls.map Ln.d) :: Lg.ls K q2 ((avs ls).map smD) :: L) H2) (fun H6 hS6 => ?_) (fun rest => ?_)
    · walk_at "w"
      exact ⟨_, _, _, _, _, _, ls, rfl, hI, by omega, hS6⟩
    walk_at "w"
    refine w_ifnd (fun h1 => ?_) (fun h1 => rest _ hS5)
    have hon : o ≠ n := fun e => h1 (by rw [e])
    refine w_and3 _ rest (fun _ => ?_)
    walk_at "w"
    cases w with
    | false => exact rest _ hS5
    | true =>
    refine w_bt rfl ?_
    walk_at "w"
    rename_i k6 H6 h60 h61 hS6
    refine w_ifd (fun h2 => ?_) (fun h2 => rest _ hS6)
    clear hS5 rest
    walk_at "w"
    rename_i q7 H7 hS7
    refine w_anyL1 ?_
    walk_at "w"
    refine ⟨_, o, rfl, hS7, fun q8 H8 hS8 => ?_⟩
    clear hS6 hS7
    have e00 : avs ls ++ List.map Prod.snd ([] : List (Nm × Nm)) = avs ls := by simp
    have hS9 : St K (Lg.ls K q8 (ownKs.map (owD o)) :: Lg.ls K q7 (List.map Xp.prD []) :: Lg.ls K q1 (ls.map Ln.d) :: Lg.ls K q2 (List.map smD (avs ls ++ List.map Prod.snd ([] : List (Nm × Nm)))) :: L) H8 := by
      rw [e00]
      exact hS8.to (by walk_at "pick")
    clear hS8
    walk_at "w"
    refine w_forL (ds := ownKs.map (owD o)) (fun j σ H' => ∃ v8 v9 v10 ps, σ = [some (.ref b), some (.str (S [n])), some (.ref p), some (.ref q1), some (.ref q2), some (.str (S [o])), some (.bl true), some (.ref q7), v8, v9, v10] ∧ PrsOk o ps ∧ (avs ls ++ List.map Prod.snd ps).Nodup ∧
      St K (Lg.ls K q8 (ownKs.map (owD o)) :: Lg.ls K q7 (List.map Xp.prD ps) :: Lg.ls K q1 (ls.map Ln.d) :: Lg.ls K q2 (List.map smD (avs ls ++ List.map Prod.snd ps)) :: L) H')
      ⟨_, _, _, [], rfl, ⟨by simp, by simp⟩, by rw [List.map_nil, List.append_nil]; exact hI.nd, hS9⟩ ?_ ?_ ?_
    · rintro j σ H9 _ ⟨v8, v9, v10, ps, rfl, _, _, hSa⟩
      exact ⟨_, hSa, .own (.head _)⟩
    · rintro j d v σ H9 hd2 ⟨v8, v9, v10, ps, rfl, hps, hnd, hSa⟩ more2
      clear hS9
      obtain ⟨ck, hck, rfl⟩ := map_at hd2
      obtain ⟨c, kz⟩ := ck
      have hc : c ∈ ownC := by
        have := List.mem_of_getElem? hck
        simp at this ⊢
        omega
      have hSb := more2 _ hSa (.own (.head _))
      obtain ⟨qb, rfl⟩ := hSb.tup_of
      refine w_unpT2 (d1 := smD [c, o]) (d2 := smD kz) hSb (.dat (.head _)) fun u1 u2 hSc => ?_
      obtain rfl := hSc.str_of
      obtain rfl := hSc.tail.str_of
      have hSd := hSc.tail.tail.tail
      clear hSa hSb hSc
      have hbm2 : bx K b ∈ Lg.ls K q8 (ownKs.map (owD o)) :: Lg.ls K q7 (List.map Xp.prD ps) :: Lg.ls K q1 (ls.map Ln.d) :: Lg.ls K q2 (List.map smD (avs ls ++ List.map Prod.snd ps)) :: L := by walk_at "mem"
      walk_at "w"
      rename_i qe He hSe kf Hf hf0 hf1 hSf
      refine w_ixLSP (P := fun m => m = [c, o] ∨ m = [122, c, o]) hSf (.own (.head _)) hf0 (by simp; omega) (fun d hd => ?_) fun m hm => ?_
      · simp only [List.mem_cons, List.not_mem_nil, or_false] at hd
        rcases hd with rfl | rfl | rfl
        · exact ⟨_, rfl, .inl rfl⟩
        · exact ⟨_, rfl, .inl rfl⟩
        · exact ⟨_, rfl, .inr rfl⟩
      have hSg := hSf.tail
      clear hSd hSe hSf
      walk_at "w"
      refine w_and3 (fun H2 => St K (Lg.ls K q8 (ownKs.map (owD o)) :: Lg.ls K q7 (List.map Xp.prD ps) :: Lg.ls K q1 (ls.map Ln.d) :: Lg.ls K q2 (List.map smD (avs ls ++ List.map Prod.snd ps)) :: L) H2) (fun Hh hSh => ?_) (fun rest => ?_)
      · walk_at "w"
        exact ⟨_, _, _, ps, rfl, hps, hnd, hSh⟩
      walk_at "w"
      rename_i kh Hh hh0 hh1 hSh
      refine w_ifd (fun h3 => ?_) (fun h3 => rest _ hSh)
      clear hSg
      refine w_and3 _ rest (fun _ => ?_)
      walk_at "w"
      refine w_inLS (ys := avs ls ++ List.map Prod.snd ps) hSh (.own (by walk_at "mem")) ?_
      walk_at "w"
      show if (!decide (m ∈ avs ls ++ List.map Prod.snd ps)) = true then _ else _
      refine w_ifnd (fun h4 => ?_) (fun h4 => rest _ hSh)
      walk_at "w"
      rw [List.length_map]
      refine w_ifd (fun h5 => ?_) (fun h5 => rest _ hSh)
      clear rest
      have hlen : (avs ls ++ List.map Prod.snd ps).length ≤ 100000 := by
        have e : ∀ l ∈ ls, l.av.length ≤ 3 := fun l hl => by
          obtain ⟨ps, o, rfl, _, _, _, h3, _⟩ := hI.sh l hl
          simpa [Ln.av] using h3
        have e2 : ∀ (ls : List Ln), (∀ l ∈ ls, l.av.length ≤ 3) → (avs ls).length ≤ 3 * ls.length := fun ls => by
          induction ls with
          | nil => simp [avs]
          | cons l r ih =>
            intro h
            have h1 := h l (.head _)
            have h2 := ih fun x hx => h x (.tail _ hx)
            unfold avs at h2 ⊢
            simp only [List.flatMap_cons, List.length_append, List.length_cons]
            omega
        have := e2 ls e
        have := hI.len
        rw [List.length_append, List.length_map]
        omega
      walk_at "w"
      rename_i qi Hi hSi
      refine w_app (d := Xp.prD ([c, o], m)) hSi (.there (.there .here)) (.dat (.head _)) (by rw [List.length_map]; omega) fun Hj hSj => ?_
      walk_at "w"
      refine w_app (d := smD m) hSj (by walk_at "put") .str (by rw [List.length_map]; exact hlen) fun Hk hSk => ?_
      walk_at "w"
      refine ⟨_, _, _, ps ++ [([c, o], m)], rfl, ⟨by simp; omega, fun p hp => ?_⟩, ?_, ?_⟩
      · rcases List.mem_append.mp hp with hp | hp
        · exact hps.sh p hp
        · rcases List.mem_singleton.mp hp with rfl
          exact ⟨c, hc, rfl, hm⟩
      · rw [List.map_append, ← List.append_assoc, List.nodup_append]
        refine ⟨hnd, by simp, fun a ha b hb e => ?_⟩
        subst e
        simp at hb
        subst hb
        exact h4 ha
      · have e1 : List.map Xp.prD (ps ++ [([c, o], m)]) = List.map Xp.prD ps ++ [Xp.prD ([c, o], m)] := by rw [List.map_append]; rfl
        have e2 : List.map smD (avs ls ++ List.map Prod.snd (ps ++ [([c, o], m)])) = List.map smD (avs ls ++ List.map Prod.snd ps) ++ [smD m] := by
          rw [List.map_append (f := Prod.snd), ← List.append_assoc, List.map_append]
          rfl
        rw [e1, e2]
        exact hSk.to (by walk_at "pick")
    · rintro σ H9 ⟨v8, v9, v10, ps, rfl, hps, hnd, hSa⟩
      clear hS9
      have hSb := hSa.to (L' := Lg.ls K q7 (List.map Xp.prD ps) :: Lg.ls K q1 (ls.map Ln.d) :: Lg.ls K q2 (List.map smD (avs ls ++ List.map Prod.snd ps)) :: L) (by walk_at "pick")
      clear hSa
      walk_at "w"
      rename_i qc Hc hSc
      refine w_neD hSc (LsIn.see (.own (by walk_at "mem"))) (.own (.head _)) (sh_prs ho hps) sh_nil ?_
      rw [eqv_nil]
      walk_at "w"
      have hSd := hSc.tail
      clear hSb hSc
      by_cases hpn : ps = []
      · subst hpn
        refine w_bf rfl ?_
        walk_at "w"
        refine ⟨_, _, _, _, _, _, ls, rfl, hI, by omega, ?_⟩
        rw [List.map_nil (f := Prod.snd), List.append_nil] at hSd
        exact hSd.tail
      · refine w_bt (by cases ps with
          | nil => exact absurd rfl hpn
          | cons x r => rfl) ?_
        walk_at "w"
        refine w_tupL hSd (.own (.head _)) fun qe He hSe => ?_
        walk_at "w"
        rename_i qf Hf hSf
        refine w_app (d := (Ln.nms false ps [o]).d) hSf (by walk_at "put") (.dat (.head _)) (by rw [List.length_map]; have := hI.len; omega) fun Hg hSg => ?_
        walk_at "w"
        refine ⟨_, _, _, _, _, _, ls ++ [.nms false ps [o]], rfl, ⟨fun l hl => ?_, ?_, by simp; omega⟩, by simp; omega, ?_⟩
        · rcases List.mem_append.mp hl with hl | hl
          · exact hI.sh l hl
          · rcases List.mem_singleton.mp hl with rfl
            exact ⟨ps, o, rfl, ho, hon, hpn, hps.len, hps.sh⟩
        · have : avs (ls ++ [.nms false ps [o]]) = avs ls ++ List.map Prod.snd ps := by
            unfold avs
            rw [List.flatMap_append]
            simp [Ln.av]
          rw [this]
          exact hnd
        · have e1 : avs (ls ++ [.nms false ps [o]]) = avs ls ++ List.map Prod.snd ps := by
            unfold avs
            rw [List.flatMap_append]
            simp [Ln.av]
          rw [e1, List.map_append (f := Ln.d)]
          exact hSg.to (by walk_at "pick")
  · rintro σ H4 ⟨v5, v6, v7, v8, v9, v10, ls, rfl, hI, _, hS4⟩
    clear hS1 hS2 hS3
    walk_at "w"
    exact hQ _ ls _ hI (hS4.to (by walk_at "pick"))
end

/-! k05: names drawn -/
section
variable {K : PySem.W.Frag}
theorem w_intB2 {b : Bool} {Q : VK} {H : Hp} (h : Q (.int (if b then 1 else 0)) H) : rIntY [.bl b] H Q := .inl (w_intb h)
/-! ### modules drawn: names, calls (shared) -/
theorem strs_of : ∀ {es : List PyData}, (∀ e ∈ es, ∃ z : Nm, isName z = true ∧ e = smD z) → ∃ zs : List Nm, es = zs.map smD ∧ (∀ z ∈ zs, isName z = true) ∧ zs.length = es.length
  | [], _ => ⟨[], rfl, by simp, rfl⟩
  | e :: r, h => by
    obtain ⟨z, hz, rfl⟩ := h e (.head _)
    obtain ⟨zs, rfl, h2, h3⟩ := strs_of fun x hx => h x (.tail _ hx)
    exact ⟨z :: zs, rfl, fun y hy => by
      rcases List.mem_cons.mp hy with rfl | hy
      · exact hz
      · exact h2 y hy, by simp⟩
theorem cls_of : ∀ {es : List PyData}, (∀ e ∈ es, ∃ c : Nm × Nat, (isName c.1 = true ∧ c.2 ≤ 3) ∧ e = clD c) → ∃ cs : List (Nm × Nat), es = cs.map clD ∧ (∀ c ∈ cs, isName c.1 = true ∧ c.2 ≤ 3) ∧ cs.length = es.length
  | [], _ => ⟨[], rfl, by simp, rfl⟩
  | e :: r, h => by
    obtain ⟨z, hz, rfl⟩ := h e (.head _)
    obtain ⟨zs, rfl, h2, h3⟩ := cls_of fun x hx => h x (.tail _ hx)
    exact ⟨z :: zs, rfl, fun y hy => by
      rcases List.mem_cons.mp hy with rfl | hy
      · exact hz
      · exact h2 y hy, by simp⟩
def spLUsable (K : PySem.W.Frag) : Sp := fun vs H Q _ => ∃ (L : List Ent) (p : Addr) (n : Nat) (w : List Nat) (ls : List Ln), vs = [.ref p, .str (S [n]), .str (S w)] ∧ St K L H ∧ LsIn K L p (ls.map Ln.d) ∧ Imp n ls ∧ n ∈ modL ∧ ∀ (q : Addr) (us : List Nm) H', (∀ z ∈ us, isName z = true) → us.length ≤ 20 → St K (Lg.ls K q (us.map smD) :: L) H' → Q (.ref q) H'
theorem p_l_usable (vs : List V) (H : Hp) (Q : VK) (E : XK) (h : spLUsable K vs H Q E) : vs.length = 3 ∧ t_l_usable K (spLOwn K) { nx := fun _ H' => Q .non H', rt := Q } (start N_l_usable vs) H := by
  obtain ⟨L, p, n, w, ls, rfl, hS, hp, hI, hn, hQ⟩ := h
  refine ⟨rfl, ?_⟩
  unfold t_l_usable
  walk_at "z"
  show tSeq _ _ _ [some (.ref p), some (.str (S [n])), some (.str (S w)), none, none, none, none, none] H
  walk_at "w"
  rename_i q1 H1 hS1
  have hlen := hI.len
  refine w_forL (ds := ls.map Ln.d) (fun i σ H' => ∃ q3 us v4 v5 v6 v7, σ = [some (.ref p), some (.str (S [n])), some (.str (S w)), some (.ref q3), v4, v5, v6, v7] ∧ (∀ z ∈ us, isName z = true) ∧ us.length ≤ 3 * i ∧ St K (Lg.ls K q3 (List.map smD us) :: L) H')
    ⟨q1, [], _, _, _, _, rfl, by simp, by simp, hS1⟩ ?_ ?_ ?_
  · rintro i σ H2 _ ⟨q3, us, v4, v5, v6, v7, rfl, _, _, hS2⟩
    exact ⟨_, hS2, hp.cons⟩
  · rintro i d v σ H2 hd ⟨q3, us, v4, v5, v6, v7, rfl, hus, hul, hS2⟩ more
    obtain ⟨l, hl, rfl⟩ := map_at hd
    have hil : i < ls.length := (List.getElem?_eq_some_iff.mp hl).1
    obtain ⟨ps, o, rfl, ho, hon, hpn, hp3, hps⟩ := hI.sh l (List.mem_of_getElem? hl)
    have hS3 := more _ hS2 hp.cons
    clear hS hS1 hS2
    have hSx := hS3
    rw [Ln.d] at hSx
    obtain ⟨q4, rfl⟩ := hSx.tup_of
    clear hS3
    walk_at "w"
    refine w_ixTs (k := 0) (m := S zimport) hSx (.dat (.head _)) rfl rfl ?_
    walk_at "k"
    refine w_anyT1 ?_
    walk_at "w"
    refine w_ixT (k := 1) hSx (.dat (.head _)) rfl rfl fun v1 hS4 => ?_
    obtain ⟨q5, rfl⟩ := hS4.tup_of
    refine w_itT hS4 (.dat (.head _)) ?_
    obtain ⟨xs, _, hS5⟩ := hS4.tupF (.dat (.head _))
    refine w_lcPT (c := Xp.prD) (fun e => ∃ z : Nm, isName z = true ∧ e = smD z) hS5 (.head _) (by omega) (fun z v H6 q6 es Z1 Z2 hz hS6 h1 h2 => ?_) fun q6 es H6 hP hel hS6 => ?_
    · obtain ⟨c, hc, e1, e2⟩ := hps z hz
      have k := own_ok c hc o ho
      obtain ⟨q7, rfl⟩ := hS6.tup_of
      show gUnp K 2 _ _ [some (.ref p), some (.str (S [n])), some (.str (S w)), some (.ref q3), _, none, _, none] _ _
      refine w_unpT2 (d1 := smD z.1) (d2 := smD z.2) hS6 (.dat (.head _)) fun u1 u2 hS7 => ?_
      obtain rfl := hS7.str_of
      obtain rfl := hS7.tail.str_of
      have hS8 := hS7.tail.tail.tail
      clear hSx hS4 hS5 hS6 hS7
      walk_at "w"
      refine ⟨rfl, ?_⟩
      walk_at "w"
      rw [e1]
      refine w_ixSg (c := c) (by simp) (by decide) rfl ?_
      walk_at "w"
      refine w_ite (fun _ => ?_) (fun _ => ?_)
      · walk_at "w"
        refine h1 (smD z.2) _ _ ⟨z.2, ?_, rfl⟩ (hS8.learn .str)
        rcases e2 with e2 | e2 <;> rw [e2]
        · exact k.1
        · exact k.2
      · exact h2 _ hS8
    · obtain ⟨zs, rfl, hzs, hzl⟩ := strs_of hP
      have hS7 := hS6.to (L' := Lg.ls K q6 (zs.map smD) :: Lg.ls K q3 (List.map smD us) :: L) (by walk_at "pick")
      clear hSx hS4 hS5 hS6
      rw [List.length_map] at hel
      walk_at "w"
      rename_i q8 H8 hS8
      refine ⟨q8, us ++ zs, _, _, _, _, rfl, fun z hz => ?_, by simp; omega, ?_⟩
      · rcases List.mem_append.mp hz with hz | hz
        · exact hus z hz
        · exact hzs z hz
      · rw [List.map_append]
        exact hS8.to (by walk_at "pick")
  · rintro σ H2 ⟨q3, us, v4, v5, v6, v7, rfl, hus, hul, hS2⟩
    rw [List.length_map] at hul
    clear hS hS1
    walk_at "w"
    refine w_anyL1 ?_
    walk_at "w"
    refine ⟨_, n, rfl, hS2, fun q4 H4 hS4 => ?_⟩
    walk_at "w"
    refine w_lcP (zs := ownKs) (c := owD n) (fun e => ∃ z : Nm, isName z = true ∧ e = smD z) hS4 (.own (.head _)) (by decide) (fun z v H6 q6 es Z1 Z2 hz hS6 h1 h2 => ?_) fun q6 es H6 hP hel hS6 => ?_
    · obtain ⟨c, kz⟩ := z
      have hc : c ∈ ownC := by
        simp at hz ⊢
        omega
      obtain ⟨q7, rfl⟩ := hS6.tup_of
      show gUnp K 2 _ _ [some (.ref p), some (.str (S [n])), some (.str (S w)), some (.ref q3), _, none, none, _] _ _
      refine w_unpT2 (d1 := smD [c, n]) (d2 := smD kz) hS6 (.dat (.head _)) fun u1 u2 hS7 => ?_
      obtain rfl := hS7.str_of
      obtain rfl := hS7.tail.str_of
      have hS8 := hS7.tail.tail.tail
      clear hS4 hS6 hS7 hS2
      walk_at "w"
      refine ⟨rfl, ?_⟩
      walk_at "w"
      refine w_ixSg (c := c) (by simp) (by decide) rfl ?_
      walk_at "w"
      refine w_ite (fun _ => ?_) (fun _ => ?_)
      · walk_at "w"
        exact h1 (smD [c, n]) _ _ ⟨_, (own_ok c hc n hn).1, rfl⟩ (hS8.learn .str)
      · exact h2 _ hS8
    · obtain ⟨zs, rfl, hzs, hzl⟩ := strs_of hP
      have hS7 := hS6.to (L' := Lg.ls K q6 (zs.map smD) :: Lg.ls K q3 (List.map smD us) :: L) (by walk_at "pick")
      clear hS4 hS6 hS2
      rw [List.length_map] at hel
      have hel2 : zs.length ≤ 5 := hel
      walk_at "w"
      rename_i q8 H8 hS8
      refine hQ q8 (us ++ zs) _ (fun z hz => ?_) (by simp; omega) ?_
      · rcases List.mem_append.mp hz with hz | hz
        · exact hus z hz
        · exact hzs z hz
      · rw [List.map_append]
        exact hS8.to (by walk_at "pick")
def spLCalls (K : PySem.W.Frag) : Sp := fun vs H Q _ => ∃ (L : List Ent) (p : Addr) (n : Nat) (ls : List Ln), vs = [.ref p, .str (S [n])] ∧ St K L H ∧ LsIn K L p (ls.map Ln.d) ∧ Imp n ls ∧ n ∈ modL ∧ ∀ (q : Addr) (cs : List (Nm × Nat)) H', (∀ c ∈ cs, isName c.1 = true ∧ c.2 ≤ 3) → cs.length ≤ 20 → St K (Lg.ls K q (cs.map clD) :: L) H' → Q (.ref q) H'
theorem p_l_calls (vs : List V) (H : Hp) (Q : VK) (E : XK) (h : spLCalls K vs H Q E) : vs.length = 2 ∧ t_l_calls K { nx := fun _ H' => Q .non H', rt := Q } (start N_l_calls vs) H := by
  obtain ⟨L, p, n, ls, rfl, hS, hp, hI, hn, hQ⟩ := h
  refine ⟨rfl, ?_⟩
  unfold t_l_calls
  walk_at "z"
  show tSeq _ _ _ [some (.ref p), some (.str (S [n])), none, none, none, none] H
  walk_at "w"
  rename_i q1 H1 hS1
  have hlen := hI.len
  refine w_forL (ds := ls.map Ln.d) (fun i σ H' => ∃ q3 cs v3 v4 v5, σ = [some (.ref p), some (.str (S [n])), some (.ref q3), v3, v4, v5] ∧ (∀ c ∈ cs, isName c.1 = true ∧ c.2 ≤ 3) ∧ cs.length ≤ 3 * i ∧ St K (Lg.ls K q3 (List.map clD cs) :: L) H')
    ⟨q1, [], _, _, _, rfl, by simp, by simp, hS1⟩ ?_ ?_ ?_
  · rintro i σ H2 _ ⟨q3, cs, v3, v4, v5, rfl, _, _, hS2⟩
    exact ⟨_, hS2, hp.cons⟩
  · rintro i d v σ H2 hd ⟨q3, cs, v3, v4, v5, rfl, hus, hul, hS2⟩ more
    obtain ⟨l, hl, rfl⟩ := map_at hd
    have hil : i < ls.length := (List.getElem?_eq_some_iff.mp hl).1
    obtain ⟨ps, o, rfl, ho, hon, hpn, hp3, hps⟩ := hI.sh l (List.mem_of_getElem? hl)
    have hS3 := more _ hS2 hp.cons
    clear hS hS1 hS2
    have hSx := hS3
    rw [Ln.d] at hSx
    obtain ⟨q4, rfl⟩ := hSx.tup_of
    clear hS3
    walk_at "w"
    refine w_ixTs (k := 0) (m := S zimport) hSx (.dat (.head _)) rfl rfl ?_
    walk_at "k"
    refine w_anyT1 ?_
    walk_at "w"
    refine w_ixT (k := 1) hSx (.dat (.head _)) rfl rfl fun v1 hS4 => ?_
    obtain ⟨q5, rfl⟩ := hS4.tup_of
    refine w_itT hS4 (.dat (.head _)) ?_
    obtain ⟨xs, _, hS5⟩ := hS4.tupF (.dat (.head _))
    refine w_lcPT (c := Xp.prD) (fun e => ∃ c : Nm × Nat, (isName c.1 = true ∧ c.2 ≤ 3) ∧ e = clD c) hS5 (.head _) (by omega) (fun z v H6 q6 es Z1 Z2 hz hS6 h1 h2 => ?_) fun q6 es H6 hP hel hS6 => ?_
    · obtain ⟨c, hc, e1, e2⟩ := hps z hz
      have k := own_ok c hc o ho
      have hn2 : isName z.2 = true := by rcases e2 with e2 | e2 <;> rw [e2]; exact k.1; exact k.2
      obtain ⟨q7, rfl⟩ := hS6.tup_of
      show gUnp K 2 _ _ [some (.ref p), some (.str (S [n])), some (.ref q3), _, none, none] _ _
      refine w_unpT2 (d1 := smD z.1) (d2 := smD z.2) hS6 (.dat (.head _)) fun u1 u2 hS7 => ?_
      obtain rfl := hS7.str_of
      obtain rfl := hS7.tail.str_of
      have hS8 := hS7.tail.tail.tail
      clear hSx hS4 hS5 hS6 hS7
      walk_at "w"
      refine ⟨rfl, ?_⟩
      walk_at "w"
      rw [e1]
      refine w_ixSg (c := c) (by simp) (by decide) rfl ?_
      walk_at "w"
      refine w_ite (fun _ => ?_) (fun _ => ?_)
      · walk_at "w"
        rename_i q9 H9 hS9
        refine w_ixSg (c := c) (by simp) (by decide) rfl ?_
        walk_at "w"
        refine w_intB2 ?_
        have fin : ∀ m : Nat, m ≤ 3 → NewT [.str (S z.2), .int (m : Nat)] H9 Z1 := fun m hm => by
          have hSa := hS9.tail
          refine w_newT hSa (.cons .str (.cons .int .nil)) (by simp) fun qb Hb hSb => ?_
          exact h1 _ _ _ ⟨(z.2, m), ⟨hn2, hm⟩, rfl⟩ hSb
        by_cases hg : [c] = [103]
        · rw [decide_eq_true hg]
          exact w_ixLi (k := 1) (m := 2) hS9 (.own (.head _)) rfl rfl (fin 2 (by decide))
        · rw [decide_eq_false hg]
          exact w_ixLi (k := 0) (m := 1) hS9 (.own (.head _)) rfl rfl (fin 1 (by decide))
      · exact h2 _ hS8
    · obtain ⟨zs, rfl, hzs, hzl⟩ := cls_of hP
      have hS7 := hS6.to (L' := Lg.ls K q6 (zs.map clD) :: Lg.ls K q3 (List.map clD cs) :: L) (by walk_at "pick")
      clear hSx hS4 hS5 hS6
      rw [List.length_map] at hel
      walk_at "w"
      rename_i q8 H8 hS8
      refine ⟨q8, cs ++ zs, _, _, _, rfl, fun z hz => ?_, by simp; omega, ?_⟩
      · rcases List.mem_append.mp hz with hz | hz
        · exact hus z hz
        · exact hzs z hz
      · rw [List.map_append]
        exact hS8.to (by walk_at "pick")
  · rintro σ H2 ⟨q3, cs, v3, v4, v5, rfl, hus, hul, hS2⟩
    rw [List.length_map] at hul
    clear hS hS1
    walk_at "w"
    rename_i qa Ha hSa qb Hb hSb qc Hc hSc qd Hd hSd
    have k1 := (own_ok 102 (by decide) n hn).1
    have k2 := (own_ok 103 (by decide) n hn).1
    refine hQ qd (cs ++ [([102, n], 1), ([103, n], 2)]) _ (fun z hz => ?_) (by simp; omega) ?_
    · rcases List.mem_append.mp hz with hz | hz
      · exact hus z hz
      · simp only [List.mem_cons, List.not_mem_nil, or_false] at hz
        rcases hz with rfl | rfl
        · exact ⟨k1, (show 1 ≤ 3 by decide)⟩
        · exact ⟨k2, (show 2 ≤ 3 by decide)⟩
    · rw [List.map_append]
      exact hSd.to (by walk_at "pick")
end

/-! k05: modules drawn -/
section
variable {K : PySem.W.Frag}
/-! ### modules drawn (shared) -/
theorem cutD_m2A {α : Type} (c : α → PyData) (s : List α) : Lg.cutD (s.map c) none (some (-2)) = (s.take (s.length - 2)).map c := by
  unfold Lg.cutD
  have e1 : HT.sIx (s.map c).length 0 none = 0 := by simp [HT.sIx]
  have e2 : HT.sIx (s.map c).length (s.map c).length (some (-2)) = s.length - 2 := by
    unfold HT.sIx
    simp
    omega
  rw [e1, e2, List.drop_zero, Nat.sub_zero, ← List.map_take]
/-- the five lines of each module -/
def own5 (n : Nat) (t1 t2 t3 t4 t5 : Tr) : List Ln := [.var false [120, n] t1, .fn [102, n] [[112]] t2, .var false [121, n] t3, .var true [107, n] t4, .fn [103, n] [[112], [113]] t5]
structure OwnA (n : Nat) (own : List Ln) : Prop where
  h : ∃ t1 t2 t3 t4 t5 rs, own = own5 n t1 t2 t3 t4 t5 ++ rs ∧ TN 3 t1 ∧ TN 3 t2 ∧ TN 3 t3 ∧ TN 3 t4 ∧ TN 3 t5 ∧ rs.length ≤ 2 ∧ ∀ r ∈ rs, ∃ hd t, r = .run hd t ∧ TN 3 t
theorem pq_nm : isName [112] = true ∧ isName [113] = true := by decide +kernel
theorem runs_no {rs : List Ln} (h : ∀ r ∈ rs, ∃ hd t, r = .run hd t ∧ TN 3 t) : avs rs = [] ∧ exs rs = [] ∧ ∀ l ∈ rs, l.ok ∧ l.nc := by
  refine ⟨?_, ?_, fun l hl => ?_⟩
  · unfold avs
    rw [List.flatMap_eq_nil_iff]
    intro l hl
    obtain ⟨hd, t, rfl, _⟩ := h l hl
    rfl
  · unfold exs
    rw [List.flatMap_eq_nil_iff]
    intro l hl
    obtain ⟨hd, t, rfl, _⟩ := h l hl
    rfl
  · obtain ⟨hd, t, rfl, ht⟩ := h l hl
    exact ⟨ht.o, ht.c⟩
theorem own5_ok {n : Nat} (hn : n ∈ modL) {t1 t2 t3 t4 t5 : Tr} (h1 : TN 3 t1) (h2 : TN 3 t2) (h3 : TN 3 t3) (h4 : TN 3 t4) (h5 : TN 3 t5) : ∀ l ∈ own5 n t1 t2 t3 t4 t5, l.ok ∧ l.nc := fun l hl => by
  have k := fun c hc => (own_ok c hc n hn).1
  simp only [own5, List.mem_cons, List.not_mem_nil, or_false] at hl
  rcases hl with rfl | rfl | rfl | rfl | rfl
  · exact ⟨⟨k 120 (by decide), h1.o⟩, h1.c⟩
  · exact ⟨⟨k 102 (by decide), by simp [pq_nm.1], by simp, by simp, h2.o⟩, h2.c⟩
  · exact ⟨⟨k 121 (by decide), h3.o⟩, h3.c⟩
  · exact ⟨⟨k 107 (by decide), h4.o⟩, h4.c⟩
  · exact ⟨⟨k 103 (by decide), by simp [pq_nm.1, pq_nm.2], by simp, by simp, h5.o⟩, h5.c⟩
theorem avs_app (a b : List Ln) : avs (a ++ b) = avs a ++ avs b := List.flatMap_append
theorem exs_app (a b : List Ln) : exs (a ++ b) = exs a ++ exs b := List.flatMap_append
theorem OwnA.own0 {n : Nat} (hn : n ∈ modL) {own : List Ln} (h : OwnA n own) : Own n own ∧ Own n (own.drop 2 ++ own.take 2) := by
  obtain ⟨t1, t2, t3, t4, t5, rs, rfl, h1, h2, h3, h4, h5, hrl, hrs⟩ := h.h
  obtain ⟨r1, r2, r3⟩ := runs_no hrs
  have ok5 := own5_ok hn h1 h2 h3 h4 h5
  have a5 : avs (own5 n t1 t2 t3 t4 t5) = [[120, n], [102, n], [121, n], [107, n], [103, n]] := rfl
  have e5 : exs (own5 n t1 t2 t3 t4 t5) = [[120, n], [102, n], [121, n], [107, n], [103, n]] := rfl
  have e1 : (own5 n t1 t2 t3 t4 t5 ++ rs).drop 2 ++ (own5 n t1 t2 t3 t4 t5 ++ rs).take 2 = (own5 n t1 t2 t3 t4 t5).drop 2 ++ (rs ++ (own5 n t1 t2 t3 t4 t5).take 2) := by simp [own5]
  have a6 : avs ((own5 n t1 t2 t3 t4 t5).drop 2) = [[121, n], [107, n], [103, n]] := rfl
  have e6 : exs ((own5 n t1 t2 t3 t4 t5).drop 2) = [[121, n], [107, n], [103, n]] := rfl
  have a7 : avs ((own5 n t1 t2 t3 t4 t5).take 2) = [[120, n], [102, n]] := rfl
  have e7 : exs ((own5 n t1 t2 t3 t4 t5).take 2) = [[120, n], [102, n]] := rfl
  refine ⟨⟨fun l hl => ?_, ?_, ?_, ?_, ?_⟩, ?_⟩
  · rcases List.mem_append.mp hl with hl | hl
    · exact ok5 l hl
    · exact r3 l hl
  · rw [avs_app, exs_app, r1, r2, a5, e5]
  · rw [avs_app, r1, a5]
    simp
  · rw [avs_app, r1, a5]
    intro z hz
    simp at hz
    rcases hz with rfl | rfl | rfl | rfl | rfl <;> exact ⟨_, by decide, rfl⟩
  · simp [own5]; omega
  · rw [e1]
    refine ⟨fun l hl => ?_, ?_, ?_, ?_, ?_⟩
    · rcases List.mem_append.mp hl with hl | hl
      · exact ok5 l (List.drop_subset _ _ hl)
      · rcases List.mem_append.mp hl with hl | hl
        · exact r3 l hl
        · exact ok5 l (List.take_subset _ _ hl)
    · rw [avs_app, avs_app, exs_app, exs_app, r1, r2, a6, e6, a7, e7]
    · rw [avs_app, avs_app, r1, a6, a7]
      simp
    · rw [avs_app, avs_app, r1, a6, a7]
      intro z hz
      simp at hz
      rcases hz with rfl | rfl | rfl | rfl | rfl <;> exact ⟨_, by decide, rfl⟩
    · simp [own5]; omega
theorem OwnA.rf {n : Nat} {own : List Ln} (h : OwnA n own) : ∀ l ∈ own, l.ref = none := fun l hl => by
  obtain ⟨t1, t2, t3, t4, t5, rs, rfl, _, _, _, _, _, _, hrs⟩ := h.h
  rcases List.mem_append.mp hl with hl | hl
  · simp only [own5, List.mem_cons, List.not_mem_nil, or_false] at hl
    rcases hl with rfl | rfl | rfl | rfl | rfl <;> rfl
  · obtain ⟨hd, t, rfl, _⟩ := hrs l hl
    rfl
theorem OwnA.own {n : Nat} (hn : n ∈ modL) {own : List Ln} (h : OwnA n own) : OwnB n own ∧ OwnB n (own.drop 2 ++ own.take 2) := by
  obtain ⟨h1, h2⟩ := h.own0 hn
  refine ⟨⟨h1, h.rf⟩, ⟨h2, fun l hl => ?_⟩⟩
  rcases List.mem_append.mp hl with hl | hl
  · exact h.rf l (List.drop_subset _ _ hl)
  · exact h.rf l (List.take_subset _ _ hl)
/-- what a module drawn is -/
structure Mdn (n : Nat) (ls : List Ln) : Prop where
  md : Md ls
  len : ls.length ≤ 11
  ex : ∀ z ∈ exs ls, ∃ c ∈ ownC, z = [c, n]
  sh : Shp n ls
def spLModule (K : PySem.W.Frag) : Sp := fun vs H Q _ => ∃ (L : List Ent) (b p : Addr) (n : Nat) (os : List Nat), vs = [.ref b, .str (S [n]), .ref p] ∧ St K L H ∧ bx K b ∈ L ∧ LsIn K L p (modDs os) ∧ (∀ o ∈ os, o ∈ modL) ∧ os.length ≤ 4 ∧ n ∈ modL ∧ ∀ v ls H', Mdn n ls → St K (Lg.dat v (lnsT ls) :: L) H' → Q v H'
theorem p_l_module (vs : List V) (H : Hp) (Q : VK) (E : XK) (h : spLModule K vs H Q E) : vs.length = 3 ∧ t_l_module K (spDraw K) (spLTree 10 K) (spLCalls K) (spLUsable K) (spLImports K) { nx := fun _ H' => Q .non H', rt := Q } (start N_l_module vs) H := by
  obtain ⟨L, b, p, n, os, rfl, hS, hb, hp, hos, hol, hn3, hQ⟩ := h
  refine ⟨rfl, ?_⟩
  have hn : n ∈ modL := by simp at hn3 ⊢; omega
  have k := fun c hc => (own_ok c hc n hn).1
  unfold t_l_module
  walk_at "z"
  show tSeq _ _ _ [some (.ref b), some (.str (S [n])), some (.ref p), none, none, none, none, none, none, none, none] H
  walk_at "w"
  refine ⟨L, b, p, n, os, rfl, hS, hb, hp, hos, hol, fun q3 ims H1 hI hS1 => ?_⟩
  clear hS
  walk_at "w"
  refine ⟨_, q3, n, _, ims, rfl, hS1, .own (.head _), hI, hn, fun qu us0 H2 hu0 hul0 hS2 => ?_⟩
  clear hS1
  walk_at "w"
  rename_i q4 H3 hS3
  rw [cutD_m2A] at hS3
  have hu : ∀ z ∈ us0.take (us0.length - 2), isName z = true := fun z hz => hu0 z (List.take_subset _ _ hz)
  have hul : (us0.take (us0.length - 2)).length ≤ 20 := by rw [List.length_take]; omega
  generalize us0.take (us0.length - 2) = us at hu hul hS3
  have hS4 := hS3.to (L' := Lg.ls K q4 (us.map smD) :: Lg.ls K q3 (ims.map Ln.d) :: L) (by walk_at "pick")
  clear hS2 hS3 hu0 hul0
  refine w_anyL1 ?_
  walk_at "w"
  refine ⟨_, q3, n, ims, rfl, hS4, .own (.tail _ (.head _)), hI, hn, fun qc cs0 H5 hc0 hcl0 hS5 => ?_⟩
  walk_at "w"
  rename_i q6 H6 hS6
  rw [cutD_m2A] at hS6
  have hc1 : ∀ c ∈ cs0.take (cs0.length - 2), isName c.1 = true ∧ c.2 ≤ 3 := fun z hz => hc0 z (List.take_subset _ _ hz)
  have hcl1 : (cs0.take (cs0.length - 2)).length ≤ 20 := by rw [List.length_take]; omega
  generalize cs0.take (cs0.length - 2) = cs1 at hc1 hcl1 hS6
  clear hS4 hS5 hc0 hcl0
  refine w_lcP (zs := cs1) (c := clD) (fun e => ∃ c : Nm × Nat, (isName c.1 = true ∧ c.2 ≤ 3) ∧ e = clD c) hS6 (.own (.head _)) (by omega) (fun z v H7 q7 es Z1 Z2 hz hS7 h1 h2 => ?_) fun q5 es H7 hP hel hS7 => ?_
  · obtain ⟨q8, rfl⟩ := hS7.tup_of
    show gName 10 _ [some (.ref b), some (.str (S [n])), some (.ref p), some (.ref q3), some (.ref q4), none, none, none, none, none, none] _ _
    walk_at "w"
    refine ⟨rfl, ?_⟩
    walk_at "w"
    refine w_ixTi (k := 1) (m := (z.2 : Nat)) hS7 (.dat (.head _)) rfl rfl ?_
    walk_at "w"
    refine w_ite (fun _ => ?_) (fun _ => ?_)
    · walk_at "w"
      exact h1 _ _ _ ⟨z, hc1 z hz, rfl⟩ hS7
    · exact h2 _ hS7.tail
  obtain ⟨cs, rfl, hc, hcl⟩ := cls_of hP
  have hcl2 : cs.length ≤ 20 := by omega
  have hS8 := hS7.to (L' := Lg.ls K q5 (cs.map clD) :: Lg.ls K q4 (us.map smD) :: Lg.ls K q3 (ims.map Ln.d) :: L) (by walk_at "pick")
  clear hS6 hS7 hP hel
  walk_at "w"
  rename_i qa Ha hSa q6' Hb hSb q7 Hc hSc
  have hum : ∀ z ∈ us ++ [[120, n]], isName z = true := fun z hz => by
    rcases List.mem_append.mp hz with hz | hz
    · exact hu z hz
    · rcases List.mem_singleton.mp hz with rfl
      exact k 120 (by decide)
  have huml : (us ++ [[120, n]]).length ≤ 21 := by simp; omega
  have eum : List.map smD us ++ [PyData.str (S ([120] ++ [n]))] = (us ++ [[120, n]]).map smD := by rw [List.map_append]; rfl
  rw [eum] at hSc
  generalize us ++ [[120, n]] = ms at hum huml hSc
  have hSd := hSc.to (L' := Lg.ls K q7 (List.map Ln.d []) :: Lg.ls K q6' (ms.map smD) :: Lg.ls K q5 (cs.map clD) :: Lg.ls K q4 (us.map smD) :: Lg.ls K q3 (ims.map Ln.d) :: L) (by walk_at "pick")
  clear hS8 hSa hSb hSc eum
  -- let x
  refine ⟨_, b, q4, q5, us, cs, 1, 1, rfl, rfl, by decide, by decide, hSd, by walk_at "mem", .own (by walk_at "mem"), hu, by omega, .own (by walk_at "mem"), hc, by omega, fun t1 v1 H1 hT1 hS1 => ?_⟩
  clear hSd
  walk_at "w"
  rename_i qe He hSe
  refine w_app (d := (Ln.var false [120, n] t1).d) hSe (by walk_at "put") (.dat (.head _)) (by simp) fun Hf hSf => ?_
  have hSg := hSf.to (L' := Lg.ls K q7 [(Ln.var false [120, n] t1).d] :: Lg.ls K q6' (ms.map smD) :: Lg.ls K q5 (cs.map clD) :: Lg.ls K q4 (us.map smD) :: Lg.ls K q3 (ims.map Ln.d) :: L) (by walk_at "pick")
  clear hS1 hSe hSf
  walk_at "w"
  -- fn f
  rename_i qh Hh hSh qi Hi hSi qj Hj hSj qk Hk hSk
  have hm2 : ∀ z ∈ ms ++ [[112]], isName z = true := fun z hz => by
    rcases List.mem_append.mp hz with hz | hz
    · exact hum z hz
    · rcases List.mem_singleton.mp hz with rfl
      exact pq_nm.1
  have em2 : List.map smD ms ++ [PyData.str (S [112])] = (ms ++ [[112]]).map smD := by rw [List.map_append]; rfl
  rw [em2] at hSk
  refine ⟨_, b, qj, qk, ms ++ [[112]], [], 2, 2, rfl, rfl, by decide, by decide, hSk, by walk_at "mem", .own (by walk_at "mem"), hm2, by simp; omega, .own (by walk_at "mem"), by simp, by simp, fun t2 v2 H2 hT2 hS2 => ?_⟩
  clear hSg hSh hSi hSj hSk hm2 em2
  walk_at "w"
  rename_i qe He hSe
  refine w_app (d := (Ln.fn [102, n] [[112]] t2).d) hSe (by walk_at "put") (.dat (.head _)) (by simp) fun Hf hSf => ?_
  have hSg := hSf.to (L' := Lg.ls K q7 [(Ln.var false [120, n] t1).d, (Ln.fn [102, n] [[112]] t2).d] :: Lg.ls K q6' (ms.map smD) :: Lg.ls K q5 (cs.map clD) :: Lg.ls K q4 (us.map smD) :: Lg.ls K q3 (ims.map Ln.d) :: L) (by walk_at "pick")
  clear hS2 hSe hSf
  walk_at "w"
  -- let y
  rename_i qh Hh hSh qi Hi hSi qj Hj hSj
  have hc3 : ∀ c ∈ cs ++ [([102, n], 1)], isName c.1 = true ∧ c.2 ≤ 3 := fun z hz => by
    rcases List.mem_append.mp hz with hz | hz
    · exact hc z hz
    · rcases List.mem_singleton.mp hz with rfl
      exact ⟨k 102 (by decide), (show 1 ≤ 3 by decide)⟩
  have ec3 : List.map clD cs ++ [PyData.tuple [PyData.str (S ([102] ++ [n])), PyData.int 1]] = (cs ++ [([102, n], 1)]).map clD := by rw [List.map_append]; rfl
  rw [ec3] at hSj
  refine ⟨_, b, q6', qj, ms, cs ++ [([102, n], 1)], 2, 2, rfl, rfl, by decide, by decide, hSj, by walk_at "mem", .own (by walk_at "mem"), hum, by omega, .own (by walk_at "mem"), hc3, by simp; omega, fun t3 v3 H3 hT3 hS3 => ?_⟩
  clear hSg hSh hSi hSj hc3 ec3
  walk_at "w"
  rename_i qe He hSe
  refine w_app (d := (Ln.var false [121, n] t3).d) hSe (by walk_at "put") (.dat (.head _)) (by simp) fun Hf hSf => ?_
  have hSg := hSf.to (L' := Lg.ls K q7 [(Ln.var false [120, n] t1).d, (Ln.fn [102, n] [[112]] t2).d, (Ln.var false [121, n] t3).d] :: Lg.ls K q6' (ms.map smD) :: Lg.ls K q5 (cs.map clD) :: Lg.ls K q4 (us.map smD) :: Lg.ls K q3 (ims.map Ln.d) :: L) (by walk_at "pick")
  clear hS3 hSe hSf
  walk_at "w"
  -- keep k
  rename_i qh Hh hSh
  refine ⟨_, b, q6', qh, ms, [], 1, 1, rfl, rfl, by decide, by decide, hSh, by walk_at "mem", .own (by walk_at "mem"), hum, by omega, .own (by walk_at "mem"), by simp, by simp, fun t4 v4 H4 hT4 hS4 => ?_⟩
  clear hSg hSh
  walk_at "w"
  rename_i qe He hSe
  refine w_app (d := (Ln.var true [107, n] t4).d) hSe (by walk_at "put") (.dat (.head _)) (by simp) fun Hf hSf => ?_
  have hSg := hSf.to (L' := Lg.ls K q7 [(Ln.var false [120, n] t1).d, (Ln.fn [102, n] [[112]] t2).d, (Ln.var false [121, n] t3).d, (Ln.var true [107, n] t4).d] :: Lg.ls K q6' (ms.map smD) :: Lg.ls K q5 (cs.map clD) :: Lg.ls K q3 (ims.map Ln.d) :: L) (by walk_at "pick")
  clear hS4 hSe hSf
  walk_at "w"
  refine ⟨_, q3, n, _, ims, rfl, hSg, .own (by walk_at "mem"), hI, hn, fun q8 us2 H5 hu2 hul2 hS5 => ?_⟩
  clear hSg
  walk_at "w"
  -- fn g
  rename_i qh Hh hSh qi Hi hSi qj Hj hSj
  have hm2 : ∀ z ∈ us2 ++ [[112], [113]], isName z = true := fun z hz => by
    rcases List.mem_append.mp hz with hz | hz
    · exact hu2 z hz
    · simp at hz
      rcases hz with rfl | rfl
      · exact pq_nm.1
      · exact pq_nm.2
  have em2 : List.map smD us2 ++ [PyData.str (S [112]), PyData.str (S [113])] = (us2 ++ [[112], [113]]).map smD := by rw [List.map_append]; rfl
  rw [em2] at hSj
  refine ⟨_, b, qj, q5, us2 ++ [[112], [113]], cs, 2, 2, rfl, rfl, by decide, by decide, hSj, by walk_at "mem", .own (by walk_at "mem"), hm2, by simp; omega, .own (by walk_at "mem"), hc, by omega, fun t5 v5 H6 hT5 hS6 => ?_⟩
  clear hS5 hSh hSi hSj hm2 em2
  walk_at "w"
  rename_i qe He hSe
  refine w_app (d := (Ln.fn [103, n] [[112], [113]] t5).d) hSe (by walk_at "put") (.dat (.head _)) (by simp) fun Hf hSf => ?_
  have hA5 : OwnA n (own5 n t1 t2 t3 t4 t5) := ⟨t1, t2, t3, t4, t5, [], by simp, hT1.le (by decide), hT2, hT3, hT4.le (by decide), hT5, by simp, by simp⟩
  have hSg := hSf.to (L' := Lg.ls K q7 ((own5 n t1 t2 t3 t4 t5).map Ln.d) :: Lg.ls K q6' (ms.map smD) :: Lg.ls K q5 (cs.map clD) :: Lg.ls K q3 (ims.map Ln.d) :: L) (by walk_at "pick")
  clear hS6 hSe hSf
  walk_at "w"
  rename_i kd Hg hk0 hk1 hSh
  clear hSg
  -- do
  refine w_cut (fun σ' H' => ∃ rs v10, σ' = [some (.ref b), some (.str (S [n])), some (.ref p), some (.ref q3), some (.ref q4), some (.ref q5), some (.ref q6'), some (.ref q7), some (.ref q8), some (.int kd), v10] ∧ rs.length ≤ 1 ∧ (∀ r ∈ rs, ∃ hd t, r = Ln.run hd t ∧ TN 3 t) ∧
    St K (Lg.ls K q7 ((own5 n t1 t2 t3 t4 t5 ++ rs).map Ln.d) :: Lg.ls K q3 (ims.map Ln.d) :: L) H') ?_ ?_
  · walk_at "w"
    refine w_ifd (fun h1 => ?_) (fun h1 => ?_)
    rotate_left
    · walk_at "w"
      exact ⟨[], _, rfl, by simp, by simp, by rw [List.append_nil]; exact hSh.to (by walk_at "pick")⟩
    walk_at "w"
    rename_i qi Hi hSi qj Hj hSj
    have hmy : ∀ z ∈ ms ++ [[121, n]], isName z = true := fun z hz => by
      rcases List.mem_append.mp hz with hz | hz
      · exact hum z hz
      · rcases List.mem_singleton.mp hz with rfl
        exact k 121 (by decide)
    have emy : List.map smD ms ++ [PyData.str (S ([121] ++ [n]))] = (ms ++ [[121, n]]).map smD := by rw [List.map_append]; rfl
    rw [emy] at hSj
    have hSk := hSj.to (L' := Lg.ls K qj ((ms ++ [[121, n]]).map smD) :: Lg.ls K q7 ((own5 n t1 t2 t3 t4 t5).map Ln.d) :: Lg.ls K q5 (cs.map clD) :: Lg.ls K q3 (ims.map Ln.d) :: L) (by walk_at "pick")
    clear hSh hSi hSj emy
    refine ⟨_, q3, n, ims, rfl, hSk, .own (by walk_at "mem"), hI, hn, fun ql cs2 Hl hc2 hcl2' hSl => ?_⟩
    walk_at "w"
    refine w_newLr hSl (by simp) fun qm Hm hSm => ?_
    walk_at "w"
    have fin : ∀ (qq : Addr) (cc : List (Nm × Nat)), (∀ c ∈ cc, isName c.1 = true ∧ c.2 ≤ 3) → cc.length ≤ 20 → LsIn K (Lg.own qm (.lst [.ref q5, .ref ql]) :: Lg.ls K ql (cs2.map clD) :: Lg.ls K qj ((ms ++ [[121, n]]).map smD) :: Lg.ls K q7 ((own5 n t1 t2 t3 t4 t5).map Ln.d) :: Lg.ls K q5 (cs.map clD) :: Lg.ls K q3 (ims.map Ln.d) :: L) qq (cc.map clD) → ∀ (Q' : VK) (E' : XK), (∀ t v H', TN 3 t → St K (Lg.dat v t.d :: Lg.own qm (.lst [.ref q5, .ref ql]) :: Lg.ls K ql (cs2.map clD) :: Lg.ls K qj ((ms ++ [[121, n]]).map smD) :: Lg.ls K q7 ((own5 n t1 t2 t3 t4 t5).map Ln.d) :: Lg.ls K q5 (cs.map clD) :: Lg.ls K q3 (ims.map Ln.d) :: L) H' → Q' v H') → spLTree 10 K [.ref b, .ref qj, .ref qq, .int 2] Hm Q' E' := fun qq cc h1 h2 h3 Q' E' h4 =>
      ⟨_, b, qj, qq, ms ++ [[121, n]], cc, 2, 2, rfl, rfl, by decide, by decide, hSm, by walk_at "mem", .own (by walk_at "mem"), hmy, by simp; omega, h3, h1, by omega, h4⟩
    have kk : kd = 0 ∨ kd = 1 := by omega
    rcases kk with rfl | rfl
    · refine w_ixR (k := 0) hSm (.head _) rfl rfl ?_
      walk_at "w"
      refine fin q5 cs hc (by omega) (.own (by walk_at "mem")) _ _ fun t6 v6 H6 hT6 hS6 => ?_
      clear hSk hSl hSm
      walk_at "w"
      rename_i qe He hSe
      refine w_app (d := (Ln.run false t6).d) hSe (by walk_at "put") (.dat (.head _)) (by simp [own5]) fun Hf hSf => ?_
      walk_at "w"
      refine ⟨[.run false t6], _, rfl, by simp, fun r hr => ?_, ?_⟩
      · rcases List.mem_singleton.mp hr with rfl
        exact ⟨_, _, rfl, hT6⟩
      · rw [List.map_append]
        exact hSf.to (by walk_at "pick")
    · refine w_ixR (k := 1) hSm (.head _) rfl rfl ?_
      walk_at "w"
      refine fin ql cs2 hc2 (by omega) (.own (by walk_at "mem")) _ _ fun t6 v6 H6 hT6 hS6 => ?_
      clear hSk hSl hSm
      walk_at "w"
      rename_i qe He hSe
      refine w_app (d := (Ln.run false t6).d) hSe (by walk_at "put") (.dat (.head _)) (by simp [own5]) fun Hf hSf => ?_
      walk_at "w"
      refine ⟨[.run false t6], _, rfl, by simp, fun r hr => ?_, ?_⟩
      · rcases List.mem_singleton.mp hr with rfl
        exact ⟨_, _, rfl, hT6⟩
      · rw [List.map_append]
        exact hSf.to (by walk_at "pick")
  rintro σ' Hx ⟨rs, v10, rfl, hrl, hrs, hSx⟩
  clear hSh
  -- hold
  refine w_cut (fun σ' H' => ∃ own v10, σ' = [some (.ref b), some (.str (S [n])), some (.ref p), some (.ref q3), some (.ref q4), some (.ref q5), some (.ref q6'), some (.ref q7), some (.ref q8), some (.int kd), v10] ∧ OwnA n own ∧ St K (Lg.ls K q7 (own.map Ln.d) :: Lg.ls K q3 (ims.map Ln.d) :: L) H') ?_ ?_
  · walk_at "w"
    refine w_ifd (fun h1 => ?_) (fun h1 => ?_)
    rotate_left
    · walk_at "w"
      exact ⟨_, _, rfl, ⟨t1, t2, t3, t4, t5, rs, rfl, hT1.le (by decide), hT2, hT3, hT4.le (by decide), hT5, by omega, hrs⟩, hSx⟩
    have hn12 : n < 1114112 ∧ n ≠ 34 ∧ n ≠ 44 ∧ n ≠ 10 := by simp at hn3; omega
    have sok : ∀ z : Nm, z.length ≤ 20 → (∀ c ∈ z, c = n ∨ (97 ≤ c ∧ c ≤ 122)) → TN 1 (.str z) := fun z hz h => by
      have h3 : ∀ c ∈ z, c < 1114112 ∧ c ≠ 34 ∧ c ≠ 44 ∧ c ≠ 10 := fun c hc => by
        rcases h c hc with rfl | h
        · exact hn12
        · omega
      exact TN.str ⟨⟨hz, fun m => (h3 34 m).2.1 rfl, fun c hc => (h3 c hc).1⟩, fun m => (h3 44 m).2.2.1 rfl, fun m => (h3 10 m).2.2.2 rfl⟩
    walk_at "w"
    rename_i ql Hl hSl ko Ho ho0 ho1 hSo
    refine w_ixLD (P := fun d => ∃ t, TN 3 t ∧ d = t.d) hSo (.own (by walk_at "mem")) ho0 (by simp; omega) (fun d hd => ?_) fun v d hd hSp => ?_
    · simp only [List.mem_cons, List.not_mem_nil, or_false] at hd
      rcases hd with rfl | rfl | rfl
      · exact ⟨.str ([114] ++ [n]), (sok _ (by simp) (by simp)).le (by decide), by rw [Tr.d]⟩
      · exact ⟨.str [99, 111, 109, 109, 111, 110], (sok _ (by simp) (by simp)).le (by decide), by rw [Tr.d]⟩
      · exact ⟨.op 43 (.str [114]) (.str [n]), (TN.op (by simp) (sok _ (by simp) (by simp)) (sok _ (by simp) (by simp))).le (by decide), by rw [Tr.d, Tr.d, Tr.d]⟩
    obtain ⟨t6, hT6, rfl⟩ := hd
    have hSq := hSp.to (L' := Lg.dat v t6.d :: Lg.ls K q7 ((own5 n t1 t2 t3 t4 t5 ++ rs).map Ln.d) :: Lg.ls K q3 (ims.map Ln.d) :: L) (by walk_at "pick")
    clear hSp hSo
    walk_at "w"
    rename_i qe He hSe
    refine w_app (d := (Ln.run true t6).d) hSe (by walk_at "put") (.dat (.head _)) (by simp [own5]; omega) fun Hf hSf => ?_
    walk_at "w"
    refine ⟨own5 n t1 t2 t3 t4 t5 ++ (rs ++ [.run true t6]), _, rfl, ⟨t1, t2, t3, t4, t5, _, rfl, hT1.le (by decide), hT2, hT3, hT4.le (by decide), hT5, by simp; omega, fun r hr => ?_⟩, ?_⟩
    · rcases List.mem_append.mp hr with hr | hr
      · exact hrs r hr
      · rcases List.mem_singleton.mp hr with rfl
        exact ⟨_, _, rfl, hT6⟩
    · rw [← List.append_assoc, List.map_append]
      exact hSf.to (by walk_at "pick")
  clear hSx hrs hrl
  rintro σ' Hy ⟨own, v11, rfl, hA, hSy⟩
  have hAo := hA.own hn
  -- turned
  refine w_cut (fun σ' H' => ∃ q9 own v10, σ' = [some (.ref b), some (.str (S [n])), some (.ref p), some (.ref q3), some (.ref q4), some (.ref q5), some (.ref q6'), some (.ref q9), some (.ref q8), some (.int kd), v10] ∧ OwnB n own ∧ St K (Lg.ls K q9 (own.map Ln.d) :: Lg.ls K q3 (ims.map Ln.d) :: L) H') ?_ ?_
  · walk_at "w"
    rename_i ko Ho ho0 ho1 hSo
    refine w_ifd (fun h1 => ?_) (fun h1 => ?_)
    rotate_left
    · walk_at "w"
      exact ⟨q7, own, _, rfl, hAo.1, hSo⟩
    clear hSy
    have hol := hAo.1.o.len
    walk_at "w"
    rename_i qr Hr hSr qs Hs hSs
    rw [cutD_on (i := 2) (a := 2) rfl, ← List.map_drop] at hSs
    rw [cutD_no (j := 2) (b := 2) rfl, ← List.map_take] at hSs
    refine w_plusL hSs (.own (by walk_at "mem")) (.own (by walk_at "mem")) (by simp; omega) fun qt Ht hSt => ?_
    walk_at "w"
    refine ⟨qt, own.drop 2 ++ own.take 2, _, rfl, hAo.2, ?_⟩
    rw [List.map_append]
    exact hSt.to (by walk_at "pick")
  rintro σ' Hz ⟨q9, own2, v12, rfl, hO, hSz⟩
  clear hSy hAo hA
  have hl1 := hI.len
  have hl2 := hO.o.len
  walk_at "w"
  rename_i qr Hr hSr
  refine w_tupL hSr (.own (by walk_at "mem")) fun qt Ht hSt => ?_
  obtain ⟨m1, m2, m3⟩ := md_mod hn hI hO.o
  refine hQ _ (ims ++ own2) _ ⟨m1, m2, m3, hn, ims, own2, rfl, hI, hO⟩ ?_
  have e : lnsT (ims ++ own2) = .tuple (ims.map Ln.d ++ own2.map Ln.d) := by unfold lnsT; rw [List.map_append]
  rw [e]
  exact hSt.to (by walk_at "pick")
end

/-! k05: dicts of modules -/
section
variable {K : PySem.W.Frag}
/-! ### modules drawn (shared) -/
structure MsOk (ms : Mods) : Prop where
  n : ms.length ≤ 4
  md : ∀ p ∈ ms, Md p.2 ∧ p.2.length ≤ 11
  nd : (ms.map Prod.fst).Nodup
  nm : ∀ p ∈ ms, ∃ o ∈ modL, p.1 = [o]
theorem look_new {ms : Mods} {k : Nm} (h : k ∉ ms.map Prod.fst) : lookD (msD ms) k = none := by
  rw [look_ms]
  unfold lookM
  have : ms.find? (fun p => decide (p.1 = k)) = none := by
    rw [List.find?_eq_none]
    intro p hp e
    exact h (List.mem_map.mpr ⟨p, hp, by simpa using e⟩)
  rw [this]
  rfl
def spLModules (K : PySem.W.Frag) : Sp := fun vs H Q _ => ∃ (L : List Ent) (b p : Addr) (os : List Nat), vs = [.ref b, .ref p] ∧ St K L H ∧ bx K b ∈ L ∧ LsIn K L p (modDs os) ∧ (∀ o ∈ os, o ∈ modL) ∧ os.length ≤ 4 ∧ os.Nodup ∧ ∀ q ms H', MsOk ms → (∀ p ∈ ms, ∃ o, p.1 = [o] ∧ Mdn o p.2) → ms.map Prod.fst = os.map (fun o => [o]) → St K (Lg.dks K q (msD ms) :: L) H' → Q (.ref q) H'
theorem p_l_modules (vs : List V) (H : Hp) (Q : VK) (E : XK) (h : spLModules K vs H Q E) : vs.length = 2 ∧ t_l_modules K (spLModule K) { nx := fun _ H' => Q .non H', rt := Q } (start N_l_modules vs) H := by
  obtain ⟨L, b, p, os, rfl, hS, hb, hp, hos, hol, hnd, hQ⟩ := h
  refine ⟨rfl, ?_⟩
  unfold t_l_modules
  show tSeq _ _ _ [some (.ref b), some (.ref p), none, none] H
  walk_at "w"
  refine w_dnew hS fun q H1 hS1 => ?_
  walk_at "w"
  refine w_forL (ds := modDs os) (fun i σ H' => (∃ v3, σ = [some (.ref b), some (.ref p), some (.ref q), v3]) ∧ ∃ ms : Mods, ms.map Prod.fst = (os.take i).map (fun o => [o]) ∧ (∀ p ∈ ms, ∃ o ∈ modL, p.1 = [o] ∧ Mdn o p.2) ∧ St K (Lg.dks K q (msD ms) :: L) H')
    ⟨⟨_, rfl⟩, [], rfl, by simp, hS1⟩ ?_ ?_ ?_
  · rintro i σ H2 _ ⟨⟨v3, rfl⟩, ms, _, _, hS2⟩
    exact ⟨_, hS2, hp.cons⟩
  · rintro i d v σ H2 hd ⟨⟨v3, rfl⟩, ms, hms, hmd, hS2⟩ more
    obtain ⟨o, ho, rfl⟩ := map_at hd
    have hil : i < os.length := (List.getElem?_eq_some_iff.mp ho).1
    have hS3 := more _ hS2 hp.cons
    obtain rfl := hS3.str_of
    clear hS1 hS3
    have hom := hos o (List.mem_of_getElem? ho)
    walk_at "w"
    refine w_dputE ?_
    walk_at "w"
    refine ⟨_, b, p, o, os, rfl, hS2, .tail _ hb, hp.cons, hos, hol, hom, fun v ls H3 hmn hS4 => ?_⟩
    walk_at "w"
    have hnew : ([o] : Nm) ∉ ms.map Prod.fst := by
      rw [hms]
      intro h
      obtain ⟨x, hx, e⟩ := List.mem_map.mp h
      have hxo : x = o := by simpa using e
      subst hxo
      have e2 : os = os.take i ++ os.drop i := (List.take_append_drop i os).symm
      have e3 : os.drop i = x :: os.drop (i + 1) := by
        rw [(List.getElem?_eq_some_iff.mp ho).2.symm, List.getElem_cons_drop]
      rw [e2, e3, List.nodup_append] at hnd
      exact hnd.2.2 x hx x (.head _) rfl
    have hml : ms.length ≤ 4 := by
      have := congrArg List.length hms
      rw [List.length_map, List.length_map, List.length_take] at this
      omega
    obtain ⟨H4, h1, hS5⟩ := w_dput (k := [o]) (d := lnsT ls) hS4 (.there .here) (.dat (.head _)) (v := v) (by simp [msD]; omega)
    refine ⟨q, H4, rfl, h1, ?_⟩
    walk_at "w"
    refine ⟨⟨_, rfl⟩, ms ++ [([o], ls)], ?_, fun p hp => ?_, ?_⟩
    · rw [List.map_append, hms, List.take_add_one, ho]
      simp
    · rcases List.mem_append.mp hp with hp | hp
      · exact hmd p hp
      · rcases List.mem_singleton.mp hp with rfl
        exact ⟨o, hom, rfl, hmn⟩
    · rw [put_new (look_new hnew)] at hS5
      have e : msD (ms ++ [([o], ls)]) = msD ms ++ [([o], lnsT ls)] := by unfold msD; rw [List.map_append]; rfl
      rw [e]
      exact hS5.tail
  · rintro σ H2 ⟨⟨v3, rfl⟩, ms, hms, hmd, hS2⟩
    have e0 : (modDs os).length = os.length := List.length_map ..
    rw [e0, List.take_length] at hms
    walk_at "w"
    have hml : ms.length ≤ 4 := by
      have := congrArg List.length hms
      rw [List.length_map, List.length_map] at this
      omega
    refine hQ q ms _ ⟨hml, fun p hp => ?_, ?_, fun p hp => ?_⟩ (fun p hp => ?_) hms hS2
    · obtain ⟨o, _, _, h⟩ := hmd p hp
      exact ⟨h.md, h.len⟩
    · rw [hms]
      have inj : ∀ l : List Nat, l.Nodup → (l.map fun o => ([o] : Nm)).Nodup := fun l h => by
        induction l with
        | nil => simp
        | cons x r ih =>
          have h2 := List.nodup_cons.mp h
          rw [List.map_cons, List.nodup_cons]
          refine ⟨fun hm => ?_, ih h2.2⟩
          obtain ⟨y, hy, e⟩ := List.mem_map.mp hm
          have : y = x := by simpa using e
          exact h2.1 (this ▸ hy)
      exact inj os hnd
    · obtain ⟨o, ho, e, _⟩ := hmd p hp
      exact ⟨o, ho, e⟩
    · obtain ⟨o, _, e, h⟩ := hmd p hp
      exact ⟨o, e, h⟩
end

/-! k05: the law searches -/
section
variable {K : PySem.W.Frag}
/-! ### the law's own search (shared) -/
def spLDeclared (K : PySem.W.Frag) : Sp := spDecl K
theorem p_l_declared (vs : List V) (H : Hp) (Q : VK) (E : XK) (h : spLDeclared K vs H Q E) : vs.length = 2 ∧ t_l_declared K { nx := fun _ H' => Q .non H', rt := Q } (start N_l_declared vs) H := by
  obtain ⟨L, a, v, ms, b, ls, rfl, hS, hm, hb, hl, hQ⟩ := h
  refine ⟨rfl, ?_⟩
  unfold t_l_declared
  walk_at "z"
  obtain ⟨p, rfl⟩ := (hS.learn (.dat hb)).tup_of
  show tSeq _ _ _ [some (.ref a), some (.ref p), none] H
  walk_at "w"
  refine w_anyT1 (w_dgetE ?_)
  walk_at "w"
  refine w_ixTs (k := 0) (m := S b.1) hS (.dat hb) rfl rfl ?_
  obtain ⟨o, h1, _, h3⟩ := hS.dget hm b.1
  obtain ⟨w, rfl, hS1⟩ := h3 (lnsT ls) (by rw [look_ms, hl]; rfl)
  refine ⟨_, w, rfl, h1, ?_⟩
  obtain ⟨t, rfl⟩ := hS1.tup_of
  refine w_itT hS1 (.dat (.head _)) ?_
  obtain ⟨xs, _, hS2⟩ := hS1.tupF (.dat (.head _))
  have hxl := (hS2.tf (.head _)).2.1
  rw [List.length_map] at hxl
  have hS3 := hS2.to (L' := Ent.fact (Fr.tupf K t xs (ls.map Ln.d)) :: L) (by walk_at "pick")
  clear hS hS1 hS2 h1 h3
  refine w_forTA (zs := ls) (c := Ln.d) hxl (fun i σ H' => (∃ v2, σ = [some (.ref a), some (.ref p), v2]) ∧ St K (Ent.fact (Fr.tupf K t xs (ls.map Ln.d)) :: L) H' ∧ ownLn ls b.2 = ownLn (ls.drop i) b.2)
    ⟨⟨_, rfl⟩, hS3, rfl⟩ (fun i σ H' _ hI => ⟨_, hI.2.1, .head _⟩) ?_ ?_
  · rintro i l v σ H2 hli ⟨⟨v2, rfl⟩, hS2, hf⟩ more
    have hS4 := more _ hS2 (.head _)
    obtain ⟨q, ds, rfl, hml, h1, h2⟩ := ln_hd hS4 (.head _)
    have e1 : ls.drop i = l :: ls.drop (i + 1) := by
      rw [(List.getElem?_eq_some_iff.mp hli).2.symm, List.getElem_cons_drop]
    rw [e1] at hf
    clear hS3
    have rest : ∀ H3, St K (Ent.fact (Fr.tupf K t xs (ls.map Ln.d)) :: L) H3 → l.nm1 ≠ some b.2 → (∃ v2, [some (V.ref a), some (V.ref p), some (V.ref q)] = [some (V.ref a), some (V.ref p), v2]) ∧ St K (Ent.fact (Fr.tupf K t xs (ls.map Ln.d)) :: L) H3 ∧ ownLn ls b.2 = ownLn (ls.drop (i + 1)) b.2 := fun H3 hS hne => by
      refine ⟨⟨_, rfl⟩, hS, ?_⟩
      rw [hf]
      unfold ownLn
      rw [List.find?_cons]
      simp [hne]
    walk_at "w"
    refine w_and ?_
    walk_at "w"
    refine w_ixTs (k := 0) (m := S l.w) hS4 (.dat hml) rfl rfl ?_
    walk_at "w"
    rename_i q6 H6 hS6
    refine w_inTS (ys := ownZ) hS6 (.dat (.head _)) ?_
    have hS7 := hS6.tail
    clear hS6 hS4
    walk_at "w"
    refine w_ifd (fun h3 => ?_) (fun h3 => ?_)
    · cases hn1 : l.nm1 with
      | none => exact absurd h3 (h2 hn1)
      | some z =>
        obtain ⟨_, es, rfl⟩ := h1 z hn1
        walk_at "w"
        refine w_ixTs (k := 1) (m := S z) hS7 (.dat hml) rfl rfl ?_
        walk_at "w"
        refine w_ixTs (k := 1) (m := S b.2) hS7 (.dat (.tail _ (.tail _ hb))) rfl rfl ?_
        walk_at "w"
        refine w_ifd (fun h4 => ?_) (fun h4 => ?_)
        · walk_at "w"
          refine hQ _ _ ?_
          have e : ownLn ls b.2 = some l := by
            rw [hf]
            unfold ownLn
            rw [List.find?_cons]
            simp [hn1, h4]
          rw [e]
          exact hS7.to (by walk_at "pick")
        · walk_at "w"
          exact rest _ hS7.tail (by rw [hn1]; exact fun e => h4 (by injection e))
    · walk_at "w"
      exact rest _ hS7.tail (fun e => h3 (h1 b.2 e).1)
  · rintro σ H2 ⟨⟨v2, rfl⟩, hS2, hf⟩
    rw [List.drop_length] at hf
    walk_at "w"
    refine hQ _ _ ?_
    rw [hf]
    exact (hS2.to (L' := L) (by walk_at "pick")).learn .non
end

/-! k05: what is exported -/
section
variable {K : PySem.W.Frag}
/-! ### the law's table of what is exported (shared) -/
def spLExports (K : PySem.W.Frag) : Sp := fun vs H Q _ => ∃ (L : List Ent) (v : V) (ls : List Ln), vs = [v] ∧ St K L H ∧ Lg.dat v (lnsT ls) ∈ L ∧ (∀ l ∈ ls, l.ok) ∧ ls.length ≤ 100 ∧ ∀ q H', St K (Lg.dks K q (expF ls) :: L) H' → Q (.ref q) H'
theorem p_l_exports (vs : List V) (H : Hp) (Q : VK) (E : XK) (h : spLExports K vs H Q E) : vs.length = 1 ∧ t_l_exports K { nx := fun _ H' => Q .non H', rt := Q } (start N_l_exports vs) H := by
  obtain ⟨L, v, ls, rfl, hS, hm, hok, hll, hQ⟩ := h
  refine ⟨rfl, ?_⟩
  unfold t_l_exports
  walk_at "z"
  obtain ⟨p, rfl⟩ := (hS.learn (.dat hm)).tup_of
  obtain ⟨xs, _, hS0⟩ := hS.tupF (.dat hm)
  have hxl := (hS0.tf (.head _)).2.1
  rw [List.length_map] at hxl
  show tSeq _ _ _ [some (.ref p), none, none, none, none] H
  clear hS
  walk_at "w"
  refine w_dnew hS0 fun q H1 hS1 => ?_
  walk_at "w"
  refine w_forTA (zs := ls) (c := Ln.d) hxl (fun i σ H' => (∃ v2 v3 v4, σ = [some (.ref p), some (.ref q), v2, v3, v4]) ∧ ∃ acc : KD, acc = (ls.take i).foldl expStep [] ∧ acc.length ≤ 4 * i ∧ St K (Lg.dks K q acc :: Ent.fact (Fr.tupf K p xs (ls.map Ln.d)) :: L) H')
    ⟨⟨_, _, _, rfl⟩, [], rfl, by simp, hS1⟩ (fun i σ H' _ hI => by
      obtain ⟨_, _, _, _, hS2⟩ := hI
      exact ⟨_, hS2, .tail _ (.head _)⟩) ?_ ?_
  · rintro i l v σ H2 hl ⟨⟨v2, v3, v4, rfl⟩, acc, hacc, hal, hS2⟩ more
    have hil : i < ls.length := (List.getElem?_eq_some_iff.mp hl).1
    have hlok := hok l (List.mem_of_getElem? hl)
    have hS3 := (more _ hS2 (.tail _ (.head _))).to (L' := Lg.dks K q acc :: Lg.dat v l.d :: Ent.fact (Fr.tupf K p xs (ls.map Ln.d)) :: L) (by walk_at "pick")
    obtain ⟨ql, ds, rfl, hml, h1, h2⟩ := ln_hd hS3 (.tail _ (.head _))
    have et : (ls.take (i + 1)).foldl expStep [] = expOut (expOwn acc l) l := by
      rw [List.take_add_one, hl, List.foldl_append, ← hacc]
      rfl
    clear hS0 hS1 hS2
    walk_at "w"
    refine w_cut (fun σ' H' => σ' = [some (.ref p), some (.ref q), some (.ref ql), v3, v4] ∧ St K (Lg.dks K q (expOwn acc l) :: Lg.dat (.ref ql) l.d :: Ent.fact (Fr.tupf K p xs (ls.map Ln.d)) :: L) H') ?_ ?_
    · walk_at "w"
      refine w_ixTs (k := 0) (m := S l.w) hS3 (.dat hml) rfl rfl ?_
      walk_at "w"
      rename_i q6 H6 hS6
      refine w_inTS (ys := ownZ) hS6 (.dat (.head _)) ?_
      have hS7 := hS6.tail
      clear hS6 hS3
      walk_at "w"
      refine w_ifd (fun h3 => ?_) (fun h3 => ?_)
      · cases hn1 : l.nm1 with
        | none => exact absurd h3 (h2 hn1)
        | some z =>
          obtain ⟨_, es, rfl⟩ := h1 z hn1
          refine w_dputE ?_
          walk_at "w"
          refine w_ixTs (k := 1) (m := S z) hS7 (.dat hml) rfl rfl ?_
          obtain ⟨H8, h8, hS8⟩ := w_dput (k := z) (d := .none) hS7 .here .non (v := .non) (by omega)
          refine ⟨q, H8, rfl, h8, ?_⟩
          refine ⟨rfl, ?_⟩
          unfold expOwn
          rw [hn1]
          exact hS8
      · walk_at "w"
        refine ⟨rfl, ?_⟩
        have hn1 : l.nm1 = none := by
          cases hn : l.nm1 with
          | none => rfl
          | some z => exact absurd (h1 z hn).1 h3
        unfold expOwn
        rw [hn1]
        exact hS7
    rintro σ' Hx ⟨rfl, hSx⟩
    clear hS3 hml
    have hal2 : (expOwn acc l).length ≤ 4 * i + 1 := by
      unfold expOwn
      split
      · have := putD_len acc ‹_› .none
        omega
      · omega
    generalize expOwn acc l = acc2 at hSx et hal2
    obtain ⟨ql2, ds2, hqe, hml, _, _⟩ := ln_hd hSx (v := .ref ql) (l := l) (.tail _ (.head _))
    obtain rfl : ql = ql2 := by injection hqe
    walk_at "w"
    refine w_ixTs (k := 0) (m := S l.w) hSx (.dat hml) rfl rfl ?_
    walk_at "w"
    refine w_ifd (fun h3 => ?_) (fun h3 => ?_)
    rotate_left
    · walk_at "w"
      refine ⟨⟨_, _, _, rfl⟩, acc2, ?_, by omega, hSx.to (by walk_at "pick")⟩
      rw [et]
      cases l with
      | nms ex ps m => cases ex with
        | true => exact absurd rfl h3
        | false => rfl
      | var _ _ _ => rfl
      | fn _ _ _ => rfl
      | run _ _ => rfl
    obtain ⟨ps, m, rfl⟩ : ∃ ps m, l = .nms true ps m := by
      cases l with
      | nms ex ps m => cases ex with
        | true => exact ⟨ps, m, rfl⟩
        | false => exact absurd h3 (by show zimport ≠ zexport; decide)
      | var kp x t => cases kp <;> exact absurd h3 (by first | (show zlet ≠ zexport; decide) | (show zkeep ≠ zexport; decide))
      | fn f ps t => exact absurd h3 (by show zfn ≠ zexport; decide)
      | run hd t => cases hd <;> exact absurd h3 (by first | (show zdo ≠ zexport; decide) | (show zhold ≠ zexport; decide))
    have hp3 : ps.length ≤ 3 := hlok.2.2.1
    have hSy := hSx
    rw [Ln.d] at hSy
    clear hSx hml
    walk_at "w"
    refine w_anyT1 ?_
    walk_at "w"
    refine w_ixT (k := 1) hSy (.dat (.tail _ (.head _))) rfl rfl fun v1 hS5 => ?_
    obtain ⟨q5, rfl⟩ := hS5.tup_of
    refine w_itT hS5 (.dat (.head _)) ?_
    obtain ⟨ys, _, hS6⟩ := hS5.tupF (.dat (.head _))
    have hyl := (hS6.tf (.head _)).2.1
    rw [List.length_map] at hyl
    have hS7 := hS6.to (L' := Lg.dks K q acc2 :: Ent.fact (Fr.tupf K q5 ys (ps.map Xp.prD)) :: Lg.dat (.ref ql) (.tuple [smD zexport, .tuple (ps.map Xp.prD), smD m]) :: Ent.fact (Fr.tupf K p xs (ls.map Ln.d)) :: L) (by walk_at "pick")
    clear hSy hS5 hS6
    refine w_forTA (zs := ps) (c := Xp.prD) hyl (fun j σ H' => (∃ v3 v4, σ = [some (.ref p), some (.ref q), some (.ref ql), v3, v4]) ∧ ∃ a3 : KD, a3 = (ps.take j).foldl (fun a p => putD a p.2 (expD m p.1)) acc2 ∧ a3.length ≤ 4 * i + 1 + j ∧ St K (Lg.dks K q a3 :: Ent.fact (Fr.tupf K q5 ys (ps.map Xp.prD)) :: Lg.dat (.ref ql) (.tuple [smD zexport, .tuple (ps.map Xp.prD), smD m]) :: Ent.fact (Fr.tupf K p xs (ls.map Ln.d)) :: L) H')
      ⟨⟨_, _, rfl⟩, acc2, rfl, by omega, hS7⟩ (fun i σ H' _ hI => by
        obtain ⟨_, _, _, _, hS2⟩ := hI
        exact ⟨_, hS2, .tail _ (.head _)⟩) ?_ ?_
    · rintro j pr v σ H8 hpr ⟨⟨w3, w4, rfl⟩, a3, ha3, hal3, hS8⟩ more2
      have hS9 := more2 _ hS8 (.tail _ (.head _))
      have hjl : j < ps.length := (List.getElem?_eq_some_iff.mp hpr).1
      obtain ⟨qp, rfl⟩ := hS9.tup_of
      clear hS7
      refine w_unpT2 (d1 := smD pr.1) (d2 := smD pr.2) hS9 (.dat (.head _)) fun u1 u2 hSa => ?_
      obtain rfl := hSa.str_of
      obtain rfl := hSa.tail.str_of
      have hSb := hSa.tail.tail.tail
      clear hS8 hS9 hSa
      walk_at "w"
      refine w_dputE ?_
      walk_at "w"
      refine w_ixTs (k := 2) (m := S m) hSb (.dat (.tail _ (.tail _ (.head _)))) rfl rfl ?_
      walk_at "w"
      rename_i qc Hc hSc
      obtain ⟨H9, h9, hSd⟩ := w_dput (k := pr.2) (d := expD m pr.1) hSc (.there .here) (.dat (.head _)) (v := .ref qc) (by omega)
      refine ⟨q, H9, rfl, h9, ?_⟩
      refine ⟨⟨_, _, rfl⟩, putD a3 pr.2 (expD m pr.1), ?_, by have := putD_len a3 pr.2 (expD m pr.1); omega, hSd.to (by walk_at "pick")⟩
      rw [List.take_add_one, hpr, List.foldl_append, ← ha3]
      rfl
    · rintro σ H8 ⟨⟨w3, w4, rfl⟩, a3, ha3, hal3, hS8⟩
      rw [List.take_length] at ha3
      refine ⟨⟨_, _, _, rfl⟩, a3, ?_, by omega, hS8.to (by walk_at "pick")⟩
      rw [et, ha3]
      rfl
  · rintro σ H2 ⟨⟨v2, v3, v4, rfl⟩, acc, hacc, _, hS2⟩
    rw [List.take_length] at hacc
    walk_at "w"
    refine hQ q _ ?_
    unfold expF
    rw [← hacc]
    exact hS2.to (by walk_at "pick")
end

/-! k05: the law's search -/
section
variable {K : PySem.W.Frag}
/-! ### the law's own search, walked (shared) -/
structure MsX (ms : Mods) : Prop where
  ok : ∀ p ∈ ms, ∀ l ∈ p.2, l.ok
  len : ∀ p ∈ ms, p.2.length ≤ 100
  ex : ∀ p ∈ ms, (exs p.2).Nodup
theorem lookM_mem {ms : Mods} {m : Nm} {ls : List Ln} (h : lookM ms m = some ls) : ∃ p ∈ ms, p.2 = ls := by
  unfold lookM at h
  cases hf : ms.find? fun p => decide (p.1 = m) with
  | none => rw [hf] at h; cases h
  | some p => rw [hf] at h; exact ⟨p, List.mem_of_find?_eq_some hf, by simpa using h⟩
def spLFollow (K : PySem.W.Frag) : Sp := fun vs H Q _ => ∃ (L : List Ent) (a : Addr) (ms : Mods) (m n : Nm), vs = [.ref a, .str (S m), .str (S n)] ∧ St K L H ∧ Lg.dks K a (msD ms) ∈ L ∧ MsX ms ∧ ∀ w H', St K (Lg.dat w (Xp.pairD (lfollow ms 100 m n)) :: L) H' → Q w H'
theorem p_l_follow (vs : List V) (H : Hp) (Q : VK) (E : XK) (h : spLFollow K vs H Q E) : vs.length = 3 ∧ t_l_follow K (spLExports K) { nx := fun _ H' => Q .non H', rt := Q } (start N_l_follow vs) H := by
  obtain ⟨L, a, ms, m, n, rfl, hS, hm, mx, hQ⟩ := h
  refine ⟨rfl, ?_⟩
  generalize hR : lfollow ms 100 m n = R at hQ
  unfold t_l_follow
  show tSeq _ _ _ [some (.ref a), some (.str (S m)), some (.str (S n)), none, none] H
  walk_at "w"
  refine w_forR (fun i σ H' => ∃ m' n' v3 v4, σ = [some (.ref a), some (.str (S m')), some (.str (S n')), v3, v4] ∧ St K L H' ∧ R = lfollow ms (100 - i) m' n') ⟨m, n, none, none, rfl, hS, hR.symm⟩ ?_ ?_
  · rintro i σ H2 hi ⟨m', n', v3, v4, rfl, hS2, hf⟩
    have hi2 : i < 100 := by omega
    obtain ⟨k, hk⟩ : ∃ k, 100 - i = k + 1 := ⟨100 - i - 1, by omega⟩
    rw [hk, lfollow] at hf
    clear hS
    walk_at "w"
    refine w_dninE ?_
    walk_at "w"
    obtain ⟨o, h1, h2, h3⟩ := hS2.dget hm m'
    rw [look_ms] at h2 h3
    refine ⟨a, o, rfl, h1, ?_⟩
    rw [h2]
    walk_at "w"
    cases hl : lookM ms m' with
    | none =>
      rw [hl] at hf
      refine w_bt rfl ?_
      walk_at "w"
      refine hQ _ _ ?_
      rw [hf]
      exact hS2.learn .non
    | some ls =>
      rw [hl] at hf h3
      dsimp only at hf
      obtain ⟨p, hp, rfl⟩ := lookM_mem hl
      refine w_bf rfl ?_
      walk_at "w"
      refine w_dgetE ?_
      walk_at "w"
      obtain ⟨v, rfl, hS3⟩ := h3 _ rfl
      refine ⟨a, v, rfl, h1, ?_⟩
      walk_at "w"
      refine ⟨_, v, p.2, rfl, hS3, .head _, mx.ok p hp, mx.len p hp, fun q H4 hS4 => ?_⟩
      have hS5 := hS4.to (L' := Lg.dks K q (expF p.2) :: L) (by walk_at "pick")
      clear hS2 hS3 hS4 h1 h2 h3
      walk_at "w"
      refine w_dninE ?_
      walk_at "w"
      obtain ⟨o, h1, h2, h3⟩ := hS5.dget (.head _) n'
      rw [look_exp (mx.ex p hp)] at h2 h3
      refine ⟨q, o, rfl, h1, ?_⟩
      rw [h2]
      unfold expO at h2 h3 ⊢
      by_cases ho : (ownLn p.2 n').isSome = true
      · rw [if_pos ho] at hf h2 h3
        rw [if_pos ho]
        obtain ⟨v, rfl, hS6⟩ := h3 _ rfl
        obtain rfl := hS6.non_of
        walk_at "w"
        refine w_bf rfl ?_
        walk_at "w"
        refine w_dgetE ?_
        walk_at "w"
        refine ⟨q, _, rfl, h1, ?_⟩
        walk_at "w"
        rename_i q7 H7 hS7
        refine hQ _ _ ?_
        rw [hf]
        exact hS7.to (by walk_at "pick")
      · rw [if_neg ho] at hf h2 h3
        rw [if_neg ho]
        cases hx : otherLn true n' p.2 with
        | none =>
          rw [hx] at hf
          walk_at "w"
          refine w_bt rfl ?_
          walk_at "w"
          refine hQ _ _ ?_
          rw [hf]
          exact hS5.tail.learn .non
        | some r =>
          obtain ⟨m2, n2⟩ := r
          rw [hx] at hf h3
          obtain ⟨v, rfl, hS6⟩ := h3 _ rfl
          obtain ⟨qv, rfl⟩ := hS6.tup_of
          walk_at "w"
          refine w_bf rfl ?_
          walk_at "w"
          refine w_dgetE ?_
          walk_at "w"
          refine ⟨q, _, rfl, h1, ?_⟩
          walk_at "w"
          refine w_dgetE ?_
          walk_at "w"
          refine ⟨q, _, rfl, h1, ?_⟩
          refine w_unpT2 (d1 := smD m2) (d2 := smD n2) hS6 (.dat (.head _)) fun u1 u2 hS7 => ?_
          obtain rfl := hS7.str_of
          obtain rfl := hS7.tail.str_of
          walk_at "w"
          refine ⟨m2, n2, _, _, rfl, hS7.to (by walk_at "pick"), ?_⟩
          rw [hf, show 100 - (i + 1) = k by omega]
  · rintro σ H2 ⟨m', n', v3, v4, rfl, hS2, hf⟩
    walk_at "w"
    refine hQ _ _ ?_
    have e : R = none := by rw [hf]; rfl
    rw [e]
    exact hS2.learn .non
end

/-! k05: the law searches available names -/
section
variable {K : PySem.W.Frag}
/-! ### the law's own search of available names (shared) -/
structure MsA (ms : Mods) : Prop where
  x : MsX ms
  av : ∀ p ∈ ms, (avs p.2).Nodup
  c : (cands ms).length ≤ 90
def spLLeads (K : PySem.W.Frag) : Sp := fun vs H Q _ => ∃ (L : List Ent) (a : Addr) (ms : Mods) (m n : Nm), vs = [.ref a, .str (S m), .str (S n)] ∧ St K L H ∧ Lg.dks K a (msD ms) ∈ L ∧ MsA ms ∧ ∀ w H', St K (Lg.dat w (Xp.pairD (availM ms m n)) :: L) H' → Q w H'
theorem p_l_leads (vs : List V) (H : Hp) (Q : VK) (E : XK) (h : spLLeads K vs H Q E) : vs.length = 3 ∧ t_l_leads K (spLFollow K) { nx := fun _ H' => Q .non H', rt := Q } (start N_l_leads vs) H := by
  obtain ⟨L, a, ms, m, n, rfl, hS, hm, mx, hQ⟩ := h
  refine ⟨rfl, ?_⟩
  unfold t_l_leads
  walk_at "z"
  show tSeq _ _ _ [some (.ref a), some (.str (S m)), some (.str (S n)), none, none, none] H
  walk_at "w"
  refine w_dninE ?_
  walk_at "w"
  obtain ⟨o, h1, h2, h3⟩ := hS.dget hm m
  rw [look_ms] at h2 h3
  refine ⟨a, o, rfl, h1, ?_⟩
  rw [h2]
  walk_at "w"
  cases hl : lookM ms m with
  | none =>
    refine w_bt rfl ?_
    walk_at "w"
    refine hQ _ _ ?_
    have e : availM ms m n = none := by
      unfold availM linesM
      rw [hl]
      rfl
    rw [e]
    exact hS.learn .non
  | some ls =>
    rw [hl] at h3
    obtain ⟨pm, hp, rfl⟩ := lookM_mem hl
    have eA : availM ms m n = leadL ms m n pm.2 := by
      have e : linesM ms m = pm.2 := by unfold linesM; rw [hl]; rfl
      unfold availM
      (rw [e, lead_is (mx.av pm hp)]) <;> rfl
    rw [eA] at hQ
    refine w_bf rfl ?_
    walk_at "w"
    refine w_anyT1 (w_dgetE ?_)
    walk_at "w"
    obtain ⟨v, rfl, hS3⟩ := h3 _ rfl
    refine ⟨a, v, rfl, h1, ?_⟩
    obtain ⟨t, rfl⟩ := hS3.tup_of
    refine w_itT hS3 (.dat (.head _)) ?_
    obtain ⟨xs, _, hS4⟩ := hS3.tupF (.dat (.head _))
    have hxl := (hS4.tf (.head _)).2.1
    rw [List.length_map] at hxl
    have hS5 := hS4.to (L' := Ent.fact (Fr.tupf K t xs (pm.2.map Ln.d)) :: L) (by walk_at "pick")
    clear hS hS3 hS4 h1 h2 h3
    refine w_forTA (zs := pm.2) (c := Ln.d) hxl (fun i σ H' => (∃ v3 v4 v5, σ = [some (.ref a), some (.str (S m)), some (.str (S n)), v3, v4, v5]) ∧ St K (Ent.fact (Fr.tupf K t xs (pm.2.map Ln.d)) :: L) H' ∧ leadL ms m n pm.2 = leadL ms m n (pm.2.drop i))
      ⟨⟨_, _, _, rfl⟩, hS5, rfl⟩ (fun i σ H' _ hI => ⟨_, hI.2.1, .head _⟩) ?_ ?_
    · rintro i l v σ H2 hli ⟨⟨v3, v4, v5, rfl⟩, hS6, hf⟩ more
      have hS7 := more _ hS6 (.head _)
      have e1 : pm.2.drop i = l :: pm.2.drop (i + 1) := by
        rw [(List.getElem?_eq_some_iff.mp hli).2.symm, List.getElem_cons_drop]
      rw [e1, leadL] at hf
      obtain ⟨q, ds, rfl, hml, h1, h2⟩ := ln_hd hS7 (.head _)
      clear hS5 hS6
      walk_at "w"
      refine w_and3 (fun H8 => St K (Lg.dat (.ref q) l.d :: Ent.fact (Fr.tupf K t xs (pm.2.map Ln.d)) :: L) H8 ∧ l.nm1 ≠ some n) (fun H8 h8 => ?_) (fun rest => ?_)
      rotate_left
      · walk_at "w"
        refine w_ixTs (k := 0) (m := S l.w) hS7 (.dat hml) rfl rfl ?_
        walk_at "w"
        rename_i q6 H6 hS6
        refine w_inTS (ys := ownZ) hS6 (.dat (.head _)) ?_
        have hS8 := hS6.tail
        clear hS6 hS7
        walk_at "w"
        refine w_ifd (fun h3 => ?_) (fun h3 => ?_)
        · cases hn1 : l.nm1 with
          | none => exact absurd h3 (h2 hn1)
          | some z =>
            obtain ⟨_, es, rfl⟩ := h1 z hn1
            walk_at "w"
            refine w_ixTs (k := 1) (m := S z) hS8 (.dat hml) rfl rfl ?_
            walk_at "w"
            refine w_ifd (fun h4 => ?_) (fun h4 => ?_)
            · walk_at "w"
              rename_i q9 H9 hS9
              refine hQ _ _ ?_
              rw [hf, if_pos (by rw [hn1, h4])]
              exact hS9.to (by walk_at "pick")
            · exact rest _ ⟨hS8, by rw [hn1]; exact fun e => h4 (by injection e)⟩
        · exact rest _ ⟨hS8, fun e => h3 (h1 n e).1⟩
      obtain ⟨hS8, hne⟩ := h8
      rw [if_neg hne] at hf
      clear hS7 hml
      obtain ⟨q2, ds2, hqe, hml, _, _⟩ := ln_hd hS8 (v := .ref q) (l := l) (.head _)
      obtain rfl : q = q2 := by injection hqe
      walk_at "w"
      refine w_ixTs (k := 0) (m := S l.w) hS8 (.dat hml) rfl rfl ?_
      walk_at "w"
      refine w_ifd (fun h3 => ?_) (fun h3 => ?_)
      rotate_left
      · walk_at "w"
        refine ⟨⟨_, _, _, rfl⟩, hS8.tail, ?_⟩
        rw [hf]
        cases l with
        | nms ex ps mm => cases ex with
          | true => rfl
          | false => exact absurd rfl h3
        | var _ _ _ => rfl
        | fn _ _ _ => rfl
        | run _ _ => rfl
      obtain ⟨ps, mm, rfl⟩ : ∃ ps mm, l = .nms false ps mm := by
        cases l with
        | nms ex ps m => cases ex with
          | false => exact ⟨ps, m, rfl⟩
          | true => exact absurd h3 (by show zexport ≠ zimport; decide)
        | var kp x t => cases kp <;> exact absurd h3 (by first | (show zlet ≠ zimport; decide) | (show zkeep ≠ zimport; decide))
        | fn f ps t => exact absurd h3 (by show zfn ≠ zimport; decide)
        | run hd t => cases hd <;> exact absurd h3 (by first | (show zdo ≠ zimport; decide) | (show zhold ≠ zimport; decide))
      have hf2 : leadL ms m n pm.2 = match ps.find? fun p => decide (p.2 = n) with
          | some p => followM ms mm p.1
          | none => leadL ms m n (pm.2.drop (i + 1)) := hf
      have hS9 := hS8
      rw [Ln.d] at hS9
      clear hS8 hml hf
      walk_at "w"
      refine w_anyT1 ?_
      walk_at "w"
      refine w_ixT (k := 1) hS9 (.dat (.head _)) rfl rfl fun v1 hSa => ?_
      obtain ⟨q5, rfl⟩ := hSa.tup_of
      refine w_itT hSa (.dat (.head _)) ?_
      obtain ⟨ys, _, hSb⟩ := hSa.tupF (.dat (.head _))
      have hyl := (hSb.tf (.head _)).2.1
      rw [List.length_map] at hyl
      have hSc := hSb.to (L' := Ent.fact (Fr.tupf K q5 ys (ps.map Xp.prD)) :: Lg.dat (.ref q) (.tuple [smD zimport, .tuple (ps.map Xp.prD), smD mm]) :: Ent.fact (Fr.tupf K t xs (pm.2.map Ln.d)) :: L) (by walk_at "pick")
      clear hS9 hSa hSb
      refine w_forTA (zs := ps) (c := Xp.prD) hyl (fun j σ H' => (∃ v4 v5, σ = [some (.ref a), some (.str (S m)), some (.str (S n)), some (.ref q), v4, v5]) ∧ St K (Ent.fact (Fr.tupf K q5 ys (ps.map Xp.prD)) :: Lg.dat (.ref q) (.tuple [smD zimport, .tuple (ps.map Xp.prD), smD mm]) :: Ent.fact (Fr.tupf K t xs (pm.2.map Ln.d)) :: L) H' ∧ (ps.find? fun p => decide (p.2 = n)) = (ps.drop j).find? fun p => decide (p.2 = n))
        ⟨⟨_, _, rfl⟩, hSc, rfl⟩ (fun i σ H' _ hI => ⟨_, hI.2.1, .head _⟩) ?_ ?_
      · rintro j pr v σ H8 hpr ⟨⟨w4, w5, rfl⟩, hSd, hg⟩ more2
        have hSe := more2 _ hSd (.head _)
        have e2 : ps.drop j = pr :: ps.drop (j + 1) := by
          rw [(List.getElem?_eq_some_iff.mp hpr).2.symm, List.getElem_cons_drop]
        rw [e2, List.find?_cons] at hg
        obtain ⟨qp, rfl⟩ := hSe.tup_of
        clear hSc
        refine w_unpT2 (d1 := smD pr.1) (d2 := smD pr.2) hSe (.dat (.head _)) fun u1 u2 hSf => ?_
        obtain rfl := hSf.str_of
        obtain rfl := hSf.tail.str_of
        have hSg := hSf.tail.tail.tail
        clear hSd hSe hSf
        walk_at "w"
        refine w_ifd (fun h5 => ?_) (fun h5 => ?_)
        · rw [decide_eq_true h5] at hg
          rw [hg] at hf2
          walk_at "w"
          refine w_ixTs (k := 2) (m := S mm) hSg (.dat (.tail _ (.head _))) rfl rfl ?_
          walk_at "w"
          refine ⟨_, a, ms, mm, pr.1, rfl, hSg, .tail _ (.tail _ (.tail _ hm)), mx.x, fun w Hh hSh => ?_⟩
          refine hQ _ _ ?_
          rw [hf2]
          rw [lfollow_is (by have := mx.c; omega)] at hSh
          exact hSh.to (by walk_at "pick")
        · rw [decide_eq_false h5] at hg
          walk_at "w"
          exact ⟨⟨_, _, rfl⟩, hSg, hg⟩
      · rintro σ H8 ⟨⟨w4, w5, rfl⟩, hSd, hg⟩
        rw [List.drop_length] at hg
        rw [hg] at hf2
        exact ⟨⟨_, _, _, rfl⟩, hSd.to (by walk_at "pick"), hf2⟩
    · rintro σ H2 ⟨⟨v3, v4, v5, rfl⟩, hS6, hf⟩
      rw [List.drop_length] at hf
      walk_at "w"
      refine hQ _ _ ?_
      rw [hf]
      exact (hS6.to (L' := L) (by walk_at "pick")).learn .non
end

/-! k05: modules are reached -/
section
variable {K : PySem.W.Frag}
/-! ### modules are reached (shared) -/
def vsF (f dv po : Addr) : List (Str × V) := [("_lines_of", .ref f), ("_visited", .ref dv), ("order", .ref po)]
section
variable {f dv po : Addr}
theorem lk_vl : (vsF f dv po).lookup ("_lines_of" : Str) = some (V.ref f) := by rfl
theorem lk_vv : (vsF f dv po).lookup ("_visited" : Str) = some (V.ref dv) := by rfl
theorem lk_vo : (vsF f dv po).lookup ("order" : Str) = some (V.ref po) := by rfl
theorem put_v0 : putF "order" (.ref po) (putF "_visited" (.ref dv) (putF "_lines_of" (.ref f) [])) = vsF f dv po := by rfl
theorem lk_vno : (vsF f dv po).lookup ("visit" : Str) = none := by rfl
end
def visD (l : List Nm) : KD := l.map fun m => (m, PyData.bool true)
theorem look_vis (k : Nm) : ∀ l : List Nm, (lookD (visD l) k).isSome = decide (k ∈ l)
  | [] => by simp [lookD, visD]
  | x :: r => by
    have ih := look_vis k r
    unfold lookD visD at ih ⊢
    by_cases e : x = k
    · simp [e]
    · rw [List.map_cons, List.find?_cons, decide_eq_false (by simpa using e)]
      rw [ih]
      exact decide_eq_decide.mpr ⟨fun h => .tail _ h, fun h => (List.mem_cons.mp h).resolve_left (Ne.symm e)⟩
abbrev visE (K : PySem.W.Frag) (a dx dv po f : Addr) (st : VSt) (L : List Ent) : List Ent := Lg.own a (.ins (He.ga K "Reach") dx (vsF f dv po)) :: Lg.dks K dv (visD st.1) :: Lg.ls K po (st.2.map smD) :: L
def spRcInit (K : PySem.W.Frag) : Sp := fun vs H Q _ => ∃ (L : List Ent) (a dx f : Addr), vs = [.ref a, .ref f] ∧ St K (Lg.own a (.ins (He.ga K "Reach") dx []) :: L) H ∧ ∀ dv po H', St K (visE K a dx dv po f ([], []) L) H' → Q .non H'
theorem p_rcinit (cf : CF K) (vs : List V) (H : Hp) (Q : VK) (E : XK) (h : spRcInit K vs H Q E) : vs.length = 2 ∧ t_Reach_init K { nx := fun _ H' => Q .non H', rt := Q } (start N_Reach_init vs) H := by
  obtain ⟨L, a, dx, f, rfl, hS, hQ⟩ := h
  refine ⟨rfl, ?_⟩
  unfold t_Reach_init
  show tSeq _ _ _ [some (.ref a), some (.ref f)] H
  walk_at "w"
  refine w_sfld hS .here cf.cls_Reach cf.na_Reach_lines_of (by decide) fun H1 hS1 => ?_
  walk_at "w"
  refine w_dnew hS1 fun dv H2 hS2 => ?_
  walk_at "w"
  refine w_sfld hS2 (.there .here) cf.cls_Reach cf.na_Reach_visited (Nat.lt_of_le_of_lt (len_put (Nat.le_refl 0)) (by decide)) fun H3 hS3 => ?_
  clear hS hS1 hS2
  walk_at "w"
  rename_i po H4 hS4
  refine w_sfld hS4 (.there (.there .here)) cf.cls_Reach cf.na_Reachorder (Nat.lt_of_le_of_lt (len_put (len_put (Nat.le_refl 0))) (by decide)) fun H5 hS5 => ?_
  rw [put_v0] at hS5
  walk_at "w"
  exact hQ dv po _ (hS5.to (L' := Lg.own a (.ins (He.ga K "Reach") dx (vsF f dv po)) :: Lg.dks K dv (visD []) :: Lg.ls K po (List.map smD []) :: L) (by walk_at "pick"))
/-- what the function in the field does -/
def LamDo (spl : Sp) (K : PySem.W.Frag) (f : Addr) (LX : List Ent) (U : List Nm) (lf : LF0) : Prop := ∀ (L : List Ent) (H : Hp) (m : Nm) (Q : VK) (E : XK), m ∈ U → St K (LX ++ L) H → (∀ v H', St K (Lg.dat v (lfD (lf m)) :: (LX ++ L)) H' → Q v H') → spl [.ref f, .str (S m)] H Q E
def spVisit (spl : Sp) (n : Nat) (K : PySem.W.Frag) : Sp := fun vs H Q _ => ∃ (L LX : List Ent) (a dx dv po f : Addr) (U : List Nm) (lf : LF0) (st : VSt) (m : Nm), vs = [.ref a, .str (S m)] ∧ St K (visE K a dx dv po f st (LX ++ L)) H ∧ LamDo spl K f LX U lf ∧
  VOk U st ∧ Clo U lf ∧ U.length ≤ 1000 ∧ m ∈ U ∧ cnt U st.1 < n ∧ ∀ w H', St K (Lg.dat w (rfD (visitG lf n st m).2) :: visE K a dx dv po f (visitG lf n st m).1 (LX ++ L)) H' → Q w H'
theorem p_visit (cf : CF K) (spl : Sp) (n : Nat) (vs : List V) (H : Hp) (Q : VK) (E : XK) (h : spVisit spl (n + 1) K vs H Q E) : vs.length = 2 ∧ t_Reach_visit K (spVisit spl n K) spl { nx := fun _ H' => Q .non H', rt := Q } (start N_Reach_visit vs) H := by
  obtain ⟨L, LX, a, dx, dv, po, f, U, lf, st, m, rfl, hS, hl, ok, hc, hU, hm, hn, hQ⟩ := h
  refine ⟨rfl, ?_⟩
  rw [visitG] at hQ
  unfold t_Reach_visit
  walk_at "z"
  show tSeq _ _ _ [some (.ref a), some (.str (S m)), none, none, none] H
  have hln := ok.len
  walk_at "w"
  refine w_dinE ?_
  walk_at "w"
  refine w_fld hS (.head _) cf.cls_Reach cf.na_Reach_visited lk_vv ?_
  obtain ⟨o, h1, h2, _⟩ := hS.dget (.tail _ (.head _)) m
  rw [look_vis] at h2
  refine ⟨dv, o, rfl, h1, ?_⟩
  rw [h2]
  walk_at "w"
  refine w_ifd (fun hv => ?_) (fun hv => ?_)
  · rw [if_pos hv] at hQ
    walk_at "w"
    exact hQ _ _ (hS.learn .non)
  rw [if_neg hv] at hQ
  have hnew : lookD (visD st.1) m = none := by
    cases e : lookD (visD st.1) m with
    | none => rfl
    | some d =>
      have := look_vis m st.1
      rw [e, decide_eq_false hv] at this
      cases this
  walk_at "w"
  refine w_dputE ?_
  walk_at "w"
  refine w_fld hS (.head _) cf.cls_Reach cf.na_Reach_visited lk_vv ?_
  walk_at "w"
  obtain ⟨H2, h3, hS2⟩ := w_dput (k := m) (d := .bool true) (v := .bl true) hS (.there .here) .bl (by unfold visD; rw [List.length_map]; omega)
  rw [put_new hnew] at hS2
  have hS3 : St K (visE K a dx dv po f (st.1 ++ [m], st.2) (LX ++ L)) H2 := by
    have e : visD (st.1 ++ [m]) = visD st.1 ++ [(m, PyData.bool true)] := by unfold visD; rw [List.map_append]; rfl
    unfold visE
    rw [e]
    exact hS2
  refine ⟨dv, H2, rfl, h3, ?_⟩
  have ok2 := ok.add hm hv
  have hcn := cnt_lt hm hv
  have hln2 := ok2.len
  clear hS hS2 h1 h2 h3
  walk_at "w"
  refine w_fcE ?_
  walk_at "w"
  refine ⟨a, _, dx, _, f, rfl, hS3.own (.head _), cf.cls_Reach, cf.na_Reach_lines_of, lk_vl, ?_⟩
  walk_at "w"
  have hp1 : St K (LX ++ (Lg.own a (.ins (He.ga K "Reach") dx (vsF f dv po)) :: Lg.dks K dv (visD (st.1 ++ [m])) :: Lg.ls K po (st.2.map smD) :: L)) H2 := hS3.perm ((List.perm_append_comm (l₁ := [Lg.own a (.ins (He.ga K "Reach") dx (vsF f dv po)), Lg.dks K dv (visD (st.1 ++ [m])), Lg.ls K po (st.2.map smD)]) (l₂ := LX)).append_right L |> fun p => by simpa using p)
  refine hl _ _ m _ _ hm hp1 fun v H4 hS4 => ?_
  have hS5 : St K (Lg.dat v (lfD (lf m)) :: visE K a dx dv po f (st.1 ++ [m], st.2) (LX ++ L)) H4 := hS4.perm (List.Perm.cons _ ((List.perm_append_comm (l₁ := LX) (l₂ := [Lg.own a (.ins (He.ga K "Reach") dx (vsF f dv po)), Lg.dks K dv (visD (st.1 ++ [m])), Lg.ls K po (st.2.map smD)])).append_right L |> fun p => by simpa using p))
  clear hS3 hS4 hp1
  cases hf : lf m with
  | inl fl =>
    rw [hf] at hS5 hQ
    dsimp only at hQ
    cases fl with
    | mod mm =>
      obtain ⟨q, rfl⟩ := hS5.tup_of
      walk_at "w"
      refine w_or ?_
      walk_at "w"
      refine w_ixTs (k := 0) (m := S zmod) hS5 (.dat (.head _)) rfl rfl ?_
      walk_at "w"
      refine w_bf (by simp) ?_
      refine w_or ?_
      walk_at "w"
      refine w_lenT hS5 (.dat (.head _)) ?_
      walk_at "w"
      refine w_bf (by simp) ?_
      walk_at "w"
      refine w_ixTs (k := 1) (m := S mm) hS5 (.dat (.head _)) rfl rfl ?_
      walk_at "w"
      refine w_isiS (b := false) (by decide +kernel) ?_
      walk_at "w"
      refine w_bt rfl ?_
      walk_at "w"
      exact hQ _ _ hS5
    | line mm k =>
      obtain ⟨q, rfl⟩ := hS5.tup_of
      walk_at "w"
      refine w_or ?_
      walk_at "w"
      refine w_ixTs (k := 0) (m := S zline) hS5 (.dat (.head _)) rfl rfl ?_
      walk_at "w"
      refine w_bt (by decide) ?_
      walk_at "w"
      exact hQ _ _ hS5
  | inr ls =>
    rw [hf] at hS5 hQ
    dsimp only at hQ
    have hc2 := hc m hm ls hf
    obtain ⟨q, rfl⟩ := hS5.tup_of
    walk_at "w"
    refine w_or ?_
    walk_at "w"
    refine w_ixTs (k := 0) (m := S zmod) hS5 (.dat (.head _)) rfl rfl ?_
    walk_at "w"
    refine w_bf (by simp) ?_
    refine w_or ?_
    walk_at "w"
    refine w_lenT hS5 (.dat (.head _)) ?_
    walk_at "w"
    refine w_bf (by simp) ?_
    walk_at "w"
    refine w_ixT (k := 1) hS5 (.dat (.head _)) rfl rfl fun v1 hS6 => ?_
    obtain ⟨q1, rfl⟩ := hS6.tup_of
    walk_at "w"
    refine w_bf rfl ?_
    walk_at "w"
    refine w_anyT1 ?_
    walk_at "w"
    refine w_ixT (k := 1) hS5 (.dat (.head _)) rfl rfl fun v2 hS7 => ?_
    obtain ⟨q2, rfl⟩ := hS7.tup_of
    refine w_itT hS7 (.dat (.head _)) ?_
    obtain ⟨xs, _, hS8⟩ := hS7.tupF (.dat (.head _))
    have hxl := (hS8.tf (.head _)).2.1
    rw [List.length_map] at hxl
    have hS9 := hS8.to (L' := Ent.fact (Fr.tupf K q2 xs (ls.map Ln.d)) :: visE K a dx dv po f (st.1 ++ [m], st.2) (LX ++ L)) (by walk_at "pick")
    clear hS5 hS6 hS7 hS8
    generalize hR : goRefs (visitG lf n) (st.1 ++ [m], st.2) ls = R at hQ
    refine w_forTA (zs := ls) (c := Ln.d) hxl (fun i σ H' => ∃ v3 v4 st', σ = [some (.ref a), some (.str (S m)), some (.ref q), v3, v4] ∧ St K (Ent.fact (Fr.tupf K q2 xs (ls.map Ln.d)) :: visE K a dx dv po f st' (LX ++ L)) H' ∧ VOk U st' ∧ cnt U st'.1 < n ∧ R = goRefs (visitG lf n) st' (ls.drop i))
      ⟨_, _, _, rfl, hS9, ok2, by show cnt U (st.1 ++ [m]) < n; omega, hR.symm⟩ (fun i σ H' _ hI => by obtain ⟨_, _, _, _, hI, _⟩ := hI; exact ⟨_, hI, .head _⟩) ?_ ?_
    · rintro i l v σ H5 hli ⟨v3, v4, st', rfl, hSa, ok3, hcn3, hr⟩ more
      have hSb := more _ hSa (.head _)
      have e1 : ls.drop i = l :: ls.drop (i + 1) := by
        rw [(List.getElem?_eq_some_iff.mp hli).2.symm, List.getElem_cons_drop]
      rw [e1, goRefs] at hr
      obtain ⟨qn, ds, rfl, hml, _, _⟩ := ln_hd hSb (.head _)
      have hlm : l ∈ ls := List.mem_of_getElem? hli
      clear hS9
      walk_at "w"
      refine w_orP (b := decide (l.w = zimport)) (c := decide (l.w = zexport)) (fun R' hR' => ?_) (fun _ R' hR' => ?_) ?_
      · walk_at "w"
        refine w_ixTs (k := 0) (m := S l.w) hSb (.dat hml) rfl rfl ?_
        walk_at "w"
        exact hR'
      · walk_at "w"
        refine w_ixTs (k := 0) (m := S l.w) hSb (.dat hml) rfl rfl ?_
        walk_at "w"
        exact hR'
      cases hrf : l.ref with
      | none =>
        rw [hrf] at hr
        dsimp only at hr
        have e2 : (decide (l.w = zimport) || decide (l.w = zexport)) = false := by
          cases l with
          | nms ex ps mm => cases hrf
          | var kp x t => cases kp <;> rfl
          | fn f ps t => rfl
          | run hd t => cases hd <;> rfl
        refine w_bf e2 ?_
        walk_at "w"
        exact ⟨_, _, st', rfl, hSa, ok3, hcn3, hr⟩
      | some mm =>
        rw [hrf] at hr
        dsimp only at hr
        obtain ⟨ex, ps, rfl⟩ : ∃ ex ps, l = .nms ex ps mm := by
          cases l with
          | nms ex ps m2 => cases hrf; exact ⟨ex, ps, rfl⟩
          | var kp x t => cases hrf
          | fn f ps t => cases hrf
          | run hd t => cases hrf
        have hmm := hc2 _ hlm mm rfl
        refine w_bt (by cases ex <;> rfl) ?_
        rw [Ln.d] at hSb
        walk_at "w"
        refine w_meth hSb (by walk_at "mem") lk_vno ?_
        walk_at "w"
        refine w_ixTs (k := 2) (m := S mm) hSb (.dat (.head _)) rfl rfl ?_
        walk_at "w"
        refine ⟨Ent.fact (Fr.tupf K q2 xs (ls.map Ln.d)) :: L, LX, a, dx, dv, po, f, U, lf, st', mm, rfl, ?_, hl, ok3, hc, hU, hmm, hcn3, fun w H6 hS6 => ?_⟩
        · exact hSa.perm ((List.perm_middle (a := Ent.fact (Fr.tupf K q2 xs (ls.map Ln.d))) (l₁ := [Lg.own a (.ins (He.ga K "Reach") dx (vsF f dv po)), Lg.dks K dv (visD st'.1), Lg.ls K po (st'.2.map smD)] ++ LX) (l₂ := L)).symm |> fun p => by simpa using p)
        · have to := visit_to hc n st' mm ok3 hmm
          have hS7 : St K (Lg.dat w (rfD (visitG lf n st' mm).2) :: Ent.fact (Fr.tupf K q2 xs (ls.map Ln.d)) :: visE K a dx dv po f (visitG lf n st' mm).1 (LX ++ L)) H6 := hS6.perm (List.Perm.cons _ ((List.perm_middle (a := Ent.fact (Fr.tupf K q2 xs (ls.map Ln.d))) (l₁ := [Lg.own a (.ins (He.ga K "Reach") dx (vsF f dv po)), Lg.dks K dv (visD (visitG lf n st' mm).1.1), Lg.ls K po ((visitG lf n st' mm).1.2.map smD)] ++ LX) (l₂ := L)) |> fun p => by simpa using p))
          clear hS6
          generalize visitG lf n st' mm = r at hr to hS7
          obtain ⟨st2, o⟩ := r
          cases o with
          | some fl =>
            have hr' : R = (st2, some fl) := hr
            subst hr'
            have hS8 : St K (Lg.dat w fl.d :: visE K a dx dv po f st2 (LX ++ L)) H6 := hS7.to (.cons .here (.drop .refl))
            have href : ∃ qf, w = .ref qf := by
              cases fl with
              | mod _ => exact hS8.tup_of
              | line _ _ => exact hS8.tup_of
            obtain ⟨qf, rfl⟩ := href
            walk_at "w"
            exact hQ _ _ hS8
          | none =>
            obtain rfl := hS7.non_of
            walk_at "w"
            exact ⟨_, _, st2, rfl, hS7.tail, to.ok ok3, Nat.lt_of_le_of_lt (cnt_le to.up) hcn3, hr⟩
    · rintro σ H5 ⟨v3, v4, st', rfl, hSa, ok3, hcn3, hr⟩
      rw [List.drop_length] at hr
      have hr' : R = (st', none) := hr
      subst hr'
      have ho3 := ok3.ol
      have hl3 := ok3.len
      walk_at "w"
      refine w_fld hSa (.tail _ (.head _)) cf.cls_Reach cf.na_Reachorder lk_vo ?_
      refine w_tyL hSa (.own (.tail _ (.tail _ (.tail _ (.head _))))) ?_
      walk_at "w"
      refine w_app (d := smD m) hSa (.there (.there (.there .here))) .str (by rw [List.length_map]; omega) fun H6 hS6 => ?_
      walk_at "w"
      refine hQ _ _ ?_
      have e : (st'.2 ++ [m]).map smD = st'.2.map smD ++ [smD m] := by rw [List.map_append]; rfl
      show St K (Lg.dat .non .none :: Lg.own a (.ins (He.ga K "Reach") dx (vsF f dv po)) :: Lg.dks K dv (visD st'.1) :: Lg.ls K po ((st'.2 ++ [m]).map smD) :: (LX ++ L)) H6
      rw [e]
      exact hS6.tail.learn .non
section
variable {P : Program} {w : World} {mg : Str → Option Value} {base : Heap}
theorem ring_visit (g : G K mg) (cf : CF K) (c : He.SaysD hfa hfn K) {spl : Sp} (c_lam : CalL P w K mg base 1 spl) : ∀ d : Nat, C8.Met P w K mg base (2 + d) (He.ga K "Reach") "visit" (spVisit spl d K) []
  | 0 => met_imp (zz_Reach_visit g _ (fd_Reach_visit c)) fun vs H Q E h => by
    obtain ⟨L, LX, a, dx, dv, po, f, U, lf, st, m, _, _, _, _, _, _, _, h, _⟩ := h
    omega
  | d + 1 => ok_Reach_visit g (n := 2 + d) (by omega) (ring_visit g cf c c_lam d) c_lam (fd_Reach_visit c) fun vs H Q E h => p_visit cf spl d vs H Q E h
end
end



/-! k05: modules are reached -/
section
variable {K : PySem.W.Frag}
/-! ### reach: the lambda, the visits (shared by k05, k06) -/
abbrev qReach : Str := ("reach" ++ ".<locals>.") ++ "<lambda>"
abbrev tReach (K : PySem.W.Frag) : Addr := (He.cT K ("reach", none)).2
abbrev lamE (K : PySem.W.Frag) (f cm c' a : Addr) (oc : Obj) (ms : Mods) : List Ent := [Lg.own cm (CelO cm oc), Lg.own f (LamO f (ml_reach cm c')), Lg.kno c' (LamX.CodeO c' qReach), Lg.dks K a (msD ms)]
theorem lam_reach {f cm c' a : Addr} {oc : Obj} {u : Value} {ms : Mods} {U : List Nm} (ru : RelV (.ref a) u) (hd : oc.data = .cell (some u)) : LamDo (spLam ml_reach N_lam 1 (tl_lam K)) K f (lamE K f cm c' a oc ms) U (lfM ms) := by
  intro L H m Q E _ hS hQ
  refine ⟨f, c', cm, oc, u, .ref a, [.str (S m)], rfl, rfl, hS.own (.tail _ (.head _)), hS.kno (.tail _ (.tail _ (.head _))), hS.own (.head _), ru, hd, ?_⟩
  obtain ⟨_, hS1⟩ := hS.unlend
  unfold tl_lam
  walk_at "z"
  show tIf _ _ _ [some (.str (S m)), some (.ref a)] _ _
  walk_at "w"
  refine w_dinE ?_
  walk_at "w"
  obtain ⟨o, h1, h2, h3⟩ := hS1.dget (.tail _ (.tail _ (.head _))) m
  rw [look_ms] at h2 h3
  refine ⟨a, o, rfl, h1, ?_⟩
  rw [h2]
  walk_at "w"
  cases hl : lookM ms m with
  | none =>
    have e : lfM ms m = .inl (.mod m) := by unfold lfM; rw [hl]
    rw [e] at hQ
    refine w_bf rfl ?_
    walk_at "w"
    rename_i q2 H2 hS2
    intro nc
    exact hQ _ _ ((hS2.lend (oc := oc) nc).to (.cons (.there .here) .refl))
  | some ls =>
    have e : lfM ms m = .inr ls := by unfold lfM; rw [hl]
    rw [e] at hQ
    rw [hl] at h3
    obtain ⟨v, rfl, hS2⟩ := h3 _ rfl
    refine w_bt rfl ?_
    walk_at "w"
    refine w_dgetE ?_
    walk_at "w"
    refine ⟨a, v, rfl, h1, ?_⟩
    walk_at "w"
    rename_i q3 H3 hS3
    intro nc
    exact hQ _ _ ((hS3.lend (oc := oc) nc).to (.cons (.there .here) (.cons .here (.drop .refl))))
def spReach (K : PySem.W.Frag) : Sp := fun vs H Q _ => ∃ (L : List Ent) (a p : Addr) (ms : Mods) (es U : List Nm), vs = [.ref a, .ref p] ∧ St K (tbE (tReach K) qReach :: Lg.dks K a (msD ms) :: L) H ∧ Lg.dat (.ref p) (.tuple (es.map smD)) ∈ L ∧ Clo U (lfM ms) ∧ (∀ m ∈ es, m ∈ U) ∧ U.length < 8 ∧
  ∀ w H', St K (Lg.dat w (reachD (visits (lfM ms) 8 ([], []) es)) :: tbE (tReach K) qReach :: Lg.dks K a (msD ms) :: L) H' → Q w H'
theorem p_reach (cf : CF K) (vs : List V) (H : Hp) (Q : VK) (E : XK) (h : spReach K vs H Q E) : vs.length = 2 ∧ ∀ cm, t_reach K (spVisit (spLam ml_reach N_lam 1 (tl_lam K)) 8 K) (spRcInit K) cm { nx := fun _ H' => Q .non H', rt := Q } (start N_reach vs) H := by
  obtain ⟨L, a, p, ms, es, U, rfl, hS, hp, hc, hes, hU, hQ⟩ := h
  refine ⟨rfl, fun cm => ?_⟩
  unfold t_reach
  walk_at "z"
  show tSeq _ _ _ [some (.ref a), some (.ref p), none, none, none] H
  walk_at "w"
  refine w_lamF hS (.head _) fun f c' H1 hS1 => ?_
  walk_at "w"
  intro x dx hx hdx hdn
  refine ⟨_, x, dx, f, rfl, hS1.born hx hdx hdn, fun dv po H2 hS2 => ⟨rfl, ?_⟩⟩
  have hS3 : St K (visE K x dx dv po f ([], []) (Lg.own f (LamO f (ml_reach cm c')) :: Lg.kno c' (LamX.CodeO c' qReach) :: Lg.dks K a (msD ms) :: tbE (tReach K) qReach :: L)) H2 := hS2.to (by walk_at "pick")
  clear hS hS1 hS2
  walk_at "w"
  obtain ⟨xs, _, hS4⟩ := hS3.tupF (.dat (by walk_at "mem" : Lg.dat (.ref p) (.tuple (es.map smD)) ∈ _))
  have hxl := (hS4.tf (.head _)).2.1
  rw [List.length_map] at hxl
  clear hS3
  generalize hR : visits (lfM ms) 8 ([], []) es = R at hQ
  refine w_forTA (zs := es) (c := smD) hxl (fun i σ H' => ∃ v3 v4 st', σ = [some (.ref a), some (.ref p), some (.ref x), v3, v4] ∧ St K (Ent.fact (Fr.tupf K p xs (es.map smD)) :: visE K x dx dv po f st' (Lg.own f (LamO f (ml_reach cm c')) :: Lg.kno c' (LamX.CodeO c' qReach) :: Lg.dks K a (msD ms) :: tbE (tReach K) qReach :: L)) H' ∧ VOk U st' ∧ R = visits (lfM ms) 8 st' (es.drop i))
    ⟨_, _, _, rfl, hS4, .nil, hR.symm⟩ (fun i σ H' _ hI => by obtain ⟨_, _, _, _, hI, _⟩ := hI; exact ⟨_, hI, .head _⟩) ?_ ?_
  · rintro i m v σ H5 hmi ⟨v3, v4, st', rfl, hSa, ok3, hr⟩ more
    have hSb := more _ hSa (.head _)
    obtain rfl := hSb.str_of
    clear hS4 hSb
    have e1 : es.drop i = m :: es.drop (i + 1) := by
      rw [(List.getElem?_eq_some_iff.mp hmi).2.symm, List.getElem_cons_drop]
    rw [e1, visits] at hr
    have hmU := hes m (List.mem_of_getElem? hmi)
    walk_at "w"
    refine w_mtLE ?_
    walk_at "w"
    refine w_meth hSa (by walk_at "mem") lk_vno ?_
    walk_at "w"
    refine ⟨.ref a, rfl, fun oc u nc ru hd => ?_⟩
    have hS5 := hSa.lend (oc := oc) nc
    refine ⟨Ent.fact (Fr.tupf K p xs (es.map smD)) :: tbE (tReach K) qReach :: L, lamE K f cm c' a oc ms, x, dx, dv, po, f, U, lfM ms, st', m, rfl, ?_, lam_reach ru hd, ok3, hc, by omega, hmU, Nat.lt_of_le_of_lt (List.length_filter_le _ _) hU, fun w H6 hS6 => ?_⟩
    · exact hS5.to (by walk_at "pick")
    · have to := visit_to hc 8 st' m ok3 hmU
      obtain ⟨q1, hS7⟩ := hS6.unlendR (cm := cm) (oc := oc) (L' := Lg.dat w (rfD (visitG (lfM ms) 8 st' m).2) :: visE K x dx dv po f (visitG (lfM ms) 8 st' m).1 (Lg.own f (LamO f (ml_reach cm c')) :: Lg.kno c' (LamX.CodeO c' qReach) :: Lg.dks K a (msD ms) :: Ent.fact (Fr.tupf K p xs (es.map smD)) :: tbE (tReach K) qReach :: L)) (by walk_at "rem")
      refine ⟨q1, ?_⟩
      clear hS5 hS6 hSa
      generalize visitG (lfM ms) 8 st' m = r at hr to hS7
      obtain ⟨st2, o⟩ := r
      cases o with
      | some fl =>
        have hr' : R = (st2, some fl) := hr
        subst hr'
        have hS8 : St K (Lg.dat w fl.d :: tbE (tReach K) qReach :: Lg.dks K a (msD ms) :: L) _ := hS7.to (by walk_at "pick")
        have href : ∃ qf, w = .ref qf := by
          cases fl with
          | mod _ => exact hS8.tup_of
          | line _ _ => exact hS8.tup_of
        obtain ⟨qf, rfl⟩ := href
        walk_at "w"
        exact hQ _ _ hS8
      | none =>
        obtain rfl := hS7.non_of
        have hS8 := hS7.tail
        walk_at "w"
        exact ⟨_, _, st2, rfl, hS8.to (by walk_at "pick"), to.ok ok3, hr⟩
  · rintro σ H5 ⟨v3, v4, st', rfl, hSa, ok3, hr⟩
    rw [List.drop_length] at hr
    have hr' : R = (st', none) := hr
    subst hr'
    clear hS4
    walk_at "w"
    refine w_fld hSa (by walk_at "mem") cf.cls_Reach cf.na_Reachorder lk_vo ?_
    walk_at "w"
    refine w_tupL hSa (.own (by walk_at "mem" : Lg.ls K po (st'.2.map smD) ∈ _)) fun q H6 hS6 => ?_
    walk_at "w"
    rename_i q7 H7 hS7
    exact hQ _ _ (hS7.to (by walk_at "pick"))
/-! ### the law's visits -/
def spLVisit (n : Nat) (K : PySem.W.Frag) : Sp := fun vs H Q _ => ∃ (L : List Ent) (a ps po : Addr) (ms : Mods) (U : List Nm) (st : VSt) (m : Nm), vs = [.ref a, .str (S m), .ref ps, .ref po] ∧ St K (Lg.ls K ps (st.1.map smD) :: Lg.ls K po (st.2.map smD) :: L) H ∧ Lg.dks K a (msD ms) ∈ L ∧
  VOk U st ∧ Clo U (lfM ms) ∧ U.length ≤ 1000 ∧ m ∈ U ∧ cnt U st.1 < n ∧ ∀ w H', St K (Lg.dat w (misD (visitG (lfM ms) n st m).2) :: Lg.ls K ps ((visitG (lfM ms) n st m).1.1.map smD) :: Lg.ls K po ((visitG (lfM ms) n st m).1.2.map smD) :: L) H' → Q w H'
theorem p_l_visit (n : Nat) (vs : List V) (H : Hp) (Q : VK) (E : XK) (h : spLVisit (n + 1) K vs H Q E) : vs.length = 4 ∧ t_l_visit K (spLVisit n K) { nx := fun _ H' => Q .non H', rt := Q } (start N_l_visit vs) H := by
  obtain ⟨L, a, ps, po, ms, U, st, m, rfl, hS, ha, ok, hc, hU, hm, hn, hQ⟩ := h
  refine ⟨rfl, ?_⟩
  rw [visitG] at hQ
  unfold t_l_visit
  walk_at "z"
  show tSeq _ _ _ [some (.ref a), some (.str (S m)), some (.ref ps), some (.ref po), none, none] H
  have hln := ok.len
  walk_at "w"
  refine w_inLS (neg := false) hS (.own (.head _)) ?_
  walk_at "w"
  refine w_ifd (fun hv => ?_) (fun hv => ?_)
  · rw [if_pos hv] at hQ
    walk_at "w"
    exact hQ _ _ (hS.learn .non)
  rw [if_neg hv] at hQ
  walk_at "w"
  refine w_app (d := smD m) hS .here .str (by rw [List.length_map]; omega) fun H2 hS2 => ?_
  have ok2 := ok.add hm hv
  have hcn := cnt_lt hm hv
  have hln2 := ok2.len
  have hS3 : St K (Lg.ls K ps ((st.1 ++ [m]).map smD) :: Lg.ls K po (st.2.map smD) :: L) H2 := by
    have e : (st.1 ++ [m]).map smD = st.1.map smD ++ [smD m] := by rw [List.map_append]; rfl
    rw [e]
    exact hS2
  clear hS hS2
  walk_at "w"
  refine w_dninE ?_
  walk_at "w"
  obtain ⟨o, h1, h2, h3⟩ := hS3.dget (.tail _ (.tail _ ha)) m
  rw [look_ms] at h2 h3
  refine ⟨a, o, rfl, h1, ?_⟩
  rw [h2]
  walk_at "w"
  cases hl : lookM ms m with
  | none =>
    have e : lfM ms m = .inl (.mod m) := by unfold lfM; rw [hl]
    rw [e] at hQ
    refine w_bt rfl ?_
    walk_at "w"
    exact hQ _ _ (hS3.learn .str)
  | some ls =>
    have e : lfM ms m = .inr ls := by unfold lfM; rw [hl]
    have hc2 := hc m hm ls e
    rw [e] at hQ
    dsimp only at hQ
    rw [hl] at h3
    obtain ⟨v, rfl, hS4⟩ := h3 _ rfl
    refine w_bf rfl ?_
    walk_at "w"
    refine w_anyT1 (w_dgetE ?_)
    walk_at "w"
    refine ⟨a, v, rfl, h1, ?_⟩
    obtain ⟨t, rfl⟩ := hS4.tup_of
    refine w_itT hS4 (.dat (.head _)) ?_
    obtain ⟨xs, _, hS5⟩ := hS4.tupF (.dat (.head _))
    have hxl := (hS5.tf (.head _)).2.1
    rw [List.length_map] at hxl
    have hS6 := hS5.to (L' := Lg.ls K ps ((st.1 ++ [m]).map smD) :: Lg.ls K po (st.2.map smD) :: Ent.fact (Fr.tupf K t xs (ls.map Ln.d)) :: L) (by walk_at "pick")
    clear hS3 hS4 hS5 h1 h2 h3
    generalize hR : goRefs (visitG (lfM ms) n) (st.1 ++ [m], st.2) ls = R at hQ
    refine w_forTA (zs := ls) (c := Ln.d) hxl (fun i σ H' => ∃ v4 v5 st', σ = [some (.ref a), some (.str (S m)), some (.ref ps), some (.ref po), v4, v5] ∧ St K (Lg.ls K ps (st'.1.map smD) :: Lg.ls K po (st'.2.map smD) :: Ent.fact (Fr.tupf K t xs (ls.map Ln.d)) :: L) H' ∧ VOk U st' ∧ cnt U st'.1 < n ∧ R = goRefs (visitG (lfM ms) n) st' (ls.drop i))
      ⟨_, _, (st.1 ++ [m], st.2), rfl, hS6, ok2, by show cnt U (st.1 ++ [m]) < n; omega, hR.symm⟩ (fun i σ H' _ hI => by obtain ⟨_, _, _, _, hI, _⟩ := hI; exact ⟨_, hI, .tail _ (.tail _ (.head _))⟩) ?_ ?_
    · rintro i l v σ H5 hli ⟨v3, v4, st', rfl, hSa, ok3, hcn3, hr⟩ more
      have hSb := more _ hSa (.tail _ (.tail _ (.head _)))
      have e1 : ls.drop i = l :: ls.drop (i + 1) := by
        rw [(List.getElem?_eq_some_iff.mp hli).2.symm, List.getElem_cons_drop]
      rw [e1, goRefs] at hr
      obtain ⟨qn, ds, rfl, hml, _, _⟩ := ln_hd hSb (.head _)
      have hlm : l ∈ ls := List.mem_of_getElem? hli
      clear hS6
      walk_at "w"
      refine w_ixTs (k := 0) (m := S l.w) hSb (.dat hml) rfl rfl ?_
      walk_at "w"
      rename_i q6 H6 hS6
      refine w_inTS (ys := [zimport, zexport]) hS6 (.dat (.head _)) ?_
      have hSd := hS6.tail
      have hSc := hSd.tail
      clear hS6
      walk_at "w"
      cases hrf : l.ref with
      | none =>
        rw [hrf] at hr
        dsimp only at hr
        have e2 : decide (l.w ∈ [zimport, zexport]) = false := by
          cases l with
          | nms ex ps mm => cases hrf
          | var kp x t => cases kp <;> rfl
          | fn f ps t => rfl
          | run hd t => cases hd <;> rfl
        refine w_bf e2 ?_
        walk_at "w"
        exact ⟨_, _, st', rfl, hSc, ok3, hcn3, hr⟩
      | some mm =>
        rw [hrf] at hr
        dsimp only at hr
        obtain ⟨ex, prs, rfl⟩ : ∃ ex ps, l = .nms ex ps mm := by
          cases l with
          | nms ex ps m2 => cases hrf; exact ⟨ex, ps, rfl⟩
          | var kp x t => cases hrf
          | fn f ps t => cases hrf
          | run hd t => cases hrf
        have hmm := hc2 _ hlm mm rfl
        refine w_bt (by cases ex <;> rfl) ?_
        rw [Ln.d] at hSd
        walk_at "w"
        refine w_ixTs (k := 2) (m := S mm) hSd (.dat (.head _)) rfl rfl ?_
        walk_at "w"
        refine ⟨Ent.fact (Fr.tupf K t xs (ls.map Ln.d)) :: L, a, ps, po, ms, U, st', mm, rfl, hSc, .tail _ ha, ok3, hc, hU, hmm, hcn3, fun w H6 hS7 => ?_⟩
        have to := visit_to hc n st' mm ok3 hmm
        have hmod := visit_mod (ms := ms) n st' mm
        clear hSb hSc hSd hSa
        generalize visitG (lfM ms) n st' mm = r at hr to hS7 hmod
        obtain ⟨st2, o⟩ := r
        cases o with
        | some fl =>
          have hr' : R = (st2, some fl) := hr
          subst hr'
          cases fl with
          | line _ _ => exact hmod.elim
          | mod mz =>
            obtain rfl := hS7.str_of
            walk_at "w"
            exact hQ _ _ (hS7.to (by walk_at "pick"))
        | none =>
          obtain rfl := hS7.non_of
          walk_at "w"
          exact ⟨_, _, st2, rfl, hS7.tail, to.ok ok3, Nat.lt_of_le_of_lt (cnt_le to.up) hcn3, hr⟩
    · rintro σ H5 ⟨v3, v4, st', rfl, hSa, ok3, hcn3, hr⟩
      rw [List.drop_length] at hr
      have hr' : R = (st', none) := hr
      subst hr'
      have ho3 := ok3.ol
      have hl3 := ok3.len
      walk_at "w"
      refine w_app (d := smD m) hSa (.there .here) .str (by rw [List.length_map]; omega) fun H6 hS6 => ?_
      walk_at "w"
      refine hQ _ _ ?_
      have e : (st'.2 ++ [m]).map smD = st'.2.map smD ++ [smD m] := by rw [List.map_append]; rfl
      show St K (Lg.dat .non .none :: Lg.ls K ps (st'.1.map smD) :: Lg.ls K po ((st'.2 ++ [m]).map smD) :: L) H6
      rw [e]
      exact (hS6.to (by walk_at "pick")).learn .non
def spLOrder (K : PySem.W.Frag) : Sp := fun vs H Q _ => ∃ (L : List Ent) (a p : Addr) (ms : Mods) (es U : List Nm), vs = [.ref a, .ref p] ∧ St K L H ∧ Lg.dks K a (msD ms) ∈ L ∧ Lg.dat (.ref p) (.tuple (es.map smD)) ∈ L ∧ Clo U (lfM ms) ∧ (∀ m ∈ es, m ∈ U) ∧ U.length < 8 ∧
  ∀ w H', St K (Lg.dat w (reachD (visits (lfM ms) 8 ([], []) es)) :: L) H' → Q w H'
theorem p_l_order (vs : List V) (H : Hp) (Q : VK) (E : XK) (h : spLOrder K vs H Q E) : vs.length = 2 ∧ t_l_order K (spLVisit 8 K) { nx := fun _ H' => Q .non H', rt := Q } (start N_l_order vs) H := by
  obtain ⟨L, a, p, ms, es, U, rfl, hS, ha, hp, hc, hes, hU, hQ⟩ := h
  refine ⟨rfl, ?_⟩
  unfold t_l_order
  walk_at "z"
  show tSeq _ _ _ [some (.ref a), some (.ref p), none, none, none, none] H
  walk_at "w"
  rename_i po H1 hS1 ps H2 hS2
  obtain ⟨xs, _, hS4⟩ := hS2.tupF (.dat (by walk_at "mem" : Lg.dat (.ref p) (.tuple (es.map smD)) ∈ _))
  have hxl := (hS4.tf (.head _)).2.1
  rw [List.length_map] at hxl
  have hS5 : St K (Lg.ls K ps (List.map smD []) :: Lg.ls K po (List.map smD []) :: Ent.fact (Fr.tupf K p xs (es.map smD)) :: L) H2 := hS4.to (by walk_at "pick")
  clear hS1 hS2 hS4
  generalize hR : visits (lfM ms) 8 ([], []) es = R at hQ
  refine w_forTA (zs := es) (c := smD) hxl (fun i σ H' => ∃ v4 v5 st', σ = [some (.ref a), some (.ref p), some (.ref po), some (.ref ps), v4, v5] ∧ St K (Lg.ls K ps (st'.1.map smD) :: Lg.ls K po (st'.2.map smD) :: Ent.fact (Fr.tupf K p xs (es.map smD)) :: L) H' ∧ VOk U st' ∧ R = visits (lfM ms) 8 st' (es.drop i))
    ⟨_, _, ([], []), rfl, hS5, .nil, hR.symm⟩ (fun i σ H' _ hI => by obtain ⟨_, _, _, _, hI, _⟩ := hI; exact ⟨_, hI, .tail _ (.tail _ (.head _))⟩) ?_ ?_
  · rintro i m v σ H5 hmi ⟨v3, v4, st', rfl, hSa, ok3, hr⟩ more
    have hSb := more _ hSa (.tail _ (.tail _ (.head _)))
    obtain rfl := hSb.str_of
    clear hS5 hSb
    have e1 : es.drop i = m :: es.drop (i + 1) := by
      rw [(List.getElem?_eq_some_iff.mp hmi).2.symm, List.getElem_cons_drop]
    rw [e1, visits] at hr
    have hmU := hes m (List.mem_of_getElem? hmi)
    walk_at "w"
    refine ⟨Ent.fact (Fr.tupf K p xs (es.map smD)) :: L, a, ps, po, ms, U, st', m, rfl, hSa, .tail _ ha, ok3, hc, by omega, hmU, Nat.lt_of_le_of_lt (List.length_filter_le _ _) hU, fun w H6 hS7 => ?_⟩
    have to := visit_to hc 8 st' m ok3 hmU
    have hmod := visit_mod (ms := ms) 8 st' m
    clear hSa
    generalize visitG (lfM ms) 8 st' m = r at hr to hS7 hmod
    obtain ⟨st2, o⟩ := r
    cases o with
    | some fl =>
      have hr' : R = (st2, some fl) := hr
      subst hr'
      cases fl with
      | line _ _ => exact hmod.elim
      | mod mz =>
        obtain rfl := hS7.str_of
        walk_at "w"
        rename_i q8 H8 hS8
        exact hQ _ _ (hS8.to (by walk_at "pick"))
    | none =>
      obtain rfl := hS7.non_of
      walk_at "w"
      exact ⟨_, _, st2, rfl, hS7.tail, to.ok ok3, hr⟩
  · rintro σ H5 ⟨v3, v4, st', rfl, hSa, ok3, hr⟩
    rw [List.drop_length] at hr
    have hr' : R = (st', none) := hr
    subst hr'
    clear hS5
    walk_at "w"
    refine w_tupL hSa (.own (.tail _ (.head _))) fun q H6 hS6 => ?_
    walk_at "w"
    rename_i q7 H7 hS7
    exact hQ _ _ (hS7.to (by walk_at "pick"))
section
variable {P : Program} {w : World} {mg : Str → Option Value} {base : Heap}
theorem ring_lvisit (g : G K mg) (c : He.SaysD hfa hfn K) (m : mg "_law_visit" = some (.ref (He.ga K "_law_visit"))) : ∀ d : Nat, C8.Cal P w K mg base (1 + d) "_law_visit" (spLVisit d K) []
  | 0 => cal_imp (zz_l_visit g _ (fd_l_visit c) m) fun vs H Q E h => by
    obtain ⟨L, a, ps, po, ms, U, st, m, _, _, _, _, _, _, _, h, _⟩ := h
    omega
  | d + 1 => ok_l_visit g (n := 1 + d) (by omega) (ring_lvisit g c m d) (fd_l_visit c) m fun vs H Q E h => p_l_visit d vs H Q E h
end
end



/-! k05: exports and imports put in -/
section
variable {K : PySem.W.Frag}
/-! ### k05: exports and one more import -/
theorem sh_prn {ps : List (Nm × Nm)} (h : ∀ p ∈ ps, isName p.1 = true ∧ isName p.2 = true) : SeqAt.shaped (.list (ps.map Xp.prD)) = true := by
  refine (sh_list (n := 1) (w := 86) (m := (ps.map Xp.prD).length * 87) (fun d hd => ?_) (Nat.le_refl _)).shaped (by decide)
  obtain ⟨p, hp, rfl⟩ := List.mem_map.mp hd
  obtain ⟨n1, n2⟩ := h p hp
  have a1 := asc_word n1
  have a2 := asc_word n2
  refine sh_tuple (n := 0) (w := 42) (fun d hd => ?_) (by simp)
  simp only [List.mem_cons, List.not_mem_nil, or_false] at hd
  rcases hd with rfl | rfl
  · exact (sh_str 0 a1.1 (Nat.le_refl _)).mono (Nat.le_refl _) (by omega)
  · exact (sh_str 0 a2.1 (Nat.le_refl _)).mono (Nat.le_refl _) (by omega)
structure MsUp (ms : Mods) (m : Nm) (ls : List Ln) (ms2 : Mods) : Prop where
  k : ms2.map Prod.fst = ms.map Prod.fst
  l : lookM ms2 m = some ls
  r : ∀ q ∈ ms2, q.1 ≠ m → q ∈ ms
theorem MsUp.put {ms ms2 : Mods} {m : Nm} {l0 ls : List Ln} (h : MsUp ms m l0 ms2) : MsUp ms m ls (putM ms2 m ls) := by
  refine ⟨(putM_keys _ _ _).trans h.k, look_put_same h.l, fun q hq hne => ?_⟩
  obtain ⟨x, hx, e⟩ := List.mem_map.mp hq
  by_cases hxm : x.1 = m
  · rw [if_pos hxm] at e
    subst e
    exact absurd hxm hne
  · rw [if_neg hxm] at e
    subst e
    exact h.r _ hx hne
theorem put_ms {ms : Mods} {m : Nm} {l0 ls : List Ln} (h : lookM ms m = some l0) : putD (msD ms) m (lnsT ls) = msD (putM ms m ls) := by
  unfold putD
  rw [if_pos]
  · unfold msD putM
    rw [List.map_map, List.map_map]
    refine List.map_congr_left fun p _ => ?_
    show (if p.1 = m then (p.1, lnsT ls) else (p.1, lnsT p.2)) = _
    show _ = ((if p.1 = m then (p.1, ls) else p).1, lnsT (if p.1 = m then (p.1, ls) else p).2)
    split <;> rfl
  · have h2 := look_ms m ms
    rw [h] at h2
    unfold lookD at h2
    cases hf : (msD ms).find? fun p => decide (p.1 = m) with
    | none => rw [hf] at h2; cases h2
    | some p => exact List.any_eq_true.mpr ⟨p, List.mem_of_find?_eq_some hf, by simpa using List.find?_some hf⟩
theorem MsUp.one {ms ms2 : Mods} {m : Nm} {ls : List Ln} (hnd : (ms.map Prod.fst).Nodup) (h : MsUp ms m ls ms2) : ∀ q ∈ ms2, q.1 = m → q.2 = ls := fun q hq e => by
  have := look_mem (by rw [h.k]; exact hnd) hq e
  rw [h.l] at this
  injection this with this
  exact this.symm
def spWithExp (K : PySem.W.Frag) : Sp := fun vs H Q _ => ∃ (L : List Ent) (b a : Addr) (ms : Mods) (os : List Nat), vs = [.ref b, .ref a] ∧ St K (Lg.dks K a (msD ms) :: L) H ∧ bx K b ∈ L ∧ (∀ o ∈ os, o ∈ modL) ∧ os.length ≤ 4 ∧ ms.map Prod.fst = os.map (fun o => [o]) ∧ (ms.map Prod.fst).Nodup ∧ (∀ p ∈ ms, ∃ o, p.1 = [o] ∧ Shp o p.2) ∧
  ∀ ms' H', ms'.map Prod.fst = ms.map Prod.fst → (∀ p ∈ ms', FinM refU p.2) → St K (Lg.dks K a (msD ms') :: L) H' → Q .non H'
theorem p_l_with_exports (vs : List V) (H : Hp) (Q : VK) (E : XK) (h : spWithExp K vs H Q E) : vs.length = 2 ∧ t_l_with_exports K (spDraw K) { nx := fun _ H' => Q .non H', rt := Q } (start N_l_with_exports vs) H := by
  obtain ⟨L, b, a, ms, os, rfl, hS, hb, hos, hol, hk, hnd, hsh, hQ⟩ := h
  refine ⟨rfl, ?_⟩
  have hml : ms.length ≤ 4 := by
    have := congrArg List.length hk
    rw [List.length_map, List.length_map] at this
    omega
  unfold t_l_with_exports
  walk_at "z"
  show tSeq _ _ _ [some (.ref b), some (.ref a), none, none, none, none, none] H
  walk_at "w"
  refine w_sortD hS (.head _) (by unfold msD; rw [List.length_map]; omega) fun p ys H1 hpm hS1 => ?_
  have hky : (msD ms).map Prod.fst = ms.map Prod.fst := by unfold msD; rw [List.map_map]; rfl
  rw [hky] at hpm
  have hyn : ys.Nodup := hpm.nodup_iff.mpr hnd
  have hyk : ∀ y ∈ ys, ∃ q ∈ ms, q.1 = y := fun y hy => List.mem_map.mp (hpm.mem_iff.mp hy)
  have hyU : ∀ y ∈ ys, y ∈ refU := fun y hy => by
    have := hpm.mem_iff.mp hy
    rw [hk] at this
    obtain ⟨o, ho, rfl⟩ := List.mem_map.mp this
    exact modL_U o (hos o ho)
  have hyl : ys.length ≤ 4 := by rw [hpm.length_eq, List.length_map]; exact hml
  have hS2 : St K (Lg.ls K p (ys.map smD) :: Lg.dks K a (msD ms) :: L) H1 := hS1
  clear hS hS1
  walk_at "w"
  refine w_forL (ds := ys.map smD) (fun i σ H' => (∃ v3 v4 v5 v6, σ = [some (.ref b), some (.ref a), some (.ref p), v3, v4, v5, v6]) ∧ ∃ ms' : Mods, ms'.map Prod.fst = ms.map Prod.fst ∧ (∀ q ∈ ms', FinM refU q.2 ∧ (q.1 ∉ ys.take i → ∃ o, q.1 = [o] ∧ Shp o q.2)) ∧ St K (Lg.ls K p (ys.map smD) :: Lg.dks K a (msD ms') :: L) H')
    ⟨⟨_, _, _, _, rfl⟩, ms, rfl, fun q hq => ?_, hS2⟩ ?_ ?_ ?_
  · obtain ⟨o, e, sh⟩ := hsh q hq
    refine ⟨?_, fun _ => ⟨o, e, sh⟩⟩
    have := fin_of sh [] [] (by simp) (by simp) (by simp) (by simp)
    simpa using this
  · rintro i σ H2 _ ⟨_, ms', _, _, hS3⟩
    exact ⟨_, hS3, .own (.head _)⟩
  · rintro i d v σ H2 hd ⟨⟨v3, v4, v5, v6, rfl⟩, ms1, hk1, hm1, hS3⟩ more
    obtain ⟨m, hm, rfl⟩ := map_at hd
    have hS4 := more _ hS3 (.own (.head _))
    obtain rfl := hS4.str_of
    clear hS2 hS4
    have hmy : m ∈ ys := List.mem_of_getElem? hm
    have hyp : 0 < (ys.map smD).length := by rw [List.length_map]; exact List.length_pos_of_mem hmy
    have hmt : m ∉ ys.take i := by
      intro h
      have e2 : ys = ys.take i ++ ys.drop i := (List.take_append_drop i ys).symm
      have e3 : ys.drop i = m :: ys.drop (i + 1) := by
        rw [(List.getElem?_eq_some_iff.mp hm).2.symm, List.getElem_cons_drop]
      rw [e2, e3, List.nodup_append] at hyn
      exact hyn.2.2 m h m (.head _) rfl
    have hnd1 : (ms1.map Prod.fst).Nodup := by rw [hk1]; exact hnd
    obtain ⟨q0, hq0, hq0m⟩ : ∃ q ∈ ms1, q.1 = m := by
      have : m ∈ ms1.map Prod.fst := by rw [hk1]; exact hpm.mem_iff.mp hmy
      exact List.mem_map.mp this
    obtain ⟨o, ho, sh⟩ := (hm1 q0 hq0).2 (by rw [hq0m]; exact hmt)
    have hlk : lookM ms1 m = some q0.2 := look_mem hnd1 hq0 hq0m
    have up0 : MsUp ms1 m q0.2 ms1 := ⟨rfl, hlk, fun q hq _ => hq⟩
    generalize q0.2 = ls0 at sh hlk up0
    clear hq0 hq0m
    obtain ⟨hn0, im0, ow0, e0, hI0, hO0⟩ := id sh
    have hl0 : ls0.length ≤ 11 := by
      have h1 := hI0.len
      have h2 := hO0.o.len
      rw [e0, List.length_append]
      omega
    walk_at "w"
    rename_i qp H3 hS5 k1 H4 hk0 hk1' hS6
    -- pairs
    have hS7 : St K (Lg.ls K qp (List.map Xp.prD []) :: Lg.ls K p (ys.map smD) :: Lg.dks K a (msD ms1) :: L) H4 := hS6
    clear hS3 hS5 hS6
    refine w_forR (fun j σ H' => ∃ v5 v6 ps, σ = [some (.ref b), some (.ref a), some (.ref p), some (.str (S m)), some (.ref qp), v5, v6] ∧ ps.map Prod.snd = uvw.take j ∧ (∀ z ∈ ps, z.1 ∈ exN) ∧ St K (Lg.ls K qp (ps.map Xp.prD) :: Lg.ls K p (ys.map smD) :: Lg.dks K a (msD ms1) :: L) H') ⟨_, _, [], rfl, by simp, by simp, hS7⟩ ?_ ?_
    · rintro j σ H5 hj ⟨v5, v6, ps, rfl, hp1, hp2, hS8⟩
      have hj2 : j < 2 := by omega
      have hpl : ps.length ≤ 3 := by
        have := congrArg List.length hp1
        rw [List.length_map, List.length_take] at this
        simp at this
        omega
      clear hS7
      walk_at "w"
      rename_i qu H6 hS9
      have huj : uvw[j]? = some (uvw.getD j []) := by
        match j, hj2 with
        | 0, _ => rfl
        | 1, _ => rfl
      refine w_ixLs (k := j) (m := S (uvw.getD j [])) hS9 (.own (.head _)) (by omega) (by show (uvw.map smD)[j]? = _; rw [List.getElem?_map, huj]; rfl) ?_
      have hSa := hS9.tail
      clear hS8 hS9
      walk_at "w"
      rename_i qn H7 hS9 k2 H8 hk20 hk21 hSb
      refine w_ixLSP (P := fun z => z ∈ exN) hSb (.own (.head _)) hk20 (by simp; omega) (fun d hd => ?_) fun z hz => ?_
      · simp only [List.mem_cons, List.not_mem_nil, or_false] at hd
        rcases hd with rfl | rfl | rfl | rfl | rfl | rfl | rfl <;> exact ⟨_, rfl, by decide⟩
      walk_at "w"
      rename_i qt H9 hSc
      refine w_app (d := Xp.prD (z, uvw.getD j [])) hSc (by walk_at "put") (.dat (.head _)) (by rw [List.length_map]; omega) fun Ha hSd => ?_
      walk_at "w"
      refine ⟨_, _, ps ++ [(z, uvw.getD j [])], rfl, ?_, fun y hy => ?_, ?_⟩
      · rw [List.map_append, hp1, List.take_add_one, huj]
        rfl
      · rcases List.mem_append.mp hy with hy | hy
        · exact hp2 y hy
        · rcases List.mem_singleton.mp hy with rfl
          exact hz
      · rw [List.map_append]
        exact hSd.to (by walk_at "pick")
    rintro σ H5 ⟨v5, v6, ps, rfl, hp1, hp2, hS8⟩
    clear hS7
    have hkn : ∃ k : Nat, k ≤ 2 ∧ k1.toNat = k := ⟨k1.toNat, by omega, rfl⟩
    obtain ⟨kk, hkk, ekk⟩ := hkn
    have hps : ps.length ≤ 3 := by
      have := congrArg List.length hp1
      rw [List.length_map, List.length_take] at this
      simp at this
      omega
    have hp1' : ps.map Prod.snd = uvw.take kk := by rw [hp1]; congr 1
    refine w_cut (fun σ' H' => ∃ ms2 ex, σ' = [some (.ref b), some (.ref a), some (.ref p), some (.str (S m)), some (.ref qp), v5, v6] ∧ ex.length ≤ 1 ∧ (∀ l ∈ ex, ExpLn l) ∧ MsUp ms1 m (ls0 ++ ex) ms2 ∧ St K (Lg.ls K p (ys.map smD) :: Lg.dks K a (msD ms2) :: L) H') ?_ ?_
    · walk_at "w"
      rename_i qe H6 hS9
      refine w_neD hS9 (LsIn.see (.own (.tail _ (.head _)))) (.own (.head _)) (sh_prn fun z hz => ⟨exN_ok _ (hp2 z hz), uvw_ok _ (List.take_subset _ _ (by rw [← hp1]; exact List.mem_map.mpr ⟨z, hz, rfl⟩))⟩) sh_nil ?_
      rw [eqv_nil]
      have hSa := hS9.tail
      clear hS8 hS9
      walk_at "w"
      by_cases hpn : ps = []
      · subst hpn
        refine w_bf rfl ?_
        walk_at "w"
        exact ⟨ms1, [], rfl, by simp, by simp, by rw [List.append_nil]; exact up0, hSa.tail⟩
      refine w_bt (by cases ps with | nil => exact absurd rfl hpn | cons _ _ => rfl) ?_
      walk_at "w"
      refine w_dputE ?_
      walk_at "w"
      refine w_dgetE ?_
      walk_at "w"
      obtain ⟨og, h1, h2, h3⟩ := hSa.dget (.tail _ (.tail _ (.head _))) m
      rw [look_ms, hlk] at h2 h3
      obtain ⟨v, rfl, hSb⟩ := h3 _ rfl
      obtain ⟨qv, rfl⟩ := hSb.tup_of
      refine ⟨a, _, rfl, h1, ?_⟩
      clear hSa h1 h2 h3
      walk_at "w"
      refine w_tupL hSb (.own (.tail _ (.head _))) fun qx H7 hSc => ?_
      walk_at "w"
      rename_i qz H8 hSd qw H9 hSe k3 Ha hk30 hk31 hSf
      rw [List.length_map] at hk31
      refine w_ixLSP (P := fun z => z ∈ refU) hSf (.own (.head _)) hk30 (by simp; omega) (fun d hd => ?_) fun t ht => ?_
      · rcases List.mem_append.mp hd with hd | hd
        · obtain ⟨y, hy, rfl⟩ := List.mem_map.mp hd
          exact ⟨y, rfl, hyU y hy⟩
        · rcases List.mem_singleton.mp hd with rfl
          exact ⟨_, rfl, by decide⟩
      walk_at "w"
      rename_i qa Hb hSg qb Hc hSh
      refine w_plusT (ds := ls0.map Ln.d) (es := [(Ln.nms true ps t).d]) hSh (.dat (by walk_at "mem")) (.dat (.head _)) (by simp; omega) fun v2 Hd hSi => ?_
      walk_at "w"
      have e1 : PyData.tuple (ls0.map Ln.d ++ [(Ln.nms true ps t).d]) = lnsT (ls0 ++ [.nms true ps t]) := by unfold lnsT; rw [List.map_append]; rfl
      rw [e1] at hSi
      have hSj := hSi.to (L' := Lg.dks K a (msD ms1) :: Lg.dat v2 (lnsT (ls0 ++ [.nms true ps t])) :: Lg.ls K p (ys.map smD) :: L) (by walk_at "pick")
      clear hSb hSc hSd hSe hSf hSg hSh hSi
      obtain ⟨He', h1, hSk⟩ := w_dput (k := m) (d := lnsT (ls0 ++ [.nms true ps t])) (v := v2) hSj .here (.dat (.tail _ (.head _))) (by unfold msD; rw [List.length_map]; have := congrArg List.length hk1; rw [List.length_map, List.length_map] at this; omega)
      rw [put_ms hlk] at hSk
      refine ⟨a, He', rfl, h1, ?_⟩
      walk_at "w"
      refine ⟨putM ms1 m (ls0 ++ [.nms true ps t]), [.nms true ps t], rfl, by simp, fun l hl => ?_, up0.put, hSk.to (by walk_at "pick")⟩
      rcases List.mem_singleton.mp hl with rfl
      exact ⟨ps, t, rfl, hpn, ⟨kk, hkk, hp1'⟩, hp2, ht⟩
    rintro σ' H6 ⟨ms2, ex, rfl, hexl, hex, up2, hS9⟩
    clear hS8
    walk_at "w"
    rename_i k4 H7 hk40 hk41 hSa
    -- the end of a turn
    have fin : ∀ (ms3 : Mods) (im : List Ln), im.length ≤ 1 → (∀ l ∈ im, ImpLn l) → MsUp ms1 m (im ++ (ls0 ++ ex)) ms3 → ∀ H8, St K (Lg.ls K p (ys.map smD) :: Lg.dks K a (msD ms3) :: L) H8 →
        (∃ v3 v4 v5' v6', [some (V.ref b), some (V.ref a), some (V.ref p), some (V.str (S m)), some (V.ref qp), v5, v6] = [some (V.ref b), some (V.ref a), some (V.ref p), v3, v4, v5', v6']) ∧ ∃ ms' : Mods, ms'.map Prod.fst = ms.map Prod.fst ∧ (∀ q ∈ ms', FinM refU q.2 ∧ (q.1 ∉ ys.take (i + 1) → ∃ o, q.1 = [o] ∧ Shp o q.2)) ∧ St K (Lg.ls K p (ys.map smD) :: Lg.dks K a (msD ms') :: L) H8 := fun ms3 im him1 him2 up3 H8 hSz => by
      refine ⟨⟨_, _, _, _, rfl⟩, ms3, up3.k.trans hk1, fun q hq => ?_, hSz⟩
      by_cases hqm : q.1 = m
      · rw [up3.one hnd1 q hq hqm]
        refine ⟨fin_of sh im ex him1 hexl him2 hex, fun hn => absurd ?_ hn⟩
        rw [hqm, List.take_add_one, hm]
        exact List.mem_append_right _ (.head _)
      · obtain ⟨f1, f2⟩ := hm1 q (up3.r q hq hqm)
        refine ⟨f1, fun hn => f2 fun h => hn ?_⟩
        rw [List.take_add_one]
        exact List.mem_append_left _ h
    refine w_ifd (fun h5 => ?_) (fun h5 => ?_)
    rotate_left
    · walk_at "w"
      exact fin ms2 [] (by simp) (by simp) (by simpa using up2) _ hSa
    clear hS9
    walk_at "w"
    refine w_dputE ?_
    walk_at "w"
    rename_i qa Ha hSb qb Hb hSc qc Hc hSd k5 Hd hk50 hk51 hSe
    rw [List.length_map] at hk51
    refine w_ixLSP (P := fun z => z ∈ refU) hSe (.own (by walk_at "mem")) hk50 (by simp; omega) (fun d hd => ?_) fun t ht => ?_
    · obtain ⟨y, hy, rfl⟩ := List.mem_map.mp hd
      exact ⟨y, rfl, hyU y hy⟩
    walk_at "w"
    rename_i qd Hg hSg qe Hh hSh
    refine w_dgetE ?_
    walk_at "w"
    obtain ⟨og, h1, h2, h3⟩ := hSh.dget (by walk_at "mem" : Lg.dks K a (msD ms2) ∈ _) m
    rw [look_ms, up2.l] at h2 h3
    obtain ⟨v, rfl, hSi⟩ := h3 _ rfl
    obtain ⟨qv, rfl⟩ := hSi.tup_of
    refine ⟨a, _, rfl, h1, ?_⟩
    refine w_plusT (ds := [(impLn t).d]) (es := (ls0 ++ ex).map Ln.d) hSi (.dat (by walk_at "mem")) (.dat (.head _)) (by simp; omega) fun v2 Hj hSj => ?_
    walk_at "w"
    have e1 : PyData.tuple ([(impLn t).d] ++ (ls0 ++ ex).map Ln.d) = lnsT ([impLn t] ++ (ls0 ++ ex)) := rfl
    rw [e1] at hSj
    have hSk := hSj.to (L' := Lg.dks K a (msD ms2) :: Lg.dat v2 (lnsT ([impLn t] ++ (ls0 ++ ex))) :: Lg.ls K p (ys.map smD) :: L) (by walk_at "pick")
    clear hSa hSb hSc hSd hSe hSg hSh hSi hSj h1 h2 h3
    obtain ⟨Hk, h1, hSl⟩ := w_dput (k := m) (d := lnsT ([impLn t] ++ (ls0 ++ ex))) (v := v2) hSk .here (.dat (.tail _ (.head _))) (by unfold msD; rw [List.length_map]; have := congrArg List.length (up2.k.trans hk1); rw [List.length_map, List.length_map] at this; omega)
    rw [put_ms up2.l] at hSl
    refine ⟨a, Hk, rfl, h1, ?_⟩
    walk_at "w"
    exact fin (putM ms2 m ([impLn t] ++ (ls0 ++ ex))) [impLn t] (by simp) (fun l hl => by rcases List.mem_singleton.mp hl with rfl; exact ⟨t, ht, rfl⟩) up2.put _ (hSl.to (by walk_at "pick"))
  · rintro σ H2 ⟨⟨v3, v4, v5, v6, rfl⟩, ms', hk', hm', hS3⟩
    walk_at "w"
    exact hQ ms' _ hk' (fun q hq => (hm' q hq).1) hS3.tail
end



/-! k05: the law -/
section
variable {K : PySem.W.Frag}
/-! ### lines shown (shared) -/
theorem shw_ln {l : Ln} (h : l.ok) : Shw 7 15364 l.d := by
  have kw : ∀ (b : Bool) (x y : List Nat), (Asc x ∧ x.length ≤ 6) → (Asc y ∧ y.length ≤ 6) → Shw 6 3840 (smD (if b then x else y)) := fun b x y hx hy => by
    cases b
    · exact sh_str _ hy.1 (by have := hy.2; show y.length ≤ 3840; omega)
    · exact sh_str _ hx.1 (by have := hx.2; show x.length ≤ 3840; omega)
  have nm : ∀ {z : Nm}, isName z = true → Shw 6 3840 (smD z) := fun {z} hz => sh_str _ (asc_word hz).1 (by have := (asc_word hz).2; omega)
  have tr : ∀ {t : Tr}, TO 3 t → Shw 6 3840 t.d := fun ht => ht.shw
  cases l with
  | nms ex ps m =>
    rw [Ln.d]
    refine sh_tuple (n := 6) (w := 3840) (fun d hd => ?_) (by simp)
    simp only [List.mem_cons, List.not_mem_nil, or_false] at hd
    rcases hd with rfl | rfl | rfl
    · exact kw ex _ _ ⟨asc_of (by decide), by decide⟩ ⟨asc_of (by decide), by decide⟩
    · refine (sh_tuple (n := 1) (w := 86) (m := 3 * 87) (fun d hd => ?_) (by rw [List.length_map]; exact Nat.mul_le_mul_right _ h.2.2.1)).mono (by decide) (by decide)
      obtain ⟨p, hp, rfl⟩ := List.mem_map.mp hd
      refine sh_tuple (n := 0) (w := 42) (fun d hd => ?_) (by simp)
      simp only [List.mem_cons, List.not_mem_nil, or_false] at hd
      have a1 := asc_word (h.1 p hp).a
      have a2 := asc_word (h.1 p hp).b
      rcases hd with rfl | rfl
      · exact sh_str 0 a1.1 (by omega)
      · exact sh_str 0 a2.1 (by omega)
    · exact nm h.2.2.2
  | var kp x t =>
    rw [Ln.d]
    refine sh_tuple (n := 6) (w := 3840) (fun d hd => ?_) (by simp)
    simp only [List.mem_cons, List.not_mem_nil, or_false] at hd
    rcases hd with rfl | rfl | rfl
    · exact kw kp _ _ ⟨asc_of (by decide), by decide⟩ ⟨asc_of (by decide), by decide⟩
    · exact nm h.1
    · exact tr h.2
  | fn f ps t =>
    rw [Ln.d]
    refine sh_tuple (n := 6) (w := 3840) (fun d hd => ?_) (by simp)
    simp only [List.mem_cons, List.not_mem_nil, or_false] at hd
    rcases hd with rfl | rfl | rfl | rfl
    · exact sh_str _ (asc_of (by decide)) (by decide)
    · exact nm h.1
    · refine (sh_tuple (n := 0) (w := 6) (m := 3 * 7) (fun d hd => ?_) (by rw [List.length_map]; exact Nat.mul_le_mul_right _ h.2.2.1)).mono (by decide) (by decide)
      obtain ⟨p, hp, rfl⟩ := List.mem_map.mp hd
      exact sh_str 0 (asc_word (h.2.1 p hp)).1 (asc_word (h.2.1 p hp)).2
    · exact tr h.2.2.2.2
  | run hd t =>
    rw [Ln.d]
    refine sh_tuple (n := 6) (w := 3840) (m := 15364) (fun d hd => ?_) (by simp)
    simp only [List.mem_cons, List.not_mem_nil, or_false] at hd
    rcases hd with rfl | rfl
    · exact kw _ _ _ ⟨asc_of (by decide), by decide⟩ ⟨asc_of (by decide), by decide⟩
    · exact tr h
/-! ### k05: the law -/
theorem shw_pair {ms : Mods} (hk : ∀ p ∈ ms, isName p.1 = true) (hok : ∀ p ∈ ms, ∀ l ∈ p.2, l.ok) {o : Option (Nm × Nm)} (h : ∀ r, o = some r → Bd ms r) : Shw 2 1000 (Xp.pairD o) := by
  cases o with
  | none => exact ⟨rfl, by decide, by decide, rfl, rfl⟩
  | some r =>
    obtain ⟨p, hp, e1, _, l, hl, _, e2⟩ := (h r rfl).ls
    have a1 := asc_word (show isName r.1 = true by rw [← e1]; exact hk p hp)
    have a2 := asc_word (nm1_ok (hok p hp l hl) e2)
    refine (sh_tuple (n := 0) (w := 6) (m := 14) (fun d hd => ?_) (by simp)).mono (by decide) (by decide)
    simp only [List.mem_cons, List.not_mem_nil, or_false] at hd
    rcases hd with rfl | rfl
    · exact sh_str 0 a1.1 a1.2
    · exact sh_str 0 a2.1 a2.2
theorem shw_reach {U : List Nm} (hU : ∀ m ∈ U, isName m = true) {r : VSt × Option RF} (hs : ∀ m ∈ r.1.2, m ∈ U) (hl : r.1.2.length ≤ 100) (hm : ∀ m, r.2 = some (.mod m) → m ∈ U) (hi : isMod r.2) : Shw 3 3000 (reachD r) := by
  unfold reachD
  obtain ⟨st, o⟩ := r
  cases o with
  | none =>
    refine sh_tuple (n := 2) (w := 1000) (fun d hd => ?_) (by simp)
    simp only [List.mem_cons, List.not_mem_nil, or_false] at hd
    rcases hd with rfl | rfl
    · exact sh_str _ (asc_of (by decide)) (by decide)
    · refine (sh_tuple (n := 1) (w := 6) (m := 700) (fun d hd => ?_) (by rw [List.length_map]; show st.2.length * 7 ≤ 700; have : st.2.length ≤ 100 := hl; omega)).mono (by decide) (by decide)
      obtain ⟨y, hy, rfl⟩ := List.mem_map.mp hd
      have a := asc_word (hU y (hs y hy))
      exact sh_str 1 a.1 a.2
  | some f =>
    cases f with
    | line _ _ => exact hi.elim
    | mod m =>
      have a := asc_word (hU m (hm m rfl))
      refine sh_tuple (n := 2) (w := 6) (m := 3000) (fun d hd => ?_) (by simp)
      simp only [List.mem_cons, List.not_mem_nil, or_false] at hd
      rcases hd with rfl | rfl
      · exact sh_str _ (asc_of (by decide)) (by decide)
      · exact sh_str _ a.1 a.2
structure Fin5 (ms : Mods) : Prop where
  k : ∀ p ∈ ms, p.1 ∈ refU
  n : ms.length ≤ 4
  f : ∀ p ∈ ms, FinM refU p.2
theorem cands_le {n : Nat} : ∀ {ms : Mods}, (∀ p ∈ ms, (candL p.2).length ≤ n) → (cands ms).length ≤ ms.length * n
  | [], _ => by simp [cands]
  | p :: r, h => by
    have ih := cands_le (ms := r) fun q hq => h q (.tail _ hq)
    have h1 := h p (.head _)
    rw [cands_eq] at ih ⊢
    rw [List.flatMap_cons, List.length_append, List.length_cons, Nat.add_mul]
    omega
theorem Fin5.c {ms : Mods} (h : Fin5 ms) : (cands ms).length ≤ 12 := by
  have h1 := cands_le (n := 3) fun p hp => (h.f p hp).cd
  have := h.n
  omega
theorem Fin5.x {ms : Mods} (h : Fin5 ms) : MsX ms := ⟨fun p hp => (h.f p hp).ok, fun p hp => by have := (h.f p hp).len; omega, fun p hp => (h.f p hp).ex⟩
theorem Fin5.a {ms : Mods} (h : Fin5 ms) : MsA ms := ⟨h.x, fun p hp => (h.f p hp).av, by have := h.c; omega⟩
theorem Fin5.clo {ms : Mods} (h : Fin5 ms) : Clo refU (lfM ms) := fun m hm ls hl l hll z hz => by
  unfold lfM at hl
  cases hf : lookM ms m with
  | none => rw [hf] at hl; cases hl
  | some l2 =>
    rw [hf] at hl
    have e : l2 = ls := by simpa using hl
    subst e
    obtain ⟨p, hp, rfl⟩ := lookM_mem hf
    exact (h.f p hp).rf l hll z hz
theorem Fin5.nm {ms : Mods} (h : Fin5 ms) : ∀ p ∈ ms, isName p.1 = true := fun p hp => refU_ok _ (h.k p hp)
theorem Fin5.okl {ms : Mods} (h : Fin5 ms) : ∀ p ∈ ms, ∀ l ∈ p.2, l.ok := fun p hp => (h.f p hp).ok
theorem visit_mU {U : List Nm} {ms : Mods} (hc : Clo U (lfM ms)) : ∀ (k : Nat) (st : VSt) (m z : Nm), m ∈ U → (visitG (lfM ms) k st m).2 = some (.mod z) → z ∈ U
  | 0, st, m, z, _, h => by cases h
  | k + 1, st, m, z, hm, h => by
    rw [visitG] at h
    split at h
    · cases h
    · cases hl : lfM ms m with
      | inl f =>
        rw [hl] at h
        have : f = .mod m := by
          unfold lfM at hl
          split at hl
          · cases hl; rfl
          · cases hl
        subst this
        cases h
        exact hm
      | inr ls =>
        rw [hl] at h
        dsimp only at h
        have key : ∀ (l : List Ln) (st : VSt), (∀ x ∈ l, ∀ y, x.ref = some y → y ∈ U) → (goRefs (visitG (lfM ms) k) st l).2 = some (.mod z) → z ∈ U := by
          intro l
          induction l with
          | nil => intro st _ h; cases h
          | cons x r ih =>
            intro st hx h
            rw [goRefs] at h
            cases hr : x.ref with
            | none => rw [hr] at h; exact ih st (fun y hy => hx y (.tail _ hy)) h
            | some y =>
              rw [hr] at h
              dsimp only at h
              have iv := visit_mU hc k st y z (hx x (.head _) y hr)
              generalize visitG (lfM ms) k st y = q at h iv
              obtain ⟨st2, o⟩ := q
              cases o with
              | some f => exact iv h
              | none => exact ih st2 (fun y hy => hx y (.tail _ hy)) h
        have k2 := key ls (st.1 ++ [m], st.2) (hc m hm ls hl)
        generalize goRefs (visitG (lfM ms) k) (st.1 ++ [m], st.2) ls = q at h k2
        obtain ⟨st2, o⟩ := q
        cases o with
        | some f => exact k2 h
        | none => cases h
theorem visits_mU {U : List Nm} {ms : Mods} (hc : Clo U (lfM ms)) (k : Nat) : ∀ (l : List Nm) (st : VSt) (z : Nm), (∀ m ∈ l, m ∈ U) → (visits (lfM ms) k st l).2 = some (.mod z) → z ∈ U
  | [], st, z, _, h => by cases h
  | m :: r, st, z, hm, h => by
    rw [visits] at h
    have iv := visit_mU hc k st m z (hm m (.head _))
    generalize visitG (lfM ms) k st m = q at h iv
    obtain ⟨st2, o⟩ := q
    cases o with
    | some f => exact iv h
    | none => exact visits_mU hc k r st2 z (fun y hy => hm y (.tail _ hy)) h
theorem nms_of {U : List Nm} : ∀ {es : List PyData}, (∀ e ∈ es, ∃ z ∈ U, e = smD z) → ∃ zs : List Nm, es = zs.map smD ∧ ∀ z ∈ zs, z ∈ U
  | [], _ => ⟨[], rfl, fun _ h => by cases h⟩
  | e :: es, h => by
    obtain ⟨z, hz, rfl⟩ := h e (.head _)
    obtain ⟨zs, rfl, hzs⟩ := nms_of (U := U) (es := es) fun x hx => h x (.tail _ hx)
    exact ⟨z :: zs, rfl, fun y hy => by
      rcases List.mem_cons.mp hy with rfl | hy
      · exact hz
      · exact hzs y hy⟩
abbrev nm8 : List Nm := [[117], [118], [119], [120, 97], [102, 98], [107, 99], [121, 97], [110, 111, 110, 101]]
abbrev nm10 : List Nm := [[117], [117, 117], [118, 118], [120, 97], [120, 98], [122, 120, 97], [122, 102, 98], [107, 99], [102, 97], [110, 111, 110, 101]]
def spLaw (K : PySem.W.Frag) : Sp := fun vs H Q _ => ∃ (a : Addr) (ns : List Int), vs = [.ref a] ∧ St K [tbE (tReach K) qReach, .fact (Fr.seq K a ns)] H ∧ CF K ∧ ∀ H', Q (.bl true) H'
theorem p_law (vs : List V) (H : Hp) (Q : VK) (E : XK) (h : spLaw K vs H Q E) : vs.length = 1 ∧ t_law K (spAlike K) (spLOrder K) (spReach K) (spDraw K) (spLLeads K) (spAvail K) (spLDeclared K) (spDecl K) (spFollow K) (spLFollow K) (spWithExp K) (spLModules K) (spDigits K) { nx := fun _ H' => Q .non H', rt := Q } (start N_law vs) H := by
  obtain ⟨a, ns, rfl, hS0, cf, hQ⟩ := h
  refine ⟨rfl, ?_⟩
  unfold t_law
  walk_at "z"
  show tSeq _ _ _ [some (.ref a), none, none, none, none, none, none, none, none, none] H
  walk_at "w"
  refine ⟨_, a, ns, 0, 63, rfl, hS0, by walk_at "mem", by decide, by decide, by decide, by decide, fun p ms H1 hS1 => ?_⟩
  walk_at "w"
  refine w_newBox hS1 fun b H2 hS2 => ?_
  walk_at "w"
  have hS5 := hS2.to (L' := [tbE (tReach K) qReach, bx K b]) (by walk_at "pick")
  clear hS0 hS1 hS2
  refine w_forR (fun i σ H' => (∃ v2 v3 v4 v5 v6 v7 v8 v9, σ = [some (.ref a), some (.ref b), v2, v3, v4, v5, v6, v7, v8, v9]) ∧ St K [tbE (tReach K) qReach, bx K b] H') ⟨⟨_, _, _, _, _, _, _, _, rfl⟩, hS5⟩ ?_ ?_
  rotate_left
  · rintro σ H6 ⟨⟨v2, v3, v4, v5, v6, v7, v8, v9, rfl⟩, hS6⟩
    walk_at "w"
    exact hQ _
  rintro i σ H6 hi ⟨⟨v2, v3, v4, v5, v6, v7, v8, v9, rfl⟩, hS6⟩
  clear hS5
  walk_at "w"
  rename_i q7 H7 hS7 k8 H8 h80 h81 hS8 q9 H9 hS9
  obtain ⟨k, rfl⟩ := Int.eq_ofNat_of_zero_le h80
  rw [cutD_no (j := (2 + k : Int)) (b := 2 + k) (by omega)] at hS9
  have hS10 : St K (Lg.ls K q9 (modDs (modL.take (2 + k))) :: [tbE (tReach K) qReach, bx K b]) H9 := by
    have e : modDs (modL.take (2 + k)) = (modL.map fun o => smD [o]).take (2 + k) := by
      show (modL.take (2 + k)).map _ = _
      rw [List.map_take]
    rw [e]
    exact hS9.to (by walk_at "pick")
  have hos : ∀ o ∈ modL.take (2 + k), o ∈ modL := fun o ho => List.take_subset _ _ ho
  have hol : (modL.take (2 + k)).length ≤ 4 := by rw [List.length_take]; exact Nat.min_le_right _ _
  have hon : (modL.take (2 + k)).Nodup := (show modL.Nodup by decide).sublist (List.take_sublist _ _)
  have hop : 0 < (modL.take (2 + k)).length := by rw [List.length_take]; simp; omega
  generalize modL.take (2 + k) = os at hS10 hos hol hon hop
  clear hS6 hS7 hS8 hS9
  refine ⟨_, b, q9, os, rfl, hS10, by walk_at "mem", .own (.head _), hos, hol, hon, fun qm ms0 H1 hok0 hmd0 hk0 hS1 => ?_⟩
  clear hS10
  walk_at "w"
  refine ⟨_, b, qm, ms0, os, rfl, hS1, by walk_at "mem", hos, hol, hk0, hok0.nd, fun p hp => ?_, fun ms H2 hk hfin hS2 => ?_⟩
  · obtain ⟨o, e, h⟩ := hmd0 p hp
    exact ⟨o, e, h.sh⟩
  have hF : Fin5 ms := by
    refine ⟨fun p hp => ?_, ?_, hfin⟩
    · have : p.1 ∈ ms.map Prod.fst := List.mem_map.mpr ⟨p, hp, rfl⟩
      rw [hk, hk0] at this
      obtain ⟨o, ho, e⟩ := List.mem_map.mp this
      rw [← e]
      exact modL_U o (hos o ho)
    · have := congrArg List.length (hk.trans hk0)
      rw [List.length_map, List.length_map] at this
      omega
  clear hS1 hok0 hmd0 hk hk0
  have hS3 : St K [tbE (tReach K) qReach, Lg.dks K qm (msD ms), Lg.ls K q9 (modDs os), bx K b] H2 := hS2.to (by walk_at "pick")
  clear hS2
  have hc := hF.c
  walk_at "w"
  refine w_anyL1 ?_
  walk_at "w"
  rename_i qz Hz hSz qn Hn hSn
  have hSn2 : St K [Lg.ls K qn ((os.map (fun o => ([o] : Nm)) ++ [[122, 122]]).map smD), tbE (tReach K) qReach, Lg.dks K qm (msD ms), Lg.ls K q9 (modDs os), bx K b] Hn := by
    have e : (os.map (fun o => ([o] : Nm)) ++ [[122, 122]]).map smD = modDs os ++ [smD [122, 122]] := by rw [List.map_append, List.map_map]; rfl
    rw [e]
    exact hSn.to (by walk_at "pick")
  clear hS3 hSz hSn
  -- follow, available
  refine w_forL (ds := (os.map (fun o => ([o] : Nm)) ++ [[122, 122]]).map smD) (fun j σ H' => (∃ v5 v6 v7 v8 v9, σ = [some (.ref a), some (.ref b), some (.int (0 + i)), some (.ref q9), some (.ref qm), v5, v6, v7, v8, v9]) ∧ St K [Lg.ls K qn ((os.map (fun o => ([o] : Nm)) ++ [[122, 122]]).map smD), tbE (tReach K) qReach, Lg.dks K qm (msD ms), Lg.ls K q9 (modDs os), bx K b] H')
    ⟨⟨_, _, _, _, _, rfl⟩, hSn2⟩ (fun j σ H' _ hI => ⟨_, hI.2, .own (.head _)⟩) ?_ ?_
  · rintro j d v σ H3 hd ⟨⟨v5, v6, v7, v8, v9, rfl⟩, hS4⟩ more
    obtain ⟨m, hm, rfl⟩ := map_at hd
    obtain rfl := (more _ hS4 (.own (.head _))).str_of
    clear hSn2
    walk_at "w"
    refine w_anyL1 ?_
    walk_at "w"
    rename_i qf Hf hSf0
    have hSf : St K [Lg.ls K qf (nm8.map smD), Lg.ls K qn ((os.map (fun o => ([o] : Nm)) ++ [[122, 122]]).map smD), tbE (tReach K) qReach, Lg.dks K qm (msD ms), Lg.ls K q9 (modDs os), bx K b] Hf := hSf0
    clear hSf0
    refine w_forL (ds := nm8.map smD) (fun j σ H' => (∃ v6 v7 v8 v9, σ = [some (.ref a), some (.ref b), some (.int (0 + i)), some (.ref q9), some (.ref qm), some (.str (S m)), v6, v7, v8, v9]) ∧ St K [Lg.ls K qf (nm8.map smD), Lg.ls K qn ((os.map (fun o => ([o] : Nm)) ++ [[122, 122]]).map smD), tbE (tReach K) qReach, Lg.dks K qm (msD ms), Lg.ls K q9 (modDs os), bx K b] H')
      ⟨⟨_, _, _, _, rfl⟩, hSf⟩ (fun j σ H' _ hI => ⟨_, hI.2, .own (.head _)⟩) ?_ ?_
    · rintro j2 d v σ H4 hd ⟨⟨v6, v7, v8, v9, rfl⟩, hS5⟩ more
      obtain ⟨n, hn, rfl⟩ := map_at hd
      obtain rfl := (more _ hS5 (.own (.head _))).str_of
      clear hS4 hSf
      walk_at "w"
      refine ⟨_, qm, ms, m, n, rfl, hS5, by walk_at "mem", hF.x, fun w H5 hS6 => ?_⟩
      rw [lfollow_is (by omega)] at hS6
      have hbd : ∀ r, followM ms m n = some r → Bd ms r := fun r hr => bd_of (followM_own hr)
      have hsh := shw_pair hF.nm hF.okl hbd
      generalize hfo : followM ms m n = fo at hS6 hbd hsh
      clear hS5
      walk_at "w"
      refine ⟨_, qm, ms, m, n, rfl, hS6, by walk_at "mem", by omega, fun w2 H6 hS7 => ?_⟩
      rw [hfo] at hS7
      walk_at "w"
      refine ⟨_, _, Xp.pairD fo, 2, 1000, rfl, hS7.dp (.dat (.head _)), hS7.dp (.dat (.tail _ (.head _))), hsh, by decide, by decide, ?_⟩
      have hS8 := hS7.tail
      clear hS6 hS7
      walk_at "w"
      refine w_bf rfl ?_
      walk_at "w"
      cases fo with
      | none =>
        obtain rfl := hS8.non_of
        refine w_and ?_
        walk_at "w"
        exact ⟨⟨_, _, _, _, rfl⟩, hS8.tail⟩
      | some r =>
        obtain ⟨qr, rfl⟩ := hS8.tup_of
        obtain ⟨pr, hpr, _, hlk, l, hl, hown, _⟩ := (hbd r rfl).ls
        refine w_and ?_
        walk_at "w"
        refine ⟨_, qm, _, ms, r, pr.2, rfl, hS8, by walk_at "mem", .head _, hlk, fun w3 H7 hS9 => ?_⟩
        rw [hown] at hS9
        clear hS8
        walk_at "w"
        refine ⟨_, qm, _, ms, r, pr.2, rfl, hS9, by walk_at "mem", .tail _ (.head _), hlk, fun w4 H8 hSa => ?_⟩
        rw [hown] at hSa
        clear hS9
        walk_at "w"
        refine ⟨_, _, l.d, 7, 15364, rfl, hSa.dp (.dat (.tail _ (.head _))), hSa.dp (.dat (.head _)), shw_ln (hF.okl pr hpr l hl), by decide, by decide, ?_⟩
        walk_at "w"
        refine w_bf rfl ?_
        walk_at "w"
        exact ⟨⟨_, _, _, _, rfl⟩, hSa.tail.tail.tail⟩
    · rintro σ H4 ⟨⟨v6, v7, v8, v9, rfl⟩, hS5⟩
      clear hS4 hSf
      walk_at "w"
      refine w_anyL1 ?_
      walk_at "w"
      rename_i qf2 Hf hSf
      have hSg : St K [Lg.ls K qf2 (nm10.map smD), Lg.ls K qn ((os.map (fun o => ([o] : Nm)) ++ [[122, 122]]).map smD), tbE (tReach K) qReach, Lg.dks K qm (msD ms), Lg.ls K q9 (modDs os), bx K b] Hf := hSf.to (by walk_at "pick")
      clear hS5 hSf
      refine w_forL (ds := nm10.map smD) (fun j σ H' => (∃ v6 v7 v8 v9, σ = [some (.ref a), some (.ref b), some (.int (0 + i)), some (.ref q9), some (.ref qm), some (.str (S m)), v6, v7, v8, v9]) ∧ St K [Lg.ls K qf2 (nm10.map smD), Lg.ls K qn ((os.map (fun o => ([o] : Nm)) ++ [[122, 122]]).map smD), tbE (tReach K) qReach, Lg.dks K qm (msD ms), Lg.ls K q9 (modDs os), bx K b] H')
        ⟨⟨_, _, _, _, rfl⟩, hSg⟩ (fun j σ H' _ hI => ⟨_, hI.2, .own (.head _)⟩) ?_ ?_
      · rintro j2 d v σ H4 hd ⟨⟨v6, v7, v8, v9, rfl⟩, hS5⟩ more
        obtain ⟨n, hn, rfl⟩ := map_at hd
        obtain rfl := (more _ hS5 (.own (.head _))).str_of
        clear hSg
        walk_at "w"
        refine ⟨_, qm, ms, m, n, rfl, hS5, by walk_at "mem", by omega, fun w2 H6 hS7 => ?_⟩
        walk_at "w"
        refine ⟨_, qm, ms, m, n, rfl, hS7, by walk_at "mem", hF.a, fun w3 H7 hS8 => ?_⟩
        have hsh := shw_pair hF.nm hF.okl (o := availM ms m n) fun r hr => bd_of (avail_own hr)
        walk_at "w"
        refine ⟨_, _, Xp.pairD (availM ms m n), 2, 1000, rfl, hS8.dp (.dat (.tail _ (.head _))), hS8.dp (.dat (.head _)), hsh, by decide, by decide, ?_⟩
        walk_at "w"
        refine w_bf rfl ?_
        walk_at "w"
        exact ⟨⟨_, _, _, _, rfl⟩, hS8.tail.tail⟩
      · rintro σ H5 ⟨⟨v6, v7, v8, v9, rfl⟩, hS5⟩
        walk_at "w"
        exact ⟨⟨_, _, _, _, _, rfl⟩, hS5.tail⟩
  · rintro σ H3 ⟨⟨v5, v6, v7, v8, v9, rfl⟩, hS4⟩
    have hS5 : St K [tbE (tReach K) qReach, Lg.dks K qm (msD ms), Lg.ls K q9 (modDs os), bx K b] H3 := hS4.tail
    clear hSn2 hS4
    walk_at "w"
    refine w_lcR (R := fun _ e => ∃ z ∈ refU, e = smD z) hS5 (by decide) (fun j q es H hj hel hS Z hZ => ?_) fun q es H4 hel hR hS6 => ?_
    · show gName 9 _ [some (.ref a), some (.ref b), some (.int (0 + i)), some (.ref q9), some (.ref qm), v5, v6, v7, v8, none] _ _
      walk_at "w"
      refine ⟨rfl, ?_⟩
      walk_at "w"
      rename_i qy H5 hS7 qx H6 hS8 k4 H7 hk40 hk41 hS9
      refine Or.inl (w_intb ?_)
      walk_at "w"
      have hb1 : (0 : Int) ≤ (if decide (k4 = 0) = true then 1 else 0) ∧ (if decide (k4 = 0) = true then (1 : Int) else 0) ≤ 1 := by split <;> omega
      generalize (if decide (k4 = 0) = true then (1 : Int) else 0) = bi at hb1
      have hlo : ((modDs os).length : Int) = os.length := by rw [List.length_map]
      walk_at "w"
      rename_i k5 Ha hk50 hk51 hSa
      refine w_ixLSP (P := fun z => z ∈ refU) hSa (.own (by walk_at "mem" : Lg.ls K qx (modDs os ++ [PyData.str (S [122, 122])]) ∈ _)) hk50 (by simp; omega) (fun d hd => ?_) fun z hz => ?_
      · rcases List.mem_append.mp hd with hd | hd
        · obtain ⟨o, ho, rfl⟩ := List.mem_map.mp hd
          exact ⟨_, rfl, modL_U o (hos o ho)⟩
        · rcases List.mem_singleton.mp hd with rfl
          exact ⟨_, rfl, by decide⟩
      exact hZ _ (smD z) _ ⟨z, hz, rfl⟩ ((hSa.learn .str).to (.cons .here (by walk_at "pick")))
    obtain ⟨es1, he1, hU1⟩ := nms_of (U := refU) fun e he => by
      obtain ⟨j, hj⟩ := List.mem_iff_getElem?.mp he
      exact hR j e hj
    subst he1
    rw [List.length_map] at hel
    clear hR hS5
    walk_at "w"
    refine w_tupL hS6 (.own (.head _)) fun qe H5 hS7 => ?_
    have hS8 : St K [Lg.dat (.ref qe) (.tuple (es1.map smD)), tbE (tReach K) qReach, Lg.dks K qm (msD ms), Lg.ls K q9 (modDs os), bx K b] H5 := hS7.to (by walk_at "pick")
    clear hS6 hS7
    walk_at "w"
    refine w_cut (fun σ' H' => ∃ (qe : Addr) (es : List Nm) (v6 v9 : Option V), σ' = [some (.ref a), some (.ref b), some (.int (0 + i)), some (.ref q9), some (.ref qm), v5, v6, v7, some (.ref qe), v9] ∧ (∀ z ∈ es, z ∈ refU) ∧ es.length ≤ 10 ∧ St K [Lg.dat (.ref qe) (.tuple (es.map smD)), tbE (tReach K) qReach, Lg.dks K qm (msD ms), Lg.ls K q9 (modDs os), bx K b] H') ?_ ?_
    · walk_at "w"
      rename_i k6 H6 hk60 hk61 hS9
      refine w_ifd (fun h1 => ?_) (fun h1 => ?_)
      rotate_left
      · walk_at "w"
        exact ⟨qe, es1, _, _, rfl, hU1, by omega, hS9⟩
      clear hS8
      walk_at "w"
      refine w_lcP (zs := os) (c := fun o => smD [o]) (fun e => ∃ z ∈ refU, e = smD z) hS9 (.own (by walk_at "mem" : Lg.ls K q9 (modDs os) ∈ _)) (by omega) (fun o v H7 q7 es Z1 Z2 ho hSa h1 h2 => ?_) fun q7 es2 H7 hP hel2 hSa => ?_
      · obtain rfl := hSa.str_of
        show gName 6 _ [some (.ref a), some (.ref b), some (.int (0 + i)), some (.ref q9), some (.ref qm), v5, none, v7, some (.ref qe), v9] _ _
        walk_at "w"
        refine ⟨rfl, ?_⟩
        walk_at "w"
        refine w_ninTS (ys := es1) hSa (.dat (by walk_at "mem")) ?_
        walk_at "w"
        refine w_ite (fun _ => ?_) (fun _ => ?_)
        · walk_at "w"
          exact h1 _ _ _ ⟨[o], modL_U o (hos o ho), rfl⟩ hSa
        · exact h2 _ hSa.tail
      obtain ⟨es3, he3, hU3⟩ := nms_of hP
      subst he3
      clear hS9
      walk_at "w"
      rename_i q8 H8 hSb
      rw [cutD_no (j := 2) (b := 2) rfl, ← List.map_take] at hSb
      refine w_tupL hSb (.own (.head _)) fun qt H9 hSc => ?_
      clear hSa hSb
      refine w_plusT (ds := es1.map smD) (es := (es3.take 2).map smD) hSc (.dat (by walk_at "mem")) (.dat (.head _)) (by simp; omega) fun v2 Ha hSd => ?_
      obtain ⟨qv, rfl⟩ := hSd.tup_of
      walk_at "w"
      refine ⟨qv, es1 ++ es3.take 2, _, _, rfl, fun z hz => ?_, by simp; omega, ?_⟩
      · rcases List.mem_append.mp hz with hz | hz
        · exact hU1 z hz
        · exact hU3 z (List.take_subset _ _ hz)
      · rw [List.map_append]
        exact hSd.to (by walk_at "pick")
    rintro σ' H6 ⟨qe, es, v6, v9, rfl, hU, hel3, hS9⟩
    clear hS8
    walk_at "w"
    have hSa : St K [tbE (tReach K) qReach, Lg.dks K qm (msD ms), Lg.dat (.ref qe) (.tuple (es.map smD)), Lg.ls K q9 (modDs os), bx K b] H6 := hS9.to (by walk_at "pick")
    refine ⟨_, qm, qe, ms, es, refU, rfl, hSa, .head _, hF.clo, hU, by decide, fun w H7 hSb => ?_⟩
    clear hS9 hSa
    walk_at "w"
    refine ⟨_, qm, qe, ms, es, refU, rfl, hSb, by walk_at "mem", by walk_at "mem", hF.clo, hU, by decide, fun w2 H8 hSc => ?_⟩
    have hto := visits_to hF.clo 8 (ms := es) (st := ([], [])) .nil hU
    have hmod := visits_mod (ms := ms) 8 es ([], [])
    have hmu := fun z => visits_mU hF.clo 8 es ([], []) z hU
    generalize visits (lfM ms) 8 ([], []) es = R at hSc hto hmod hmu
    have hlr : R.1.2.length ≤ 100 := by
      have h1 := hto.ol
      have h2 := (hto.ok .nil).len
      simp at h1 h2
      omega
    walk_at "w"
    refine ⟨_, _, reachD R, 3, 3000, rfl, hSc.dp (.dat (.tail _ (.head _))), hSc.dp (.dat (.head _)), shw_reach refU_ok (fun z hz => hto.sub z (hto.ord z hz)) hlr hmu hmod, by decide, by decide, ?_⟩
    walk_at "w"
    refine w_bf rfl ?_
    walk_at "w"
    exact ⟨⟨_, _, _, _, _, _, _, _, rfl⟩, hSc.to (by walk_at "pick")⟩
end




/-! k05: the law -/
section
variable {K : PySem.W.Frag}

/-! ### the rings of the law's trees (shared) -/
section
variable {P : Program} {w : World} {mg : Str → Option Value} {base : Heap}
theorem ring_ltree (g : G K mg) (c : He.SaysD hfa hfn K) (m : mg "_law_tree" = some (.ref (He.ga K "_law_tree"))) (c_l_draw : C8.Cal P w K mg base 1 "_law_draw" (spDraw K) []) (c_l_atom : C8.Cal P w K mg base 2 "_law_atom" (spLAtom K) []) : ∀ d : Nat, C8.Cal P w K mg base (3 + d) "_law_tree" (spLTree d K) []
  | 0 => cal_imp (zz_l_tree g _ (fd_l_tree c) m) fun vs H Q E h => by
    obtain ⟨L, b, p, q, ns, cs, i, dp, _, _, h, _⟩ := h
    omega
  | d + 1 => ok_l_tree g (n := 3 + d) (by omega) (ring_ltree g c m c_l_draw c_l_atom d) c_l_draw c_l_atom (fd_l_tree c) m fun vs H Q E h => p_ltree d vs H Q E h
end
abbrev qnreach : Str := qReach
end

end K05

/-! ### the end (printed by tools/fin2.py) -/
namespace K05
open PySem PySem.Spec PyProof.Rows L2 Lg Tok Xp
theorem facts {P : Program} {w : World} {K : PySem.W.Frag} {h : Heap} {mg : Str → Option Value} {f : Addr} (X : K.In h) (N : h.Ns mainGlobals mg) (hf : mg ("law" : Str) = some (.ref f)) (ct : He.SaysT hfa hfn hts w K) (cx : tabs K = true) :
    ∃ fd : FuncData, (∀ (s : Shared) (v : Value), BindsTo s fd ⟨[v], []⟩ [("_law_script", v)]) ∧ ∀ base : Heap, K.In base → base.Ns mainGlobals mg → LamX.TabB base mg (He.cT K ("reach", none)).1 (He.cT K ("reach", none)).2 → FnG P w K mg base CX0 16 f fd ["_law_script"] (spLaw K) := by
  have c := ct.d
  have g := mk_G X N c cx
  have cf := mk_CF c cx
  obtain ⟨fd, F⟩ := fd_law c
  have e := hf.symm.trans (mg_law X N c)
  cases e
  refine ⟨fd, fun s v => (F.bindsA (ps := ["_law_script"]) fun _ _ _ _ _ _ us hl => match us, hl with | [_], _ => rfl) s [v] rfl, fun base _ _ tb => ?_⟩
  have c_own : C8.Cal P w K mg base 1 "_own" (spOwn K) [] := ok_own g (fd_own c) (mg_own X N c) (fun vs H Q E h => p_own cf vs H Q E h)
  have c_other : C8.Cal P w K mg base 1 "_other" (spOther K) [] := ok_other g (fd_other c) (mg_other X N c) (fun vs H Q E h => p_other vs H Q E h)
  have c_follow : C8.Cal P w K mg base 2 "follow" (spFollow K) [] := ok_follow g c_other c_own (fd_follow c) (mg_follow X N c) (fun vs H Q E h => p_follow vs H Q E h)
  have c_available : C8.Cal P w K mg base 3 "available" (spAvail K) [] := ok_available g c_follow c_other c_own (fd_available c) (mg_available X N c) (fun vs H Q E h => p_available vs H Q E h)
  have c_declaration : C8.Cal P w K mg base 2 "declaration" (spDecl K) [] := ok_declaration g c_own (fd_declaration c) (mg_declaration X N c) (fun vs H Q E h => p_declaration vs H Q E h)
  have c_lam : CalL P w K mg base 1 (spLam ml_reach N_lam 1 (tl_lam K)) := ok_lam g
  have c_Reach_visit : C8.Met P w K mg base 10 (He.ga K "Reach") "visit" (spVisit (spLam ml_reach N_lam 1 (tl_lam K)) 8 K) [] := ring_visit g cf c c_lam 8
  have c_Reach_init : C8.Mak P w K mg base 1 "Reach" (He.ga K "Reach") (spRcInit K) [] := ok_Reach_init g (fd_Reach_init c) (fun vs H Q E h => p_rcinit cf vs H Q E h)
  have c_reach : C8.Cal P w K mg base 11 "reach" (spReach K) [] := ok_reach g tb c_Reach_visit c_Reach_init (fd_reach c) (mg_reach X N c) (fun vs H Q E h => p_reach cf vs H Q E h)
  have c_l_cell : C8.Cal P w K mg base 1 "_law_cell" (Lg.spCell K) [] := ok_l_cell g (fd_l_cell c) (mg_l_cell X N c) (fun vs H Q E h => p_cell vs H Q E h)
  have c_l_digits : C8.Cal P w K mg base 2 "_law_digits" (spDigits K) [] := ok_l_digits g c_l_cell (fd_l_digits c) (mg_l_digits X N c) (fun vs H Q E h => p_digits vs H Q E h)
  have c_l_draw : C8.Cal P w K mg base 1 "_law_draw" (spDraw K) [] := ok_l_draw g (fd_l_draw c) (mg_l_draw X N c) (fun vs H Q E h => p_draw vs H Q E h)
  have c_l_atom : C8.Cal P w K mg base 2 "_law_atom" (spLAtom K) [] := ok_l_atom g c_l_draw (fd_l_atom c) (mg_l_atom X N c) (fun vs H Q E h => p_latom vs H Q E h)
  have c_l_tree : C8.Cal P w K mg base 13 "_law_tree" (spLTree 10 K) [] := ring_ltree g c (mg_l_tree X N c) c_l_draw c_l_atom 10
  have c_l_own : C8.Cal P w K mg base 1 "_law_own" (spLOwn K) [] := ok_l_own g (fd_l_own c) (mg_l_own X N c) (fun vs H Q E h => p_l_own vs H Q E h)
  have c_l_imports : C8.Cal P w K mg base 2 "_law_imports" (spLImports K) [] := ok_l_imports g c_l_draw c_l_own (fd_l_imports c) (mg_l_imports X N c) (fun vs H Q E h => p_l_imports vs H Q E h)
  have c_l_usable : C8.Cal P w K mg base 2 "_law_usable" (spLUsable K) [] := ok_l_usable g c_l_own (fd_l_usable c) (mg_l_usable X N c) (fun vs H Q E h => p_l_usable vs H Q E h)
  have c_l_calls : C8.Cal P w K mg base 1 "_law_calls" (spLCalls K) [] := ok_l_calls g (fd_l_calls c) (mg_l_calls X N c) (fun vs H Q E h => p_l_calls vs H Q E h)
  have c_l_module : C8.Cal P w K mg base 14 "_law_module" (spLModule K) [] := ok_l_module g c_l_draw c_l_tree c_l_calls c_l_usable c_l_imports (fd_l_module c) (mg_l_module X N c) (fun vs H Q E h => p_l_module vs H Q E h)
  have c_l_modules : C8.Cal P w K mg base 15 "_law_modules" (spLModules K) [] := ok_l_modules g c_l_module (fd_l_modules c) (mg_l_modules X N c) (fun vs H Q E h => p_l_modules vs H Q E h)
  have c_l_exports : C8.Cal P w K mg base 1 "_law_exports" (spLExports K) [] := ok_l_exports g (fd_l_exports c) (mg_l_exports X N c) (fun vs H Q E h => p_l_exports vs H Q E h)
  have c_l_follow : C8.Cal P w K mg base 2 "_law_follow" (spLFollow K) [] := ok_l_follow g c_l_exports (fd_l_follow c) (mg_l_follow X N c) (fun vs H Q E h => p_l_follow vs H Q E h)
  have c_l_leads : C8.Cal P w K mg base 3 "_law_leads" (spLLeads K) [] := ok_l_leads g c_l_follow (fd_l_leads c) (mg_l_leads X N c) (fun vs H Q E h => p_l_leads vs H Q E h)
  have c_l_declared : C8.Cal P w K mg base 1 "_law_declared" (spLDeclared K) [] := ok_l_declared g (fd_l_declared c) (mg_l_declared X N c) (fun vs H Q E h => p_l_declared vs H Q E h)
  have c_l_visit : C8.Cal P w K mg base 9 "_law_visit" (spLVisit 8 K) [] := ring_lvisit g c (mg_l_visit X N c) 8
  have c_l_order : C8.Cal P w K mg base 10 "_law_order" (spLOrder K) [] := ok_l_order g c_l_visit (fd_l_order c) (mg_l_order X N c) (fun vs H Q E h => p_l_order vs H Q E h)
  have c_l_alike : CalG P w K mg base 1 "_law_alike" (spAlike K) [] := ok_l_alike g (fd_l_alike c) (mg_l_alike X N c) (fun vs H Q E h => p_alike vs H Q E h)
  have c_l_with_exports : C8.Cal P w K mg base 2 "_law_with_exports" (spWithExp K) [] := ok_l_with_exports g c_l_draw (fd_l_with_exports c) (mg_l_with_exports X N c) (fun vs H Q E h => p_l_with_exports vs H Q E h)
  exact okG F sc_law (fun vs H Q E h => (p_law vs H Q E h).1) (fun cdv A outer s H vs Q E hr hgd h => ⟨_, PSs.nox (d_law g c_l_alike c_l_order c_reach c_l_draw c_l_leads c_available c_l_declared c_declaration c_follow c_l_follow c_l_with_exports c_l_modules c_l_digits hr hgd), (p_law vs H Q E h).2⟩)
end K05
open PySem PySem.W PySem.Calls PyProof.Rows
theorem PySem.Challenge.cw_sameasnew_k05_names_followed_holds : PySem.Challenge.rw_sameasnew_k05_names_followed.Holds := by
  refine PySem.Challenge.early_sameasnew_k05_names_followed ?_
  refine Lg.walk_ofTG (l := PySem.Challenge.rw_sameasnew_k05_names_followed) (n := 63) (k := 16) (x := "_law_script") (CX := L2.CX0) (qn := K05.qnreach) rfl (by decide) (by kernel_rfl) ⟨rfl, by decide, by decide⟩ ?F (fun _ _ _ _ z => z)
  intro w mg fa h Y G hmg0
  obtain ⟨K, KX, y⟩ := Y
  have hmg : mg ("law" : PySem.Str) = some (.ref fa) := by
    rw [← PySem.Challenge.defname_sameasnew_k05_names_followed]
    exact hmg0
  obtain ⟨fd, hb, hF⟩ := K05.facts (P := (PySem.Challenge.rw_sameasnew_k05_names_followed).prog) (w := w) KX G hmg y.t y.more
  exact ⟨K, fd, K05.spLaw K, (He.cT K ("reach", none)).1, (He.cT K ("reach", none)).2, KX, y.empty, y.out, y.hd, hb, fun H a ns hl hS => ⟨a, ns, rfl, hS, K05.mk_CF y.t.d y.more, fun _ => rfl⟩, hF⟩

