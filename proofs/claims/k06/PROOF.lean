import PyProof.Rows.All
import Wide.All
import OpenK.AllK
import Wide.FinOn
import HandS.ForMost
import HandS.ExcCtx
import HandS.HotCalls
import HandS.Deep
import HandS.Wide
import KE.SortData
import HandS.IsInst
import HandS.SortKw
import HandS.Lambda
import HandS.ExcIs
import KE.KExcMake
import HandS.Remove
import HandS.Small
import HandS.Iter
import HandS.SetFor
import HandS.TupSets
import KE.DatumOrd
import KE.SortKeyHeap
import KE.KSortKey
import HandS.Conv
import KE.KLam
import HandS.ExcValue
import HandS.Nested
import KE.DataMinMax
import HandS.Style
import HandS.EndBits
import HandS.Words
import HandS.EndOwn
import PySem.Challenge.RW_tiecount_k06_whole_ways
set_option Elab.async false
set_option linter.all false
set_option maxRecDepth 100000
set_option maxHeartbeats 4000000
/-! PLa: a layer of plain data over HandS: results, plain environments, expressions. -/
namespace TW
open PySem PySem.Spec PyProof.Rows L2
abbrev PD := PyData
abbrev KF := PySem.W.Frag
/-! ### growing heaps: tables of code objects may grow, all else stays -/
structure SameK (H H' : Hp) : Prop where
  k : ∀ b o, H b = some o → (∀ ps, o ≠ .tbl ps) → H' b = some o
  t : ∀ b ps, H b = some (.tbl ps) → ∃ ps', H' b = some (.tbl ps')
/-- the one lambda's name -/
def qLam : Str := "built.<locals>.<lambda>"
def qLaw : Str := "law.<locals>.<lambda>"
/-- whose lambdas the table at P holds -/
def lawTab : Nat := 189
def tabTag (P : Addr) : Str := if P = lawTab then qLaw else qLam
structure SameH (H H' : Hp) : Prop extends SameK H H' where
  m : ∀ P, LamX.TabS H P (tabTag P) → LamX.TabS H' P (tabTag P)
theorem SameK.app {H H' : Hp} (s : SameK H H') {b : Addr} {o : HO} (e : H b = some o) (n : ∀ ps, o ≠ .tbl ps := by nofun) : H' b = some o := s.k b o e n
theorem SameH.app {H H' : Hp} (s : SameH H H') {b : Addr} {o : HO} (e : H b = some o) (n : ∀ ps, o ≠ .tbl ps := by nofun) : H' b = some o := s.k b o e n
theorem SameK.of {H H' : Hp} (s : Same H H') : SameK H H' := ⟨fun b o e _ => s b o e, fun b ps e => ⟨ps, s b _ e⟩⟩
theorem SameH.of {H H' : Hp} (s : Same H H') : SameH H H' := ⟨SameK.of s, fun _ t => t.ext s⟩
instance {H H' : Hp} : Coe (Same H H') (SameK H H') := ⟨SameK.of⟩
instance {H H' : Hp} : Coe (SameH H H') (SameK H H') := ⟨SameH.toSameK⟩
theorem SameK.refl (H : Hp) : SameK H H := .of (Same.refl H)
theorem SameH.refl (H : Hp) : SameH H H := .of (Same.refl H)
theorem SameK.trans {H H1 H2 : Hp} (a : SameK H H1) (b : SameK H1 H2) : SameK H H2 := ⟨fun c o h n => b.k c o (a.k c o h n) n, fun c ps h => by obtain ⟨ps', h1⟩ := a.t c ps h; exact b.t c ps' h1⟩
theorem SameH.trans {H H1 H2 : Hp} (a : SameH H H1) (b : SameH H1 H2) : SameH H H2 := ⟨a.toSameK.trans b.toSameK, fun P t => b.m P (a.m P t)⟩
theorem SameK.free {H H' : Hp} (s : SameK H H') {l : Addr} (h : H' l = none) : H l = none := by
  cases e : H l with
  | none => rfl
  | some o =>
    by_cases hq : ∃ ps, o = .tbl ps
    · obtain ⟨ps, rfl⟩ := hq
      obtain ⟨ps', h1⟩ := s.t l ps e
      rw [h] at h1; cases h1
    · have := s.k l o e fun ps z => hq ⟨ps, z⟩
      rw [h] at this; cases this
theorem SameH.free {H H' : Hp} (s : SameH H H') {l : Addr} (h : H' l = none) : H l = none := s.toSameK.free h
/-! ### data in a growing heap -/
mutual
/-- the value is that datum (an empty dict too) -/
inductive Dq (K : KF) (H : Hp) : V → PD → Prop
  | non : Dq K H .non .none
  | bl (b : Bool) : Dq K H (.bl b) (.bool b)
  | int (i : Int) : Dq K H (.int i) (.int i)
  | str (x : Str) : Dq K H (.str x) (.str x)
  | lst {a : Addr} {xs : List V} {ds : List PD} : H a = some (.lst xs) → DqAll K H xs ds → Dq K H (.ref a) (.list ds)
  | tup {a : Addr} {xs : List V} {ds : List PD} : H a = some (.tup xs) → DqAll K H xs ds → Dq K H (.ref a) (.tuple ds)
  | dct {a : Addr} : H a = some (.dK []) → Dq K H (.ref a) (.dict [])
  /-- the script -/
  | scr {a : Addr} {ns : List Int} : SqL K H a (ns.map V.int) → Dq K H (.ref a) (.dict [(.none, .list (ns.map .int))])
  /-- anything, unread -/
  | opq {a : Addr} : Dq K H (.ref a) (.dict [(.none, .none)])
  /-- just that reference -/
  | adr {a : Addr} : Dq K H (.ref a) (.dict [(.none, .int a)])
inductive DqAll (K : KF) (H : Hp) : List V → List PD → Prop
  | nil : DqAll K H [] []
  | cons {v : V} {vs : List V} {d : PD} {ds : List PD} : Dq K H v d → DqAll K H vs ds → DqAll K H (v :: vs) (d :: ds)
end
section
variable {K : KF} {H H' : Hp}
theorem rd_mono (k : SameK H H') {a : Addr} {u : HO} (n : ∀ ps, u ≠ .tbl ps) (h : Rd H a u) : Rd H' a u := by
  rcases h with h | ⟨o, h⟩
  · exact .inl (k.app h n)
  · exact .inr ⟨o, k.app h⟩
theorem sqL_mono (k : SameK H H') {a : Addr} {xs : List V} (h : SqL K H a xs) : SqL K H' a xs := h.elim (fun z => .inl (rd_mono k (by nofun) z)) .inr
theorem sqT_mono (k : SameK H H') {a : Addr} {xs : List V} (h : SqT K H a xs) : SqT K H' a xs := h.elim (fun z => .inl (rd_mono k (by nofun) z)) .inr
mutual
theorem dp_mono (k : SameK H H') : ∀ (d : PD) (v : V), Dq K H v d → Dq K H' v d
  | .none, _, h => by cases h; exact .non
  | .bool b, _, h => by cases h; exact .bl b
  | .int i, _, h => by cases h; exact .int i
  | .str x, _, h => by cases h; exact .str x
  | .list ds, _, h => by
    cases h with
    | lst a b => exact .lst (k.app a) (dpAll_mono k ds _ b)
  | .tuple ds, _, h => by
    cases h with
    | tup a b => exact .tup (k.app a) (dpAll_mono k ds _ b)
  | .dict _, _, h => by
    cases h with
    | dct a => exact .dct (k.app a)
    | scr a => exact .scr (sqL_mono k a)
    | adr => exact .adr
    | opq => exact .opq
theorem dpAll_mono (k : SameK H H') : ∀ (ds : List PD) (vs : List V), DqAll K H vs ds → DqAll K H' vs ds
  | [], _, h => by cases h; exact .nil
  | d :: ds, _, h => by
    cases h with
    | cons a b => exact .cons (dp_mono k d _ a) (dpAll_mono k ds _ b)
end
mutual
theorem dq_dp : ∀ (d : PD) (v : V), d.canLay0 = true → Dq K H v d → L2.Dp K H v d
  | .none, _, _, h => by cases h; exact .non
  | .bool b, _, _, h => by cases h; exact .bl b
  | .int i, _, _, h => by cases h; exact .int i
  | .str x, _, _, h => by cases h; exact .str x
  | .list ds, _, c, h => by
    cases h with
    | lst a b => exact .lst (SqL.of a) (dqAll_dp ds _ (by simpa [PyData.canLay0] using c) b)
  | .tuple ds, _, c, h => by
    cases h with
    | tup a b => exact .tup (SqT.of a) (dqAll_dp ds _ (by simpa [PyData.canLay0] using c) b)
  | .dict _, _, c, h => by simp [PyData.canLay0] at c
theorem dqAll_dp : ∀ (ds : List PD) (vs : List V), PyData.canLayAll0 ds = true → DqAll K H vs ds → L2.DpAll K H vs ds
  | [], _, _, h => by cases h; exact .nil
  | d :: ds, _, c, h => by
    have c' : d.canLay0 = true ∧ PyData.canLayAll0 ds = true := by simpa [PyData.canLayAll0] using c
    cases h with
    | cons a b => exact .cons (dq_dp d _ c'.1 a) (dqAll_dp ds _ c'.2 b)
end
theorem dpAll_len : ∀ {vs : List V} {ds : List PD}, DqAll K H vs ds → vs.length = ds.length
  | _, [], h => by cases h; rfl
  | _, _ :: _, h => by
    cases h with
    | cons a b => simp [dpAll_len b]
theorem dpAll_get : ∀ {vs : List V} {ds : List PD} {i : Nat} {d : PD}, DqAll K H vs ds → ds[i]? = some d → ∃ v, vs[i]? = some v ∧ Dq K H v d
  | _, [], _, _, _, e => by simp at e
  | _, _ :: _, 0, _, h, e => by
    cases h with
    | cons a b => simp at e; subst e; exact ⟨_, rfl, a⟩
  | _, _ :: _, i + 1, _, h, e => by
    cases h with
    | cons a b =>
      obtain ⟨v, h1, h2⟩ := dpAll_get b (i := i) (by simpa using e)
      exact ⟨v, by simpa using h1, h2⟩
theorem dpAll_getV : ∀ {vs : List V} {ds : List PD} {i : Nat} {v : V}, DqAll K H vs ds → vs[i]? = some v → ∃ d, ds[i]? = some d ∧ Dq K H v d := fun {vs ds i v} h e => by
  obtain ⟨hi, _⟩ := List.getElem?_eq_some_iff.mp e
  have hd : i < ds.length := by rw [← dpAll_len h]; exact hi
  obtain ⟨w, h1, h2⟩ := dpAll_get h (List.getElem?_eq_getElem hd)
  rw [e] at h1; cases h1
  exact ⟨_, List.getElem?_eq_getElem hd, h2⟩
theorem dpAll_app : ∀ {vs ws : List V} {ds es : List PD}, DqAll K H vs ds → DqAll K H ws es → DqAll K H (vs ++ ws) (ds ++ es)
  | _, _, [], _, h, g => by cases h; exact g
  | _, _, _ :: _, _, h, g => by
    cases h with
    | cons a b => exact .cons a (dpAll_app b g)
theorem dpAll_one {v : V} {d : PD} (h : Dq K H v d) : DqAll K H [v] [d] := .cons h .nil
theorem dpAll_take : ∀ {vs : List V} {ds : List PD} (n : Nat), DqAll K H vs ds → DqAll K H (vs.take n) (ds.take n)
  | _, _, 0, _ => by simpa using DqAll.nil
  | _, [], n + 1, h => by cases h; exact .nil
  | _, _ :: _, n + 1, h => by
    cases h with
    | cons a b => exact .cons a (dpAll_take n b)
theorem dpAll_drop : ∀ {vs : List V} {ds : List PD} (n : Nat), DqAll K H vs ds → DqAll K H (vs.drop n) (ds.drop n)
  | _, _, 0, h => h
  | _, [], n + 1, h => by cases h; exact .nil
  | _, _ :: _, n + 1, h => by
    cases h with
    | cons a b => exact dpAll_drop n b
theorem dpAll_set : ∀ {vs : List V} {ds : List PD} (i : Nat) {v : V} {d : PD}, DqAll K H vs ds → Dq K H v d → DqAll K H (vs.set i v) (ds.set i d)
  | _, [], _, _, _, h, _ => by cases h; exact .nil
  | _, _ :: _, 0, _, _, h, g => by
    cases h with
    | cons a b => exact .cons g b
  | _, _ :: _, i + 1, _, _, h, g => by
    cases h with
    | cons a b => exact .cons a (dpAll_set i b g)
theorem dpAll_split : ∀ {ds es : List PD} {vs : List V}, DqAll K H vs (ds ++ es) → ∃ us ws, vs = us ++ ws ∧ DqAll K H us ds ∧ DqAll K H ws es
  | [], _, vs, h => ⟨[], vs, rfl, .nil, h⟩
  | d :: ds, es, _, h => by
    cases h with
    | cons a b =>
      obtain ⟨us, ws, rfl, h1, h2⟩ := dpAll_split b
      exact ⟨_ :: us, ws, rfl, .cons a h1, h2⟩
theorem dpAll_ints : ∀ {ns : List Int} {vs : List V}, DqAll K H vs (ns.map .int) → vs = ns.map V.int
  | [], _, h => by cases h; rfl
  | n :: ns, _, h => by
    cases h with
    | cons a b => cases a; rw [dpAll_ints b]; rfl
theorem dpAll_of_ints : ∀ {ns : List Int}, DqAll K H (ns.map V.int) (ns.map .int)
  | [] => .nil
  | n :: ns => .cons (.int n) dpAll_of_ints
theorem dpAll_bools : ∀ {ns : List Bool} {vs : List V}, DqAll K H vs (ns.map .bool) → vs = ns.map V.bl
  | [], _, h => by cases h; rfl
  | n :: ns, _, h => by
    cases h with
    | cons a b => cases a; rw [dpAll_bools b]; rfl
theorem dp_int {v : V} {i : Int} (h : Dq K H v (.int i)) : v = .int i := by cases h; rfl
theorem dp_bool {v : V} {i : Bool} (h : Dq K H v (.bool i)) : v = .bl i := by cases h; rfl
theorem dp_str {v : V} {i : Str} (h : Dq K H v (.str i)) : v = .str i := by cases h; rfl
theorem dp_none {v : V} (h : Dq K H v .none) : v = .non := by cases h; rfl
theorem dp_list {v : V} {ds : List PD} (h : Dq K H v (.list ds)) : ∃ a xs, v = .ref a ∧ H a = some (.lst xs) ∧ DqAll K H xs ds := by
  cases h with
  | lst a b => exact ⟨_, _, rfl, a, b⟩
theorem dp_tuple {v : V} {ds : List PD} (h : Dq K H v (.tuple ds)) : ∃ a xs, v = .ref a ∧ H a = some (.tup xs) ∧ DqAll K H xs ds := by
  cases h with
  | tup a b => exact ⟨_, _, rfl, a, b⟩
end
theorem same_newS {H : Hp} {a : Addr} {o : HO} (h : H a = none) : Same H (upd H a o) := fun b u e => by
  rw [upd_ne (ne_of_none e h)]
  exact e
theorem same_new {H : Hp} {a : Addr} {o : HO} (h : H a = none) : SameK H (upd H a o) := SameK.of (same_newS h)
theorem same_put {G H : Hp} {a : Addr} {o : HO} (k : SameK G H) (h : H a = some o) (n : ∀ ps, o ≠ .tbl ps := by nofun) : SameK (upd G a o) H := ⟨fun p u q m => by
  by_cases hp : p = a
  · subst hp; rw [upd_same] at q; cases q; exact h
  · rw [upd_ne hp] at q; exact k.k p u q m, fun p ps q => by
  by_cases hp : p = a
  · subst hp; rw [upd_same] at q; cases q; exact absurd rfl (n ps)
  · rw [upd_ne hp] at q; exact k.t p ps q⟩
/-- an object of one's own changes: no table, no code object -/
theorem same_mut {G H : Hp} {a : Addr} {o : HO} (k : SameK G H) (h : G a = none) : SameK G (upd H a o) := ⟨fun b u e n => by
  rw [upd_ne (ne_of_none e h)]
  exact k.k b u e n, fun b ps e => by
  rw [upd_ne (ne_of_none e h)]
  exact k.t b ps e⟩
theorem same_mutH {B H : Hp} {a : Addr} {o : HO} (k : SameH B H) (h : B a = none) (ht : ∀ ps, H a ≠ some (.tbl ps)) (hc : ∀ q, H a ≠ some (LamX.CodeO a q)) : SameH B (upd H a o) := ⟨same_mut k h, fun P t => by
  obtain ⟨ps, t1, t2, t3⟩ := k.m P t
  refine ⟨ps, ?_, t2, fun pos cv e => ?_⟩
  · rw [upd_ne (fun z => ht ps (by rw [← z]; exact t1))]; exact t1
  · obtain ⟨c, e1, e2⟩ := t3 pos cv e
    refine ⟨c, e1, ?_⟩
    rw [upd_ne (fun z => hc (tabTag P) (by rw [← z]; exact e2))]; exact e2⟩
theorem codeO_not {c : Addr} {q : Str} {vs : List V} : (HO.lst vs) ≠ LamX.CodeO c q := fun z => by
  unfold LamX.CodeO at z
  cases z
theorem same_mutL {B H : Hp} {a : Addr} {o : HO} {vs : List V} (k : SameH B H) (h : B a = none) (hl : H a = some (.lst vs)) : SameH B (upd H a o) :=
  same_mutH k h (fun ps z => by rw [hl] at z; cases z) fun q z => by rw [hl] at z; exact codeO_not (Option.some.inj z)
theorem same_upd2 {G H : Hp} {a : Addr} {o : HO} (k : SameK G H) : SameK (upd G a o) (upd H a o) := ⟨fun b u e n => by
  by_cases hb : b = a
  · subst hb
    rw [upd_same] at e ⊢
    exact e
  · rw [upd_ne hb] at e ⊢
    exact k.k b u e n, fun b ps e => by
  by_cases hb : b = a
  · subst hb
    rw [upd_same] at e ⊢
    exact ⟨ps, e⟩
  · rw [upd_ne hb] at e ⊢
    exact k.t b ps e⟩
/-- no table, no code object -/
def NTC (o : HO) : Prop := (∀ ps, o ≠ .tbl ps) ∧ ∀ c q, o ≠ LamX.CodeO c q
theorem ntc_lst {vs : List V} : NTC (.lst vs) := ⟨by nofun, fun _ _ => codeO_not⟩
theorem ntc_dT {kvs : List (List Key × V)} : NTC (.dT kvs) := ⟨by nofun, fun c q z => by unfold LamX.CodeO at z; cases z⟩
theorem same_mutN {B H : Hp} {a : Addr} {o u : HO} (k : SameH B H) (h : B a = none) (hl : H a = some u) (n : NTC u) : SameH B (upd H a o) :=
  same_mutH k h (fun ps z => by rw [hl] at z; exact n.1 ps (Option.some.inj z)) fun q z => by rw [hl] at z; exact n.2 a q (Option.some.inj z)
/-! ### the frozen part G of a heap H; how both grow -/
structure Ext (G H G' H' : Hp) : Prop where
  g : SameK G G'
  h : SameH H H'
  s : SameK G' H'
  n : ∀ p, G p = none → H p ≠ none → G' p = none
theorem Ext.refl {G H : Hp} (s : SameK G H) : Ext G H G H := ⟨SameK.refl _, SameH.refl _, s, fun _ e _ => e⟩
theorem Ext.trans {G H G1 H1 G2 H2 : Hp} (a : Ext G H G1 H1) (b : Ext G1 H1 G2 H2) : Ext G H G2 H2 := by
  refine ⟨a.g.trans b.g, a.h.trans b.h, b.s, fun p e n => b.n p (a.n p e n) ?_⟩
  intro z
  exact n (a.h.free z)
theorem Ext.new {G H : Hp} {p : Addr} {o : HO} (s : SameK G H) (h : H p = none) : Ext G H (upd G p o) (upd H p o) := by
  have hg : G p = none := s.free h
  refine ⟨same_new hg, .of (same_newS h), same_upd2 s, fun q e n => ?_⟩
  have hq : q ≠ p := fun z => by subst z; exact n h
  rw [upd_ne hq]
  exact e
/-- the new object stays out of the frozen part -/
theorem Ext.own {G H : Hp} {p : Addr} {o : HO} (s : SameK G H) (h : H p = none) : Ext G H G (upd H p o) :=
  ⟨SameK.refl _, .of (same_newS h), same_mut s (s.free h), fun _ e _ => e⟩
/-- an object of one's own is frozen as it stands -/
theorem Ext.only {G H H' : Hp} (k : SameH H H') (s : SameK G H) : Ext G H G H' := ⟨SameK.refl _, k, s.trans k.toSameK, fun _ e _ => e⟩

/-! ### results -/
inductive RV where
  | sh (d : PD) | own (ds : List PD) | bor (ds : List PD) | deep (d : PD)
  | box (tup : Bool) (pre : List PD) (ds : List PD) (post : List PD)
  | nst (ds : List PD) | obj (φ : HO → Prop)
def opqD : PD := .dict [(.none, .none)]
def RV.data : RV → PD
  | .sh d => d
  | .own ds => .list ds
  | .bor ds => .list ds
  | .deep d => d
  | .box true pre ds post => .tuple (pre ++ .list ds :: post)
  | .box false pre ds post => .list (pre ++ .list ds :: post)
  | .nst ds => .list ds
  | .obj _ => opqD
def RV.owns : RV → Bool
  | .own _ => true
  | .box _ _ _ _ => true
  | .nst _ => true
  | .obj _ => true
  | _ => false
def boxO : Bool → List V → HO
  | true, xs => .tup xs
  | false, xs => .lst xs
theorem boxO_nt {tp : Bool} {xs : List V} : ∀ ps, boxO tp xs ≠ .tbl ps := fun ps z => by cases tp <;> cases z
def OwnL (K : KF) (B G H : Hp) (a : Addr) (ds : List PD) : Prop := B a = none ∧ G a = none ∧ ∃ vs, H a = some (.lst vs) ∧ DqAll K G vs ds
/-- a list of one's own whose items are new, too -/
def OwnN (K : KF) (B G H : Hp) (a : Addr) (ds : List PD) : Prop := B a = none ∧ G a = none ∧ ∃ vs, H a = some (.lst vs) ∧ DqAll K G vs ds ∧ ∀ p, V.ref p ∈ vs → B p = none
/-- any object of one's own -/
def OwnO (B G H : Hp) (a : Addr) (φ : HO → Prop) : Prop := B a = none ∧ G a = none ∧ ∃ o, H a = some o ∧ NTC o ∧ φ o
def RvOk (K : KF) (B G H : Hp) : RV → V → Prop
  | .sh d, v => Dq K G v d
  | .own ds, v => ∃ a, v = .ref a ∧ OwnL K B G H a ds
  | .bor ds, v => ∃ a vs, v = .ref a ∧ H a = some (.lst vs) ∧ DqAll K G vs ds
  | .deep d, v => Dq K H v d
  | .box tup pre ds post, v => ∃ t a us ws, v = .ref t ∧ G t = some (boxO tup (us ++ .ref a :: ws)) ∧ DqAll K G us pre ∧ DqAll K G ws post ∧ OwnL K B G H a ds
  | .nst ds, v => ∃ a, v = .ref a ∧ OwnN K B G H a ds
  | .obj φ, v => ∃ a, v = .ref a ∧ OwnO B G H a φ
section
variable {K : KF} {B B' G H G' H' : Hp} {r : RV} {v : V}
theorem OwnL.ext {a : Addr} {ds : List PD} (h : OwnL K B G H a ds) (x : Ext G H G' H') : OwnL K B G' H' a ds := by
  obtain ⟨h1, h2, vs, h3, h4⟩ := h
  exact ⟨h1, x.n a h2 (by rw [h3]; exact fun z => by cases z), vs, x.h.app h3, dpAll_mono x.g _ _ h4⟩
theorem OwnN.ext {a : Addr} {ds : List PD} (h : OwnN K B G H a ds) (x : Ext G H G' H') : OwnN K B G' H' a ds := by
  obtain ⟨h1, h2, vs, h3, h4, h5⟩ := h
  exact ⟨h1, x.n a h2 (by rw [h3]; exact fun z => by cases z), vs, x.h.app h3, dpAll_mono x.g _ _ h4, h5⟩
theorem OwnO.ext {a : Addr} {φ : HO → Prop} (h : OwnO B G H a φ) (x : Ext G H G' H') : OwnO B G' H' a φ := by
  obtain ⟨h1, h2, o, h3, h4, h5⟩ := h
  exact ⟨h1, x.n a h2 (by rw [h3]; exact fun z => by cases z), o, x.h.app h3 h4.1, h4, h5⟩
theorem OwnN.base {a : Addr} {ds : List PD} (h : OwnN K B G H a ds) (k : SameK B' B) : OwnN K B' G H a ds := by
  obtain ⟨h1, h2, vs, h3, h4, h5⟩ := h
  exact ⟨k.free h1, h2, vs, h3, h4, fun p hp => k.free (h5 p hp)⟩
theorem OwnO.base {a : Addr} {φ : HO → Prop} (h : OwnO B G H a φ) (k : SameK B' B) : OwnO B' G H a φ := ⟨k.free h.1, h.2⟩
theorem OwnL.base {a : Addr} {ds : List PD} (h : OwnL K B G H a ds) (k : SameK B' B) : OwnL K B' G H a ds := ⟨k.free h.1, h.2⟩
theorem RvOk.ext (h : RvOk K B G H r v) (x : Ext G H G' H') : RvOk K B G' H' r v := by
  cases r with
  | sh d => exact dp_mono x.g _ _ h
  | own ds => obtain ⟨a, e, o⟩ := h; exact ⟨a, e, o.ext x⟩
  | bor ds => obtain ⟨a, vs, e, h1, h2⟩ := h; exact ⟨a, vs, e, x.h.app h1, dpAll_mono x.g _ _ h2⟩
  | deep d => exact dp_mono x.h _ _ h
  | box t p ds q =>
    obtain ⟨t, a, us, ws, e, h1, h2, h3, o⟩ := h
    exact ⟨t, a, us, ws, e, x.g.app h1 boxO_nt, dpAll_mono x.g _ _ h2, dpAll_mono x.g _ _ h3, o.ext x⟩
  | nst ds => obtain ⟨a, e, o⟩ := h; exact ⟨a, e, o.ext x⟩
  | obj φ => obtain ⟨a, e, o⟩ := h; exact ⟨a, e, o.ext x⟩
theorem RvOk.base (h : RvOk K B G H r v) (k : SameK B' B) : RvOk K B' G H r v := by
  cases r with
  | sh d => exact h
  | own ds => obtain ⟨a, e, o⟩ := h; exact ⟨a, e, o.base k⟩
  | bor ds => exact h
  | deep d => exact h
  | box t p ds q =>
    obtain ⟨t, a, us, ws, e, h1, h2, h3, o⟩ := h
    exact ⟨t, a, us, ws, e, h1, h2, h3, o.base k⟩
  | nst ds => obtain ⟨a, e, o⟩ := h; exact ⟨a, e, o.base k⟩
  | obj φ => obtain ⟨a, e, o⟩ := h; exact ⟨a, e, o.base k⟩
/-- every result may be read, whole -/
theorem RvOk.dp (h : RvOk K B G H r v) (s : SameK G H) : Dq K H v r.data := by
  cases r with
  | sh d => exact dp_mono s _ _ h
  | own ds => obtain ⟨a, rfl, _, _, vs, h1, h2⟩ := h; exact .lst h1 (dpAll_mono s _ _ h2)
  | bor ds => obtain ⟨a, vs, rfl, h1, h2⟩ := h; exact .lst h1 (dpAll_mono s _ _ h2)
  | deep d => exact h
  | box tp p ds q =>
    obtain ⟨t, a, us, ws, rfl, h1, h2, h3, _, _, vs, h4, h5⟩ := h
    have hd : DqAll K H (us ++ .ref a :: ws) (p ++ .list ds :: q) := dpAll_app (dpAll_mono s _ _ h2) (.cons (.lst h4 (dpAll_mono s _ _ h5)) (dpAll_mono s _ _ h3))
    cases tp with
    | true => exact .tup (s.app h1) hd
    | false => exact .lst (s.app h1) hd
  | nst ds => obtain ⟨a, rfl, _, _, vs, h1, h2, _⟩ := h; exact .lst h1 (dpAll_mono s _ _ h2)
  | obj φ => obtain ⟨a, rfl, _⟩ := h; exact .opq
/-- a list whose items are frozen -/
def RV.items : RV → Option (List PD)
  | .sh (.list ds) => some ds
  | .own ds => some ds
  | .bor ds => some ds
  | .nst ds => some ds
  | _ => none
theorem RvOk.items {ds : List PD} (h : RvOk K B G H r v) (e : r.items = some ds) (s : SameK G H) : ∃ a vs, v = .ref a ∧ H a = some (.lst vs) ∧ DqAll K G vs ds := by
  cases r with
  | sh d =>
    cases d <;> first
      | (cases e; obtain ⟨a, vs, rfl, h1, h2⟩ := dp_list h; exact ⟨a, vs, rfl, s.app h1, h2⟩)
      | cases e
  | own ds => cases e; obtain ⟨a, rfl, _, _, vs, h1, h2⟩ := h; exact ⟨a, vs, rfl, h1, h2⟩
  | bor ds => cases e; obtain ⟨a, vs, rfl, h1, h2⟩ := h; exact ⟨a, vs, rfl, h1, h2⟩
  | deep d => cases e
  | box t p ds q => cases e
  | nst ds => cases e; obtain ⟨a, rfl, _, _, vs, h1, h2, _⟩ := h; exact ⟨a, vs, rfl, h1, h2⟩
  | obj φ => cases e
theorem RvOk.bor {B : Hp} {ds : List PD} (h : RvOk K B G H (.own ds) v) : RvOk K B G H (.bor ds) v := by
  obtain ⟨a, e, _, _, vs, h1, h2⟩ := h
  exact ⟨a, vs, e, h1, h2⟩
end
/-- as a name tells it again -/
def RV.seen : RV → RV
  | .sh d => .sh d
  | .own ds => .bor ds
  | .bor ds => .bor ds
  | .deep d => .deep d
  | .box t p ds q => .deep (RV.box t p ds q).data
  | .nst ds => .bor ds
  | .obj _ => .deep opqD

/-! ### plain environments -/
abbrev PEnv := List (Option RV)
structure Bs where
  G : Hp
  H : Hp
def SlotOk (K : KF) (B G H : Hp) : RV → Option V → Addr → Prop
  | .sh d, o, _ => ∃ v, o = some v ∧ Dq K G v d
  | .own ds, o, a => o = some (.ref a) ∧ OwnL K B G H a ds
  | .box tup pre ds post, o, a => ∃ t us ws, o = some (.ref t) ∧ G t = some (boxO tup (us ++ .ref a :: ws)) ∧ DqAll K G us pre ∧ DqAll K G ws post ∧ OwnL K B G H a ds
  | .nst ds, o, a => o = some (.ref a) ∧ OwnN K B G H a ds
  | .obj φ, o, a => o = some (.ref a) ∧ OwnO B G H a φ
  | .bor _, _, _ => False
  | .deep _, _, _ => False
structure EnvOk (K : KF) (b : Bs) (G H : Hp) (σ : L2.St) (env : PEnv) : Prop where
  x : Ext b.G b.H G H
  len : σ.length = env.length
  slots : ∃ f : Nat → Addr, (∀ i r, env[i]? = some (some r) → SlotOk K b.H G H r (σ[i]?.join) (f i)) ∧
    ∀ i j r r', i ≠ j → env[i]? = some (some r) → env[j]? = some (some r') → r.owns = true → r'.owns = true → f i ≠ f j
section
variable {K : KF} {b : Bs} {G H G' H' : Hp} {σ : L2.St} {env : PEnv}
theorem SlotOk.ext {B : Hp} {r : RV} {o : Option V} {a : Addr} (h : SlotOk K B G H r o a) (x : Ext G H G' H') : SlotOk K B G' H' r o a := by
  cases r with
  | sh d => obtain ⟨v, e, q⟩ := h; exact ⟨v, e, dp_mono x.g _ _ q⟩
  | own ds => exact ⟨h.1, h.2.ext x⟩
  | bor ds => exact h
  | deep d => exact h
  | box t p ds q =>
    obtain ⟨t, us, ws, e, h1, h2, h3, o⟩ := h
    exact ⟨t, us, ws, e, x.g.app h1 boxO_nt, dpAll_mono x.g _ _ h2, dpAll_mono x.g _ _ h3, o.ext x⟩
  | nst ds => exact ⟨h.1, h.2.ext x⟩
  | obj φ => exact ⟨h.1, h.2.ext x⟩
theorem EnvOk.ext (h : EnvOk K b G H σ env) (x : Ext G H G' H') : EnvOk K b G' H' σ env := by
  obtain ⟨h1, h2, f, h3, h4⟩ := h
  exact ⟨h1.trans x, h2, f, fun i r e => (h3 i r e).ext x, h4⟩
theorem SlotOk.rv {B : Hp} {r : RV} {o : Option V} {a : Addr} (h : SlotOk K B G H r o a) : ∃ v, o = some v ∧ RvOk K B G H r v := by
  cases r with
  | sh d => exact h
  | own ds => exact ⟨_, h.1, a, rfl, h.2⟩
  | bor ds => exact h.elim
  | deep d => exact h.elim
  | box t p ds q =>
    obtain ⟨t, us, ws, e, h1⟩ := h
    exact ⟨_, e, t, a, us, ws, rfl, h1⟩
  | nst ds => exact ⟨_, h.1, a, rfl, h.2⟩
  | obj φ => exact ⟨_, h.1, a, rfl, h.2⟩
theorem RvOk.seen {B : Hp} {r : RV} {v : V} (h : RvOk K B G H r v) (s : SameK G H) : RvOk K B G H r.seen v := by
  cases r with
  | sh d => exact h
  | own ds => exact h.bor
  | bor ds => exact h
  | deep d => exact h
  | box t p ds q => exact h.dp s
  | nst ds => obtain ⟨a, e, _, _, vs, h1, h2, _⟩ := h; exact ⟨a, vs, e, h1, h2⟩
  | obj φ => obtain ⟨a, rfl, _⟩ := h; exact .opq
theorem join_some {α : Type} {l : List (Option α)} {i : Nat} {v : α} (h : l[i]?.join = some v) : l[i]? = some (some v) := by
  cases e : l[i]? with
  | none => rw [e] at h; cases h
  | some x => rw [e] at h; exact congrArg some h
theorem EnvOk.get (h : EnvOk K b G H σ env) {i : Nat} {r : RV} (e : env[i]? = some (some r)) : ∃ v, σ[i]? = some (some v) ∧ RvOk K b.H G H r v := by
  obtain ⟨_, _, f, h3, _⟩ := h
  obtain ⟨v, e1, q⟩ := (h3 i r e).rv
  exact ⟨v, join_some e1, q⟩
/-- forget -/
def wk : PEnv → PEnv → Prop
  | [], [] => True
  | a :: as, c :: cs => (c = a ∨ c = none) ∧ wk as cs
  | _, _ => False
theorem wk_len : ∀ {as cs : PEnv}, wk as cs → as.length = cs.length
  | [], [], _ => rfl
  | _ :: _, _ :: _, h => by simp [wk_len h.2]
  | [], _ :: _, h => h.elim
  | _ :: _, [], h => h.elim
theorem wk_get : ∀ {as cs : PEnv} {i : Nat} {r : RV}, wk as cs → cs[i]? = some (some r) → as[i]? = some (some r)
  | a :: as, c :: cs, 0, r, h, e => by
    simp at e
    rcases h.1 with z | z
    · simp [← z, e]
    · rw [z] at e; cases e
  | a :: as, c :: cs, i + 1, r, h, e => by
    have := wk_get h.2 (i := i) (r := r) (by simpa using e)
    simpa using this
  | [], [], _, _, _, e => by simp at e
  | [], _ :: _, _, _, h, _ => h.elim
  | _ :: _, [], _, _, h, _ => h.elim
theorem wk_refl : ∀ {as : PEnv}, wk as as
  | [] => trivial
  | _ :: _ => ⟨.inl rfl, wk_refl⟩
theorem EnvOk.wk {env' : PEnv} (h : EnvOk K b G H σ env) (w : wk env env') : EnvOk K b G H σ env' := by
  obtain ⟨h1, h2, f, h3, h4⟩ := h
  exact ⟨h1, h2.trans (wk_len w), f, fun i r e => h3 i r (wk_get w e), fun i j r r' n e e' => h4 i j r r' n (wk_get w e) (wk_get w e')⟩
theorem RvOk.slot {B : Hp} {r : RV} {v : V} (q : RvOk K B G H r v) (hr : r.owns = true ∨ ∃ d, r = .sh d) : ∃ a, SlotOk K B G H r (some v) a ∧ (r.owns = true → B a = none) := by
  cases r with
  | sh d => exact ⟨0, ⟨v, rfl, q⟩, fun z => by cases z⟩
  | own ds =>
    obtain ⟨a, rfl, o⟩ := q
    exact ⟨a, ⟨rfl, o⟩, fun _ => o.1⟩
  | bor ds => rcases hr with z | ⟨d, z⟩ <;> cases z
  | deep d => rcases hr with z | ⟨d, z⟩ <;> cases z
  | box t p ds z =>
    obtain ⟨t, a, us, ws, rfl, h1, h2, h3, o⟩ := q
    exact ⟨a, ⟨t, us, ws, rfl, h1, h2, h3, o⟩, fun _ => o.1⟩
  | nst ds =>
    obtain ⟨a, rfl, o⟩ := q
    exact ⟨a, ⟨rfl, o⟩, fun _ => o.1⟩
  | obj φ =>
    obtain ⟨a, rfl, o⟩ := q
    exact ⟨a, ⟨rfl, o⟩, fun _ => o.1⟩
theorem SlotOk.base {B B' : Hp} {r : RV} {o : Option V} {a : Addr} (h : SlotOk K B G H r o a) (k : SameK B' B) : SlotOk K B' G H r o a := by
  cases r with
  | sh d => exact h
  | own ds => exact ⟨h.1, h.2.base k⟩
  | bor ds => exact h
  | deep d => exact h
  | box t p ds q =>
    obtain ⟨t, us, ws, e, h1, h2, h3, o⟩ := h
    exact ⟨t, us, ws, e, h1, h2, h3, o.base k⟩
  | nst ds => exact ⟨h.1, h.2.base k⟩
  | obj φ => exact ⟨h.1, h.2.base k⟩
theorem SlotOk.at {B : Hp} {r : RV} {o : Option V} {a : Addr} (h : SlotOk K B G H r o a) (w : r.owns = true) : H a ≠ none := by
  cases r with
  | sh d => cases w
  | own ds => obtain ⟨_, _, _, vs, e, _⟩ := h; rw [e]; exact fun z => by cases z
  | bor ds => cases w
  | deep d => cases w
  | box t p ds q => obtain ⟨t, us, ws, _, _, _, _, _, _, vs, e, _⟩ := h; rw [e]; exact fun z => by cases z
  | nst ds => obtain ⟨_, _, _, vs, e, _⟩ := h; rw [e]; exact fun z => by cases z
  | obj φ => obtain ⟨_, _, _, vs, e, _⟩ := h; rw [e]; exact fun z => by cases z
theorem EnvOk.put {i : Nat} {r : RV} {v : V} (h : EnvOk K b G H σ env) (x : Ext G H G' H') (q : RvOk K H G' H' r v) (hr : r.owns = true ∨ ∃ d, r = .sh d) :
    EnvOk K b G' H' (σ.set i (some v)) (env.set i (some r)) := by
  have h0 := h
  obtain ⟨h1, h2, f, h3, h4⟩ := h
  obtain ⟨a, sa, fa⟩ := q.slot hr
  refine ⟨h1.trans x, by rw [List.length_set, List.length_set]; exact h2, fun j => if j = i then a else f j, fun j r' e => ?_, fun j k r1 r2 n e1 e2 w1 w2 => ?_⟩
  · show SlotOk K b.H G' H' r' _ (if j = i then a else f j)
    by_cases hj : j = i
    · subst hj
      rw [if_pos rfl]
      have hl : j < env.length := by
        have := (List.getElem?_eq_some_iff.mp e).1
        rwa [List.length_set] at this
      rw [List.getElem?_set_self hl] at e
      cases e
      rw [List.getElem?_set_self (by rw [h2]; exact hl)]
      exact sa.base h1.h
    · rw [if_neg hj]
      rw [List.getElem?_set_ne (Ne.symm hj)] at e ⊢
      exact (h3 j r' e).ext x
  · have key : ∀ k r2, k ≠ i → (env.set i (some r))[k]? = some (some r2) → r2.owns = true → r.owns = true → f k ≠ a := fun k r2 hk e2 w2 w z => by
      rw [List.getElem?_set_ne (Ne.symm hk)] at e2
      have := (h3 k r2 e2).at w2
      rw [z] at this
      exact this (fa w)
    have self : ∀ {k r2}, k = i → (env.set i (some r))[k]? = some (some r2) → r2 = r := fun {k r2} hk e => by
      subst hk
      have hl : k < env.length := by
        have := (List.getElem?_eq_some_iff.mp e).1
        rwa [List.length_set] at this
      rw [List.getElem?_set_self hl] at e
      cases e; rfl
    by_cases hj : j = i
    · have hk : k ≠ i := fun z => n (hj.trans z.symm)
      show (if j = i then a else f j) ≠ (if k = i then a else f k)
      rw [if_pos hj, if_neg hk]
      have e := self hj e1
      subst e
      exact fun z => key k r2 hk e2 w2 w1 z.symm
    · by_cases hk : k = i
      · show (if j = i then a else f j) ≠ (if k = i then a else f k)
        rw [if_neg hj, if_pos hk]
        have e := self hk e2
        subst e
        exact key j r1 hj e1 w1 w2
      · show (if j = i then a else f j) ≠ (if k = i then a else f k)
        rw [if_neg hj, if_neg hk]
        rw [List.getElem?_set_ne (Ne.symm hj)] at e1
        rw [List.getElem?_set_ne (Ne.symm hk)] at e2
        exact h4 j k r1 r2 n e1 e2 w1 w2
end
end TW

namespace TW
open PySem PySem.Spec PyProof.Rows L2
/-! ### the weakest readings -/
/-- kept shut, that nothing unfolds it -/
structure Shut (p : Prop) : Prop where
  out : p
section
variable (X : Cx)
def semE (e : Expr) : TE := fun σ H Q => Shut (∀ (pins : List (Addr × Obj)) (s : Shared), Inv X pins σ H s → wpAny (model X.prog X.w) X.A (eval e X.env) (EP X pins σ Q) X.xe s)
def semT (e : Expr) : TT := fun σ H Q => Shut (∀ (pins : List (Addr × Obj)) (s : Shared), Inv X pins σ H s → wpAny (model X.prog X.w) X.A (isTrue e X.env (eval e X.env)) (TP X pins σ Q) X.xe s)
def semW (e : Expr) : TT := fun σ H Q => Shut (∀ (whole : Sem Value) (pins : List (Addr × Obj)) (s : Shared), Inv X pins σ H s → wpAny (model X.prog X.w) X.A (isTrue e X.env whole) (TP X pins σ Q) X.xe s)
def semA (es : List Expr) : TA := fun σ H Q => Shut (∀ (pos : Pos) (pins : List (Addr × Obj)) (s : Shared), Inv X pins σ H s → wpAny (model X.prog X.w) X.A (spliced (backTo pos (starEach es X.env))) (AP X pins σ Q) X.xe s)
def semS (st : Stmt) : TS := fun D σ H => Shut (∀ (pins : List (Addr × Obj)) (s : Shared), Inv X pins σ H s → wpAny (model X.prog X.w) X.A (exec st X.env) (SP X pins D) X.xe s)
def semB (st : List Stmt) : TS := fun D σ H => Shut (∀ (pins : List (Addr × Obj)) (s : Shared), Inv X pins σ H s → wpAny (model X.prog X.w) X.A (execs st X.env) (SP X pins D) X.xe s)
variable {X}
theorem pe_sem {e : Expr} : PE X e (semE X e) := ⟨fun pins s _ _ _ I h => h.out pins s I⟩
theorem pt_sem {e : Expr} : PT X e (semT X e) := ⟨fun pins s _ _ _ I h => h.out pins s I⟩
theorem pw_sem {e : Expr} : PW X e (semW X e) := ⟨fun wh pins s _ _ _ I h => h.out wh pins s I⟩
theorem pa_sem {es : List Expr} : PA X es (semA X es) := ⟨fun pos pins s _ _ _ I h => h.out pos pins s I⟩
theorem ps_sem {st : Stmt} : PS X st (semS X st) := ⟨fun pins s _ _ _ I h => h.out pins s I⟩
theorem pb_sem {st : List Stmt} : PSs X st (semB X st) := ⟨fun pins s _ _ _ I h => h.out pins s I⟩
theorem sem_e {e : Expr} {t : TE} {σ : L2.St} {H : Hp} {Q : VK} (h : PE X e t) (q : t σ H Q) : semE X e σ H Q := ⟨fun pins s I => h.run pins s σ H Q I q⟩
theorem sem_t {e : Expr} {t : TT} {σ : L2.St} {H : Hp} {Q : Bool → Hp → Prop} (h : PT X e t) (q : t σ H Q) : semT X e σ H Q := ⟨fun pins s I => h.run pins s σ H Q I q⟩
theorem sem_w {e : Expr} {t : TT} {σ : L2.St} {H : Hp} {Q : Bool → Hp → Prop} (h : PW X e t) (q : t σ H Q) : semW X e σ H Q := ⟨fun wh pins s I => h.run wh pins s σ H Q I q⟩
theorem sem_a {es : List Expr} {t : TA} {σ : L2.St} {H : Hp} {Q : List V → Hp → Prop} (h : PA X es t) (q : t σ H Q) : semA X es σ H Q := ⟨fun pos pins s I => h.run pos pins s σ H Q I q⟩
theorem sem_s {st : Stmt} {t : TS} {σ : L2.St} {H : Hp} {D : Ends} (h : PS X st t) (q : t D σ H) : semS X st D σ H := ⟨fun pins s I => h.run pins s σ H D I q⟩
theorem sem_b {st : List Stmt} {t : TS} {σ : L2.St} {H : Hp} {D : Ends} (h : PSs X st t) (q : t D σ H) : semB X st D σ H := ⟨fun pins s I => h.run pins s σ H D I q⟩
end
/-! ### plain judgements -/
def RvL (K : KF) (G H : Hp) : List RV → List V → Prop
  | [], [] => True
  | r :: rs, v :: vs => (∃ B, RvOk K B G H r v) ∧ RvL K G H rs vs
  | _, _ => False
theorem RvL.ext {K : KF} {G H G' H' : Hp} (x : Ext G H G' H') : ∀ {rs : List RV} {vs : List V}, RvL K G H rs vs → RvL K G' H' rs vs
  | [], [], _ => trivial
  | _ :: _, _ :: _, h => ⟨let ⟨B, q⟩ := h.1; ⟨B, q.ext x⟩, RvL.ext x h.2⟩
  | [], _ :: _, h => h.elim
  | _ :: _, [], h => h.elim
section
variable (X : Cx) (b : Bs)
def EvP (e : Expr) (env : PEnv) (r : RV) : Prop := ∀ (σ : L2.St) (G H : Hp) (Q : VK), EnvOk X.K b G H σ env → (∀ v G' H', Ext G H G' H' → RvOk X.K H G' H' r v → Q v H') → semE X e σ H Q
/-- frozen at once -/
def EvS (e : Expr) (env : PEnv) (d : PD) : Prop := ∀ (σ : L2.St) (G H : Hp) (Q : VK), EnvOk X.K b G H σ env → (∀ v G' H', Ext G H G' H' → Dq X.K G' v d → Q v H') → semE X e σ H Q
def TsP (e : Expr) (env : PEnv) (k : Bool) : Prop := ∀ (σ : L2.St) (G H : Hp) (Q : Bool → Hp → Prop), EnvOk X.K b G H σ env → (∀ G' H', Ext G H G' H' → Q k H') → semT X e σ H Q
def TwP (e : Expr) (env : PEnv) (k : Bool) : Prop := ∀ (σ : L2.St) (G H : Hp) (Q : Bool → Hp → Prop), EnvOk X.K b G H σ env → (∀ G' H', Ext G H G' H' → Q k H') → semW X e σ H Q
def ArP (es : List Expr) (env : PEnv) (rs : List RV) : Prop := ∀ (σ : L2.St) (G H : Hp) (Q : List V → Hp → Prop), EnvOk X.K b G H σ env → (∀ vs G' H', Ext G H G' H' → RvL X.K G' H' rs vs → Q vs H') → semA X es σ H Q
def ArS (es : List Expr) (env : PEnv) (ds : List PD) : Prop := ∀ (σ : L2.St) (G H : Hp) (Q : List V → Hp → Prop), EnvOk X.K b G H σ env → (∀ vs G' H', Ext G H G' H' → DqAll X.K G' vs ds → Q vs H') → semA X es σ H Q
def ArD (es : List Expr) (env : PEnv) (ds : List PD) : Prop := ∀ (σ : L2.St) (G H : Hp) (Q : List V → Hp → Prop), EnvOk X.K b G H σ env → (∀ vs G' H', Ext G H G' H' → DqAll X.K H' vs ds → Q vs H') → semA X es σ H Q
end
/-! ### operations by values -/
section
variable (X : Cx)
def Op2 (f : Value → Value → Sem Value) (r1 r2 r : RV) : Prop := ∃ rr : R2, OpR X f rr ∧ ∀ (B1 B2 G H : Hp) (v1 v2 : V) (Q : VK), SameK G H → RvOk X.K B1 G H r1 v1 → RvOk X.K B2 G H r2 v2 →
  (∀ v G' H', Ext G H G' H' → RvOk X.K H G' H' r v → Q v H') → rr v1 v2 H Q
def Op1 (f : Value → Sem Value) (r1 r : RV) : Prop := ∃ rr : V → Hp → VK → Prop, UnR X f rr ∧ ∀ (B1 G H : Hp) (v1 : V) (Q : VK), SameK G H → RvOk X.K B1 G H r1 v1 →
  (∀ v G' H', Ext G H G' H' → RvOk X.K H G' H' r v → Q v H') → rr v1 H Q
def Cl (f : Value) (rs : List RV) (r : RV) : Prop := ∃ rr : List V → Hp → VK → Prop, CallR X f rr ∧ ∀ (G H : Hp) (vs : List V) (Q : VK), SameK G H → RvL X.K G H rs vs →
  (∀ v G' H', Ext G H G' H' → RvOk X.K H G' H' r v → Q v H') → rr vs H Q
def Ix2 (r1 r2 r : RV) : Prop := ∃ rr : R2, IxR X rr ∧ ∀ (B1 B2 G H : Hp) (v1 v2 : V) (Q : VK), SameK G H → RvOk X.K B1 G H r1 v1 → RvOk X.K B2 G H r2 v2 →
  (∀ v G' H', Ext G H G' H' → RvOk X.K H G' H' r v → Q v H') → rr v1 v2 H Q
def Sl1 (r1 : RV) (lo hi : Option Int) (r : RV) : Prop := ∃ rr : V → Option Int → Option Int → Hp → VK → Prop, SlR X rr ∧ ∀ (B1 G H : Hp) (v1 : V) (Q : VK), SameK G H → RvOk X.K B1 G H r1 v1 →
  (∀ v G' H', Ext G H G' H' → RvOk X.K H G' H' r v → Q v H') → rr v1 lo hi H Q
end
section
variable {X : Cx} {b : Bs} {env : PEnv} {r r1 r2 : RV} {e e1 e2 e3 : Expr} {es : List Expr} {pos : Pos} {d : PD} {ds : List PD} {rs : List RV} {k k1 : Bool}
theorem evP_r {r' : RV} (h : EvP X b e env r) (w : r = r') : EvP X b e env r' := w ▸ h
theorem tsP_r {k' : Bool} (h : TsP X b e env k) (w : k = k') : TsP X b e env k' := w ▸ h
/-- freezing -/
theorem RvOk.frz {K : KF} {G H G' H' : Hp} {v : V} (x : Ext G H G' H') (h : RvOk K H G' H' r v) (hr : r.owns = true ∨ ∃ d, r = .sh d) : ∃ G2, Ext G H G2 H' ∧ Dq K G2 v r.data := by
  have fz : ∀ a vs, H a = none → H' a = some (.lst vs) → G' a = none → Ext G H (upd G' a (.lst vs)) H' := fun a vs h1 h2 h3 => by
    refine ⟨x.g.trans (same_new h3), x.h, same_put x.s h2, fun p e n => ?_⟩
    · have hp : p ≠ a := fun z => by subst z; exact n h1
      rw [upd_ne hp]
      exact x.n p e n
  cases r with
  | sh d => exact ⟨G', x, h⟩
  | own ds =>
    obtain ⟨a, rfl, h1, h2, vs, h3, h4⟩ := h
    exact ⟨_, fz a vs h1 h3 h2, .lst upd_same (dpAll_mono (same_new h2) _ _ h4)⟩
  | bor ds => rcases hr with z | ⟨d, z⟩ <;> cases z
  | deep d => rcases hr with z | ⟨d, z⟩ <;> cases z
  | box tp p ds q =>
    obtain ⟨t, a, us, ws, rfl, e1, e2, e3, h1, h2, vs, h3, h4⟩ := h
    have m := same_new (o := .lst vs) h2
    refine ⟨_, fz a vs h1 h3 h2, ?_⟩
    have hd : DqAll K (upd G' a (.lst vs)) (us ++ .ref a :: ws) (p ++ .list ds :: q) := dpAll_app (dpAll_mono m _ _ e2) (.cons (.lst upd_same (dpAll_mono m _ _ h4)) (dpAll_mono m _ _ e3))
    cases tp with
    | true => exact .tup (m.app e1) hd
    | false => exact .lst (m.app e1) hd
  | nst ds =>
    obtain ⟨a, rfl, h1, h2, vs, h3, h4, _⟩ := h
    exact ⟨_, fz a vs h1 h3 h2, .lst upd_same (dpAll_mono (same_new h2) _ _ h4)⟩
  | obj φ => obtain ⟨a, rfl, _⟩ := h; exact ⟨G', x, .opq⟩
theorem evS_of (h : EvP X b e env r) (hr : r.owns = true ∨ ∃ d, r = .sh d) : EvS X b e env r.data := fun σ G H Q E k => h σ G H Q E fun v G1 H1 x q => by
  obtain ⟨G2, x2, q2⟩ := q.frz x hr
  exact k v G2 H1 x2 q2
theorem evS_sh (h : EvP X b e env (.sh d)) : EvS X b e env d := evS_of h (.inr ⟨d, rfl⟩)
theorem evS_own (h : EvP X b e env (.own ds)) : EvS X b e env (.list ds) := evS_of h (.inl rfl)
theorem evP_S (h : EvS X b e env d) : EvP X b e env (.sh d) := fun σ G H Q E k => h σ G H Q E fun v G1 H1 x q => k v G1 H1 x q
/-! names, constants -/
theorem RvOk.seenB {K : KF} {B B' G H : Hp} {v : V} (h : RvOk K B G H r.seen v) : RvOk K B' G H r.seen v := by
  cases r <;> exact h
theorem ev_name {i : Nat} {x : Str} (he : env[i]? = some (some r)) (hN : X.N[i]? = some x := by rfl) (hv : Vis X.env.scope x := by first | exact Or.inl rfl | exact Or.inr (Or.inl rfl) | exact Or.inr (Or.inr rfl))
    (hd : (x == ("__debug__" : Str)) = false := by decide) (hcd : (x == ("__classdict__" : Str)) = false := by decide) : EvP X b (.Name x pos) env r.seen := by
  intro σ G H Q E k
  obtain ⟨v, e1, q⟩ := E.get he
  exact sem_e (pe_var hN hv hd hcd) ⟨v, e1, k v G H (Ext.refl E.x.s) (q.seen E.x.s).seenB⟩
theorem ev_nsh {i : Nat} {x : Str} (he : env[i]? = some (some (.sh d))) (hN : X.N[i]? = some x := by rfl) (hv : Vis X.env.scope x := by first | exact Or.inl rfl | exact Or.inr (Or.inl rfl) | exact Or.inr (Or.inr rfl))
    (hd : (x == ("__debug__" : Str)) = false := by decide) (hcd : (x == ("__classdict__" : Str)) = false := by decide) : EvP X b (.Name x pos) env (.sh d) := ev_name he hN hv hd hcd
theorem ev_c {v : V} (h : PE X e (tC v)) (hd : ∀ H, Dq X.K H v d) : EvP X b e env (.sh d) := fun σ G H Q E k => sem_e h (k v G H (Ext.refl E.x.s) (hd G))
theorem ev_int {i : Int} {j : Nat} : EvP X b (.Constant (.int i) j pos) env (.sh (.int i)) := ev_c pe_int fun _ => .int i
theorem ev_bool {i : Bool} {j : Nat} : EvP X b (.Constant (.bool i) j pos) env (.sh (.bool i)) := ev_c pe_bl fun _ => .bl i
theorem ev_none {j : Nat} : EvP X b (.Constant .none j pos) env (.sh .none) := ev_c pe_non fun _ => .non
theorem ev_str {x : Str} {j : Nat} : EvP X b (.Constant (.str x) j pos) env (.sh (.str x)) := ev_c pe_str fun _ => .str x
theorem ev_gint {x : Str} {i : Int} (hm : ∃ t, X.mg x = some (.int i t)) (hg : Gl X x := by rfl) (hd : (x == ("__debug__" : Str)) = false := by decide) : EvP X b (.Name x pos) env (.sh (.int i)) := by
  obtain ⟨t, h⟩ := hm
  exact ev_c (pe_glob (v := .int i) hg h ⟨t, rfl⟩ hd) fun _ => .int i
/-! operations -/
theorem ev_bin {op : Operator} (ha : EvP X b e1 env r1) (hb : EvP X b e2 env r2) (ho : Op2 X (binaryOp op) r1 r2 r) : EvP X b (.BinOp e1 op e2 pos) env r := by
  obtain ⟨rr, h1, h2⟩ := ho
  intro σ G H Q E k
  refine sem_e (pe_op h1 pe_sem pe_sem) ?_
  refine ha σ G H _ E fun v1 G1 H1 x1 q1 => ?_
  refine hb σ G1 H1 _ (E.ext x1) fun v2 G2 H2 x2 q2 => ?_
  exact h2 H H1 G2 H2 v1 v2 Q x2.s (q1.ext x2) q2 fun v G3 H3 x3 q3 => k v G3 H3 ((x1.trans x2).trans x3) (q3.base (x1.trans x2).h)
theorem ev_un {op : UnaryOp} (ha : EvP X b e1 env r1) (ho : Op1 X (unaryOp op) r1 r) : EvP X b (.UnaryOp op e1 pos) env r := by
  obtain ⟨rr, h1, h2⟩ := ho
  intro σ G H Q E k
  refine sem_e (pe_un h1 pe_sem) ?_
  refine ha σ G H _ E fun v1 G1 H1 x1 q1 => ?_
  exact h2 H G1 H1 v1 Q x1.s q1 fun v G3 H3 x3 q3 => k v G3 H3 (x1.trans x3) (q3.base x1.h)
theorem ev_cmp {op : CmpOp} (ha : EvP X b e1 env r1) (hb : EvP X b e2 env r2) (ho : Op2 X (compareOp op) r1 r2 r) (hm : behindInMarks op e2 = false := by first | exact nomark _ | rfl) : EvP X b (.Compare e1 [op] [e2] pos) env r := by
  obtain ⟨rr, h1, h2⟩ := ho
  intro σ G H Q E k
  refine sem_e (pe_cmpR h1 pe_sem pe_sem hm) ?_
  refine ha σ G H _ E fun v1 G1 H1 x1 q1 => ?_
  refine hb σ G1 H1 _ (E.ext x1) fun v2 G2 H2 x2 q2 => ?_
  exact h2 H H1 G2 H2 v1 v2 Q x2.s (q1.ext x2) q2 fun v G3 H3 x3 q3 => k v G3 H3 ((x1.trans x2).trans x3) (q3.base (x1.trans x2).h)
theorem ts_cmp {op : CmpOp} (ha : EvP X b e1 env r1) (hb : EvP X b e2 env r2) (ho : Op2 X (compareOp op) r1 r2 (.sh (.bool k))) (hm : behindInMarks op e2 = false := by first | exact nomark _ | rfl) : TsP X b (.Compare e1 [op] [e2] pos) env k := by
  obtain ⟨rr, h1, h2⟩ := ho
  intro σ G H Q E kk
  refine sem_t (pt_cmpR h1 pe_sem pe_sem hm) ?_
  refine ha σ G H _ E fun v1 G1 H1 x1 q1 => ?_
  refine hb σ G1 H1 _ (E.ext x1) fun v2 G2 H2 x2 q2 => ?_
  exact h2 H H1 G2 H2 v1 v2 _ x2.s (q1.ext x2) q2 fun v G3 H3 x3 q3 => ⟨k, dp_bool q3, kk G3 H3 ((x1.trans x2).trans x3)⟩
/-- a op b op' c, the second link only behind the first -/
theorem ev_chain {op op' : CmpOp} {r3 : RV} (ha : EvP X b e1 env r1) (hb : EvP X b e2 env r2) (hc : k = true → EvP X b e3 env r3) (ho : Op2 X (compareOp op) r1 r2 (.sh (.bool k))) (ho' : k = true → Op2 X (compareOp op') r2 r3 (.sh (.bool k1)))
    (hop : ∃ rr, OpR X (compareOp op') rr) (hm : lastMarks [op, op'] [e2, e3] = false := by with_unfolding_all rfl) : EvP X b (.Compare e1 [op, op'] [e2, e3] pos) env (.sh (.bool (k && k1))) := by
  obtain ⟨rr, h1, h2⟩ := ho
  intro σ G H Q E kk
  cases k with
  | true =>
    obtain ⟨rr', h1', h2'⟩ := ho' rfl
    refine sem_e (pe_chain h1 h1' pe_sem pe_sem pe_sem hm) ?_
    refine ha σ G H _ E fun v1 G1 H1 x1 q1 => ?_
    refine hb σ G1 H1 _ (E.ext x1) fun v2 G2 H2 x2 q2 => ?_
    refine h2 H H1 G2 H2 v1 v2 _ x2.s (q1.ext x2) q2 fun v G3 H3 x3 q3 => ⟨true, dp_bool q3, ?_⟩
    rw [if_pos rfl]
    refine hc rfl σ G3 H3 _ (E.ext ((x1.trans x2).trans x3)) fun v4 G4 H4 x4 q4 => ?_
    exact h2' _ _ G4 H4 v2 v4 Q x4.s ((q2.ext x3).ext x4) q4 fun v G5 H5 x5 q5 => kk v G5 H5 ((((x1.trans x2).trans x3).trans x4).trans x5) q5
  | false =>
    obtain ⟨rr', h1'⟩ := hop
    refine sem_e (pe_chain h1 h1' pe_sem pe_sem pe_sem hm) ?_
    refine ha σ G H _ E fun v1 G1 H1 x1 q1 => ?_
    refine hb σ G1 H1 _ (E.ext x1) fun v2 G2 H2 x2 q2 => ?_
    refine h2 H H1 G2 H2 v1 v2 _ x2.s (q1.ext x2) q2 fun v G3 H3 x3 q3 => ⟨false, dp_bool q3, ?_⟩
    rw [if_neg Bool.false_ne_true]
    exact kk _ G3 H3 ((x1.trans x2).trans x3) (.bl false)
theorem ts_chain {op op' : CmpOp} {r3 : RV} (ha : EvP X b e1 env r1) (hb : EvP X b e2 env r2) (hc : k = true → EvP X b e3 env r3) (ho : Op2 X (compareOp op) r1 r2 (.sh (.bool k))) (ho' : k = true → Op2 X (compareOp op') r2 r3 (.sh (.bool k1)))
    (hop : ∃ rr, OpR X (compareOp op') rr) (hm : lastMarks [op, op'] [e2, e3] = false := by with_unfolding_all rfl) : TsP X b (.Compare e1 [op, op'] [e2, e3] pos) env (k && k1) := by
  obtain ⟨rr, h1, h2⟩ := ho
  intro σ G H Q E kk
  cases k with
  | true =>
    obtain ⟨rr', h1', h2'⟩ := ho' rfl
    refine sem_t (pt_chain h1 h1' pe_sem pe_sem pe_sem hm) ?_
    refine ha σ G H _ E fun v1 G1 H1 x1 q1 => ?_
    refine hb σ G1 H1 _ (E.ext x1) fun v2 G2 H2 x2 q2 => ?_
    refine h2 H H1 G2 H2 v1 v2 _ x2.s (q1.ext x2) q2 fun v G3 H3 x3 q3 => ⟨true, dp_bool q3, ?_⟩
    rw [if_pos rfl]
    refine hc rfl σ G3 H3 _ (E.ext ((x1.trans x2).trans x3)) fun v4 G4 H4 x4 q4 => ?_
    exact h2' _ _ G4 H4 v2 v4 _ x4.s ((q2.ext x3).ext x4) q4 fun v G5 H5 x5 q5 => ⟨k1, dp_bool q5, kk G5 H5 ((((x1.trans x2).trans x3).trans x4).trans x5)⟩
  | false =>
    obtain ⟨rr', h1'⟩ := hop
    refine sem_t (pt_chain h1 h1' pe_sem pe_sem pe_sem hm) ?_
    refine ha σ G H _ E fun v1 G1 H1 x1 q1 => ?_
    refine hb σ G1 H1 _ (E.ext x1) fun v2 G2 H2 x2 q2 => ?_
    refine h2 H H1 G2 H2 v1 v2 _ x2.s (q1.ext x2) q2 fun v G3 H3 x3 q3 => ⟨false, dp_bool q3, ?_⟩
    rw [if_neg Bool.false_ne_true]
    exact ⟨false, rfl, kk G3 H3 ((x1.trans x2).trans x3)⟩
/-! tests, and, or, not -/
theorem ts_val (h : EvP X b e env (.sh (.bool k))) (he : ∀ whole, isTrue e X.env whole = (do let v ← whole; standAt e.pos; holding [v] (truthy v)) := by intro _; rfl) : TsP X b e env k := fun σ G H Q E kk =>
  sem_t (pt_val pe_sem he) (h σ G H _ E fun v G1 H1 x q => ⟨k, dp_bool q, kk G1 H1 x⟩)
theorem ts_w (h : TwP X b e env k) : TsP X b e env k := fun σ G H Q E kk => sem_t pw_sem.pt (h σ G H Q E kk)
theorem tw_and1 (h : TsP X b e env k) : TwP X b (.BoolOp .And [e] pos) env k := fun σ G H Q E kk => sem_w (pw_and1 pt_sem) (h σ G H Q E kk)
theorem tw_or1 (h : TsP X b e env k) : TwP X b (.BoolOp .Or [e] pos) env k := fun σ G H Q E kk => sem_w (pw_or1 pt_sem) (h σ G H Q E kk)
theorem tw_and (h : TsP X b e env k) (hr : k = true → TwP X b (.BoolOp .And (e1 :: es) pos) env k1) : TwP X b (.BoolOp .And (e :: e1 :: es) pos) env (k && k1) := fun σ G H Q E kk => by
  refine sem_w (pw_and pt_sem pw_sem) (h σ G H _ E fun G1 H1 x => ?_)
  cases k with
  | true =>
    rw [if_pos rfl]
    exact hr rfl σ G1 H1 Q (E.ext x) fun G2 H2 x2 => kk G2 H2 (x.trans x2)
  | false =>
    rw [if_neg Bool.false_ne_true]
    exact kk G1 H1 x
theorem tw_or (h : TsP X b e env k) (hr : k = false → TwP X b (.BoolOp .Or (e1 :: es) pos) env k1) : TwP X b (.BoolOp .Or (e :: e1 :: es) pos) env (k || k1) := fun σ G H Q E kk => by
  refine sem_w (pw_or pt_sem pw_sem) (h σ G H _ E fun G1 H1 x => ?_)
  cases k with
  | true =>
    rw [if_pos rfl]
    exact kk G1 H1 x
  | false =>
    rw [if_neg Bool.false_ne_true]
    exact hr rfl σ G1 H1 Q (E.ext x) fun G2 H2 x2 => kk G2 H2 (x.trans x2)
theorem ts_not (h : TsP X b e env k) : TsP X b (.UnaryOp .Not e pos) env (!k) := fun σ G H Q E kk => sem_t (pt_not pt_sem) (h σ G H _ E kk)
theorem ev_one {op : BoolOp} (h : EvP X b e env r) : EvP X b (.BoolOp op [e] pos) env r := fun σ G H Q E kk => sem_e (pe_one pe_sem) (h σ G H Q E kk)
theorem ev_and (h : EvP X b e env (.sh (.bool k))) (hr : k = true → EvP X b (.BoolOp .And (e1 :: es) pos) env (.sh (.bool k1))) : EvP X b (.BoolOp .And (e :: e1 :: es) pos) env (.sh (.bool (k && k1))) := fun σ G H Q E kk => by
  refine sem_e (pe_and pe_sem pe_sem) (h σ G H _ E fun v G1 H1 x q => ⟨k, dp_bool q, ?_⟩)
  cases k with
  | true =>
    rw [if_pos rfl]
    exact hr rfl σ G1 H1 Q (E.ext x) fun v G2 H2 x2 q2 => kk v G2 H2 (x.trans x2) q2
  | false =>
    rw [if_neg Bool.false_ne_true]
    exact kk _ G1 H1 x (.bl false)
theorem ev_or (h : EvP X b e env (.sh (.bool k))) (hr : k = false → EvP X b (.BoolOp .Or (e1 :: es) pos) env (.sh (.bool k1))) : EvP X b (.BoolOp .Or (e :: e1 :: es) pos) env (.sh (.bool (k || k1))) := fun σ G H Q E kk => by
  refine sem_e (pe_or pe_sem pe_sem) (h σ G H _ E fun v G1 H1 x q => ⟨k, dp_bool q, ?_⟩)
  cases k with
  | true =>
    rw [if_pos rfl]
    exact kk _ G1 H1 x (.bl true)
  | false =>
    rw [if_neg Bool.false_ne_true]
    exact hr rfl σ G1 H1 Q (E.ext x) fun v G2 H2 x2 q2 => kk v G2 H2 (x.trans x2) q2
theorem ev_not (h : EvP X b e env (.sh (.bool k))) : EvP X b (.UnaryOp .Not e pos) env (.sh (.bool (!k))) := fun σ G H Q E kk =>
  sem_e (pe_not pe_sem) (h σ G H _ E fun v G1 H1 x q => ⟨k, dp_bool q, kk _ G1 H1 x (.bl _)⟩)
/-! arguments -/
theorem ar_nil : ArP X b [] env [] := fun σ G H Q E kk => sem_a pa_nil (kk [] G H (Ext.refl E.x.s) trivial)
theorem ar_cons (h : EvP X b e env r) (hr : ArP X b es env rs) (hs : starEach (e :: es) X.env = (false, eval e X.env) :: starEach es X.env := by rfl) : ArP X b (e :: es) env (r :: rs) := fun σ G H Q E kk => by
  refine sem_a (pa_cons pe_sem pa_sem hs) (h σ G H _ E fun v G1 H1 x q => hr σ G1 H1 _ (E.ext x) fun vs G2 H2 x2 q2 => ?_)
  exact kk (v :: vs) G2 H2 (x.trans x2) ⟨⟨H, q.ext x2⟩, q2⟩
theorem as_nil : ArS X b [] env [] := fun σ G H Q E kk => sem_a pa_nil (kk [] G H (Ext.refl E.x.s) .nil)
theorem as_cons (h : EvS X b e env d) (hr : ArS X b es env ds) (hs : starEach (e :: es) X.env = (false, eval e X.env) :: starEach es X.env := by rfl) : ArS X b (e :: es) env (d :: ds) := fun σ G H Q E kk => by
  refine sem_a (pa_cons pe_sem pa_sem hs) (h σ G H _ E fun v G1 H1 x q => hr σ G1 H1 _ (E.ext x) fun vs G2 H2 x2 q2 => ?_)
  exact kk (v :: vs) G2 H2 (x.trans x2) (.cons (dp_mono x2.g _ _ q) q2)
theorem ad_nil : ArD X b [] env [] := fun σ G H Q E kk => sem_a pa_nil (kk [] G H (Ext.refl E.x.s) .nil)
theorem ad_cons (h : EvP X b e env r) (hr : ArD X b es env ds) (hs : starEach (e :: es) X.env = (false, eval e X.env) :: starEach es X.env := by rfl) : ArD X b (e :: es) env (r.data :: ds) := fun σ G H Q E kk => by
  refine sem_a (pa_cons pe_sem pa_sem hs) (h σ G H _ E fun v G1 H1 x q => hr σ G1 H1 _ (E.ext x) fun vs G2 H2 x2 q2 => ?_)
  exact kk (v :: vs) G2 H2 (x.trans x2) (.cons (dp_mono x2.h _ _ (q.dp x.s)) q2)
theorem small_line {n : Nat} (h : n ≤ 1000000) : n ≤ sizeLine := Nat.le_trans h (by decide)
theorem ev_tup {j : Nat} (h : ArS X b es env ds) (hl : ds.length ≤ 1000000 := by first | decide | (simp only [List.length_cons, List.length_nil]; omega)) : EvP X b (.Tuple es j pos) env (.sh (.tuple ds)) := fun σ G H Q E kk => by
  refine sem_e (pe_tup pa_sem) (h σ G H _ E fun vs G1 H1 x q => ⟨small_line (by rw [dpAll_len q]; exact hl), fun p hp => ?_⟩)
  exact kk _ _ _ (x.trans (Ext.new x.s hp)) (.tup upd_same (dpAll_mono (same_new (x.s.free hp)) _ _ q))
theorem ev_lst (h : ArS X b es env ds) (hl : ds.length ≤ 1000000 := by first | decide | (simp only [List.length_cons, List.length_nil]; omega)) : EvP X b (.List es pos) env (.own ds) := fun σ G H Q E kk => by
  refine sem_e (pe_lst pa_sem) (h σ G H _ E fun vs G1 H1 x q => ⟨small_line (by rw [dpAll_len q]; exact hl), fun p hp => ?_⟩)
  exact kk _ _ _ (x.trans (Ext.own x.s hp)) ⟨p, rfl, x.h.free hp, x.s.free hp, vs, upd_same, q⟩
/-! built-ins, subscripts -/
theorem ev_bi {x : Str} {id : String} {p : Pos} (hm : X.mg x = none) (hc : Cl X (.builtin id) rs r) (ha : ArP X b (e :: es) env rs) (hv : bootBuiltins x = some (.builtin id) := by decide +kernel) (hg : Gl X x := by rfl) (hn : x ≠ "__name__" := by decide) (hdb : (x == ("__debug__" : Str)) = false := by decide)
    (he : starEach (e :: es) X.env = (false, eval e X.env) :: starEach es X.env := by rfl) (hpl : (backTo pos (starEach es X.env)).any (·.1) = false := by rfl) : EvP X b (.Call (.Name x p) (e :: es) [] pos) env r := by
  obtain ⟨rr, h1, h2⟩ := hc
  intro σ G H Q E kk
  refine sem_e (pe_callB h1 hg hm hv pa_sem hn hdb he hpl) (ha σ G H _ E fun vs G1 H1 x q => ?_)
  exact h2 G1 H1 vs Q x.s q fun v G2 H2 x2 q2 => kk v G2 H2 (x.trans x2) (q2.base x.h)
theorem ev_ty {x : Str} {T : String} {p : Pos} (hm : X.mg x = none) (hc : Cl X (.type T) rs r) (ha : ArP X b (e :: es) env rs) (hv : bootBuiltins x = some (.type T) := by decide +kernel) (hg : Gl X x := by rfl) (hn : x ≠ "__name__" := by decide) (hdb : (x == ("__debug__" : Str)) = false := by decide)
    (he : starEach (e :: es) X.env = (false, eval e X.env) :: starEach es X.env := by rfl) (hpl : (backTo pos (starEach es X.env)).any (·.1) = false := by rfl) : EvP X b (.Call (.Name x p) (e :: es) [] pos) env r := by
  obtain ⟨rr, h1, h2⟩ := hc
  intro σ G H Q E kk
  refine sem_e (pe_callTy h1 hg hm hv pa_sem hn hdb he hpl) (ha σ G H _ E fun vs G1 H1 x q => ?_)
  exact h2 G1 H1 vs Q x.s q fun v G2 H2 x2 q2 => kk v G2 H2 (x.trans x2) (q2.base x.h)
theorem ev_ix (ha : EvP X b e1 env r1) (hb : EvP X b e2 env r2) (ho : Ix2 X r1 r2 r) (hs : PlainIx e2 := by exact fun _ _ => rfl) : EvP X b (.Subscript e1 e2 pos) env r := by
  obtain ⟨rr, h1, h2⟩ := ho
  intro σ G H Q E k
  refine sem_e (pe_ix h1 pe_sem pe_sem hs) ?_
  refine ha σ G H _ E fun v1 G1 H1 x1 q1 => ?_
  refine hb σ G1 H1 _ (E.ext x1) fun v2 G2 H2 x2 q2 => ?_
  exact h2 H H1 G2 H2 v1 v2 Q x2.s (q1.ext x2) q2 fun v G3 H3 x3 q3 => k v G3 H3 ((x1.trans x2).trans x3) (q3.base (x1.trans x2).h)
/-- the parts of a slice -/
inductive PrtP (X : Cx) (b : Bs) (env : PEnv) : Option Expr → Option Int → Prop
  | no : PrtP X b env none none
  | yes {e : Expr} {i : Int} : EvP X b e env (.sh (.int i)) → PrtP X b env (some e) (some i)
theorem prt_po {lo : Option Expr} {i : Option Int} (h : PrtP X b env lo i) : ∃ t, PO X lo t ∧ ∀ (σ : L2.St) (G H : Hp) (Q : Option Int → Hp → Prop), EnvOk X.K b G H σ env → (∀ G' H', Ext G H G' H' → Q i H') → t σ H Q := by
  cases h with
  | no => exact ⟨_, po_none, fun σ G H Q E k => k G H (Ext.refl E.x.s)⟩
  | yes h => exact ⟨_, po_some pe_sem, fun σ G H Q E k => h σ G H _ E fun v G1 H1 x q => ⟨_, dp_int q, k G1 H1 x⟩⟩
theorem ev_slice {lo hi : Option Expr} {i j : Option Int} {p2 : Pos} (ha : EvP X b e1 env r1) (hl : PrtP X b env lo i) (hh : PrtP X b env hi j) (ho : Sl1 X r1 i j r) : EvP X b (.Subscript e1 (.Slice lo hi none p2) pos) env r := by
  obtain ⟨rr, h1, h2⟩ := ho
  obtain ⟨tl, l1, l2⟩ := prt_po hl
  obtain ⟨th, k1, k2⟩ := prt_po hh
  intro σ G H Q E k
  refine sem_e (pe_slice h1 pe_sem l1 k1) ?_
  refine ha σ G H _ E fun v1 G1 H1 x1 q1 => ?_
  refine l2 σ G1 H1 _ (E.ext x1) fun G2 H2 x2 => ?_
  refine k2 σ G2 H2 _ ((E.ext x1).ext x2) fun G3 H3 x3 => ?_
  exact h2 H G3 H3 v1 Q x3.s ((q1.ext x2).ext x3) fun v G4 H4 x4 q4 => k v G4 H4 (((x1.trans x2).trans x3).trans x4) (q4.base ((x1.trans x2).trans x3).h)
end
/-! ### defs -/
inductive Oc where
  | ret (r : RV) | exc (C : Addr)
def OutOk (K : KF) (G H : Hp) (Q : VK) (E : XK) : Oc → Prop
  | .ret r => ∀ v G' H', Ext G H G' H' → RvOk K H G' H' r v → Q v H'
  | .exc C => ∀ H', SameH H H' → E (.ref C) none H'
/-- a plain promise: arguments by data, an outcome -/
def spF (K : KF) {α : Type} (pre : α → Prop) (args : α → List PD) (out : α → Oc) : Sp := fun vs H Q E => ∃ (x : α) (G : Hp), pre x ∧ SameK G H ∧ DqAll K G vs (args x) ∧ OutOk K G H Q E (out x)
structure Fn (P : Program) (w : World) (K : KF) (mg : Str → Option Value) (base : Heap) (x : Str) (n : Nat) (ps : List Str) (sp : Sp) : Prop where
  ex : ∃ f fd, FnOk P w K mg base (L2N.CX P w) n f fd ps sp ∧ mg x = some (.ref f) ∧ PySem.W.keepIn K (.ref f) = true ∧ Binds K fd ps [] ∧ ∃ oc od sl, K.lookup f = some ⟨oc, od, .func fd, sl⟩
theorem passN {X : Cx} : Passes (L2N.CX X.prog X.w) X E0 := fun _ _ _ _ _ _ _ h => by
  obtain ⟨_, _, _, _, _, _, _, _, _, _, _, _, z⟩ := h
  exact z.elim
/-- data that lean on no object -/
def scD : PD → Bool
  | .none => true
  | .bool _ => true
  | .int _ => true
  | .str _ => true
  | _ => false
theorem dp_sc {K : KF} {H H' : Hp} {v : V} {d : PD} (h : Dq K H v d) (s : scD d = true) : Dq K H' v d := by
  cases h with
  | non => exact .non
  | bl b => exact .bl b
  | int i => exact .int i
  | str x => exact .str x
  | lst _ _ => cases s
  | tup _ _ => cases s
  | dct _ => cases s
  | scr _ => cases s
  | adr => cases s
  | opq => cases s
section
variable {X : Cx} {b : Bs} {env : PEnv} {r : RV} {e : Expr} {es : List Expr} {p pos : Pos} {d : PD} {ds : List PD} {x : Str} {n k : Nat} {ps : List Str} {α : Type} {pre : α → Prop} {args : α → List PD} {out : α → Oc}
theorem ev_call (F : Fn X.prog X.w X.K X.mg X.base x n ps (spF X.K pre args out)) (z : α) (hr : Room n X.A) (hz : pre z) (ha : ArS X b (e :: es) env (args z)) (ho : out z = .ret r) (hg : Gl X x := by rfl)
    (hdb : (x == ("__debug__" : Str)) = false := by decide) (he : starEach (e :: es) X.env = (false, eval e X.env) :: starEach es X.env := by rfl) (hpl : (backTo pos (starEach es X.env)).any (·.1) = false := by rfl) :
    EvP X b (.Call (.Name x p) (e :: es) [] pos) env r := by
  obtain ⟨f, fd, hF, hm, hk, hb, _⟩ := F.ex
  intro σ G H Q E kk
  refine sem_e (pe_call hF hr hg hm hk hb .nil passN pa_sem hdb he hpl) (ha σ G H _ E fun vs G1 H1 x q => ?_)
  rw [List.append_nil]
  refine ⟨z, G1, hz, x.s, q, ?_⟩
  rw [ho]
  exact fun v G2 H2 x2 q2 => kk v G2 H2 (x.trans x2) (q2.base x.h)
/-- .. where the answer leans on no object, the arguments may be one's own -/
theorem ev_callD (F : Fn X.prog X.w X.K X.mg X.base x n ps (spF X.K pre args out)) (z : α) (hr : Room n X.A) (hz : pre z) (ha : ArD X b (e :: es) env (args z)) (ho : out z = .ret (.sh d)) (hd : scD d = true) (hg : Gl X x := by rfl)
    (hdb : (x == ("__debug__" : Str)) = false := by decide) (he : starEach (e :: es) X.env = (false, eval e X.env) :: starEach es X.env := by rfl) (hpl : (backTo pos (starEach es X.env)).any (·.1) = false := by rfl) :
    EvP X b (.Call (.Name x p) (e :: es) [] pos) env (.sh d) := by
  obtain ⟨f, fd, hF, hm, hk, hb, _⟩ := F.ex
  intro σ G H Q E kk
  refine sem_e (pe_call hF hr hg hm hk hb .nil passN pa_sem hdb he hpl) (ha σ G H _ E fun vs G1 H1 x q => ?_)
  rw [List.append_nil]
  refine ⟨z, H1, hz, SameK.refl _, q, ?_⟩
  rw [ho]
  exact fun v G2 H2 x2 q2 => kk v G1 H2 (x.trans (Ext.only x2.h x.s)) (dp_sc q2 hd)
end
end TW

namespace TW
open PySem PySem.Spec PyProof.Rows L2
/-! ### statements -/
structure Out where
  nx : PEnv → Prop
  rt : RV → Prop
  bk : PEnv → Prop := fun _ => False
  ct : PEnv → Prop := fun _ => False
structure EndsOk (K : KF) (b : Bs) (R : Out) (D : Ends) : Prop where
  nx : ∀ (env : PEnv) (σ : L2.St) (G H : Hp), R.nx env → EnvOk K b G H σ env → D.nx σ H
  rt : ∀ (r : RV) (v : V) (G H : Hp), R.rt r → Ext b.G b.H G H → RvOk K b.H G H r v → D.rt v H
  bk : ∀ (env : PEnv) (σ : L2.St) (G H : Hp), R.bk env → EnvOk K b G H σ env → D.bk σ H
  ct : ∀ (env : PEnv) (σ : L2.St) (G H : Hp), R.ct env → EnvOk K b G H σ env → D.ct σ H
def StP (X : Cx) (b : Bs) (st : Stmt) (env : PEnv) (R : Out) : Prop := ∀ (σ : L2.St) (G H : Hp) (D : Ends), EnvOk X.K b G H σ env → EndsOk X.K b R D → semS X st D σ H
def BlP (X : Cx) (b : Bs) (st : List Stmt) (env : PEnv) (R : Out) : Prop := ∀ (σ : L2.St) (G H : Hp) (D : Ends), EnvOk X.K b G H σ env → EndsOk X.K b R D → semB X st D σ H
section
variable {X : Cx} {b : Bs} {env env' : PEnv} {R : Out} {st : Stmt} {rest bA bB : List Stmt} {e e1 e2 : Expr} {r : RV} {d : PD} {ds : List PD} {pos : Pos} {k : Bool}
theorem st_wk (h : StP X b st env' R) (w : wk env env') : StP X b st env R := fun σ G H D E x => h σ G H D (E.wk w) x
theorem bl_wk (h : BlP X b rest env' R) (w : wk env env') : BlP X b rest env R := fun σ G H D E x => h σ G H D (E.wk w) x
theorem EndsOk.nxt {K : KF} {D : Ends} {nx' : PEnv → Prop} {dn : L2.St → Hp → Prop} (x : EndsOk K b R D) (h : ∀ (env : PEnv) (σ : L2.St) (G H : Hp), nx' env → EnvOk K b G H σ env → dn σ H) : EndsOk K b { R with nx := nx' } { D with nx := dn } :=
  ⟨h, x.rt, x.bk, x.ct⟩
theorem bl_nil (h : R.nx env) : BlP X b [] env R := fun σ G H D E x => sem_b pss_nil (x.nx env σ G H h E)
theorem bl_cons (h : StP X b st env { R with nx := fun env' => BlP X b rest env' R }) : BlP X b (st :: rest) env R := fun σ G H D E x =>
  sem_b (pss_cons ps_sem pb_sem) (h σ G H _ E (x.nxt fun env' σ' G' H' q E' => q σ' G' H' D E' x))
theorem bl_one (h : StP X b st env R) : BlP X b [st] env R := fun σ G H D E x => sem_b (pss_one ps_sem) (h σ G H D E x)
/-- in two parts -/
theorem st_imp {R' : Out} (h : StP X b st env R) (h1 : ∀ e, R.nx e → R'.nx e) (h2 : ∀ r, R.rt r → R'.rt r) (h3 : ∀ e, R.bk e → R'.bk e) (h4 : ∀ e, R.ct e → R'.ct e) : StP X b st env R' := fun σ G H D E x =>
  h σ G H D E ⟨fun e σ G H q => x.nx e σ G H (h1 e q), fun r v G H q => x.rt r v G H (h2 r q), fun e σ G H q => x.bk e σ G H (h3 e q), fun e σ G H q => x.ct e σ G H (h4 e q)⟩
theorem bl_imp {R' : Out} (h : BlP X b rest env R) (h1 : ∀ e, R.nx e → R'.nx e) (h2 : ∀ r, R.rt r → R'.rt r) (h3 : ∀ e, R.bk e → R'.bk e) (h4 : ∀ e, R.ct e → R'.ct e) : BlP X b rest env R' := fun σ G H D E x =>
  h σ G H D E ⟨fun e σ G H q => x.nx e σ G H (h1 e q), fun r v G H q => x.rt r v G H (h2 r q), fun e σ G H q => x.bk e σ G H (h3 e q), fun e σ G H q => x.ct e σ G H (h4 e q)⟩
theorem bl_cut {M : PEnv → Prop} (h : StP X b st env { R with nx := M }) (h2 : ∀ e, M e → BlP X b rest e R) : BlP X b (st :: rest) env R :=
  bl_cons (st_imp h (fun e q => h2 e q) (fun _ q => q) (fun _ q => q) fun _ q => q)
/-- freeze what is one's own -/
theorem own_grow {K : KF} {B G H : Hp} {p a : Addr} {o : HO} {ds : List PD} (hp : G p = none) (h : OwnL K B G H a ds) (ne : a ≠ p) : OwnL K B (upd G p o) H a ds := by
  obtain ⟨h1, h2, vs, h5, h6⟩ := h
  exact ⟨h1, by rw [upd_ne ne]; exact h2, vs, h5, dpAll_mono (same_new hp) _ _ h6⟩
theorem set_same {α : Type} {l : List (Option α)} {i : Nat} {x : α} {y : α} (e : (l.set i (some y))[i]? = some (some x)) : y = x := by
  have hlt : i < l.length := by
    have := (List.getElem?_eq_some_iff.mp e).1
    rwa [List.length_set] at this
  rw [List.getElem?_set_self hlt] at e
  cases e; rfl
theorem set_other {α : Type} {l : List (Option α)} {i j : Nat} {x : α} {y : α} (hj : j ≠ i) (e : (l.set i (some y))[j]? = some (some x)) : l[j]? = some (some x) := by
  rwa [List.getElem?_set_ne (Ne.symm hj)] at e
theorem own_growN {K : KF} {B G H : Hp} {p a : Addr} {o : HO} {ds : List PD} (hp : G p = none) (h : OwnN K B G H a ds) (ne : a ≠ p) : OwnN K B (upd G p o) H a ds := by
  obtain ⟨h1, h2, vs, h5, h6, h7⟩ := h
  exact ⟨h1, by rw [upd_ne ne]; exact h2, vs, h5, dpAll_mono (same_new hp) _ _ h6, h7⟩
/-- a slot told anew, by data -/
theorem EnvOk.told {K : KF} {G H : Hp} {σ : L2.St} {i : Nat} {d : PD} {v : V} (E : EnvOk K b G H σ env) (hv : σ[i]?.join = some v) (hd : Dq K G v d) : EnvOk K b G H σ (env.set i (some (.sh d))) := by
  obtain ⟨x, hl, f, h3, h4⟩ := E
  refine ⟨x, by rw [List.length_set]; exact hl, f, fun j r' e => ?_, fun j k r1 r2 n a1 a2 w1 w2 => ?_⟩
  · by_cases hj : j = i
    · subst hj
      cases set_same e
      exact ⟨v, hv, hd⟩
    · exact h3 j r' (set_other hj e)
  · have ne : ∀ {j : Nat} {r1 : RV}, (env.set i (some (.sh d)))[j]? = some (some r1) → r1.owns = true → env[j]? = some (some r1) := fun {j} {r1 : RV} a (w : r1.owns = true) => by
      by_cases hj : j = i
      · subst hj
        cases set_same a; cases w
      · exact set_other hj a
    exact h4 j k r1 r2 n (ne a1 w1) (ne a2 w2) w1 w2
theorem EnvOk.fz {K : KF} {G H : Hp} {σ : L2.St} {i : Nat} (E : EnvOk K b G H σ env) (he : env[i]? = some (some r)) (hr : r.owns = true) : ∃ G', EnvOk K b G' H σ (env.set i (some (.sh r.data))) := by
  obtain ⟨x, hl, f, h3, h4⟩ := E
  have si := h3 i r he
  have main : ∀ vs, H (f i) = some (.lst vs) → G (f i) = none → b.H (f i) = none → (∃ v, σ[i]?.join = some v ∧ Dq K (upd G (f i) (.lst vs)) v r.data) →
      EnvOk K b (upd G (f i) (.lst vs)) H σ (env.set i (some (.sh r.data))) := fun vs e1 e2 e3 hv => by
    have s1 : SameK G (upd G (f i) (.lst vs)) := same_new e2
    have s2 : SameK (upd G (f i) (.lst vs)) H := same_put x.s e1
    refine ⟨⟨x.g.trans s1, x.h, s2, fun p q n => ?_⟩, by rw [List.length_set]; exact hl, f, fun j r' e => ?_, fun j k r1 r2 n a1 a2 w1 w2 => ?_⟩
    · have hp : p ≠ f i := fun z => by subst z; exact n e3
      rw [upd_ne hp]
      exact x.n p q n
    · by_cases hj : j = i
      · subst hj
        cases set_same e
        exact hv
      · have e' := set_other hj e
        have sj := h3 j r' e'
        cases r' with
        | sh d => obtain ⟨v, q1, q2⟩ := sj; exact ⟨v, q1, dp_mono s1 _ _ q2⟩
        | own ds => exact ⟨sj.1, own_grow e2 sj.2 (h4 j i _ _ hj e' he rfl hr)⟩
        | bor ds => exact sj
        | deep d => exact sj
        | box t p ds q =>
          obtain ⟨t, us, ws, q1, q2, q3, q4, o⟩ := sj
          exact ⟨t, us, ws, q1, s1.app q2 boxO_nt, dpAll_mono s1 _ _ q3, dpAll_mono s1 _ _ q4, own_grow e2 o (h4 j i _ _ hj e' he rfl hr)⟩
        | nst ds => exact ⟨sj.1, own_growN e2 sj.2 (h4 j i _ _ hj e' he rfl hr)⟩
        | obj φ => exact ⟨sj.1, sj.2.1, by rw [upd_ne (h4 j i _ _ hj e' he rfl hr)]; exact sj.2.2.1, sj.2.2.2⟩
    · have ne : ∀ {j : Nat} {r1 : RV}, (env.set i (some (.sh r.data)))[j]? = some (some r1) → r1.owns = true → env[j]? = some (some r1) := fun {j} {r1 : RV} a (w : r1.owns = true) => by
        by_cases hj : j = i
        · subst hj
          cases set_same a; cases w
        · exact set_other hj a
      exact h4 j k r1 r2 n (ne a1 w1) (ne a2 w2) w1 w2
  cases r with
  | sh d => cases hr
  | bor ds => cases hr
  | deep d => cases hr
  | own ds =>
    obtain ⟨q0, q1, q2, vs, q3, q4⟩ := si
    exact ⟨_, main vs q3 q2 q1 ⟨_, q0, .lst upd_same (dpAll_mono (same_new q2) _ _ q4)⟩⟩
  | box tp p ds q =>
    obtain ⟨t, us, ws, q0, a1, a2, a3, q1, q2, vs, q3, q4⟩ := si
    have m := same_new (o := .lst vs) q2
    refine ⟨_, main vs q3 q2 q1 ⟨_, q0, ?_⟩⟩
    have hd : DqAll K (upd G (f i) (.lst vs)) (us ++ .ref (f i) :: ws) (p ++ .list ds :: q) := dpAll_app (dpAll_mono m _ _ a2) (.cons (.lst upd_same (dpAll_mono m _ _ q4)) (dpAll_mono m _ _ a3))
    cases tp with
    | true => exact .tup (m.app a1) hd
    | false => exact .lst (m.app a1) hd
  | nst ds =>
    obtain ⟨q0, q1, q2, vs, q3, q4, _⟩ := si
    exact ⟨_, main vs q3 q2 q1 ⟨_, q0, .lst upd_same (dpAll_mono (same_new q2) _ _ q4)⟩⟩
  | obj φ => exact ⟨G, EnvOk.told ⟨x, hl, f, h3, h4⟩ si.1 .opq⟩
theorem bl_fz (i : Nat) (he : env[i]? = some (some r)) (hr : r.owns = true) (h : BlP X b rest (env.set i (some (.sh r.data))) R) : BlP X b rest env R := fun σ G H D E x => by
  obtain ⟨G', E'⟩ := E.fz he hr
  exact h σ G' H D E' x
/-- an own list is changed -/
theorem EnvOk.mut {K : KF} {G H : Hp} {σ : L2.St} {i : Nat} (E : EnvOk K b G H σ env) (he : env[i]? = some (some (.own ds))) : ∃ a vs, σ[i]? = some (some (.ref a)) ∧ H a = some (.lst vs) ∧ DqAll K G vs ds ∧
    ∀ (G' H' : Hp) (vs' : List V) (ds' : List PD), Ext G H G' H' → DqAll K G' vs' ds' → EnvOk K b G' (upd H' a (.lst vs')) σ (env.set i (some (.own ds'))) := by
  obtain ⟨x, hl, f, h3, h4⟩ := E
  obtain ⟨q0, q1, q2, vs, q3, q4⟩ := h3 i _ he
  refine ⟨f i, vs, join_some q0, q3, q4, fun G' H' vs' ds' y hd => ?_⟩
  have g' : G' (f i) = none := y.n _ q2 (by rw [q3]; exact fun z => by cases z)
  have x' := x.trans y
  refine ⟨⟨x'.g, same_mutL x'.h q1 (y.h.app q3), same_mut y.s g', x'.n⟩, by rw [List.length_set]; exact hl, f, fun j r' e => ?_, fun j k r1 r2 n a1 a2 w1 w2 => ?_⟩
  · by_cases hj : j = i
    · subst hj
      cases set_same e
      exact ⟨q0, q1, g', vs', upd_same, hd⟩
    · have e' := set_other hj e
      have sj := (h3 j r' e').ext y
      have keep : ∀ a ds, OwnL K b.H G' H' a ds → a ≠ f i → OwnL K b.H G' (upd H' (f i) (.lst vs')) a ds := fun a ds o hne => by
        obtain ⟨o1, o2, w, o3, o4⟩ := o
        exact ⟨o1, o2, w, by rw [upd_ne hne]; exact o3, o4⟩
      cases r' with
      | sh d => exact sj
      | own ds => exact ⟨sj.1, keep _ _ sj.2 (h4 j i _ _ hj e' he rfl rfl)⟩
      | bor ds => exact sj
      | deep d => exact sj
      | box t p ds q =>
        obtain ⟨t, us, ws, b1, b2, b3, b4, o⟩ := sj
        exact ⟨t, us, ws, b1, b2, b3, b4, keep _ _ o (h4 j i _ _ hj e' he rfl rfl)⟩
      | nst ds =>
        obtain ⟨q, o1, o2, w, o3, o4, o5⟩ := sj
        exact ⟨q, o1, o2, w, by rw [upd_ne (h4 j i _ _ hj e' he rfl rfl)]; exact o3, o4, o5⟩
      | obj φ =>
        obtain ⟨q, o1, o2, w, o3, o4⟩ := sj
        exact ⟨q, o1, o2, w, by rw [upd_ne (h4 j i _ _ hj e' he rfl rfl)]; exact o3, o4⟩
  · have back : ∀ {j : Nat} {r1 : RV}, (env.set i (some (.own ds')))[j]? = some (some r1) → r1.owns = true → ∃ r2 : RV, env[j]? = some (some r2) ∧ r2.owns = true := fun {j r1} a w => by
      by_cases hj : j = i
      · subst hj
        exact ⟨_, he, rfl⟩
      · exact ⟨_, set_other hj a, w⟩
    obtain ⟨s1, c1, c2⟩ := back a1 w1
    obtain ⟨s2, c3, c4⟩ := back a2 w2
    exact h4 j k s1 s2 n c1 c3 c2 c4
theorem EnvOk.mutBox {K : KF} {G H : Hp} {σ : L2.St} {i : Nat} {tp : Bool} {pre post : List PD} (E : EnvOk K b G H σ env) (he : env[i]? = some (some (.box tp pre ds post))) :
    ∃ t a vs us ws, σ[i]? = some (some (.ref t)) ∧ H t = some (boxO tp (us ++ .ref a :: ws)) ∧ DqAll K G us pre ∧ H a = some (.lst vs) ∧ DqAll K G vs ds ∧
    ∀ (G' H' : Hp) (vs' : List V) (ds' : List PD), Ext G H G' H' → DqAll K G' vs' ds' → EnvOk K b G' (upd H' a (.lst vs')) σ (env.set i (some (.box tp pre ds' post))) := by
  obtain ⟨x, hl, f, h3, h4⟩ := E
  obtain ⟨t, us, ws, p0, p1, p2, p3, q1, q2, vs, q3, q4⟩ := h3 i _ he
  refine ⟨t, f i, vs, us, ws, join_some p0, x.s.app p1 boxO_nt, p2, q3, q4, fun G' H' vs' ds' y hd => ?_⟩
  have g' : G' (f i) = none := y.n _ q2 (by rw [q3]; exact fun z => by cases z)
  have x' := x.trans y
  refine ⟨⟨x'.g, same_mutL x'.h q1 (y.h.app q3), same_mut y.s g', x'.n⟩, by rw [List.length_set]; exact hl, f, fun j r' e => ?_, fun j k r1 r2 n a1 a2 w1 w2 => ?_⟩
  · by_cases hj : j = i
    · subst hj
      cases set_same e
      exact ⟨t, us, ws, p0, y.g.app p1 boxO_nt, dpAll_mono y.g _ _ p2, dpAll_mono y.g _ _ p3, q1, g', vs', upd_same, hd⟩
    · have e' := set_other hj e
      have sj := (h3 j r' e').ext y
      have keep : ∀ a ds, OwnL K b.H G' H' a ds → a ≠ f i → OwnL K b.H G' (upd H' (f i) (.lst vs')) a ds := fun a ds o hne => by
        obtain ⟨o1, o2, w, o3, o4⟩ := o
        exact ⟨o1, o2, w, by rw [upd_ne hne]; exact o3, o4⟩
      cases r' with
      | sh d => exact sj
      | own ds => exact ⟨sj.1, keep _ _ sj.2 (h4 j i _ _ hj e' he rfl rfl)⟩
      | bor ds => exact sj
      | deep d => exact sj
      | box t p ds q =>
        obtain ⟨t, us, ws, b1, b2, b3, b4, o⟩ := sj
        exact ⟨t, us, ws, b1, b2, b3, b4, keep _ _ o (h4 j i _ _ hj e' he rfl rfl)⟩
      | nst ds =>
        obtain ⟨q, o1, o2, w, o3, o4, o5⟩ := sj
        exact ⟨q, o1, o2, w, by rw [upd_ne (h4 j i _ _ hj e' he rfl rfl)]; exact o3, o4, o5⟩
      | obj φ =>
        obtain ⟨q, o1, o2, w, o3, o4⟩ := sj
        exact ⟨q, o1, o2, w, by rw [upd_ne (h4 j i _ _ hj e' he rfl rfl)]; exact o3, o4⟩
  · have back : ∀ {j : Nat} {r1 : RV}, (env.set i (some (.box tp pre ds' post)))[j]? = some (some r1) → r1.owns = true → ∃ r2 : RV, env[j]? = some (some r2) ∧ r2.owns = true := fun {j r1} a w => by
      by_cases hj : j = i
      · subst hj
        exact ⟨_, he, rfl⟩
      · exact ⟨_, set_other hj a, w⟩
    obtain ⟨s1, c1, c2⟩ := back a1 w1
    obtain ⟨s2, c3, c4⟩ := back a2 w2
    exact h4 j k s1 s2 n c1 c3 c2 c4
/-! ### names set -/
theorem st_set (i : Nat) {x : Str} {p : Pos} (h : EvP X b e env r) (hr : r.owns = true ∨ ∃ d, r = .sh d) (k : R.nx (env.set i (some r))) (hN : X.N.Nodup) (hi : X.N[i]? = some x := by rfl) (hx : Loc X.env.scope x := by first | exact Or.inl rfl | exact Or.inr rfl)
    (hs : swapsWith e (some (.Name x p)) pos.line X.env = pure false := by rfl) (hf : X.fn x = true ∨ X.env.scope.names.lookup x = some .local := by first | exact .inl rfl | exact .inr rfl) : StP X b (.Assign [.Name x p] e pos) env R := fun σ G H D E y =>
  sem_s (ps_set hN hi hx pe_sem hs hf) (h σ G H _ E fun v G1 H1 z q => y.nx _ _ G1 H1 k (E.put z q hr))
theorem st_setF (i : Nat) {x : Str} {p : Pos} (h : EvS X b e env d) (k : R.nx (env.set i (some (.sh d)))) (hN : X.N.Nodup) (hi : X.N[i]? = some x := by rfl) (hx : Loc X.env.scope x := by first | exact Or.inl rfl | exact Or.inr rfl)
    (hs : swapsWith e (some (.Name x p)) pos.line X.env = pure false := by rfl) (hf : X.fn x = true ∨ X.env.scope.names.lookup x = some .local := by first | exact .inl rfl | exact .inr rfl) : StP X b (.Assign [.Name x p] e pos) env R :=
  st_set i (evP_S h) (.inr ⟨d, rfl⟩) k hN hi hx hs hf
theorem bl_set (i : Nat) {x : Str} {p : Pos} (hN : X.N.Nodup) (h : EvP X b e env r) (k : BlP X b rest (env.set i (some r)) R) (hr : r.owns = true ∨ ∃ d, r = .sh d := by first | exact .inl rfl | exact .inr ⟨_, rfl⟩) (hi : X.N[i]? = some x := by rfl) (hx : Loc X.env.scope x := by first | exact Or.inl rfl | exact Or.inr rfl)
    (hs : swapsWith e (some (.Name x p)) pos.line X.env = pure false := by rfl) (hf : X.fn x = true ∨ X.env.scope.names.lookup x = some .local := by first | exact .inl rfl | exact .inr rfl) : BlP X b (.Assign [.Name x p] e pos :: rest) env R :=
  bl_cons (st_set i h hr k hN hi hx hs hf)
theorem bl_setF (i : Nat) {x : Str} {p : Pos} (hN : X.N.Nodup) (h : EvS X b e env d) (k : BlP X b rest (env.set i (some (.sh d))) R) (hi : X.N[i]? = some x := by rfl) (hx : Loc X.env.scope x := by first | exact Or.inl rfl | exact Or.inr rfl)
    (hs : swapsWith e (some (.Name x p)) pos.line X.env = pure false := by rfl) (hf : X.fn x = true ∨ X.env.scope.names.lookup x = some .local := by first | exact .inl rfl | exact .inr rfl) : BlP X b (.Assign [.Name x p] e pos :: rest) env R :=
  bl_cons (st_setF i h k hN hi hx hs hf)
/-! ### targets -/
def semG (X : Cx) (tg : Expr) : TG := fun v σ H Q => Shut (∀ (pins : List (Addr × Obj)) (s : Shared) (u : Value), Inv X pins σ H s → RelV v u → wpAny (model X.prog X.w) X.A (assign tg X.env u) (fun _ s' => ∃ σ' H', Inv X pins σ' H' s' ∧ Q σ' H') X.xe s)
def semGs (X : Cx) (ts : List Expr) : TGs := fun vs σ H Q => Shut (∀ (pins : List (Addr × Obj)) (s : Shared) (us : List Value), Inv X pins σ H s → Vals vs us → wpAny (model X.prog X.w) X.A (assignInOrder ((assignEach ts X.env).map (·.2)) us) (fun _ s' => ∃ σ' H', Inv X pins σ' H' s' ∧ Q σ' H') X.xe s)
theorem pg_sem {tg : Expr} : PG X tg (semG X tg) := ⟨fun pins s _ _ _ u _ I r h => h.out pins s u I r⟩
theorem pgs_sem {ts : List Expr} : PGs X ts (semGs X ts) := ⟨fun pins s _ _ _ us _ I r h => h.out pins s us I r⟩
theorem sem_g {tg : Expr} {t : TG} {v : V} {σ : L2.St} {H : Hp} {Q : L2.St → Hp → Prop} (h : PG X tg t) (q : t v σ H Q) : semG X tg v σ H Q := ⟨fun pins s u I r => h.run pins s σ H v u Q I r q⟩
theorem sem_gs {ts : List Expr} {t : TGs} {vs : List V} {σ : L2.St} {H : Hp} {Q : L2.St → Hp → Prop} (h : PGs X ts t) (q : t vs σ H Q) : semGs X ts vs σ H Q := ⟨fun pins s us I r => h.run pins s σ H vs us Q I r q⟩
def TgP (X : Cx) (b : Bs) (tg : Expr) (d : PD) (env env' : PEnv) : Prop := ∀ (σ : L2.St) (G H : Hp) (v : V) (Q : L2.St → Hp → Prop), EnvOk X.K b G H σ env → Dq X.K G v d → (∀ σ', EnvOk X.K b G H σ' env' → Q σ' H) → semG X tg v σ H Q
def TgsP (X : Cx) (b : Bs) (ts : List Expr) (ds : List PD) (env env' : PEnv) : Prop := ∀ (σ : L2.St) (G H : Hp) (vs : List V) (Q : L2.St → Hp → Prop), EnvOk X.K b G H σ env → DqAll X.K G vs ds → (∀ σ', EnvOk X.K b G H σ' env' → Q σ' H) → semGs X ts vs σ H Q
theorem tg_name (i : Nat) {x : Str} (hN : X.N.Nodup) (hi : X.N[i]? = some x := by rfl) (hx : Loc X.env.scope x := by first | exact Or.inl rfl | exact Or.inr rfl)
    (hf : X.fn x = true ∨ X.env.scope.names.lookup x = some .local := by first | exact .inl rfl | exact .inr rfl) : TgP X b (.Name x pos) d env (env.set i (some (.sh d))) := fun σ G H v Q E q k =>
  sem_g (pg_name hN hi hx hf) (k _ (E.put (Ext.refl E.x.s) (r := .sh d) q (.inr ⟨d, rfl⟩)))
theorem tgs_nil : TgsP X b [] [] env env := fun σ G H vs Q E q k => sem_gs pgs_nil ⟨by cases q; rfl, k σ E⟩
theorem tgs_cons {t : Expr} {ts : List Expr} {env1 : PEnv} (h : TgP X b t d env env1) (hr : TgsP X b ts ds env1 env') (hs : (assignEach (t :: ts) X.env).map (·.2) = assign t X.env :: (assignEach ts X.env).map (·.2) := by rfl) : TgsP X b (t :: ts) (d :: ds) env env' := fun σ G H vs Q E q k => by
  cases q with
  | cons q1 q2 => exact sem_gs (pgs_cons pg_sem pgs_sem hs) ⟨_, _, rfl, h σ G H _ _ E q1 fun σ1 E1 => hr σ1 G H _ Q E1 q2 k⟩
theorem tg_tup {ts : List Expr} {j : Nat} (hc : X.calm = true) (h : TgsP X b ts ds env env') (hn : (assignEach ts X.env).length = ds.length := by rfl) (hst : (assignEach ts X.env).findIdx? (·.1) = none := by rfl) : TgP X b (.Tuple ts j pos) (.tuple ds) env env' := fun σ G H v Q E q k => by
  obtain ⟨a, xs, rfl, h1, h2⟩ := dp_tuple q
  exact sem_g (pg_tup hc pgs_sem hn hst) ⟨a, xs, rfl, SqT.of (E.x.s.app h1), dpAll_len h2, h σ G H xs Q E h2 k⟩
theorem bl_unp {tg : Expr} (h : EvS X b e env d) (hg : TgP X b tg d env env') (k : BlP X b rest env' R) (hs : swapsWithSole [tg] e pos.line X.env = pure false := by rfl) (hw : swappedStores [tg] e X.env = pure none := by rfl)
    (h1 : (assignEach [tg] X.env).map (·.2) = [assign tg X.env] := by rfl) : BlP X b (.Assign [tg] e pos :: rest) env R := bl_cons fun σ G H D E y =>
  sem_s (ps_asg pe_sem pg_sem hs hw h1) (h σ G H _ E fun v G1 H1 z q => hg σ G1 H1 v _ (E.ext z) q fun σ' E' => y.nx _ _ G1 H1 k E')
/-- xs[i] = e, xs a list of one's own -/
theorem bl_setix (i : Nat) {x : Str} {p p2 : Pos} {n : Int} {m : Nat} (he : env[i]? = some (some (.own ds))) (h : EvS X b e env d) (hi : EvP X b e2 env (.sh (.int n))) (hm : ixN ds.length n = some m) (k : BlP X b rest (env.set i (some (.own (ds.set m d)))) R) (hN : X.N[i]? = some x := by rfl)
    (hv : Vis X.env.scope x := by first | exact Or.inl rfl | exact Or.inr (Or.inl rfl) | exact Or.inr (Or.inr rfl)) (hd : (x == ("__debug__" : Str)) = false := by decide) (hcd : (x == ("__classdict__" : Str)) = false := by decide)
    (hs : swapsWithSole [.Subscript (.Name x p) e2 p2] e pos.line X.env = pure false := by rfl) (hw : swappedStores [.Subscript (.Name x p) e2 p2] e X.env = pure none := by rfl)
    (h1 : (assignEach [.Subscript (.Name x p) e2 p2] X.env).map (·.2) = [assign (.Subscript (.Name x p) e2 p2) X.env] := by rfl)
    (ha : ∀ v, assign (.Subscript (.Name x p) e2 p2) X.env v = (do
      let ov ← holding [v] (eval (.Name x p) X.env)
      let iv ← holding [v, ov] (eval e2 X.env)
      standAt p2
      holding [v, ov, iv] (setItem ov iv v)
      release [v, ov, iv] []) := by intro _; rfl) : BlP X b (.Assign [.Subscript (.Name x p) e2 p2] e pos :: rest) env R := bl_cons fun σ G H D E y => by
  refine sem_s (ps_asg pe_sem (pg_sub (pe_var hN hv hd hcd) pe_sem set_list ha) hs hw h1) (h σ G H _ E fun v G1 H1 z q => ?_)
  obtain ⟨a, vs, q1, q2, q3, q4⟩ := (E.ext z).mut he
  refine ⟨_, q1, hi σ G1 H1 _ (E.ext z) fun w G2 H2 z2 w2 => ⟨a, vs, n, m, rfl, dp_int w2, z2.h.app q2, by rw [dpAll_len q3]; exact hm, ?_⟩⟩
  exact y.nx _ _ G2 _ k (q4 G2 H2 _ _ z2 (dpAll_set m (dpAll_mono z2.g _ _ q3) (dp_mono z2.g _ _ q)))
/-! ### methods of a list of one's own -/
section
variable {c : Expr} {es : List Expr} {i : Nat} {id : String}
theorem small_lt {n : Nat} (h : n ≤ 1000000) : n < sizeLine := Nat.lt_of_le_of_lt h (by decide)
theorem bl_append (hp : PE X c (tBM X.K "list" rAppend (tVar i) (semA X es))) (he : env[i]? = some (some (.own ds))) (h : ArS X b es env [d]) (hl : ds.length ≤ 1000000) (k : BlP X b rest (env.set i (some (.own (ds ++ [d])))) R)
    (hs : swapsWith c none pos.line X.env = pure false := by rfl) : BlP X b (.Expr c pos :: rest) env R := bl_cons fun σ G H D E y => by
  refine sem_s (ps_expr hp hs) ?_
  obtain ⟨a, vs, q1, q2, q3, q4⟩ := E.mut he
  refine ⟨_, q1, .inl ⟨rfl, _, SqL.of q2⟩, h σ G H _ E fun ws G1 H1 z q => ?_⟩
  cases q with
  | cons q5 q6 =>
    cases q6
    exact ⟨a, vs, _, rfl, rfl, z.h.app q2, small_lt (by rw [dpAll_len q3]; exact hl), y.nx _ _ G1 _ k (q4 G1 H1 _ _ z (dpAll_app (dpAll_mono z.g _ _ q3) (dpAll_one q5)))⟩
theorem bl_appendBox {tp : Bool} {pre post : List PD} {te : TE} (hp : PE X c (tBM X.K "list" rAppend te (semA X es))) (he : env[i]? = some (some (.box tp pre ds post)))
    (hte : ∀ (σ : L2.St) (H : Hp) (Q : VK) (t a : Addr) (us ws : List V), us.length = pre.length → σ[i]? = some (some (.ref t)) → H t = some (boxO tp (us ++ .ref a :: ws)) → Q (.ref a) H → te σ H Q) (h : ArS X b es env [d]) (hl : ds.length ≤ 1000000)
    (k : BlP X b rest (env.set i (some (.box tp pre (ds ++ [d]) post))) R) (hs : swapsWith c none pos.line X.env = pure false := by rfl) : BlP X b (.Expr c pos :: rest) env R := bl_cons fun σ G H D E y => by
  refine sem_s (ps_expr hp hs) ?_
  obtain ⟨t, a, vs, us, ws, q1, q2, q2', q3, q5, q4⟩ := E.mutBox he
  refine hte σ H _ t a us ws (dpAll_len q2') q1 q2 ⟨.inl ⟨rfl, _, SqL.of q3⟩, h σ G H _ E fun xs G1 H1 z q => ?_⟩
  cases q with
  | cons q7 q6 =>
    cases q6
    exact ⟨a, vs, _, rfl, rfl, z.h.app q3, small_lt (by rw [dpAll_len q5]; exact hl), y.nx _ _ G1 _ k (q4 G1 H1 _ _ z (dpAll_app (dpAll_mono z.g _ _ q5) (dpAll_one q7)))⟩
theorem bl_extend {es2 : List PD} (hp : PE X c (tBM X.K "list" rExtend (tVar i) (semA X es))) (he : env[i]? = some (some (.own ds))) (h : ArP X b es env [.own es2]) (hl : ds.length + es2.length ≤ 1000000) (k : BlP X b rest (env.set i (some (.own (ds ++ es2)))) R)
    (hs : swapsWith c none pos.line X.env = pure false := by rfl) : BlP X b (.Expr c pos :: rest) env R := bl_cons fun σ G H D E y => by
  refine sem_s (ps_expr hp hs) ?_
  obtain ⟨a, vs, q1, q2, q3, q4⟩ := E.mut he
  refine ⟨_, q1, .inl ⟨rfl, _, SqL.of q2⟩, h σ G H _ E fun ws G1 H1 z q => ?_⟩
  match ws, q with
  | [w], q =>
    obtain ⟨⟨B, a2, rfl, _, _, vs2, w1, w2⟩, _⟩ := q
    exact ⟨a, a2, vs, vs2, rfl, rfl, z.h.app q2, w1, small_line (by rw [dpAll_len q3, dpAll_len w2]; exact hl), y.nx _ _ G1 _ k (q4 G1 H1 _ _ z (dpAll_app (dpAll_mono z.g _ _ q3) w2))⟩
theorem bl_clear (hp : PE X c (tBM0 X.K "list" rClear (tVar i))) (he : env[i]? = some (some (.own ds))) (k : BlP X b rest (env.set i (some (.own []))) R)
    (hs : swapsWith c none pos.line X.env = pure false := by rfl) : BlP X b (.Expr c pos :: rest) env R := bl_cons fun σ G H D E y => by
  refine sem_s (ps_expr hp hs) ?_
  obtain ⟨a, vs, q1, q2, q3, q4⟩ := E.mut he
  exact ⟨_, q1, .inl ⟨rfl, _, SqL.of q2⟩, a, vs, rfl, rfl, q2, y.nx _ _ G _ k (q4 G H _ _ (Ext.refl E.x.s) .nil)⟩
end
/-! ### an expression dropped, if, return -/
theorem bl_expr (h : EvP X b e env r) (k : BlP X b rest env R) (hs : swapsWith e none pos.line X.env = pure false := by rfl) : BlP X b (.Expr e pos :: rest) env R := bl_cons fun σ G H D E y =>
  sem_s (ps_expr pe_sem hs) (h σ G H _ E fun v G1 H1 z q => y.nx _ _ G1 H1 k (E.ext z))
theorem bl_if (hc : TsP X b e env k) (h1 : k = true → BlP X b bA env { R with nx := fun env' => BlP X b rest env' R }) (h2 : k = false → BlP X b bB env { R with nx := fun env' => BlP X b rest env' R }) : BlP X b (.If e bA bB pos :: rest) env R := bl_cons fun σ G H D E y =>
  sem_s (ps_if pt_sem pb_sem pb_sem) (hc σ G H _ E fun G1 H1 z => by
    cases k with
    | true => rw [if_pos rfl]; exact h1 rfl σ G1 H1 D (E.ext z) y
    | false => rw [if_neg Bool.false_ne_true]; exact h2 rfl σ G1 H1 D (E.ext z) y)
/-- an if that stores nothing, or a way that is out -/
theorem bl_pass (k : BlP X b rest env R) : BlP X b (.Pass pos :: rest) env R := bl_cons fun σ G H D E y => sem_s ps_pass (y.nx _ _ G H k E)
theorem bl_never (h : False) : BlP X b rest env R := h.elim
theorem bl_ret (h : EvP X b e env r) (k : R.rt r) : BlP X b (.Return (some e) pos :: rest) env R := bl_cons fun σ G H D E y =>
  sem_s (ps_ret pe_sem) (h σ G H _ E fun v G1 H1 z q => y.rt r v G1 H1 k (E.x.trans z) (q.base E.x.h))
/-- what stands in a slot is handed back, one's own too -/
theorem bl_retV (i : Nat) {x : Str} {p : Pos} (he : env[i]? = some (some r)) (k : R.rt r) (hN : X.N[i]? = some x := by rfl) (hv : Vis X.env.scope x := by first | exact Or.inl rfl | exact Or.inr (Or.inl rfl) | exact Or.inr (Or.inr rfl))
    (hd : (x == ("__debug__" : Str)) = false := by decide) (hcd : (x == ("__classdict__" : Str)) = false := by decide) : BlP X b (.Return (some (.Name x p)) pos :: rest) env R := bl_cons fun σ G H D E y => by
  obtain ⟨v, e1, q⟩ := E.get he
  exact sem_s (ps_ret (pe_var hN hv hd hcd)) ⟨v, e1, y.rt r v G H k E.x q⟩
theorem bl_retN (k : R.rt (.sh .none)) : BlP X b (.Return none pos :: rest) env R := bl_cons fun σ G H D E y => sem_s ps_retN (y.rt _ _ G H k E.x .non)
/-! ### loops -/
def semI (X : Cx) (tg iter : Expr) : TI := fun σ H R => Shut (∀ (pins : List (Addr × Obj)) (s : Shared), Inv X pins σ H s → wpAny (model X.prog X.w) X.A (eval iter X.env) (fun v s1 => wpAny (model X.prog X.w) X.A (pyIter v) (PIE X pins σ tg R) X.xe s1) X.xe s)
theorem pi_sem {tg iter : Expr} : PI X tg iter (semI X tg iter) := ⟨fun pins s _ _ _ I h => h.out pins s I⟩
theorem sem_i {tg iter : Expr} {t : TI} {σ : L2.St} {H : Hp} {Q : It → Hp → Prop} (h : PI X tg iter t) (q : t σ H Q) : semI X tg iter σ H Q := ⟨fun pins s I => h.run pins s σ H Q I q⟩
def WalkOk (K : KF) (J : It) (ds : List PD) (G1 : Hp) : Prop := ∀ (i : Nat) (G H : Hp), SameK G1 G → SameK G H →
  (∀ d, ds[i]? = some d → J.go i H ∧ ∀ x H', J.yld i H x H' → ∃ G', Ext G H G' H' ∧ Dq K G' x d) ∧ (ds.length ≤ i → J.stop i H)
def ItP (X : Cx) (b : Bs) (tg iter : Expr) (env : PEnv) (ds : List PD) : Prop := ∀ (σ : L2.St) (G H : Hp) (Q : It → Hp → Prop), EnvOk X.K b G H σ env → (∀ J G1 H1, Ext G H G1 H1 → WalkOk X.K J ds G1 → Q J H1) → semI X tg iter σ H Q
theorem it_list {tg : Expr} (h : EvS X b e env (.list ds)) : ItP X b tg e env ds := fun σ G H Q E k => by
  refine sem_i (pi_list pe_sem) (h σ G H _ E fun v G1 H1 z q => ?_)
  obtain ⟨a, xs, rfl, h1, h2⟩ := dp_list q
  refine ⟨a, rfl, ⟨xs, SqL.of (z.s.app h1)⟩, k _ G1 H1 z fun i G2 H2 s1 s2 => ⟨fun d hd => ?_, fun hi => ⟨xs, SqL.of ((s1.trans s2).app h1), by rw [dpAll_len h2]; exact hi⟩⟩⟩
  obtain ⟨w, w1, w2⟩ := dpAll_get h2 hd
  refine ⟨⟨xs, w, SqL.of ((s1.trans s2).app h1), w1⟩, fun x H' y => ?_⟩
  obtain ⟨rfl, y⟩ := y
  have := y xs (SqL.of ((s1.trans s2).app h1))
  rw [w1] at this; cases this
  exact ⟨G2, Ext.refl s2, dp_mono s1 _ _ w2⟩
theorem it_tup {tg : Expr} (h : EvS X b e env (.tuple ds)) : ItP X b tg e env ds := fun σ G H Q E k => by
  refine sem_i (pi_tup pe_sem) (h σ G H _ E fun v G1 H1 z q => ?_)
  obtain ⟨a, xs, rfl, h1, h2⟩ := dp_tuple q
  refine ⟨a, rfl, ⟨xs, SqT.of (z.s.app h1)⟩, k _ G1 H1 z fun i G2 H2 s1 s2 => ⟨fun d hd => ?_, fun hi => ⟨xs, SqT.of ((s1.trans s2).app h1), by rw [dpAll_len h2]; exact hi⟩⟩⟩
  obtain ⟨w, w1, w2⟩ := dpAll_get h2 hd
  refine ⟨⟨xs, w, SqT.of ((s1.trans s2).app h1), w1⟩, fun x H' y => ?_⟩
  obtain ⟨rfl, y⟩ := y
  have := y xs (SqT.of ((s1.trans s2).app h1))
  rw [w1] at this; cases this
  exact ⟨G2, Ext.refl s2, dp_mono s1 _ _ w2⟩
def rangeD (lo : Int) (n : Nat) : List PD := (List.range n).map fun (i : Nat) => .int (lo + (i : Int))
theorem rangeD_get {lo : Int} {n i : Nat} {d : PD} (h : (rangeD lo n)[i]? = some d) : i < n ∧ d = .int (lo + (i : Int)) := by
  unfold rangeD at h
  rw [List.getElem?_map] at h
  by_cases hi : i < n
  · rw [List.getElem?_range hi] at h
    cases h
    exact ⟨hi, rfl⟩
  · rw [List.getElem?_eq_none (by simpa using hi)] at h
    cases h
theorem rangeD_len {lo : Int} {n : Nat} : (rangeD lo n).length = n := by simp [rangeD]
theorem walk_range {K : KF} {lo : Int} {n : Nat} {G1 : Hp} : WalkOk K (Itr lo n) (rangeD lo n) G1 := fun i G H s1 s2 => ⟨fun d hd => by
  obtain ⟨h1, h2⟩ := rangeD_get hd
  refine ⟨h1, fun x H' y => ?_⟩
  obtain ⟨rfl, rfl⟩ := y
  exact ⟨G, Ext.refl s2, by rw [h2]; exact .int _⟩, fun hi => by rw [rangeD_len] at hi; exact hi⟩
theorem it_range1 {tg : Expr} {p : Pos} {j : Int} (hm : X.mg "range" = none) (ha : ArP X b [e] env [.sh (.int j)]) (h1 : -(2 ^ 62) ≤ j) (h2 : j < 2 ^ 62) (hg : Gl X "range" := by rfl) (hs : starEach [e] X.env = [(false, eval e X.env)] := by rfl) :
    ItP X b tg (.Call (.Name "range" p) [e] [] pos) env (rangeD 0 j.toNat) := fun σ G H Q E k => by
  refine sem_i (pi_range1 hg hm pa_sem hs) (ha σ G H _ E fun vs G1 H1 z q => ?_)
  match vs, q with
  | [v], q =>
    obtain ⟨⟨B, q⟩, _⟩ := q
    exact ⟨j, by rw [dp_int q], h1, h2, k _ G1 H1 z walk_range⟩
theorem it_range2 {tg : Expr} {p : Pos} {i j : Int} (hm : X.mg "range" = none) (ha : ArP X b [e1, e2] env [.sh (.int i), .sh (.int j)]) (h1 : -(2 ^ 62) ≤ i ∧ i < 2 ^ 62 ∧ -(2 ^ 62) ≤ j ∧ j < 2 ^ 62) (hg : Gl X "range" := by rfl)
    (hs : starEach [e1, e2] X.env = [(false, eval e1 X.env), (false, eval e2 X.env)] := by rfl) (hs2 : starEach [e2] X.env = [(false, eval e2 X.env)] := by rfl) : ItP X b tg (.Call (.Name "range" p) [e1, e2] [] pos) env (rangeD i (j - i).toNat) := fun σ G H Q E k => by
  refine sem_i (pi_range2 hg hm pa_sem hs hs2) (ha σ G H _ E fun vs G1 H1 z q => ?_)
  match vs, q with
  | [v, w], q =>
    obtain ⟨⟨B, q1⟩, ⟨B2, q2⟩, _⟩ := q
    exact ⟨i, j, by rw [dp_int q1, dp_int q2], h1, k _ G1 H1 z walk_range⟩
/-- the frozen base moved on -/
theorem EnvOk.rebase {K : KF} {G0 G H : Hp} {σ : L2.St} (E : EnvOk K b G H σ env) (s0 : SameK b.G G0) (s : SameK G0 G) : EnvOk K ⟨G0, b.H⟩ G H σ env :=
  ⟨⟨s, E.x.h, E.x.s, fun p e n => E.x.n p (s0.free e) n⟩, E.len, E.slots⟩
theorem EnvOk.unbase {K : KF} {G0 G H : Hp} {σ : L2.St} (E : EnvOk K ⟨G0, b.H⟩ G H σ env) (s0 : SameK b.G G0) (hn : ∀ p, b.G p = none → b.H p ≠ none → G0 p = none) : EnvOk K b G H σ env :=
  ⟨⟨s0.trans E.x.g, E.x.h, E.x.s, fun p e n => E.x.n p (hn p e n) n⟩, E.len, E.slots⟩
theorem bl_for {tg iter : Expr} {body : List Stmt} (hp : PassesOwn (model X.prog X.w) X.A X.env X.xe) (hc : X.calm = true) (hi : ItP X b tg iter env ds) (I : Nat → PEnv → Prop) (h0 : I 0 env)
    (hs : ∀ (Gb : Hp) (i : Nat) (d : PD) (env1 : PEnv), ds[i]? = some d → I i env1 → ∃ env2, TgP X ⟨Gb, b.H⟩ tg d env1 env2 ∧ BlP X ⟨Gb, b.H⟩ body env2 { nx := I (i + 1), ct := I (i + 1), bk := fun env' => BlP X b rest env' R, rt := R.rt }) (hd : ∀ env1, I ds.length env1 → BlP X b rest env1 R)
    (hf : ∀ x, foldedSetIterable iter X.env x = pure x := by intro _; rfl) : BlP X b (.For tg iter body [] pos :: rest) env R := bl_cons fun σ G H D E y => by
  refine sem_s (ps_for hp hc pi_sem pg_sem pb_sem hf) (hi σ G H _ E fun J G1 H1 z w => ?_)
  have s0 : SameK b.G G1 := E.x.g.trans z.g
  have hn : ∀ p, b.G p = none → b.H p ≠ none → G1 p = none := (E.x.trans z).n
  refine ⟨fun i m σ H => ∃ (G2 : Hp) (env1 : PEnv), m = ds.length - i ∧ i ≤ ds.length ∧ EnvOk X.K ⟨G1, b.H⟩ G2 H σ env1 ∧ I i env1, ⟨_, G1, env, rfl, Nat.zero_le _, (E.ext z).rebase s0 (SameK.refl _), h0⟩, ?_⟩
  rintro i m σ2 H2 ⟨G2, env1, rfl, hle, E2, hI⟩
  obtain ⟨w1, w2⟩ := w i G2 H2 E2.x.g E2.x.s
  by_cases hlt : i < ds.length
  · obtain ⟨g1, g2⟩ := w1 _ (List.getElem?_eq_getElem hlt)
    refine .inr ⟨g1, fun σ' H' => ∃ (G3 : Hp) (env3 : PEnv), EnvOk X.K ⟨G1, b.H⟩ G3 H' σ' env3 ∧ I (i + 1) env3, fun σ' H' ⟨G3, env3, E3, I3⟩ => ⟨ds.length - (i + 1), by omega, G3, env3, rfl, hlt, E3, I3⟩, fun x H' yx => ?_⟩
    obtain ⟨G3, x3, q3⟩ := g2 x H' yx
    obtain ⟨env2, t1, t2⟩ := hs G1 i _ env1 (List.getElem?_eq_getElem hlt) hI
    refine t1 σ2 G3 H' x _ (E2.ext x3) q3 fun σ4 E4 => ?_
    refine t2 σ4 G3 H' _ E4 ⟨fun env5 σ5 G5 H5 q5 E5 => ⟨G5, env5, E5, q5⟩, fun r v G5 H5 q5 x5 r5 => y.rt r v G5 H5 q5 ⟨s0.trans x5.g, x5.h, x5.s, fun p e n => x5.n p (hn p e n) n⟩ r5, fun env5 σ5 G5 H5 q5 E5 => y.nx env5 σ5 G5 H5 q5 (E5.unbase s0 hn), fun env5 σ5 G5 H5 q5 E5 => ⟨G5, env5, E5, q5⟩⟩
  · have e : i = ds.length := by omega
    subst e
    exact .inl ⟨w2 (Nat.le_refl _), y.nx _ _ G2 H2 (hd env1 hI) (E2.unbase s0 hn)⟩
/-- while: I by a measure -/
theorem bl_while {body : List Stmt} (hp : PassesOwn (model X.prog X.w) X.A X.env X.xe) (I : Nat → PEnv → Prop) (m0 : Nat) (h0 : I m0 env)
    (hs : ∀ (m : Nat) (env1 : PEnv), I m env1 → ∃ k, TsP X b e env1 k ∧ (k = true → BlP X b body env1 { nx := fun env2 => ∃ m', m' < m ∧ I m' env2, ct := fun env2 => ∃ m', m' < m ∧ I m' env2, bk := fun env' => BlP X b rest env' R, rt := R.rt }) ∧ (k = false → BlP X b rest env1 R)) :
    BlP X b (.While e body [] pos :: rest) env R := bl_cons fun σ G H D E y => by
  refine sem_s (ps_while hp pt_sem pb_sem) ⟨fun m σ H => ∃ (G2 : Hp) (env1 : PEnv), EnvOk X.K b G2 H σ env1 ∧ I m env1, ⟨m0, G, env, E, h0⟩, ?_⟩
  rintro m σ2 H2 ⟨G2, env1, E2, hI⟩
  obtain ⟨k, h1, h2, h3⟩ := hs m env1 hI
  refine h1 σ2 G2 H2 _ E2 fun G3 H3 x3 => ?_
  cases k with
  | true =>
    rw [if_pos rfl]
    refine ⟨fun σ' H' => ∃ (G4 : Hp) (env2 : PEnv), EnvOk X.K b G4 H' σ' env2 ∧ ∃ m', m' < m ∧ I m' env2, fun σ' H' ⟨G4, env2, E4, m', l, i⟩ => ⟨m', l, G4, env2, E4, i⟩, ?_⟩
    exact h2 rfl σ2 G3 H3 _ (E2.ext x3) ⟨fun env5 σ5 G5 H5 q5 E5 => ⟨G5, env5, E5, q5⟩, y.rt, fun env5 σ5 G5 H5 q5 E5 => y.nx env5 σ5 G5 H5 q5 E5, fun env5 σ5 G5 H5 q5 E5 => ⟨G5, env5, E5, q5⟩⟩
  | false =>
    rw [if_neg Bool.false_ne_true]
    exact y.nx env1 σ2 G3 H3 (h3 rfl) (E2.ext x3)
end
/-! ### comprehensions -/
section
variable {X : Cx} {b : Bs} {env : PEnv}
def wipeP (env : PEnv) : List Nat → PEnv
  | [] => env
  | v :: vs => (wipeP env vs).set v none
theorem EnvOk.wipe1 {K : KF} {G H : Hp} {σ : L2.St} (E : EnvOk K b G H σ env) (i : Nat) : EnvOk K b G H (σ.set i none) (env.set i none) := by
  obtain ⟨x, hl, f, h3, h4⟩ := E
  have back : ∀ {j : Nat} {r : RV}, (env.set i none)[j]? = some (some r) → j ≠ i ∧ env[j]? = some (some r) := fun {j} {r} e => by
    by_cases hj : j = i
    · subst hj
      have hlt : j < env.length := by
        have := (List.getElem?_eq_some_iff.mp e).1
        rwa [List.length_set] at this
      rw [List.getElem?_set_self hlt] at e
      cases e
    · exact ⟨hj, by rwa [List.getElem?_set_ne (Ne.symm hj)] at e⟩
  refine ⟨x, by rw [List.length_set, List.length_set]; exact hl, f, fun j r e => ?_, fun j k r1 r2 n a1 a2 => h4 j k r1 r2 n (back a1).2 (back a2).2⟩
  obtain ⟨h1, h2⟩ := back e
  rw [List.getElem?_set_ne (Ne.symm h1)]
  exact h3 j r h2
theorem EnvOk.wipe {K : KF} {G H : Hp} {σ : L2.St} (E : EnvOk K b G H σ env) : ∀ vs : List Nat, EnvOk K b G H (wipe σ vs) (wipeP env vs)
  | [] => E
  | v :: vs => (EnvOk.wipe E vs).wipe1 v
theorem wipe_set {σ : L2.St} {j : Nat} {v : Option V} : ∀ {vs : List Nat}, j ∈ vs → wipe (σ.set j v) vs = wipe σ vs
  | [], h => by cases h
  | w :: ws, h => by
    unfold wipe
    by_cases hj : j ∈ ws
    · rw [wipe_set hj]
    · have e : j = w := by
        rcases List.mem_cons.mp h with z | z
        · exact z
        · exact absurd z hj
      subst e
      have : ∀ (us : List Nat) (τ : L2.St), j ∉ us → wipe (τ.set j v) us = (wipe τ us).set j v := by
        intro us
        induction us with
        | nil => intro τ _; rfl
        | cons u us ih =>
          intro τ hn
          have n1 : j ≠ u := fun z => hn (by rw [z]; exact List.mem_cons_self)
          have n2 : j ∉ us := fun z => hn (List.mem_cons_of_mem _ z)
          show (wipe (τ.set j v) us).set u none = ((wipe τ us).set u none).set j v
          rw [ih τ n2, List.set_comm _ _ n1]
      rw [this ws σ hj, List.set_set]
theorem wipe_wipe {σ : L2.St} {vs : List Nat} : ∀ {us : List Nat}, (∀ u ∈ us, u ∈ vs) → wipe (wipe σ us) vs = wipe σ vs
  | [], _ => rfl
  | u :: us, h => by
    show wipe ((wipe σ us).set u none) vs = wipe σ vs
    rw [wipe_set (h u List.mem_cons_self), wipe_wipe fun v hv => h v (List.mem_cons_of_mem _ hv)]
/-- what a target stores lies within vs -/
def TgW (X : Cx) (b : Bs) (tg : Expr) (vs : List Nat) (d : PD) (env env' : PEnv) : Prop := ∀ (σ : L2.St) (G H : Hp) (v : V) (Q : L2.St → Hp → Prop), EnvOk X.K b G H σ env → Dq X.K G v d → (∀ σ', EnvOk X.K b G H σ' env' → wipe σ' vs = wipe σ vs → Q σ' H) → semG X tg v σ H Q
def TgsW (X : Cx) (b : Bs) (ts : List Expr) (vs : List Nat) (ds : List PD) (env env' : PEnv) : Prop := ∀ (σ : L2.St) (G H : Hp) (us : List V) (Q : L2.St → Hp → Prop), EnvOk X.K b G H σ env → DqAll X.K G us ds → (∀ σ', EnvOk X.K b G H σ' env' → wipe σ' vs = wipe σ vs → Q σ' H) → semGs X ts us σ H Q
variable {d : PD} {ds : List PD} {pos : Pos} {env' : PEnv} {vs : List Nat}
theorem tw_name (i : Nat) {x : Str} (hN : X.N.Nodup) (hv : i ∈ vs := by decide) (hi : X.N[i]? = some x := by rfl) (hx : Loc X.env.scope x := by first | exact Or.inl rfl | exact Or.inr rfl)
    (hf : X.fn x = true ∨ X.env.scope.names.lookup x = some .local := by first | exact .inl rfl | exact .inr rfl) : TgW X b (.Name x pos) vs d env (env.set i (some (.sh d))) := fun σ G H v Q E q k =>
  sem_g (pg_name hN hi hx hf) (k _ (E.put (Ext.refl E.x.s) (r := .sh d) q (.inr ⟨d, rfl⟩)) (wipe_set hv))
theorem tws_nil : TgsW X b [] vs [] env env := fun σ G H us Q E q k => sem_gs pgs_nil ⟨by cases q; rfl, k σ E rfl⟩
theorem tws_cons {t : Expr} {ts : List Expr} {env1 : PEnv} (h : TgW X b t vs d env env1) (hr : TgsW X b ts vs ds env1 env') (hs : (assignEach (t :: ts) X.env).map (·.2) = assign t X.env :: (assignEach ts X.env).map (·.2) := by rfl) : TgsW X b (t :: ts) vs (d :: ds) env env' := fun σ G H us Q E q k => by
  cases q with
  | cons q1 q2 => exact sem_gs (pgs_cons pg_sem pgs_sem hs) ⟨_, _, rfl, h σ G H _ _ E q1 fun σ1 E1 w1 => hr σ1 G H _ Q E1 q2 fun σ2 E2 w2 => k σ2 E2 (w2.trans w1)⟩
theorem tw_tup {ts : List Expr} {j : Nat} (hc : X.calm = true) (h : TgsW X b ts vs ds env env') (hn : (assignEach ts X.env).length = ds.length := by rfl) (hst : (assignEach ts X.env).findIdx? (·.1) = none := by rfl) : TgW X b (.Tuple ts j pos) vs (.tuple ds) env env' := fun σ G H v Q E q k => by
  obtain ⟨a, xs, rfl, h1, h2⟩ := dp_tuple q
  exact sem_g (pg_tup hc pgs_sem hn hst) ⟨a, xs, rfl, SqT.of (E.x.s.app h1), dpAll_len h2, h σ G H xs Q E h2 k⟩
/-- a clause's tests -/
def semTs (X : Cx) (ifs : List Expr) : TT := fun σ H Q => Shut (∀ (pins : List (Addr × Obj)) (s : Shared), Inv X pins σ H s →
  wpAny (model X.prog X.w) X.A (forIn ifs true fun c r => if r = true then do let ok ← isTrue c X.env (eval c X.env); pure (ForInStep.yield ok) else pure (ForInStep.yield r)) (TP X pins σ Q) X.xe s)
def TssP (X : Cx) (b : Bs) (ifs : List Expr) (env : PEnv) (k : Bool) : Prop := ∀ (σ : L2.St) (G H : Hp) (Q : Bool → Hp → Prop), EnvOk X.K b G H σ env → (∀ G' H', Ext G H G' H' → Q k H') → semTs X ifs σ H Q
theorem tss_nil : TssP X b [] env true := fun σ G H Q E k => ⟨fun pins s I => pts_nil.run pins s σ H Q I (k G H (Ext.refl E.x.s))⟩
theorem tss_one {c : Expr} {k : Bool} (h : TsP X b c env k) : TssP X b [c] env k := fun σ G H Q E kk => ⟨fun pins s I => (pts_one pt_sem).run pins s σ H Q I (h σ G H Q E kk)⟩
/-- the weakest readings in every block -/
abbrev blkX (X : Cx) (sc : Scope) (s : Shared) (H : Hp) (C : Addr) (cl : List (Str × Addr)) (fp : List Addr) : Cx := X.blk s H sc (compEnvC sc cl C X.env) fp
def allG (Z : Cx → Prop) (X : Cx) (sc : Scope) (tg : Expr) : TG := fun v σ H Q => ∀ s H0 C cl fp, Z (blkX X sc s H0 C cl fp) → semG (blkX X sc s H0 C cl fp) tg v σ H Q
def allT (Z : Cx → Prop) (X : Cx) (sc : Scope) (ifs : List Expr) : TT := fun σ H Q => ∀ s H0 C cl fp, Z (blkX X sc s H0 C cl fp) → semTs (blkX X sc s H0 C cl fp) ifs σ H Q
def allE (Z : Cx → Prop) (X : Cx) (sc : Scope) (e : Expr) : TE := fun σ H Q => ∀ s H0 C cl fp, Z (blkX X sc s H0 C cl fp) → semE (blkX X sc s H0 C cl fp) e σ H Q
/-- what a comprehension's turn makes of an item: what is kept, by the test -/
def TurnZ (Z : Cx → Prop) (X : Cx) (b : Bs) (sc : Scope) (tg : Expr) (ifs : List Expr) (elt : Expr) (vs : List Nat) (env : PEnv) (d : PD) (o : Option PD) : Prop :=
  ∃ env' k, (∀ s H0 C cl fp, Z (blkX X sc s H0 C cl fp) → TgW (blkX X sc s H0 C cl fp) b tg vs d (wipeP env vs) env') ∧ (∀ s H0 C cl fp, Z (blkX X sc s H0 C cl fp) → TssP (blkX X sc s H0 C cl fp) b ifs env' k) ∧
    ((k = false ∧ o = none) ∨ (k = true ∧ ∃ y, o = some y ∧ ∀ s H0 C cl fp, Z (blkX X sc s H0 C cl fp) → EvS (blkX X sc s H0 C cl fp) b elt env' y))
abbrev TurnP := TurnZ fun _ => True
theorem lc_pure {Z : Cx → Prop} {β : Type} {xs : List β} {enc : β → PD} {f : β → Option PD} {sc : Scope} {tg elt : Expr} {ifs : List Expr} {J : It} {σ : L2.St} {G H G1 H1 : Hp} {Q : VK} (E : EnvOk X.K b G H σ env) (x : Ext G H G1 H1) (w : WalkOk X.K J (xs.map enc) G1) (hl : xs.length ≤ 1000000)
    (ht : ∀ z, z ∈ xs → TurnZ Z X b sc tg ifs elt vs env (enc z) (f z)) (k : ∀ v G' H', Ext G H G' H' → RvOk X.K H G' H' (.own (xs.filterMap f)) v → Q v H') :
    ∀ D, H1 D = none → ∃ W : Nat → Nat → Hp → Prop, (∃ m, W 0 m (upd H1 D (.lst []))) ∧ ∀ i m H, W i m H →
      (J.stop i H ∧ Q (.ref D) H) ∨ (J.go i H ∧ ∃ Nx : Hp → Prop, (∀ H', Nx H' → ∃ m', m' < m ∧ W (i + 1) m' H') ∧ ∀ x H', J.yld i H x H' → allG Z X sc tg x (wipe σ vs) H' fun σ2 H2 => wipe σ2 vs = wipe σ vs ∧ allT Z X sc ifs σ2 H2 fun b H3 =>
        if b = true then allE Z X sc elt σ2 H3 fun y H4 => ∃ acc, H4 D = some (.lst acc) ∧ acc.length < sizeLine ∧ Nx (upd H4 D (.lst (acc ++ [y]))) else Nx H3) := by
  intro D hD
  have hD0 : H D = none := x.h.free hD
  have hG1 : G1 D = none := x.s.free hD
  -- at turn i: the list so far at D, all else grown
  refine ⟨fun i m H' => m = xs.length - i ∧ i ≤ xs.length ∧ ∃ (G2 : Hp) (acc : List V), Ext G H G2 H' ∧ SameK G1 G2 ∧ G2 D = none ∧ H' D = some (.lst acc) ∧ DqAll X.K G2 acc ((xs.take i).filterMap f), ⟨_, rfl, Nat.zero_le _, G1, [], x.trans (Ext.own x.s hD), SameK.refl _, hG1, upd_same, by simpa using DqAll.nil⟩, ?_⟩
  rintro i m H2 ⟨rfl, hle, G2, acc, x2, s2, g2, d2, a2⟩
  obtain ⟨w1, w2⟩ := w i G2 H2 s2 x2.s
  by_cases hlt : i < xs.length
  · obtain ⟨go, yld⟩ := w1 (enc xs[i]) (by rw [List.getElem?_map, List.getElem?_eq_getElem hlt]; rfl)
    have acl : acc.length ≤ i := by
      rw [dpAll_len a2]
      refine Nat.le_trans (List.length_filterMap_le _ _) ?_
      rw [List.length_take]
      exact Nat.min_le_left _ _
    refine .inr ⟨go, fun H' => ∃ (G5 : Hp) (acc' : List V), Ext G H G5 H' ∧ SameK G1 G5 ∧ G5 D = none ∧ H' D = some (.lst acc') ∧ DqAll X.K G5 acc' ((xs.take (i + 1)).filterMap f), fun H' h => ⟨xs.length - (i + 1), by omega, rfl, hlt, h⟩, fun y H3 hy => ?_⟩
    obtain ⟨G3, x3, q3⟩ := yld y H3 hy
    have tk : (xs.take (i + 1)).filterMap f = (xs.take i).filterMap f ++ (f xs[i]).toList := by
      rw [List.take_add_one, List.getElem?_eq_getElem hlt, List.filterMap_append]
      cases e : f xs[i] <;> simp [e]
    obtain ⟨env', kk, t1, t2, t3⟩ := ht xs[i] (List.getElem_mem hlt)
    have E3 : EnvOk X.K b G3 H3 (wipe σ vs) (wipeP env vs) := ((E.ext (x2.trans x3)).wipe vs)
    have d3 : H3 D = some (.lst acc) := x3.h.app d2
    have g3 : G3 D = none := x3.n D g2 (by rw [d2]; exact fun z => by cases z)
    intro s H0 C cl fp hZ
    refine t1 s H0 C cl fp hZ (wipe σ vs) G3 H3 y _ E3 q3 fun σ4 E4 w4 => ⟨w4.trans (wipe_wipe fun _ h => h), ?_⟩
    intro s H0 C cl fp hZ
    refine t2 s H0 C cl fp hZ σ4 G3 H3 _ E4 fun G5 H5 x5 => ?_
    have d5 : H5 D = some (.lst acc) := x5.h.app d3
    have g5 : G5 D = none := x5.n D g3 (by rw [d3]; exact fun z => by cases z)
    have X5 : Ext G H G5 H5 := (x2.trans x3).trans x5
    rcases t3 with ⟨rfl, e⟩ | ⟨rfl, z, e, t4⟩
    · rw [if_neg Bool.false_ne_true]
      refine ⟨G5, acc, X5, (s2.trans x3.g).trans x5.g, g5, d5, ?_⟩
      rw [tk, e]
      simpa using dpAll_mono (x3.g.trans x5.g) _ _ a2
    · rw [if_pos rfl]
      intro s H0 C cl fp hZ
      refine t4 s H0 C cl fp hZ σ4 G5 H5 _ (E4.ext x5) fun v G6 H6 x6 q6 => ?_
      have d6 : H6 D = some (.lst acc) := x6.h.app d5
      have g6 : G6 D = none := x6.n D g5 (by rw [d5]; exact fun z => by cases z)
      refine ⟨acc, d6, small_lt (by omega), G6, acc ++ [v], ?_, ((s2.trans x3.g).trans x5.g).trans x6.g, g6, upd_same, ?_⟩
      · have X6 := X5.trans x6
        exact ⟨X6.g, same_mutL X6.h hD0 d6, same_mut X6.s g6, X6.n⟩
      · rw [tk, e]
        exact dpAll_app (dpAll_mono ((x3.g.trans x5.g).trans x6.g) _ _ a2) (dpAll_one q6)
  · have e : i = xs.length := by omega
    subst e
    rw [List.take_length] at a2
    exact .inl ⟨w2 (by rw [List.length_map]; exact Nat.le_refl _), k _ G2 H2 x2 ⟨D, rfl, hD0, g2, acc, d2, a2⟩⟩
theorem ev_lc {β : Type} {xs : List β} {enc : β → PD} {f : β → Option PD} {sc : Scope} {own : List (Str × Nat)} {tg iter elt : Expr} {ifs : List Expr} (hc : X.calm = true) (hN : X.N.Nodup) (ok : BlkOk X.N X.env.scope sc own) (hi : ItP X b tg iter env (xs.map enc)) (hl : xs.length ≤ 1000000)
    (ht : ∀ z, z ∈ xs → TurnP X b sc tg ifs elt (own.map (·.2)) env (enc z) (f z)) (hs : ∀ x, foldedSetIterable iter X.env x = pure x := by intro _; rfl) : EvP X b (.ListComp elt [⟨tg, iter, ifs, 0⟩] sc pos) env (.own (xs.filterMap f)) := fun σ G H Q E k => by
  refine sem_e (pe_lc (own := own) (wi := semI X tg iter) (g := allG (fun _ => True) X sc tg) (tt := allT (fun _ => True) X sc ifs) (te := allE (fun _ => True) X sc elt) hc hN pi_sem ok (fun s H C cl fp => ⟨fun pins s' σ' H' v u Q' I r h => (h s H C cl fp trivial).out pins s' u I r⟩)
    (fun s H C cl fp => ⟨fun pins s' σ' H' Q' I h => (h s H C cl fp trivial).out pins s' I⟩) (fun s H C cl fp => ⟨fun pins s' σ' H' Q' I h => (h s H C cl fp trivial).out pins s' I⟩) hs) ?_
  exact hi σ G H _ E fun J G1 H1 x w => lc_pure E x w hl ht k
/-- name = [..] on one row -/
theorem bl_setLc {β : Type} {xs : List β} {enc : β → PD} {f : β → Option PD} {sc : Scope} {own : List (Str × Nat)} {tg iter elt : Expr} {ifs : List Expr} {R : Out} {rest : List Stmt} {y : Str} {py spos : Pos} (i : Nat) (hc : X.calm = true) (hN : X.N.Nodup) (ok : BlkOk X.N X.env.scope sc own)
    (hsw : swapsWith (.ListComp elt [⟨tg, iter, ifs, 0⟩] sc pos) (some (.Name y py)) spos.line X.env = pure true) (hi : ItP X b tg iter env (xs.map enc)) (hl : xs.length ≤ 1000000)
    (ht : ∀ z, z ∈ xs → TurnP X b sc tg ifs elt (own.map (·.2)) env (enc z) (f z)) {r : RV} (hr : r = .own (xs.filterMap f) ∨ r = .sh (.list (xs.filterMap f))) (k : BlP X b rest (env.set i (some r)) R) (hy : X.N[i]? = some y := by rfl) (hyl : X.env.scope.names.lookup y = some .local := by rfl)
    (hs : ∀ x, foldedSetIterable iter X.env x = pure x := by intro _; rfl) : BlP X b (.Assign [.Name y py] (.ListComp elt [⟨tg, iter, ifs, 0⟩] sc pos) spos :: rest) env R := bl_cons fun σ G H D E z => by
  refine sem_s (ps_setLc (own := own) (wi := semI X tg iter) (g := allG (fun _ => True) X sc tg) (tt := allT (fun _ => True) X sc ifs) (te := allE (fun _ => True) X sc elt) hc hN hy hyl hsw pi_sem ok (fun s H C cl fp => ⟨fun pins s' σ' H' v u Q' I r h => (h s H C cl fp trivial).out pins s' u I r⟩)
    (fun s H C cl fp => ⟨fun pins s' σ' H' Q' I h => (h s H C cl fp trivial).out pins s' I⟩) (fun s H C cl fp => ⟨fun pins s' σ' H' Q' I h => (h s H C cl fp trivial).out pins s' I⟩) hs) ?_
  refine hi σ G H _ E fun J G1 H1 x w => lc_pure (Q := fun v H' => gName i v σ H' D.nx) E x w hl ht fun v G' H' x' q => ?_
  rcases hr with rfl | rfl
  · exact z.nx _ _ G' H' k (E.put x' q (.inl rfl))
  · obtain ⟨G2, x2, q2⟩ := q.frz x' (.inl rfl)
    exact z.nx _ _ G2 H' k (E.put x2 (r := .sh _) q2 (.inr ⟨_, rfl⟩))
end
/-! ### a def by its body -/
def startE (N : List Str) (ds : List PD) : PEnv := ds.map (fun d => some (.sh d)) ++ List.replicate (N.length - ds.length) none
theorem env_start {K : KF} {N : List Str} {G H : Hp} {vs : List V} {ds : List PD} (s : SameK G H) (h : DqAll K G vs ds) : EnvOk K ⟨G, H⟩ G H (L2.start N vs) (startE N ds) := by
  have hl := dpAll_len h
  refine ⟨Ext.refl s, by simp [L2.start, startE, hl], fun _ => 0, fun i r e => ?_, fun i j r r' _ e1 e2 w1 _ => ?_⟩
  · have hi : i < ds.length := by
      unfold startE at e
      by_cases hi : i < ds.length
      · exact hi
      · rw [List.getElem?_append_right (by simpa using hi), List.getElem?_replicate] at e
        split at e <;> cases e
    unfold startE at e
    rw [List.getElem?_append_left (by simpa using hi), List.getElem?_map, List.getElem?_eq_getElem hi] at e
    cases e
    obtain ⟨v, h1, h2⟩ := dpAll_get h (List.getElem?_eq_getElem hi)
    refine ⟨v, ?_, h2⟩
    unfold L2.start
    rw [List.getElem?_append_left (by simpa [hl] using hi), List.getElem?_map, h1]
    rfl
  · unfold startE at e1
    by_cases hi : i < ds.length
    · rw [List.getElem?_append_left (by simpa using hi), List.getElem?_map, List.getElem?_eq_getElem hi] at e1
      cases e1; cases w1
    · rw [List.getElem?_append_right (by simpa using hi), List.getElem?_replicate] at e1
      split at e1 <;> cases e1
def outR : Oc → Out
  | .ret r => { nx := fun _ => r = .sh .none, rt := fun r' => r' = r }
  | .exc _ => { nx := fun _ => False, rt := fun _ => False }
abbrev bodyX (P : Program) (w : World) (K : KF) (mg : Str → Option Value) (base : Heap) (N : List Str) (x : Str) (st : Stmt) (f : Addr) (cdv : Value) (A : Around) (outer : List Env) (s : Shared) (H : Hp) (E : XK) : Cx :=
  cxOf (L2N.CX P w) P w K mg base N x (defScope st) f cdv A outer s H E
theorem fn_pure {P : Program} {w : World} {K : KF} {mg : Str → Option Value} {base : Heap} {x : Str} {st : Stmt} {f : Addr} {fd : FuncData} {N ps : List Str} {n : Nat} {α : Type} {pre : α → Prop} {args : α → List PD} {out : α → Oc} (F : Fun K x x st f fd) (hm : mg x = some (.ref f)) (hb : Binds K fd ps []) (S : FnScope N ps (defScope st)) (hl : ∀ z, (args z).length = ps.length)
    (body : ∀ (cdv : Value) (A : Around) (outer : List Env) (s : Shared) (G H : Hp) (E : XK) (z : α), Room n (A.deeper (envOfC x (defScope st) s.heap.objs.size f cdv)) → pre z → (∀ C, out z = .exc C → ∀ H', SameH H H' → E (.ref C) none H') →
      BlP (bodyX P w K mg base N x st f cdv A outer s H E) ⟨G, H⟩ (defBody st) (startE N (args z)) (outR (out z))) : Fn P w K mg base x (n + 1) ps (spF K pre args out) := by
  refine ⟨f, fd, ?_, hm, F.kp, hb, by obtain ⟨oc, od, _, _, _, _, _, _, sl, _, lk, _⟩ := F.ex; exact ⟨oc, od, sl, lk⟩⟩
  obtain ⟨oc, od, kV, doc, pm, an, cdv, ct, osl, rfl, lk, hcd⟩ := F.ex
  refine fn_of lk hcd S (fun vs H Q E h => ?_) fun A outer s H vs Q E hr hsp => ?_
  · obtain ⟨z, G, _, _, hd, _⟩ := h
    rw [dpAll_len hd, hl]
  · obtain ⟨z, G, hz, hs, hd, ho⟩ := hsp
    refine ⟨semB _ _, pb_sem, body cdv A outer s G H E z hr hz (fun C e H' k => by rw [e] at ho; exact ho H' k) _ G H _ (env_start hs hd) ?_⟩
    cases e : out z with
    | ret r =>
      rw [e] at ho
      refine ⟨fun env σ G' H' h E' => ?_, fun r' v G' H' h x' q => ?_, fun _ _ _ _ h => h.elim, fun _ _ _ _ h => h.elim⟩
      · have hr : r = .sh .none := h
        subst hr
        exact ho .non G' H' E'.x .non
      · have hr : r' = r := h
        subst hr
        exact ho v G' H' x' q
    | exc C => exact ⟨fun _ _ _ _ h => h.elim, fun _ _ _ _ h => h.elim, fun _ _ _ _ h => h.elim, fun _ _ _ _ h => h.elim⟩
end TW

namespace TW
open PySem PySem.Spec PyProof.Rows L2
/-! ### data that may be laid -/
def Lay (n : Nat) (d : PD) : Prop := d.canLay0 = true ∧ d.depth ≤ n
theorem Lay.mono {n m : Nat} {d : PD} (h : Lay n d) (l : n ≤ m) : Lay m d := ⟨h.1, Nat.le_trans h.2 l⟩
theorem Lay.shaped {n : Nat} {d : PD} (h : Lay n d) (l : n ≤ 64 := by decide) : SeqAt.shaped d = true := by
  show (d.canLay0 && decide (d.depth ≤ 64)) = true
  rw [Bool.and_eq_true]
  exact ⟨h.1, decide_eq_true (Nat.le_trans h.2 l)⟩
theorem lay_int {n : Nat} {i : Int} : Lay n (.int i) := ⟨by simp [PyData.canLay0], by simp [PyData.depth]⟩
theorem lay_bool {n : Nat} {i : Bool} : Lay n (.bool i) := ⟨by simp [PyData.canLay0], by simp [PyData.depth]⟩
theorem lay_none {n : Nat} : Lay n .none := ⟨by simp [PyData.canLay0], by simp [PyData.depth]⟩
theorem lay_str {n : Nat} {x : Str} (h : PyData.strOk x = true) : Lay n (.str x) := ⟨by simp [PyData.canLay0, h], by simp [PyData.depth]⟩
theorem lay_all {n : Nat} : ∀ {ds : List PD}, (∀ d ∈ ds, Lay n d) → PyData.canLayAll0 ds = true ∧ PyData.depthAll ds ≤ n
  | [], _ => ⟨by simp [PyData.canLayAll0], by simp [PyData.depthAll]⟩
  | d :: ds, h => by
    obtain ⟨h1, h2⟩ := h d List.mem_cons_self
    obtain ⟨h3, h4⟩ := lay_all fun z hz => h z (List.mem_cons_of_mem _ hz)
    refine ⟨by simp [PyData.canLayAll0, h1, h3], ?_⟩
    simp only [PyData.depthAll]
    omega
theorem lay_list {n : Nat} {ds : List PD} (h : ∀ d ∈ ds, Lay n d) : Lay (n + 1) (.list ds) := by
  obtain ⟨h1, h2⟩ := lay_all h
  exact ⟨by simp [PyData.canLay0, h1], by simp only [PyData.depth]; omega⟩
theorem lay_tuple {n : Nat} {ds : List PD} (h : ∀ d ∈ ds, Lay n d) : Lay (n + 1) (.tuple ds) := by
  obtain ⟨h1, h2⟩ := lay_all h
  exact ⟨by simp [PyData.canLay0, h1], by simp only [PyData.depth]; omega⟩
theorem lay_map {n : Nat} {β : Type} {enc : β → PD} {xs : List β} (h : ∀ x, Lay n (enc x)) : ∀ d ∈ xs.map enc, Lay n d := fun d hd => by
  obtain ⟨x, _, rfl⟩ := List.mem_map.mp hd
  exact h x
theorem lay_ints {n : Nat} {ns : List Int} : Lay (n + 1) (.list (ns.map .int)) := lay_list (lay_map fun _ => lay_int)
/-! ### typed data -/
/-- an encoding whose == is = -/
structure Good {β : Type} [DecidableEq β] (enc : β → PD) (n : Nat) : Prop where
  lay : ∀ x, Lay n (enc x)
  eqv : ∀ x y, PyData.eqv (enc x) (enc y) = decide (x = y)
theorem eqvAll_map {β : Type} [DecidableEq β] {enc : β → PD} {n : Nat} (g : Good enc n) : ∀ xs ys : List β, PyData.eqvAll (xs.map enc) (ys.map enc) = decide (xs = ys)
  | [], [] => by simp [PyData.eqvAll]
  | [], y :: ys => by simp [PyData.eqvAll]
  | x :: xs, [] => by simp [PyData.eqvAll]
  | x :: xs, y :: ys => by
    simp only [List.map_cons, PyData.eqvAll, g.eqv, eqvAll_map g xs ys, List.cons.injEq]
    by_cases h : x = y <;> by_cases h' : xs = ys <;> simp [h, h']
theorem good_int : Good PyData.int 0 := ⟨fun _ => lay_int, fun x y => by simp only [PyData.eqv]; exact Bool.beq_eq_decide_eq x y⟩
def lD {β : Type} (enc : β → PD) (xs : List β) : PD := .list (xs.map enc)
theorem good_list {β : Type} [DecidableEq β] {enc : β → PD} {n : Nat} (g : Good enc n) : Good (lD enc) (n + 1) :=
  ⟨fun _ => lay_list (lay_map g.lay), fun xs ys => by simp only [lD, PyData.eqv]; exact eqvAll_map g xs ys⟩
def tD {β : Type} (enc : β → PD) (xs : List β) : PD := .tuple (xs.map enc)
theorem good_tup {β : Type} [DecidableEq β] {enc : β → PD} {n : Nat} (g : Good enc n) : Good (tD enc) (n + 1) :=
  ⟨fun _ => lay_tuple (lay_map g.lay), fun xs ys => by simp only [tD, PyData.eqv]; exact eqvAll_map g xs ys⟩
/-- a tie, a row of four points -/
abbrev T2 := Int × Int
abbrev T4 := Int × Int × Int × Int
def p2 (t : T2) : PD := .tuple [.int t.1, .int t.2]
def p4 (t : T4) : PD := .tuple [.int t.1, .int t.2.1, .int t.2.2.1, .int t.2.2.2]
theorem good_p2 : Good p2 1 := ⟨fun x => lay_tuple (by simp [lay_int]), fun x y => by
  obtain ⟨a, b⟩ := x
  obtain ⟨c, d⟩ := y
  simp only [p2, PyData.eqv, PyData.eqvAll, Bool.beq_eq_decide_eq, Prod.mk.injEq]
  by_cases h : a = c <;> by_cases h' : b = d <;> simp [h, h']⟩
theorem good_p4 : Good p4 1 := ⟨fun x => lay_tuple (by simp [lay_int]), fun x y => by
  obtain ⟨a, b, c, d⟩ := x
  obtain ⟨a', b', c', d'⟩ := y
  simp only [p4, PyData.eqv, PyData.eqvAll, Bool.beq_eq_decide_eq, Prod.mk.injEq]
  by_cases h : a = a' <;> by_cases h1 : b = b' <;> by_cases h2 : c = c' <;> by_cases h3 : d = d' <;> simp [h, h1, h2, h3]⟩
theorem any_eqv {β : Type} [DecidableEq β] {enc : β → PD} {n : Nat} (g : Good enc n) (x : β) : ∀ xs : List β, ((xs.map enc).any fun z => PyData.eqv z (enc x)) = decide (x ∈ xs)
  | [] => by simp
  | y :: ys => by
    rw [List.map_cons, List.any_cons, any_eqv g x ys, g.eqv]
    by_cases h : x = y
    · subst h; simp
    · have h2 : ¬ y = x := fun e => h e.symm
      simp [h, h2]
/-! ### operations -/
section
variable {X : Cx} {r r1 r2 : RV} {i j : Int} {d e : PD} {ds es : List PD}
theorem rv_sc {K : KF} {B G H : Hp} {v : V} (h : RvOk K B G H (.sh (.int i)) v) : v = .int i := dp_int h
theorem o_i0 {f : Value → Value → Sem Value} {g : Int → Int → V} {g' : Int → Int → PD} (h : OpR X f (rI0 g)) (hg : ∀ H i j, Dq X.K H (g i j) (g' i j)) : Op2 X f (.sh (.int i)) (.sh (.int j)) (.sh (g' i j)) :=
  ⟨_, h, fun B1 B2 G H v1 v2 Q s q1 q2 k => ⟨i, j, rv_sc q1, rv_sc q2, k _ G H (Ext.refl s) (hg G i j)⟩⟩
theorem o_iC {f : Value → Value → Sem Value} {C : Int → Int → Prop} {g : Int → Int → V} {g' : Int → Int → PD} (h : OpR X f (rI C g)) (hg : ∀ H i j, Dq X.K H (g i j) (g' i j)) (hc : C i j) : Op2 X f (.sh (.int i)) (.sh (.int j)) (.sh (g' i j)) :=
  ⟨_, h, fun B1 B2 G H v1 v2 Q s q1 q2 k => ⟨i, j, rv_sc q1, rv_sc q2, hc, k _ G H (Ext.refl s) (hg G i j)⟩⟩
theorem o_add : Op2 X (binaryOp .Add) (.sh (.int i)) (.sh (.int j)) (.sh (.int (i + j))) := o_i0 op_add fun _ _ _ => .int _
theorem o_sub : Op2 X (binaryOp .Sub) (.sh (.int i)) (.sh (.int j)) (.sh (.int (i - j))) := o_i0 op_sub fun _ _ _ => .int _
theorem o_mul (h : CMul i j) : Op2 X (binaryOp .Mult) (.sh (.int i)) (.sh (.int j)) (.sh (.int (i * j))) := o_iC op_mul (fun _ _ _ => .int _) h
/-- * of great ints -/
def CMulB (i j : Int) : Prop := i.natAbs.log2 + j.natAbs.log2 < 100000000
theorem CMulB.fits {i j : Int} (h : CMulB i j) : IntMulOk i j := by
  have b : ∀ x : Int, Builtin.Int.intBits x ≤ x.natAbs.log2 + 1 := fun x => by
    unfold Builtin.Int.intBits
    split <;> omega
  have h1 := b i
  have h2 := b j
  have h3 : i.natAbs.log2 + j.natAbs.log2 < 100000000 := h
  unfold IntMulOk
  intro z
  have z2 := (Bool.and_eq_true_iff.mp z).2
  unfold Builtin.Int.intTooBig at z2
  have z3 := of_decide_eq_true z2
  have e : bitsLine = 134217728 := by decide
  omega
theorem op_mulB : OpR X (binaryOp .Mult) (rI CMulB fun i j => .int (i * j)) := opI fun _ _ _ _ _ _ _ hc q => mul_int q hc.fits
theorem o_mulB (h : CMulB i j) : Op2 X (binaryOp .Mult) (.sh (.int i)) (.sh (.int j)) (.sh (.int (i * j))) := o_iC op_mulB (fun _ _ _ => .int _) h
theorem o_mod (h : 0 < j) : Op2 X (binaryOp .Mod) (.sh (.int i)) (.sh (.int j)) (.sh (.int (i % j))) := o_iC op_mod (fun _ _ _ => .int _) h
theorem o_fdiv (h : 0 < j) (h2 : j < 1073741824) : Op2 X (binaryOp .FloorDiv) (.sh (.int i)) (.sh (.int j)) (.sh (.int (i / j))) := o_iC op_fdiv (fun _ _ _ => .int _) ⟨h, h2⟩
theorem o_pow {n : Nat} (h : CPow i n) : Op2 X (binaryOp .Pow) (.sh (.int i)) (.sh (.int n)) (.sh (.int (i ^ n))) := o_iC op_pow (fun _ i j => .int _) h
theorem o_neg : Op1 X (unaryOp .USub) (.sh (.int i)) (.sh (.int (-i))) := ⟨_, un_neg, fun B G H v Q s q k => ⟨i, rv_sc q, k _ G H (Ext.refl s) (.int _)⟩⟩
theorem o_lt : Op2 X (compareOp .Lt) (.sh (.int i)) (.sh (.int j)) (.sh (.bool (decide (i < j)))) := o_i0 (g' := fun i j => .bool (decide (i < j))) op_lt fun _ _ _ => .bl _
theorem o_le : Op2 X (compareOp .LtE) (.sh (.int i)) (.sh (.int j)) (.sh (.bool (decide (i ≤ j)))) := o_i0 (g' := fun i j => .bool (decide (i ≤ j))) op_le fun _ _ _ => .bl _
theorem o_gt : Op2 X (compareOp .Gt) (.sh (.int i)) (.sh (.int j)) (.sh (.bool (decide (j < i)))) := o_i0 (g' := fun i j => .bool (decide (j < i))) op_gt fun _ _ _ => .bl _
theorem o_ge : Op2 X (compareOp .GtE) (.sh (.int i)) (.sh (.int j)) (.sh (.bool (decide (j ≤ i)))) := o_i0 (g' := fun i j => .bool (decide (j ≤ i))) op_ge fun _ _ _ => .bl _
theorem o_eqI : Op2 X (compareOp .Eq) (.sh (.int i)) (.sh (.int j)) (.sh (.bool (decide (i = j)))) := ⟨_, op_eq, fun B1 B2 G H v1 v2 Q s q1 q2 k => by
  rw [rv_sc q1, rv_sc q2]
  exact ⟨rfl, by rw [dec_int, Bool.beq_eq_decide_eq]; exact k _ G H (Ext.refl s) (.bl _)⟩⟩
theorem o_neI : Op2 X (compareOp .NotEq) (.sh (.int i)) (.sh (.int j)) (.sh (.bool (!decide (i = j)))) := ⟨_, op_ne, fun B1 B2 G H v1 v2 Q s q1 q2 k => by
  rw [rv_sc q1, rv_sc q2]
  exact ⟨rfl, by rw [dec_int, Bool.beq_eq_decide_eq]; exact k _ G H (Ext.refl s) (.bl _)⟩⟩
theorem o_eqS {x y : Str} : Op2 X (compareOp .Eq) (.sh (.str x)) (.sh (.str y)) (.sh (.bool (decide (x = y)))) := ⟨_, op_eq, fun B1 B2 G H v1 v2 Q s q1 q2 k => by
  rw [dp_str q1, dp_str q2]
  exact ⟨rfl, by rw [dec_str, Bool.beq_eq_decide_eq]; exact k _ G H (Ext.refl s) (.bl _)⟩⟩
theorem o_neS {x y : Str} : Op2 X (compareOp .NotEq) (.sh (.str x)) (.sh (.str y)) (.sh (.bool (!decide (x = y)))) := ⟨_, op_ne, fun B1 B2 G H v1 v2 Q s q1 q2 k => by
  rw [dp_str q1, dp_str q2]
  exact ⟨rfl, by rw [dec_str, Bool.beq_eq_decide_eq]; exact k _ G H (Ext.refl s) (.bl _)⟩⟩
theorem o_eqB {x y : Bool} : Op2 X (compareOp .Eq) (.sh (.bool x)) (.sh (.bool y)) (.sh (.bool (decide (x = y)))) := ⟨_, op_eq, fun B1 B2 G H v1 v2 Q s q1 q2 k => by
  rw [dp_bool q1, dp_bool q2]
  exact ⟨rfl, by rw [dec_bl, Bool.beq_eq_decide_eq]; exact k _ G H (Ext.refl s) (.bl _)⟩⟩
theorem o_neB {x y : Bool} : Op2 X (compareOp .NotEq) (.sh (.bool x)) (.sh (.bool y)) (.sh (.bool (!decide (x = y)))) := ⟨_, op_ne, fun B1 B2 G H v1 v2 Q s q1 q2 k => by
  rw [dp_bool q1, dp_bool q2]
  exact ⟨rfl, by rw [dec_bl, Bool.beq_eq_decide_eq]; exact k _ G H (Ext.refl s) (.bl _)⟩⟩
/-- == of data -/
theorem o_eq {n : Nat} (hu : X.A.units + 64 < cLine) (h1 : Lay 60 r1.data) (h2 : Lay 60 r2.data) : Op2 X (compareOp .Eq) r1 r2 (.sh (.bool (PyData.eqv r1.data r2.data))) := ⟨_, op_eqD hu, fun B1 B2 G H v1 v2 Q s q1 q2 k =>
  ⟨_, _, dq_dp _ _ h1.1 (q1.dp s), dq_dp _ _ h2.1 (q2.dp s), h1.shaped, h2.shaped, k _ G H (Ext.refl s) (.bl _)⟩⟩
theorem o_ne {n : Nat} (hu : X.A.units + 64 < cLine) (h1 : Lay 60 r1.data) (h2 : Lay 60 r2.data) : Op2 X (compareOp .NotEq) r1 r2 (.sh (.bool (!PyData.eqv r1.data r2.data))) := ⟨_, op_neD hu, fun B1 B2 G H v1 v2 Q s q1 q2 k =>
  ⟨_, _, dq_dp _ _ h1.1 (q1.dp s), dq_dp _ _ h2.1 (q2.dp s), h1.shaped, h2.shaped, k _ G H (Ext.refl s) (.bl _)⟩⟩
/-- == of typed data -/
theorem o_eqG {β : Type} [DecidableEq β] {enc : β → PD} {n : Nat} (g : Good enc n) (hu : X.A.units + 64 < cLine) (x y : β) (h1 : r1.data = enc x) (h2 : r2.data = enc y) (hn : n ≤ 60 := by decide) : Op2 X (compareOp .Eq) r1 r2 (.sh (.bool (decide (x = y)))) := by
  rw [← g.eqv, ← h1, ← h2]
  exact o_eq (n := 0) hu (by rw [h1]; exact (g.lay x).mono hn) (by rw [h2]; exact (g.lay y).mono hn)
theorem o_neG {β : Type} [DecidableEq β] {enc : β → PD} {n : Nat} (g : Good enc n) (hu : X.A.units + 64 < cLine) (x y : β) (h1 : r1.data = enc x) (h2 : r2.data = enc y) (hn : n ≤ 60 := by decide) : Op2 X (compareOp .NotEq) r1 r2 (.sh (.bool (!decide (x = y)))) := by
  rw [← g.eqv, ← h1, ← h2]
  exact o_ne (n := 0) hu (by rw [h1]; exact (g.lay x).mono hn) (by rw [h2]; exact (g.lay y).mono hn)
/-- in a list -/
theorem o_inG {β : Type} [DecidableEq β] {enc : β → PD} {n : Nat} (g : Good enc n) (hu : X.A.units + 65 < cLine) (x : β) (xs : List β) (h1 : r1.data = enc x) (h2 : r2.data = .list (xs.map enc)) (hn : n ≤ 60 := by decide) : Op2 X (compareOp .In) r1 r2 (.sh (.bool (decide (x ∈ xs)))) :=
  ⟨_, op_inD hu, fun B1 B2 G H v1 v2 Q s q1 q2 k => by
    have l1 := g.lay x
    have l2 : Lay (n + 1) (.list (xs.map enc)) := lay_list (lay_map g.lay)
    have a1 := q1.dp s
    have a2 := q2.dp s
    rw [h1] at a1
    rw [h2] at a2
    refine ⟨_, _, dq_dp _ _ l1.1 a1, dq_dp _ _ l2.1 a2, l1.shaped (by omega), l2.shaped (by omega), ?_⟩
    rw [any_eqv g]
    exact k _ G H (Ext.refl s) (.bl _)⟩
theorem o_notInG {β : Type} [DecidableEq β] {enc : β → PD} {n : Nat} (g : Good enc n) (hu : X.A.units + 65 < cLine) (x : β) (xs : List β) (h1 : r1.data = enc x) (h2 : r2.data = .list (xs.map enc)) (hn : n ≤ 60 := by decide) : Op2 X (compareOp .NotIn) r1 r2 (.sh (.bool (!decide (x ∈ xs)))) :=
  ⟨_, op_notInD hu, fun B1 B2 G H v1 v2 Q s q1 q2 k => by
    have l1 := g.lay x
    have l2 : Lay (n + 1) (.list (xs.map enc)) := lay_list (lay_map g.lay)
    have a1 := q1.dp s
    have a2 := q2.dp s
    rw [h1] at a1
    rw [h2] at a2
    refine ⟨_, _, dq_dp _ _ l1.1 a1, dq_dp _ _ l2.1 a2, l1.shaped (by omega), l2.shaped (by omega), ?_⟩
    rw [any_eqv g]
    exact k _ G H (Ext.refl s) (.bl _)⟩
/-- in a tuple of ints -/
theorem inV_ints (i : Int) : ∀ ns : List Int, inV (.int i) (ns.map V.int) = decide (i ∈ ns)
  | [] => rfl
  | n :: ns => by
    have ih := inV_ints i ns
    unfold inV at ih ⊢
    rw [List.map_cons, List.any_cons, ih]
    show ((n == i) || decide (i ∈ ns)) = decide (i ∈ n :: ns)
    by_cases h : i = n
    · subst h; simp
    · have h2 : ¬ n = i := fun e => h e.symm
      simp [h, h2]
theorem flat_ints : ∀ ns : List Int, (ns.map V.int).all flatV = true
  | [] => rfl
  | n :: ns => by
    rw [List.map_cons, List.all_cons, flat_ints ns]
    rfl
theorem dp_tupInts {K : KF} {H : Hp} {v : V} {ns : List Int} (h : Dq K H v (.tuple (ns.map .int))) : ∃ a, v = .ref a ∧ H a = some (.tup (ns.map V.int)) := by
  obtain ⟨a, xs, rfl, h1, h2⟩ := dp_tuple h
  rw [dpAll_ints h2] at h1
  exact ⟨a, rfl, h1⟩
theorem dp_lstInts {K : KF} {H : Hp} {v : V} {ns : List Int} (h : Dq K H v (.list (ns.map .int))) : ∃ a, v = .ref a ∧ H a = some (.lst (ns.map V.int)) := by
  obtain ⟨a, xs, rfl, h1, h2⟩ := dp_list h
  rw [dpAll_ints h2] at h1
  exact ⟨a, rfl, h1⟩
theorem o_inT (ns : List Int) (h2 : r2.data = .tuple (ns.map .int)) : Op2 X (compareOp .In) (.sh (.int i)) r2 (.sh (.bool (decide (i ∈ ns)))) := ⟨_, op_in_seq, fun B1 B2 G H v1 v2 Q s q1 q2 k => by
  have a2 := q2.dp s
  rw [h2] at a2
  obtain ⟨a, rfl, h⟩ := dp_tupInts a2
  rw [rv_sc q1]
  refine ⟨a, _, rfl, .inr (SqT.of h), rfl, flat_ints ns, ?_⟩
  rw [if_neg Bool.false_ne_true, inV_ints]
  exact k _ G H (Ext.refl s) (.bl _)⟩
theorem o_notInT (ns : List Int) (h2 : r2.data = .tuple (ns.map .int)) : Op2 X (compareOp .NotIn) (.sh (.int i)) r2 (.sh (.bool (!decide (i ∈ ns)))) := ⟨_, op_notIn_seq, fun B1 B2 G H v1 v2 Q s q1 q2 k => by
  have a2 := q2.dp s
  rw [h2] at a2
  obtain ⟨a, rfl, h⟩ := dp_tupInts a2
  rw [rv_sc q1]
  refine ⟨a, _, rfl, .inr (SqT.of h), rfl, flat_ints ns, ?_⟩
  rw [if_pos rfl, inV_ints]
  exact k _ G H (Ext.refl s) (.bl _)⟩
/-- is None -/
def isNone : PD → Bool
  | .none => true
  | _ => false
theorem dec_non {K : KF} {H : Hp} {v : V} (h : Dq K H v d) : decide (v = .non) = isNone d := by
  cases h <;> simp [isNone]
theorem o_isN : Op2 X (compareOp .Is) r1 (.sh .none) (.sh (.bool (isNone r1.data))) := ⟨_, op_isN, fun B1 B2 G H v1 v2 Q s q1 q2 k => ⟨dp_none q2, by
  rw [dec_non (q1.dp s)]
  exact k _ G H (Ext.refl s) (.bl _)⟩⟩
theorem o_notN : Op2 X (compareOp .IsNot) r1 (.sh .none) (.sh (.bool (!isNone r1.data))) := ⟨_, op_notN, fun B1 B2 G H v1 v2 Q s q1 q2 k => ⟨dp_none q2, by
  rw [dec_non (q1.dp s)]
  exact k _ G H (Ext.refl s) (.bl _)⟩⟩
/-- lists: +, * -/
theorem o_cat (h1 : r1.items = some ds) (h2 : r2.items = some es) (hl : ds.length + es.length ≤ 1000000) : Op2 X (binaryOp .Add) r1 r2 (.own (ds ++ es)) := ⟨_, op_cat, fun B1 B2 G H v1 v2 Q s q1 q2 k => by
  obtain ⟨a, vs, rfl, a1, a2⟩ := q1.items h1 s
  obtain ⟨c, ws, rfl, c1, c2⟩ := q2.items h2 s
  refine ⟨a, c, vs, ws, rfl, rfl, a1, c1, small_line (by rw [dpAll_len a2, dpAll_len c2]; exact hl), fun p hp => ?_⟩
  exact k _ G _ (Ext.own s hp) ⟨p, rfl, hp, s.free hp, _, upd_same, dpAll_app a2 c2⟩⟩
theorem dpAll_rep {K : KF} {H : Hp} {vs : List V} (h : DqAll K H vs ds) : ∀ n : Nat, DqAll K H (List.replicate n vs).flatten (List.replicate n ds).flatten
  | 0 => by simpa using DqAll.nil
  | n + 1 => by
    rw [List.replicate_succ, List.replicate_succ, List.flatten_cons, List.flatten_cons]
    exact dpAll_app h (dpAll_rep h n)
theorem o_rep (h1 : r1.items = some ds) (hj : 0 ≤ j ∧ j ≤ 1000) (hl : ds.length ≤ 1000) : Op2 X (binaryOp .Mult) r1 (.sh (.int j)) (.own (List.replicate j.toNat ds).flatten) := ⟨_, op_rep, fun B1 B2 G H v1 v2 Q s q1 q2 k => by
  obtain ⟨a, vs, rfl, a1, a2⟩ := q1.items h1 s
  refine ⟨a, j, vs, rfl, rv_sc q2, a1, by omega, by omega, small_line ?_, fun p hp => ?_⟩
  · rw [dpAll_len a2]
    exact Nat.le_trans (Nat.mul_le_mul hl (by omega : j.toNat ≤ 1000)) (by decide)
  · exact k _ G _ (Ext.own s hp) ⟨p, rfl, hp, s.free hp, _, upd_same, dpAll_rep a2 _⟩⟩
/-! subscripts -/
theorem x_list (h1 : r1.items = some ds) (hd : atI ds i = some d) : Ix2 X r1 (.sh (.int i)) (.sh d) := ⟨_, ix_list, fun B1 B2 G H v1 v2 Q s q1 q2 k => by
  obtain ⟨a, vs, rfl, a1, a2⟩ := q1.items h1 s
  have hl := dpAll_len a2
  unfold atI at hd
  cases e : ixN ds.length i with
  | none => rw [e] at hd; cases hd
  | some m =>
    rw [e] at hd
    obtain ⟨v, w1, w2⟩ := dpAll_get a2 (show ds[m]? = some d from hd)
    refine ⟨a, vs, i, v, rfl, rv_sc q2, SqL.of a1, ?_, k v G H (Ext.refl s) w2⟩
    unfold atI
    rw [hl, e]
    exact w1⟩
theorem x_tup (hd : atI ds i = some d) : Ix2 X (.sh (.tuple ds)) (.sh (.int i)) (.sh d) := ⟨_, ix_tup, fun B1 B2 G H v1 v2 Q s q1 q2 k => by
  obtain ⟨a, vs, rfl, a1, a2⟩ := dp_tuple q1
  have hl := dpAll_len a2
  unfold atI at hd
  cases e : ixN ds.length i with
  | none => rw [e] at hd; cases hd
  | some m =>
    rw [e] at hd
    obtain ⟨v, w1, w2⟩ := dpAll_get a2 (show ds[m]? = some d from hd)
    refine ⟨a, vs, i, v, rfl, rv_sc q2, SqT.of (s.app a1), ?_, k v G H (Ext.refl s) w2⟩
    unfold atI
    rw [hl, e]
    exact w1⟩
/-- an item of what may only be read whole -/
theorem x_deepT (h1 : r1.data = .tuple ds) (hd : atI ds i = some d) : Ix2 X r1 (.sh (.int i)) (.deep d) := ⟨_, ix_tup, fun B1 B2 G H v1 v2 Q s q1 q2 k => by
  have q := q1.dp s
  rw [h1] at q
  obtain ⟨a, vs, rfl, a1, a2⟩ := dp_tuple q
  have hl := dpAll_len a2
  unfold atI at hd
  cases e : ixN ds.length i with
  | none => rw [e] at hd; cases hd
  | some m =>
    rw [e] at hd
    obtain ⟨v, w1, w2⟩ := dpAll_get a2 (show ds[m]? = some d from hd)
    refine ⟨a, vs, i, v, rfl, rv_sc q2, SqT.of a1, ?_, k v G H (Ext.refl s) w2⟩
    unfold atI
    rw [hl, e]
    exact w1⟩
/-- an object's address -/
def errD (a : Addr) : PD := .dict [(.none, .int a)]
theorem dp_err {K : KF} {H : Hp} {v : V} {a : Addr} (h : Dq K H v (errD a)) : v = .ref a := by
  unfold errD at h
  generalize hx : (PyData.int (a : Int)) = x at h
  cases h with
  | scr q => cases hx
  | adr => cases hx; rfl
  | opq => cases hx
/-- the script's cells -/
def scrD (ns : List Int) : PD := .dict [(.none, .list (ns.map .int))]
theorem dp_scr {K : KF} {H : Hp} {v : V} {ns : List Int} (h : Dq K H v (scrD ns)) : ∃ a, v = .ref a ∧ SqL K H a (ns.map V.int) := by
  unfold scrD at h
  generalize hd : (PyData.dict [(PyData.none, .list (ns.map .int))]) = d at h
  cases h with
  | scr q =>
    injection hd with e
    injection e with e1 _
    injection e1 with _ e2
    injection e2 with e3
    rename_i a ns' 
    have inj : ∀ xs ys : List Int, xs.map PyData.int = ys.map PyData.int → xs = ys := fun xs => by
      induction xs with
      | nil => intro ys h; cases ys with
        | nil => rfl
        | cons y ys => cases h
      | cons x xs ih => intro ys h; cases ys with
        | nil => cases h
        | cons y ys => injection h with h1 h2; injection h1 with h3; rw [h3, ih ys h2]
    rw [inj _ _ e3]
    exact ⟨_, rfl, q⟩
  | _ => cases hd
theorem x_scr {ns : List Int} {m : Nat} {z : Int} (hi : i = m) (hz : ns[m]? = some z) : Ix2 X (.sh (scrD ns)) (.sh (.int i)) (.sh (.int z)) := ⟨_, ix_list, fun B1 B2 G H v1 v2 Q s q1 q2 k => by
  obtain ⟨a, rfl, a1⟩ := dp_scr q1
  refine ⟨a, _, i, .int z, rfl, rv_sc q2, sqL_mono s a1, ?_, k _ G H (Ext.refl s) (.int z)⟩
  rw [hi]
  exact atI_nat (by rw [List.getElem?_map, hz]; rfl)⟩
/-! slices -/
theorem dpAll_cut {K : KF} {H : Hp} {vs : List V} (h : DqAll K H vs ds) (lo hi : Option Int) : DqAll K H (cutV vs lo hi) ((ds.drop (HT.sIx ds.length 0 lo)).take (HT.sIx ds.length ds.length hi - HT.sIx ds.length 0 lo)) := by
  unfold cutV
  rw [dpAll_len h]
  exact dpAll_take _ (dpAll_drop _ h)
theorem s_list {lo hi : Option Int} (h1 : r1.items = some ds) : Sl1 X r1 lo hi (.own ((ds.drop (HT.sIx ds.length 0 lo)).take (HT.sIx ds.length ds.length hi - HT.sIx ds.length 0 lo))) := ⟨_, sl_list, fun B1 G H v1 Q s q1 k => by
  obtain ⟨a, vs, rfl, a1, a2⟩ := q1.items h1 s
  exact ⟨a, vs, rfl, SqL.of a1, fun p hp => k _ G _ (Ext.own s hp) ⟨p, rfl, hp, s.free hp, _, upd_same, dpAll_cut a2 lo hi⟩⟩⟩
theorem s_take {n : Nat} (h1 : r1.items = some ds) : Sl1 X r1 none (some (n : Int)) (.own (ds.take n)) := by
  have h := s_list (X := X) (lo := none) (hi := some (n : Int)) h1
  have e : (ds.drop (HT.sIx ds.length 0 none)).take (HT.sIx ds.length ds.length (some (n : Int)) - HT.sIx ds.length 0 none) = ds.take n := by
    rw [HT.sIx_none, HT.sIx_nat, List.drop_zero, Nat.sub_zero, List.take_eq_take_iff]
    omega
  rwa [e] at h
theorem s_drop {n : Nat} (h1 : r1.items = some ds) : Sl1 X r1 (some (n : Int)) none (.own (ds.drop n)) := by
  have h := s_list (X := X) (lo := some (n : Int)) (hi := none) h1
  have e : (ds.drop (HT.sIx ds.length 0 (some (n : Int)))).take (HT.sIx ds.length ds.length none - HT.sIx ds.length 0 (some (n : Int))) = ds.drop n := by
    rw [HT.sIx_none, HT.sIx_nat]
    by_cases hn : n ≤ ds.length
    · rw [Nat.min_eq_left hn, List.take_of_length_le]
      rw [List.length_drop]
      exact Nat.le_refl _
    · rw [Nat.min_eq_right (by omega), List.drop_of_length_le (Nat.le_refl _), List.drop_of_length_le (by omega), List.take_nil]
  rwa [e] at h
end
/-! ### built-in calls -/
section
variable {X : Cx} {r r1 r2 : RV} {rs : List RV} {i j : Int} {d e : PD} {ds es : List PD}
theorem rvl1 {K : KF} {G H : Hp} {vs : List V} (h : RvL K G H [r] vs) : ∃ v B, vs = [v] ∧ RvOk K B G H r v := by
  match vs, h with
  | [v], h => obtain ⟨⟨B, q⟩, _⟩ := h; exact ⟨v, B, rfl, q⟩
theorem rvl2 {K : KF} {G H : Hp} {vs : List V} (h : RvL K G H [r1, r2] vs) : ∃ v w B C, vs = [v, w] ∧ RvOk K B G H r1 v ∧ RvOk K C G H r2 w := by
  match vs, h with
  | [v, w], h => obtain ⟨⟨B, q⟩, ⟨C, q2⟩, _⟩ := h; exact ⟨v, w, B, C, rfl, q, q2⟩
def lenD : PD → Option Nat
  | .list ds => some ds.length
  | .tuple ds => some ds.length
  | .dict [(.none, .list ds)] => some ds.length
  | _ => none
theorem c_len {n : Nat} (h : lenD r.data = some n) : Cl X (.builtin "len") [r] (.sh (.int n)) := ⟨_, call_len_seq, fun G H vs Q s q k => by
  obtain ⟨v, B, rfl, q0⟩ := rvl1 q
  have a := q0.dp s
  generalize r.data = d at a h
  have fin : Q (.int (n : Int)) H := k _ G H (Ext.refl s) (.int _)
  cases a with
  | lst h1 h2 => cases h; exact ⟨_, _, rfl, .inl (SqL.of h1), by rw [dpAll_len h2]; exact fin⟩
  | tup h1 h2 => cases h; exact ⟨_, _, rfl, .inr (SqT.of h1), by rw [dpAll_len h2]; exact fin⟩
  | scr h1 => cases h; exact ⟨_, _, rfl, .inl h1, by rw [List.length_map] at fin ⊢; exact fin⟩
  | dct h1 => cases h
  | _ => cases h⟩
theorem c_min2 (hc : X.calm = true) : Cl X (.builtin "min") [.sh (.int i), .sh (.int j)] (.sh (.int (min i j))) := ⟨_, call_min2 hc, fun G H vs Q s q k => by
  obtain ⟨v, w, B, C, rfl, q1, q2⟩ := rvl2 q
  rw [rv_sc q1, rv_sc q2]
  refine ⟨i, j, rfl, ?_⟩
  have e : (if j < i then j else i) = min i j := by split <;> omega
  rw [e]
  exact k _ G H (Ext.refl s) (.int _)⟩
theorem c_max2 (hc : X.calm = true) : Cl X (.builtin "max") [.sh (.int i), .sh (.int j)] (.sh (.int (max i j))) := ⟨_, call_max2 hc, fun G H vs Q s q k => by
  obtain ⟨v, w, B, C, rfl, q1, q2⟩ := rvl2 q
  rw [rv_sc q1, rv_sc q2]
  refine ⟨i, j, rfl, ?_⟩
  have e : (if j > i then j else i) = max i j := by split <;> omega
  rw [e]
  exact k _ G H (Ext.refl s) (.int _)⟩
theorem c_sum {ns : List Int} (hc : X.calm = true) (h : r.data = .list (ns.map .int)) : Cl X (.builtin "sum") [r] (.sh (.int ns.sum)) := ⟨_, cr_sum hc, fun G H vs Q s q k => by
  obtain ⟨v, B, rfl, q0⟩ := rvl1 q
  have a0 := q0.dp s
  rw [h] at a0
  obtain ⟨a, rfl, h1⟩ := dp_lstInts a0
  exact ⟨a, ns, rfl, SqL.of h1, k _ G H (Ext.refl s) (.int _)⟩⟩
theorem c_any {ns : List Bool} (hc : X.calm = true) (h : r.data = .list (ns.map .bool)) : Cl X (.builtin "any") [r] (.sh (.bool (ns.any id))) := ⟨_, cr_any hc, fun G H vs Q s q k => by
  obtain ⟨v, B, rfl, q0⟩ := rvl1 q
  have a0 := q0.dp s
  rw [h] at a0
  obtain ⟨a, xs, rfl, h1, h2⟩ := dp_list a0
  rw [dpAll_bools h2] at h1
  exact ⟨a, ns, rfl, SqL.of h1, k _ G H (Ext.refl s) (.bl _)⟩⟩
theorem c_all {ns : List Bool} (hc : X.calm = true) (h : r.data = .list (ns.map .bool)) : Cl X (.builtin "all") [r] (.sh (.bool (ns.all id))) := ⟨_, cr_all hc, fun G H vs Q s q k => by
  obtain ⟨v, B, rfl, q0⟩ := rvl1 q
  have a0 := q0.dp s
  rw [h] at a0
  obtain ⟨a, xs, rfl, h1, h2⟩ := dp_list a0
  rw [dpAll_bools h2] at h1
  exact ⟨a, ns, rfl, SqL.of h1, k _ G H (Ext.refl s) (.bl _)⟩⟩
/-- the greatest, the least of a list of ints -/
theorem c_maxL {ns : List Int} {m : Int} (hc : X.calm = true) (h : r.data = .list (ns.map .int)) (hm : m ∈ ns) (hle : ∀ y ∈ ns, y ≤ m) : Cl X (.builtin "max") [r] (.sh (.int m)) := ⟨_, cr_max hc, fun G H vs Q s q k => by
  obtain ⟨v, B, rfl, q0⟩ := rvl1 q
  have a0 := q0.dp s
  rw [h] at a0
  obtain ⟨a, rfl, h1⟩ := dp_lstInts a0
  refine ⟨a, ns, rfl, SqL.of h1, List.length_pos_of_mem hm, fun m' h2 h3 => ?_⟩
  have e : m' = m := Int.le_antisymm (hle _ h2) (h3 _ hm)
  rw [e]
  exact k _ G H (Ext.refl s) (.int _)⟩
theorem c_list {tup : Bool} (h : r.items = some ds ∨ r = .sh (.tuple ds)) : Cl X (.type "list") [r] (.own ds) := ⟨_, call_list_of, fun G H vs Q s q k => by
  obtain ⟨v, B, rfl, q0⟩ := rvl1 q
  rcases h with h | h
  · obtain ⟨a, vs, rfl, a1, a2⟩ := q0.items h s
    exact ⟨a, vs, rfl, .inl (SqL.of a1), fun p hp => k _ G _ (Ext.own s hp) ⟨p, rfl, hp, s.free hp, _, upd_same, a2⟩⟩
  · subst h
    obtain ⟨a, vs, rfl, a1, a2⟩ := dp_tuple q0
    exact ⟨a, vs, rfl, .inr (SqT.of (s.app a1)), fun p hp => k _ G _ (Ext.own s hp) ⟨p, rfl, hp, s.free hp, _, upd_same, a2⟩⟩⟩
theorem c_tuple (h : r.items = some ds) : Cl X (.type "tuple") [r] (.sh (.tuple ds)) := ⟨_, call_tuple_of, fun G H vs Q s q k => by
  obtain ⟨v, B, rfl, q0⟩ := rvl1 q
  obtain ⟨a, vs, rfl, a1, a2⟩ := q0.items h s
  exact ⟨a, vs, rfl, .inl ⟨SqL.of a1, fun p hp => k _ _ _ (Ext.new s hp) (.tup upd_same (dpAll_mono (same_new (s.free hp)) _ _ a2))⟩⟩⟩
def b2i' (b : Bool) : Int := if b then 1 else 0
/-- isinstance -/
def tyn : PD → String
  | .none => "NoneType"
  | .bool _ => "bool"
  | .int _ => "int"
  | .str _ => "str"
  | .list _ => "list"
  | .tuple _ => "tuple"
  | .dict _ => "dict"
def topOk : PD → Bool
  | .dict (_ :: _) => false
  | _ => true
theorem ty_of {K : KF} {H : Hp} {v : V} (h : Dq K H v d) (hs : topOk d = true) : TyX K H v (.type (tyn d)) := by
  cases h with
  | non => exact .base .non
  | bl b => exact .base (.bl b)
  | int i => exact .base (.int i)
  | str x => exact .base (.str x)
  | lst h1 _ => exact .base (.lst h1)
  | tup h1 _ => exact .base (.tup h1)
  | dct h1 => exact .base (.dK h1)
  | scr h1 => cases hs
  | adr => cases hs
  | opq => cases hs
end
end TW

namespace TW
open PySem PySem.Spec PyProof.Rows L2
/-! ### comprehensions, typed -/
section
variable {X : Cx} {b : Bs} {env : PEnv} {sc : Scope} {tg iter elt c : Expr} {ifs : List Expr} {vs : List Nat} {d y : PD} {k : Bool} {pos : Pos}
theorem turn_all {env' : PEnv} (ht : ∀ s H0 C cl fp, TgW (blkX X sc s H0 C cl fp) b tg vs d (wipeP env vs) env') (he : ∀ s H0 C cl fp, EvS (blkX X sc s H0 C cl fp) b elt env' y) : TurnP X b sc tg [] elt vs env d (some y) :=
  ⟨env', true, fun s H0 C cl fp _ => ht s H0 C cl fp, fun _ _ _ _ _ _ => tss_nil, .inr ⟨rfl, y, rfl, fun s H0 C cl fp _ => he s H0 C cl fp⟩⟩
theorem turn_if {env' : PEnv} (ht : ∀ s H0 C cl fp, TgW (blkX X sc s H0 C cl fp) b tg vs d (wipeP env vs) env') (hc : ∀ s H0 C cl fp, TsP (blkX X sc s H0 C cl fp) b c env' k) (he : k = true → ∀ s H0 C cl fp, EvS (blkX X sc s H0 C cl fp) b elt env' y) :
    TurnP X b sc tg [c] elt vs env d (if k then some y else none) := by
  refine ⟨env', k, fun s H0 C cl fp _ => ht s H0 C cl fp, fun s H0 C cl fp _ => tss_one (hc s H0 C cl fp), ?_⟩
  cases k with
  | true => exact .inr ⟨rfl, y, rfl, fun s H0 C cl fp _ => he rfl s H0 C cl fp⟩
  | false => exact .inl ⟨rfl, rfl⟩
theorem filterMap_some {α β : Type} (g : α → β) : ∀ xs : List α, xs.filterMap (fun z => some (g z)) = xs.map g
  | [] => rfl
  | x :: xs => by rw [List.filterMap_cons, filterMap_some g xs]; rfl
theorem filterMap_if {α β : Type} (p : α → Bool) (g : α → β) : ∀ xs : List α, xs.filterMap (fun z => if p z then some (g z) else none) = (xs.filter p).map g
  | [] => rfl
  | x :: xs => by
    rw [List.filterMap_cons, filterMap_if p g xs, List.filter_cons]
    cases p x <;> rfl
theorem ev_lcM {β : Type} {xs : List β} {enc g : β → PD} {own : List (Str × Nat)} (hc : X.calm = true) (hN : X.N.Nodup) (ok : BlkOk X.N X.env.scope sc own) (hi : ItP X b tg iter env (xs.map enc)) (hl : xs.length ≤ 1000000)
    (ht : ∀ z, z ∈ xs → TurnP X b sc tg ifs elt (own.map (·.2)) env (enc z) (some (g z))) (hs : ∀ x, foldedSetIterable iter X.env x = pure x := by intro _; rfl) : EvP X b (.ListComp elt [⟨tg, iter, ifs, 0⟩] sc pos) env (.own (xs.map g)) := by
  have h := ev_lc (pos := pos) hc hN ok hi hl ht hs
  rwa [filterMap_some] at h
theorem ev_lcF {β : Type} {xs : List β} {enc g : β → PD} {p : β → Bool} {own : List (Str × Nat)} (hc : X.calm = true) (hN : X.N.Nodup) (ok : BlkOk X.N X.env.scope sc own) (hi : ItP X b tg iter env (xs.map enc)) (hl : xs.length ≤ 1000000)
    (ht : ∀ z, z ∈ xs → TurnP X b sc tg ifs elt (own.map (·.2)) env (enc z) (if p z then some (g z) else none)) (hs : ∀ x, foldedSetIterable iter X.env x = pure x := by intro _; rfl) : EvP X b (.ListComp elt [⟨tg, iter, ifs, 0⟩] sc pos) env (.own ((xs.filter p).map g)) := by
  have h := ev_lc (pos := pos) hc hN ok hi hl ht hs
  rwa [filterMap_if] at h
end
/-! ### isinstance, sorted, int -/
section
variable {X : Cx} {b : Bs} {env : PEnv} {r r1 r2 : RV} {e : Expr} {pos p p2 : Pos} {d : PD} {ds : List PD}
/-- a built-in class by its name, as a value -/
theorem cl_isi {T : String} {k : Bool} (hs : topOk r.data = true) (h : kitB (tyn r.data) T = some k) (G H : Hp) (v : V) (B : Hp) (s : SameK G H) (q : RvOk X.K B G H r v) (Q : VK) (hq : Q (.bl k) H) : rIsi X.K [v, .ty T] H Q :=
  ⟨v, .ty T, _, _, k, rfl, .ty T, ty_of (q.dp s) hs, kit_ty h, hq⟩
theorem ev_isi {x : Str} {T : String} {k : Bool} (hm : X.mg "isinstance" = none) (hmx : X.mg x = none) (he : EvP X b e env r) (h : kitB (tyn r.data) T = some k) (hs : topOk r.data = true) (hv : bootBuiltins x = some (.type T) := by decide +kernel) (hg : Gl X "isinstance" := by rfl) (hgx : Gl X x := by rfl)
    (hn : x ≠ "__name__" := by decide) (hdb : (x == ("__debug__" : Str)) = false := by decide)
    (h1 : starEach [e, .Name x p2] X.env = (false, eval e X.env) :: starEach [.Name x p2] X.env := by rfl) (h2 : starEach [.Name x p2] X.env = (false, eval (.Name x p2) X.env) :: starEach [] X.env := by rfl)
    (hpl : (backTo pos (starEach [.Name x p2] X.env)).any (·.1) = false := by rfl) : EvP X b (.Call (.Name "isinstance" p) [e, .Name x p2] [] pos) env (.sh (.bool k)) := fun σ G H Q E kk => by
  refine sem_e (pe_callB call_isi hg hm (by decide +kernel) (pa_cons pe_sem (pa_cons (pe_bltn (v := .ty T) hgx hmx hv rfl hn hdb) pa_nil h2) h1) (by decide) (by decide) h1 hpl) (he σ G H _ E fun v G1 H1 x q => ?_)
  exact cl_isi hs h G1 H1 v H x.s q Q (kk _ G1 H1 x (.bl k))
def isInt : PD → Bool
  | .int _ => true
  | .bool _ => true
  | _ => false
def isBool : PD → Bool
  | .bool _ => true
  | _ => false
def isList : PD → Bool
  | .list _ => true
  | _ => false
def isTup : PD → Bool
  | .tuple _ => true
  | _ => false
theorem kit_int (d : PD) : kitB (tyn d) "int" = some (isInt d) := by
  cases d
  · exact (by decide +kernel : kitB "NoneType" "int" = some false)
  · exact (by decide +kernel : kitB "bool" "int" = some true)
  · exact (by decide +kernel : kitB "int" "int" = some true)
  · exact (by decide +kernel : kitB "str" "int" = some false)
  · exact (by decide +kernel : kitB "list" "int" = some false)
  · exact (by decide +kernel : kitB "tuple" "int" = some false)
  · exact (by decide +kernel : kitB "dict" "int" = some false)
theorem kit_bool (d : PD) : kitB (tyn d) "bool" = some (isBool d) := by
  cases d
  · exact (by decide +kernel : kitB "NoneType" "bool" = some false)
  · exact (by decide +kernel : kitB "bool" "bool" = some true)
  · exact (by decide +kernel : kitB "int" "bool" = some false)
  · exact (by decide +kernel : kitB "str" "bool" = some false)
  · exact (by decide +kernel : kitB "list" "bool" = some false)
  · exact (by decide +kernel : kitB "tuple" "bool" = some false)
  · exact (by decide +kernel : kitB "dict" "bool" = some false)
theorem kit_list (d : PD) : kitB (tyn d) "list" = some (isList d) := by
  cases d
  · exact (by decide +kernel : kitB "NoneType" "list" = some false)
  · exact (by decide +kernel : kitB "bool" "list" = some false)
  · exact (by decide +kernel : kitB "int" "list" = some false)
  · exact (by decide +kernel : kitB "str" "list" = some false)
  · exact (by decide +kernel : kitB "list" "list" = some true)
  · exact (by decide +kernel : kitB "tuple" "list" = some false)
  · exact (by decide +kernel : kitB "dict" "list" = some false)
theorem kit_tup (d : PD) : kitB (tyn d) "tuple" = some (isTup d) := by
  cases d
  · exact (by decide +kernel : kitB "NoneType" "tuple" = some false)
  · exact (by decide +kernel : kitB "bool" "tuple" = some false)
  · exact (by decide +kernel : kitB "int" "tuple" = some false)
  · exact (by decide +kernel : kitB "str" "tuple" = some false)
  · exact (by decide +kernel : kitB "list" "tuple" = some false)
  · exact (by decide +kernel : kitB "tuple" "tuple" = some true)
  · exact (by decide +kernel : kitB "dict" "tuple" = some false)
/-- sorted: data of one shape -/
def rSortedD (K : KF) : List V → Hp → VK → Prop := fun vs H Q => ∃ (a : Addr) (zs : List (V × PD)), vs = [V.ref a] ∧ H a = some (.lst (zs.map (·.1))) ∧ L2.DpAll K H (zs.map (·.1)) (zs.map (·.2)) ∧ PySem.W.AllAlike (zs.map (·.2)) ∧ PySem.W.Sortable (zs.map (·.2)) ∧ (∀ z ∈ zs, z.2.depth ≤ 60) ∧
  ∀ p, H p = none → Q (.ref p) (upd H p (.lst ((zs.mergeSort (PySem.W.dataLe false fun z : V × PD => z.2)).map (·.1))))
theorem each_of_vals : ∀ {zs : List (V × PD)} {us : List Value}, Vals (zs.map (·.1)) us → PySem.W.EachIs (fun (u : Value) (z : V × PD) => RelV z.1 u) us zs
  | [], _, h => by cases h; exact .nil
  | z :: zs, _, h => by
    cases h with
    | cons a b => exact .cons a (each_of_vals b)
theorem vals_of_each : ∀ {zs : List (V × PD)} {us : List Value}, PySem.W.EachIs (fun (u : Value) (z : V × PD) => RelV z.1 u) us zs → Vals (zs.map (·.1)) us
  | _, _, .nil => .nil
  | _, _, .cons a b => .cons a (vals_of_each b)
theorem each_reads {h : Heap} : ∀ {zs : List (V × PD)} {us : List Value} {as : List Addr}, ReadsAll h us (zs.map (·.2)) as → PySem.W.EachIs (fun u (z : V × PD) => ∃ as, Reads h u z.2 as) us zs
  | [], _, _, r => by cases r; exact .nil
  | z :: zs, _, _, r => by
    cases r with
    | cons a b => exact .cons ⟨_, a⟩ (each_reads b)
theorem cr_sortedD (hu : X.A.units + 64 < cLine) : CallR X (.builtin "sorted") (rSortedD X.K) := by
  intro pins s σ H vs us Q I r h
  obtain ⟨a, zs, rfl, hl, hd, hal, hso, hde, q⟩ := h
  rw [Vals.ref1 r]
  obtain ⟨its, rv, pl, hz⟩ := I.list (SqL.of hl)
  obtain ⟨as, hr⟩ := Dp.readsAll I (zs.map (·.2)) _ its hd rv
  rw [List.length_map] at hz
  refine PySem.W.sorted_data (bs := zs) (enc := fun z : V × PD => z.2) (R := fun u z => RelV z.1 u) pl.isList (each_of_vals rv) (each_reads hr) hal hso hz (fun z hz => by have := hde z hz; omega) fun out ho hout => ?_
  obtain ⟨ep, he'⟩ := PyProof.Rows.sortedAll_at s.heap its out.toArray
  refine ⟨.ref _, upd H (s.heap.objs.size + 1) (.lst ((zs.mergeSort (PySem.W.dataLe false fun z : V × PD => z.2)).map (·.1))), I.laid (t' := s.toks) (fun _ _ => PyProof.Rows.sortedAll_old) (Nat.le_succ _) ⟨?_, out, ep, vals_of_each hout, he'⟩, rfl, q _ (I.hok.fresh (Nat.le_succ _))⟩
  rw [List.length_map, List.length_mergeSort]
  exact hz
theorem zip_dp {K : KF} {G : Hp} : ∀ {vs : List V} {ds : List PD}, DqAll K G vs ds → ∃ zs : List (V × PD), vs = zs.map (·.1) ∧ ds = zs.map (·.2) ∧ ∀ z ∈ zs, Dq K G z.1 z.2
  | _, [], h => by cases h; exact ⟨[], rfl, rfl, by simp⟩
  | _, d :: ds, h => by
    cases h with
    | cons a b =>
      obtain ⟨zs, e1, e2, h3⟩ := zip_dp b
      refine ⟨(_, d) :: zs, by rw [e1]; rfl, by rw [e2]; rfl, fun z hz => ?_⟩
      rcases List.mem_cons.mp hz with rfl | hz
      · exact a
      · exact h3 z hz
theorem dpAll_of_mem {K : KF} {G : Hp} : ∀ {zs : List (V × PD)}, (∀ z ∈ zs, Dq K G z.1 z.2) → DqAll K G (zs.map (·.1)) (zs.map (·.2))
  | [], _ => .nil
  | z :: zs, h => .cons (h z List.mem_cons_self) (dpAll_of_mem fun w hw => h w (List.mem_cons_of_mem _ hw))
/-- sorted over an encoding: by the order that Python has on it -/
theorem c_sorted {β : Type} {enc : β → PD} {xs : List β} {n : Nat} (hu : X.A.units + 64 < cLine) (hl : ∀ x, Lay n (enc x)) (hal : ∀ x y, PySem.W.alike (enc x) (enc y) = true) (hso : PySem.W.Sortable (xs.map enc)) (h1 : r.items = some (xs.map enc)) (hn : n ≤ 60 := by decide) :
    Cl X (.builtin "sorted") [r] (.own ((xs.mergeSort (PySem.W.dataLe false enc)).map enc)) := ⟨_, cr_sortedD hu, fun G H vs Q s q k => by
  obtain ⟨v, B, rfl, q0⟩ := rvl1 q
  obtain ⟨a, vs, rfl, a1, a2⟩ := q0.items h1 s
  obtain ⟨zs, rfl, e2, h3⟩ := zip_dp a2
  have hcl : PyData.canLayAll0 (zs.map (·.2)) = true := by
    rw [← e2]
    exact (lay_all (lay_map hl)).1
  refine ⟨a, zs, rfl, a1, dqAll_dp _ _ hcl (dpAll_mono s _ _ (by rw [← e2]; exact a2)), ?_, by rw [← e2]; exact hso, fun z hz => ?_, fun p hp => ?_⟩
  · rw [← e2]
    exact PySem.W.AllAlike.of hal
  · have : z.2 ∈ xs.map enc := by rw [e2]; exact List.mem_map.mpr ⟨z, hz, rfl⟩
    obtain ⟨x, _, e⟩ := List.mem_map.mp this
    rw [← e]
    exact Nat.le_trans (hl x).2 hn
  · refine k _ G _ (Ext.own s hp) ⟨p, rfl, hp, s.free hp, _, upd_same, ?_⟩
    have hm : (zs.mergeSort (PySem.W.dataLe false fun z : V × PD => z.2)).map (·.2) = (xs.mergeSort (PySem.W.dataLe false enc)).map enc := by
      have m1 := List.map_mergeSort (r := PySem.W.dataLe false fun z : V × PD => z.2) (s := PySem.W.dataLe false fun d : PD => d) (f := fun z : V × PD => z.2) (l := zs) (fun _ _ _ _ => rfl)
      have m2 := List.map_mergeSort (r := PySem.W.dataLe false enc) (s := PySem.W.dataLe false fun d : PD => d) (f := enc) (l := xs) (fun _ _ _ _ => rfl)
      rw [m1, m2, ← e2]
    rw [← hm]
    exact dpAll_of_mem fun z hz => h3 z (List.mem_mergeSort.mp hz)⟩
/-- sorted(ints, reverse=True): the list in falling order -/
theorem perm_down_eq {xs ys : List Int} (h : xs.Perm ys) (h1 : xs.Pairwise (· ≥ ·)) (h2 : ys.Pairwise (· ≥ ·)) : xs = ys :=
  h.eq_of_pairwise (fun a c _ _ h h' => Int.le_antisymm h' h) h1 h2
theorem ev_sortedRev {ns ms : List Int} {kp : Pos} (hm : X.mg "sorted" = none) (he : EvP X b e env r) (h : r.data = .list (ns.map .int)) (hp : ms.Perm ns) (ho : ms.Pairwise (· ≥ ·))
    (hpe : PE X (.Call (.Name "sorted" p) [e] [⟨some "reverse", .Constant (.bool true) 0 p2, kp⟩] pos) (tCKw (rSortedKw X.K true [.bl true]) (tCons (semE X e) tNil) (tCons (tC (.bl true)) tNil))) :
    EvP X b (.Call (.Name "sorted" p) [e] [⟨some "reverse", .Constant (.bool true) 0 p2, kp⟩] pos) env (.own (ms.map .int)) := fun σ G H Q E k => by
  refine sem_e hpe (he σ G H _ E fun v G1 H1 x q => ?_)
  have a0 := q.dp x.s
  rw [h] at a0
  obtain ⟨a, rfl, h1⟩ := dp_lstInts a0
  refine ⟨a, ns, rfl, rfl, SqL.of h1, fun ns' p pe od hp' => ?_⟩
  have e : ns' = ms := perm_down_eq (pe.trans hp.symm) od ho
  subst e
  exact k _ G1 _ (x.trans (Ext.own x.s hp')) ⟨p, rfl, x.h.free hp', x.s.free hp', _, upd_same, dpAll_of_ints⟩
/-- int(a truth) -/
theorem c_intB {k : Bool} : Cl X (.type "int") [.sh (.bool k)] (.sh (.int (if k then 1 else 0))) := ⟨_, call_int1, fun G H vs Q s q kk => by
  obtain ⟨v, B, rfl, q0⟩ := rvl1 q
  rw [dp_bool q0]
  refine .inr ⟨k, rfl, ?_⟩
  exact kk _ G H (Ext.refl s) (.int _)⟩
end
end TW

/-! PLh1: walks and comprehensions while an exception is handled. -/
namespace TW
open PySem PySem.Spec PyProof.Rows L2
section
variable {prog : Program} {w : World} {A : Around} {E : Value → Shared → Prop} {s : Shared}
theorem list_end_hot {it l x1 : Addr} {i : Nat} {items : Array Value} {Q : Option Value → Shared → Prop} (hot : HotX.HotAt A x1 s.heap) (hne : x1 ≠ it)
    (hit : s.heap.IsListIter it l i) (hl : s.heap.IsList l items) (hx : items[i]? = none) (hQ : ∀ h', Heap.ExtBut it s.heap h' → Q none { s with heap := h' }) : wpAny (model prog w) A (pyNext (.ref it)) Q E s := by
  obtain ⟨oi, hoi, hci, hdi⟩ := id hit
  obtain ⟨lo, hlo, _, ep, hdl⟩ := hl
  obtain ⟨hh, o1, w1, e1, d1, c1⟩ := hot
  unfold pyNext
  have ty := hit.typeIs
  refine wpAny_bind (wpAny_attempt (wpAny_callSpecial?_slot (name := Str.ofString "__next__") ty PySem.slot_listiter_next (wpAny_call_entry PySem.slot_listiter_next ty PySem.entry_listiter_next ?_ (PySem.args_listiter_next _))))
  show wpAny _ _ (field (.ref it) 0 >>= fun _ => _) _ _ s
  refine wpAny_bind (wpAny_field hoi hdi (x := Value.ref l) rfl ?_)
  have nn : ¬ ((Value.ref l == Value.none) = true) := by simp
  show wpAny _ _ (if (Value.ref l == Value.none) = true then _ else _) _ _ _
  rw [if_neg nn]
  show wpAny _ _ (field (.ref it) 1 >>= fun _ => _) _ _ s
  refine wpAny_bind (wpAny_field hoi hdi (x := Value.int i 0) rfl ?_)
  show wpAny _ _ (seqItems? (.ref l) >>= fun _ => _) _ _ s
  refine wpAny_bind (wpAny_seqItems hlo hdl ?_)
  simp only [Int.toNat_natCast, hx]
  refine wpAny_bind (wpAny_rule (wpAny_bind (wpAny_setField hoi hdi (by simp) ?_)))
  show wpAny _ _ (newExc (.type "StopIteration") [] >>= fun _ => _) _ _ _
  refine wpAny_bind ?_
  simp only [newExc, newTuple]
  have q1 : (s.heap.update it (Obj.mapFields fun fs => fs.setIfInBounds 0 Value.none)).get? x1 = some o1 := by
    rw [Heap.get?_update_other _ _ (Ne.symm hne)]
    exact e1
  refine wpAny_bind (wpAny_newObj_type ?_ (by size_fits))
  refine wpAny_bind (m := firstArgMember _ _) (wpAny_of_eq (a := Value.none) (by first | rfl | (simp only [firstArgMember]; rfl)) ?_)
  refine wpAny_newObj_type ?_ (by size_fits)
  have q2 := Heap.get?_push_of_some { cls := .type "tuple", data := .seq ([] : List Value).toArray } q1
  refine HotX.raiseNew_hot ⟨hh, o1, w1, Heap.get?_push_of_some _ q2, d1, c1⟩ (Nat.ne_of_lt (Heap.lt_size q2)) (Heap.get?_push_size _ rfl) rfl (by first | (simp; done) | (simp; omega) | (simp only [Array.size_append]; simp; omega)) ?_
  refine wpAny_bind (wpAny_isInstance (T := "StopIteration") (b := true) ⟨_, Heap.get?_update_self _ (Heap.get?_push_size _ rfl) rfl, rfl⟩ isSubtype_stop ?_)
  refine wpAny_pure (hQ _ fun b o hb e => ?_)
  have r1 : (s.heap.update it (Obj.mapFields fun fs => fs.setIfInBounds 0 Value.none)).get? b = some o := by
    rw [Heap.get?_update_other _ _ (Ne.symm hb)]
    exact e
  have r2 := Heap.get?_push_of_some { cls := .type "tuple", data := .seq ([] : List Value).toArray } r1
  rw [Heap.get?_update_other _ _ (Nat.ne_of_gt (Heap.lt_size r2))]
  exact Heap.get?_push_of_some _ r2
theorem tup_end_hot {it t x1 : Addr} {i : Nat} {items : Array Value} {Q : Option Value → Shared → Prop} (hot : HotX.HotAt A x1 s.heap) (hne : x1 ≠ it)
    (hit : IsTupIter s.heap it t i) (hl : IsTup s.heap t items) (hx : items[i]? = none) (hQ : ∀ h', Heap.ExtBut it s.heap h' → Q none { s with heap := h' }) : wpAny (model prog w) A (pyNext (.ref it)) Q E s := by
  obtain ⟨oi, hoi, hci, hdi⟩ := id hit
  obtain ⟨lo, hlo, _, ep, hdl⟩ := hl
  obtain ⟨hh, o1, w1, e1, d1, c1⟩ := hot
  unfold pyNext
  have ty := hit.typeIs
  refine wpAny_bind (wpAny_attempt (wpAny_callSpecial?_slot (name := Str.ofString "__next__") ty slot_tupleiter_next (wpAny_call_entry slot_tupleiter_next ty entry_tupleiter_next ?_ (args_tupleiter_next _))))
  show wpAny _ _ (field (.ref it) 0 >>= fun _ => _) _ _ s
  refine wpAny_bind (wpAny_field hoi hdi (x := Value.ref t) rfl ?_)
  have nn : ¬ ((Value.ref t == Value.none) = true) := by simp
  show wpAny _ _ (if (Value.ref t == Value.none) = true then _ else _) _ _ _
  rw [if_neg nn]
  show wpAny _ _ (field (.ref it) 1 >>= fun _ => _) _ _ s
  refine wpAny_bind (wpAny_field hoi hdi (x := Value.int i 0) rfl ?_)
  show wpAny _ _ (seqItems? (.ref t) >>= fun _ => _) _ _ s
  refine wpAny_bind (wpAny_seqItems hlo hdl ?_)
  simp only [Int.toNat_natCast, hx]
  refine wpAny_bind (wpAny_rule (wpAny_bind (wpAny_setField hoi hdi (by simp) ?_)))
  show wpAny _ _ (newExc (.type "StopIteration") [] >>= fun _ => _) _ _ _
  refine wpAny_bind ?_
  simp only [newExc, newTuple]
  have q1 : (s.heap.update it (Obj.mapFields fun fs => fs.setIfInBounds 0 Value.none)).get? x1 = some o1 := by
    rw [Heap.get?_update_other _ _ (Ne.symm hne)]
    exact e1
  refine wpAny_bind (wpAny_newObj_type ?_ (by size_fits))
  refine wpAny_bind (m := firstArgMember _ _) (wpAny_of_eq (a := Value.none) (by first | rfl | (simp only [firstArgMember]; rfl)) ?_)
  refine wpAny_newObj_type ?_ (by size_fits)
  have q2 := Heap.get?_push_of_some { cls := .type "tuple", data := .seq ([] : List Value).toArray } q1
  refine HotX.raiseNew_hot ⟨hh, o1, w1, Heap.get?_push_of_some _ q2, d1, c1⟩ (Nat.ne_of_lt (Heap.lt_size q2)) (Heap.get?_push_size _ rfl) rfl (by first | (simp; done) | (simp; omega) | (simp only [Array.size_append]; simp; omega)) ?_
  refine wpAny_bind (wpAny_isInstance (T := "StopIteration") (b := true) ⟨_, Heap.get?_update_self _ (Heap.get?_push_size _ rfl) rfl, rfl⟩ isSubtype_stop ?_)
  refine wpAny_pure (hQ _ fun b o hb e => ?_)
  have r1 : (s.heap.update it (Obj.mapFields fun fs => fs.setIfInBounds 0 Value.none)).get? b = some o := by
    rw [Heap.get?_update_other _ _ (Ne.symm hb)]
    exact e
  have r2 := Heap.get?_push_of_some { cls := .type "tuple", data := .seq ([] : List Value).toArray } r1
  rw [Heap.get?_update_other _ _ (Nat.ne_of_gt (Heap.lt_size r2))]
  exact Heap.get?_push_of_some _ r2
theorem unpack_hot {t x1 : Addr} {items : Array Value} {targets : List (Bool × (Value → Sem Unit))} {Q : Unit → Shared → Prop} (hot : HotX.HotAt A x1 s.heap) (ht : IsTup s.heap t items)
    (hn : targets.length = items.size) (hstar : targets.findIdx? (·.1) = none) (h : ∀ h', Heap.ExtBut s.heap.objs.size s.heap h' → wpAny (model prog w) A (assignInOrder (targets.map (·.2)) items.toList) Q E { s with heap := h' }) :
    wpAny (model prog w) A (unpack (.ref t) targets) Q E s := by
  have hlt : t ≠ s.heap.objs.size := by obtain ⟨o, ho, _⟩ := ht; exact Nat.ne_of_lt (Heap.lt_size ho)
  obtain ⟨hh, o1, w1, e1, d1, c1⟩ := hot
  have hx1 : x1 ≠ s.heap.objs.size := Nat.ne_of_lt (Heap.lt_size e1)
  unfold unpack
  rw [hn, hstar]
  refine wpAny_bind (wpAny_holding ?_)
  unfold unpackItems
  refine wpAny_bind ?_
  unfold notIterableAtAll
  refine wpAny_bind (wpAny_specialOf ht.typeIs slot_tuple_iter.lookup ?_)
  refine wpAny_pure ?_
  simp only [Bool.false_eq_true, if_false]
  have t1 := ht.push { cls := .type "tuple_iterator", data := .fields #[.ref t, .int 0 0] }
  refine wpAny_bind (wpAny_holding (iter_tuple ht ?_))
  refine wpAny_bind (wpAny_holding (draw_tuple hlt items.size 0 _ _ ⟨_, Heap.get?_push_size _ rfl, rfl, rfl⟩ t1 (by omega) fun h₁ i1 s1 => ?_))
  have all : List.take items.size (List.drop 0 items.toList) = items.toList := by rw [List.drop_zero]; exact List.take_of_length_le (by simp)
  rw [all, if_neg (by simp)]
  have z1 : h₁.get? x1 = some o1 := (s1.2 x1 hx1).trans (Heap.get?_push_of_some _ e1)
  refine wpAny_bind (wpAny_holding (tup_end_hot ⟨hh, o1, w1, z1, d1, c1⟩ hx1 i1 (t1.extBut s1.extBut hlt) (by simp) fun h₂ s2 => ?_))
  simp only [Option.isSome_none, Bool.false_eq_true, if_false]
  exact wpAny_pure (h h₂ fun b o hb e => s2 b o hb (s1.extBut b o hb (Heap.get?_push_of_some _ e)))
end
/-! ### contexts that keep the exception -/
/-- the handled exception stood at the entry, untracked -/
def HotB (X : Cx) : Prop := ∃ p : Addr × Obj, L2H.Hot1 X.A p ∧ X.s_0.heap.get? p.1 = some p.2 ∧ X.H_0 p.1 = none ∧ p.1 ∉ X.fs ∧ p.1 ∉ X.ex
section
variable {X : Cx} {pins : List (Addr × Obj)} {σ : L2.St} {H : Hp} {s : Shared}
theorem HotB.at (c : HotB X) (I : Inv X pins σ H s) : ∃ x1 o, HotX.HotAt X.A x1 s.heap ∧ s.heap.get? x1 = some o ∧ X.s_0.heap.get? x1 = some o ∧ x1 ∉ X.ex := by
  obtain ⟨p, ⟨hh, vs, e, c⟩, g, n, nf, nx⟩ := c
  have q := I.base.keep p.1 p.2 g n nf nx
  exact ⟨p.1, p.2, ⟨hh, p.2, vs, q, e, c⟩, q, g, nx⟩
theorem pg_tupH {es : List Expr} {k : Nat} {t : TGs} {n : Nat} {pos : Pos} (hc : HotB X) (h : PGs X es t) (hn : (assignEach es X.env).length = n := by rfl) (hst : (assignEach es X.env).findIdx? (·.1) = none := by rfl) : PG X (.Tuple es k pos) (gTup X.K n t) := by
  refine ⟨fun pins s σ H v u Q I r hw => ?_⟩
  obtain ⟨a, xs, e1, hq, hl, hw⟩ := hw
  subst e1
  cases r
  obtain ⟨its, rv, ht, _⟩ := I.tuple hq
  obtain ⟨x1, _, hot, _⟩ := hc.at I
  rw [assign_Tuple]
  refine wpAny_bind (wpAny_standAt (unpack_hot hot ht (by simp [hn, ← hl, rv.length]) hst fun h' hx => ?_))
  have J : Inv X pins σ H { s with heap := h' } := I.kept (t' := s.toks) fun b o e => hx b o (Nat.ne_of_lt (Heap.lt_size e)) e
  exact h.run pins _ σ H xs _ Q J (by simpa using rv) hw
end
end TW

/-! PLh2: a comprehension over a list while an exception is handled, stored under a local name. -/
namespace TW
open PySem PySem.Spec PyProof.Rows L2
section
variable {X : Cx} {pins : List (Addr × Obj)} {σ : L2.St} {H : Hp} {s : Shared}
theorem hotB_blk {sc : Scope} {C : Addr} {cl : List (Str × Addr)} {fp : List Addr} (c : L2H.HotC X) (I : Inv X pins σ H s) (hfp : ∀ q ∈ fp, FpOk X pins H q) : HotB (blkX X sc s H C cl fp) := by
  obtain ⟨p, h1, hp⟩ := c
  obtain ⟨g, n, nl, nf, _⟩ := I.pin p (List.mem_append_left _ hp)
  exact ⟨p, h1, g, n, fun z => (List.mem_cons.mp (I.stkSub p.1 z)).elim nl nf, fun z => (hfp _ z).2.2.2.2.2 p (List.mem_append_left _ hp) rfl⟩
/-- a turn's pieces, the rest of the loop by W -/
abbrev HotTurns (X : Cx) (sc : Scope) (tg elt : Expr) (ifs : List Expr) (vs : List Nat) (σ : L2.St) (a : Addr) (Q : VK) (D : Addr) (W : Nat → Nat → Hp → Prop) : Prop := ∀ i m H, W i m H →
  ((Itl X.K a).stop i H ∧ Q (.ref D) H) ∨ ((Itl X.K a).go i H ∧ ∃ Nx : Hp → Prop, (∀ H', Nx H' → ∃ m', m' < m ∧ W (i + 1) m' H') ∧ ∀ x H', (Itl X.K a).yld i H x H' → allG HotB X sc tg x (L2.wipe σ vs) H' fun σ2 H2 => L2.wipe σ2 vs = L2.wipe σ vs ∧ allT HotB X sc ifs σ2 H2 fun k H3 =>
    if k = true then allE HotB X sc elt σ2 H3 fun y H4 => ∃ acc, H4 D = some (.lst acc) ∧ acc.length < sizeLine ∧ Nx (upd H4 D (.lst (acc ++ [y]))) else Nx H3)
theorem hot_lc {Q : VK} {elt tg iter : Expr} {ifs : List Expr} {sc : Scope} {own : List (Str × Nat)} {pos pos' : Pos} {use : Option (Value → Sem Unit)} {Qf : Value → Shared → Prop}
    (hot : L2H.HotC X) (nd : X.N.Nodup) (I : Inv X pins σ H s) (ok : BlkOk X.N X.env.scope sc own) (fold : ∀ x, foldedSetIterable iter X.env x = pure x)
    (hv : semE X iter σ H fun v H1 => ∃ a, v = .ref a ∧ (∃ xs, SqL X.K H1 a xs) ∧ ∀ D, H1 D = none → ∃ W : Nat → Nat → Hp → Prop, (∃ m, W 0 m (upd H1 D (.lst []))) ∧ HotTurns X sc tg elt ifs (own.map (·.2)) σ a Q D W)
    (back : ∀ D C s' m H', Inv X pins σ H' s' → Q (.ref D) H' → s'.heap.Ns C m → FpOk X pins H' C → compPost (model X.prog X.w) X.A X.xe use Qf (.ref D) C (.ok .next) s') :
    wpAny (model X.prog X.w) X.A (comprehension (.ListComp elt [⟨tg, iter, ifs, 0⟩] sc pos) sc X.env pos' (newList []) false (eval iter X.env) use) Qf X.xe s := by
  have lays : ∀ y ∈ sc.names, y.2 = .free → ∃ c, X.env.cells.lookup y.1 = some c := fun y hy e => I.ok.has _ ((ok.free y hy e).elim .inl .inr)
  refine wpAny_comprehension_free (use := use) rfl fold (closure_ok lays) ok.kind (fun y hy e => by rw [ok.uniq y hy, e]) (thn (hv.out pins s I) fun u0 s1 ⟨v0, H1, I1, r0, a, ev, ⟨xs, hq⟩, rest⟩ => ?_)
  subst ev
  cases r0
  obtain ⟨its, rv, pl, _⟩ := I1.list hq
  refine wpAny_pyIter_list pl.isList ?_
  -- the iterator
  generalize hit : s1.heap.objs.size = it
  generalize hs2 : ({ s1 with heap := s1.heap.push { cls := .type "list_iterator", data := .fields #[.ref a, .int 0 0] } } : Shared) = s2
  have H2 : s2.heap = s1.heap.push { cls := .type "list_iterator", data := .fields #[.ref a, .int 0 0] } := by rw [← hs2]
  have I2 : Inv X pins σ H1 s2 := by rw [← hs2]; exact I1.kept (t' := s1.toks) fun b o e => Heap.get?_push_of_some _ e
  have z2 : s2.heap.IsListIter it a 0 := by rw [H2, ← hit]; exact ⟨_, Heap.get?_push_size _ rfl, rfl, rfl⟩
  have f2 : FpOk X pins H1 it := I1.fpOk (Nat.le_of_eq hit) (I1.hok.fresh (Nat.le_of_eq hit))
  have lt2 : it < s2.heap.objs.size := by rw [H2, Heap.size_push, ← hit]; exact Nat.lt_succ_self _
  refine wpAny_newObj_type (newEnv_comp ?_) (Nat.zero_le _)
  generalize hD : s2.heap.objs.size = D
  have nD : H1 D = none := I2.hok.fresh (Nat.le_of_eq hD)
  obtain ⟨W, ⟨m0, w0⟩, turns⟩ := rest D nD
  generalize hs3 : ({ s2 with heap := s2.heap.push { cls := .type "list", data := .seq ([] : List Value).toArray } } : Shared) = s3
  have e3 : s3.heap = s2.heap.push { cls := .type "list", data := .seq ([] : List Value).toArray } := by rw [← hs3]
  have I3 : Inv X pins σ (upd H1 D (.lst [])) s3 := by
    rw [← hs3]
    exact I2.laid (t' := s2.toks) (fun b o e => Heap.get?_push_of_some _ e) (Nat.le_of_eq hD) ⟨Nat.zero_le _, [], 0, .nil, by rw [← hD]; exact Heap.get?_push_size _ rfl⟩
  have neD : D ≠ it := by rw [← hD]; exact Nat.ne_of_gt lt2
  have f3 : FpOk X pins (upd H1 D (.lst [])) it := ⟨by rw [upd_ne neD.symm]; exact f2.1, f2.2⟩
  have F3 : ∀ q ∈ [it], FpOk X pins (upd H1 D (.lst [])) q ∧ q < s3.heap.objs.size := fun q hq => by
    obtain rfl : q = it := by simpa using hq
    exact ⟨f3, by rw [e3, Heap.size_push]; exact Nat.lt_succ_of_lt lt2⟩
  have z3 : s3.heap.IsListIter it a 0 := by rw [e3]; exact z2.at fun o e => Heap.get?_push_of_some _ e
  have B4 := block_start I3 ok nd F3
  have hB : HotB (X.blk s3 (upd H1 D (.lst [])) sc (compEnvC sc (cellsFrom (s3.heap.objs.size + 1) sc.names (cloFrom X.env.cells sc.names [])) s3.heap.objs.size X.env) [it]) := hotB_blk hot I3 fun q hq => (F3 q hq).1
  -- the pieces, in this block
  have gG : ∀ (v : V) (τ : L2.St) (h1 : Hp) (q), allG HotB X sc tg v τ h1 q → semG (X.blk s3 (upd H1 D (.lst [])) sc (compEnvC sc (cellsFrom (s3.heap.objs.size + 1) sc.names (cloFrom X.env.cells sc.names [])) s3.heap.objs.size X.env) [it]) tg v τ h1 q := fun v τ h1 q z => z _ _ _ _ _ hB
  have gT : ∀ (τ : L2.St) (h1 : Hp) (q), allT HotB X sc ifs τ h1 q → semTs (X.blk s3 (upd H1 D (.lst [])) sc (compEnvC sc (cellsFrom (s3.heap.objs.size + 1) sc.names (cloFrom X.env.cells sc.names [])) s3.heap.objs.size X.env) [it]) ifs τ h1 q := fun τ h1 q z => z _ _ _ _ _ hB
  have gE : ∀ (τ : L2.St) (h1 : Hp) (q), allE HotB X sc elt τ h1 q → semE (X.blk s3 (upd H1 D (.lst [])) sc (compEnvC sc (cellsFrom (s3.heap.objs.size + 1) sc.names (cloFrom X.env.cells sc.names [])) s3.heap.objs.size X.env) [it]) elt τ h1 q := fun τ h1 q z => z _ _ _ _ _ hB
  show codeAny _ _ (.compStart (.ListComp elt [⟨tg, iter, ifs, 0⟩] sc pos) 0 (.ref it) (.ref D) (compEnvC sc (cellsFrom (s3.heap.objs.size + 1) sc.names (cloFrom X.env.cells sc.names [])) s3.heap.objs.size X.env)) (compPost (model X.prog X.w) X.A X.xe use Qf (.ref D) s3.heap.objs.size) { s3 with heap := pushCells (s3.heap.push { cls := .type "dict", data := .dict #[] }) sc.names }
  generalize hce : compEnvC sc (cellsFrom (s3.heap.objs.size + 1) sc.names (cloFrom X.env.cells sc.names [])) s3.heap.objs.size X.env = ce at B4 hB gG gT gE ⊢
  have cL : ce.locals = s3.heap.objs.size := by subst hce; rfl
  generalize hH3 : upd H1 D (.lst []) = H3 at I3 B4 hB gG gT gE w0 f3 F3
  generalize hs4 : ({ s3 with heap := pushCells (s3.heap.push { cls := .type "dict", data := .dict #[] }) sc.names } : Shared) = s4 at B4 ⊢
  have z4 : s4.heap.IsListIter it a 0 := by rw [← hs4]; exact z3.at fun o e => pushCells_keeps _ _ _ _ (Heap.get?_push_of_some _ e)
  let Y : Cx := X.blk s3 H3 sc ce [it]
  have fpY : ∀ {pn' : List (Addr × Obj)} {τ : L2.St} {h1 : Hp} {t : Shared}, Inv Y pn' τ h1 t → (∀ p ∈ pn', p.1 ≠ it) → h1 it = none → FpOk Y pn' h1 it := fun {pn' τ h1 t} J hp n => by
    have m : it ∈ Y.ex := List.mem_singleton.mpr rfl
    exact ⟨n, (J.ok.exf it m).1, J.ok.exfs it m, .inl m, (J.ok.exf it m).2, fun p hp' => hp p ((List.mem_append.mp hp').resolve_left (fun q => absurd q (List.not_mem_nil)))⟩
  have loop : codeAny (model X.prog X.w) X.A (.compLoop (.ListComp elt [⟨tg, iter, ifs, 0⟩] sc pos) 0 (.ref it) (.ref D) ce) (compPost (model X.prog X.w) X.A X.xe use Qf (.ref D) s3.heap.objs.size) s4 := by
    refine compLoop_any (fun n t => ∃ i h1, Inv Y [] (L2.wipe σ (own.map (·.2))) h1 t ∧ t.heap.IsListIter it a i ∧ h1 it = none ∧ W i n h1) ?_ m0 ⟨0, H3, B4, z4, f3.1, w0⟩
    rintro n t5 ⟨i, h5, J5, z5, n5, w5⟩
    obtain ⟨g0, g1, g2, g3, g4, g5⟩ := fpY J5 (fun p hp => absurd hp (by simp)) n5
    rcases turns i n h5 w5 with ⟨⟨ys, hy, hle⟩, qq⟩ | ⟨⟨ys, x, hy, hx⟩, Nx, hNx, step⟩
    · obtain ⟨its5, rv5, p5, _⟩ := J5.list hy
      obtain ⟨x1, _, hx1, e1, e2, e3'⟩ := hB.at J5
      have nx : x1 ≠ it := fun z => e3' (by rw [z]; exact List.mem_singleton.mpr rfl)
      have hl := rv5.length
      refine list_end_hot hx1 nx z5 p5.isList (by simp; omega) fun h' eb => ?_
      have J6 : Inv Y [] (L2.wipe σ (own.map (·.2))) h5 { t5 with heap := h' } := J5.turned (t' := t5.toks) (fun b o hb e => eb b o hb e) g0 g1 g3 g4 g5
      have I7 : Inv X pins σ h5 { t5 with heap := h' } := I3.call' (ch := [it]) J6.os J6.base J6.hok J6.bare fun b hb => by
        obtain rfl : b = it := by simpa using hb
        exact ⟨f3.2.2.2.1, f3.2.1, f3.2.2.2.2.1, f3.2.2.2.2.2⟩
      have nC : h5 s3.heap.objs.size = none := by rw [← cL]; exact J6.free
      obtain ⟨m, hn, _⟩ := J6.loc
      refine back D s3.heap.objs.size _ m h5 I7 qq ?_ (I3.fpOk (Nat.le_refl _) nC)
      rw [← cL]
      exact hn
    · obtain ⟨its5, rv5, p5, _⟩ := J5.list hy
      obtain ⟨u, hu, ru⟩ := rv5.get hx
      refine wpAny_pyNext_list_item z5 p5.isList (x := u) (by simpa using hu) fun h' z6 sb => ?_
      have J6 : Inv Y [] (L2.wipe σ (own.map (·.2))) h5 { t5 with heap := h' } := J5.turned (t' := t5.toks) (fun b o hb e => (sb.2 b hb).trans e) g0 g1 g3 g4 g5
      obtain ⟨o6, e6, c6, d6⟩ := id z6
      refine go_of (s := { t5 with heap := h' }) e6 c6 d6 (by decide) ?_
      have one : ∀ b ∈ [it], FpOk Y [] h5 b := fun b hb => by
        obtain rfl : b = it := by simpa using hb
        exact ⟨g0, g1, g2, g3, g4, g5⟩
      have J6' := J6.pinned one (fun b hb => by
        obtain rfl : b = it := by simpa using hb
        exact ⟨o6, e6, fun v q => by rw [d6] at q; cases q⟩)
      refine thnF (wpAny_mono ((gG _ _ _ _ (step x h5 ⟨rfl, fun zs hz => by rw [J5.list_inj hz hy]; exact hx⟩)).out _ _ u J6' ru) (fun _ _ q => q) fun _ _ q => q) fun _ t8 ⟨τ8, h8, J8, w8, q8⟩ => ?_
      refine thnF ((gT _ _ _ q8).out _ t8 J8) fun k t9 ⟨h9, J9, q9⟩ => ?_
      -- one turn done
      have fin : ∀ {t : Shared} {h1 : Hp}, Inv Y ([] ++ pinsAt [it] h') τ8 h1 t → Nx h1 → ∃ m, m < n ∧ ∃ i h1, Inv Y [] (L2.wipe σ (own.map (·.2))) h1 t ∧ t.heap.IsListIter it a i ∧ h1 it = none ∧ W i m h1 := fun {t h1} J nx => by
        obtain ⟨m', hm, w'⟩ := hNx h1 nx
        have pk := J.pin (it, o6) (List.mem_append_right _ (List.mem_append_right _ (mem_pinsAt (List.mem_singleton.mpr rfl) e6)))
        refine ⟨m', hm, i + 1, h1, (J.unpinned (pins := [])).weak (by rw [← w8, wipe_length]) (fun j v e => ?_), ⟨o6, pk.1, c6, d6⟩, pk.2.1, w'⟩
        rw [← w8] at e
        exact (wipe_some e).1
      cases k with
      | false =>
        simp only [Bool.false_eq_true, if_false] at q9 ⊢
        exact fin J9 q9
      | true =>
        simp only [if_true] at q9 ⊢
        refine thnF ((gE _ _ _ q9).out _ t9 J9) fun w1 t10 ⟨y, h10, J10, r10, acc, hA, hz, nx⟩ => ?_
        exact app_ok (X := Y) J10 hA hz r10 fun t11 J11 => fin J11 nx
  exact codeAny_compStart_list loop (wpAny_pyIter_listiter z4 loop)
end
end TW

/-! PLh3: plain rules: raise, try, and what runs in an except suite. -/
namespace TW
open PySem PySem.Spec PyProof.Rows L2
section
variable {X : Cx} {b : Bs} {env : PEnv} {R : Out} {rest : List Stmt} {pos : Pos} {e : Expr} {d : PD}
/-- name = [.. for .. in ..] on one row, an exception in hand -/
theorem bl_setLcHot {β : Type} {xs : List β} {enc : β → PD} {f : β → Option PD} {sc : Scope} {own : List (Str × Nat)} {tg iter elt : Expr} {ifs : List Expr} {y : Str} {py spos : Pos} (i : Nat) (hc : L2H.HotC X) (hN : X.N.Nodup) (ok : BlkOk X.N X.env.scope sc own)
    (hsw : swapsWith (.ListComp elt [⟨tg, iter, ifs, 0⟩] sc pos) (some (.Name y py)) spos.line X.env = pure true) (hi : EvS X b iter env (.list (xs.map enc))) (hl : xs.length ≤ 1000000)
    (ht : ∀ z, z ∈ xs → TurnZ HotB X b sc tg ifs elt (own.map (·.2)) env (enc z) (f z)) (k : BlP X b rest (env.set i (some (.own (xs.filterMap f)))) R) (hy : X.N[i]? = some y := by rfl) (hyl : X.env.scope.names.lookup y = some .local := by rfl)
    (hs : ∀ x, foldedSetIterable iter X.env x = pure x := by intro _; rfl) : BlP X b (.Assign [.Name y py] (.ListComp elt [⟨tg, iter, ifs, 0⟩] sc pos) spos :: rest) env R := bl_cons fun σ G H D E z => ⟨fun pins s I => by
  rw [exec_Assign_Name_used _ _ _ _ hsw]
  refine wpAny_bind (wpAny_standAt (wpAny_bind ?_))
  show wpAny _ X.A (do let _ ← comprehension (.ListComp elt [⟨tg, iter, ifs, 0⟩] sc pos) sc X.env (firstIterPos [⟨tg, iter, ifs, 0⟩] pos) (newList []) false (eval iter X.env) (some (assign (.Name y py) X.env))) _ _ s
  refine wpAny_bind (thn (hot_lc (Q := fun v H1 => gName i v σ H1 D.nx) (Qf := fun _ t => SP X pins D .next t) hc hN I ok hs (hi σ G H _ E fun v G1 H1 x q => ?_) fun L C t m H1 J q hn fp => ?_) fun _ t q => wpAny_pure (wpAny_pure q))
  · obtain ⟨a, ys, rfl, e1, e2⟩ := dp_list q
    refine ⟨a, rfl, ⟨ys, SqL.of (x.s.app e1)⟩, ?_⟩
    refine lc_pure (Q := fun v H1 => gName i v σ H1 D.nx) E x (J := Itl X.K a) (fun j G2 H2 s1 s2 => ⟨fun d hd => ?_, fun hle => ?_⟩) hl ht fun v G' H' x' q => ?_
    · obtain ⟨w, w1, w2⟩ := dpAll_get e2 hd
      have h2 := s2.app (s1.app e1)
      refine ⟨⟨ys, w, SqL.of h2, w1⟩, fun u H3 hu => ?_⟩
      obtain ⟨rfl, hu⟩ := hu
      have hh := hu ys (SqL.of h2)
      rw [w1] at hh; cases hh
      exact ⟨G2, Ext.refl s2, dp_mono s1 _ _ w2⟩
    · exact ⟨ys, SqL.of (s2.app (s1.app e1)), by rw [dpAll_len e2]; exact hle⟩
    · exact z.nx _ _ G' H' k (E.put x' q (.inl rfl))
  · show wpAny _ _ (assign (.Name y py) X.env (.ref L)) _ _ _
    refine wpAny_assign_Name (store_ok2 (v := V.ref L) J hN hy (.inl hyl) rfl (fun t2 J2 ⟨a, sb, ha⟩ => ?_) (.inr hyl))
    obtain ⟨f0, f1, f2, f3, f4, f5⟩ := fp
    have ne : C ≠ a := ha.elim (fun z => by rw [z]; exact f1) fun z => fun q => f4 y a z q.symm
    exact ⟨m, hn.sameBut sb ne, fun h3 sb3 => ⟨_, H1, J2.turned (t' := t2.toks) (fun b o hb e => (sb3.2 b hb).trans e) f0 f1 f3 f4 f5, q⟩⟩⟩
theorem tw_tupH {ts : List Expr} {j : Nat} {vs : List Nat} {ds : List PD} {env' : PEnv} (hc : HotB X) (h : TgsW X b ts vs ds env env') (hn : (assignEach ts X.env).length = ds.length := by rfl) (hst : (assignEach ts X.env).findIdx? (·.1) = none := by rfl) : TgW X b (.Tuple ts j pos) vs (.tuple ds) env env' := fun σ G H v Q E q k => by
  obtain ⟨a, xs, rfl, h1, h2⟩ := dp_tuple q
  exact sem_g (pg_tupH hc pgs_sem hn hst) ⟨a, xs, rfl, SqT.of (E.x.s.app h1), dpAll_len h2, h σ G H xs Q E h2 k⟩
theorem turn_ifH {sc : Scope} {tg elt c : Expr} {vs : List Nat} {env' : PEnv} {k : Bool} {y : PD} (ht : ∀ s H0 C cl fp, HotB (blkX X sc s H0 C cl fp) → TgW (blkX X sc s H0 C cl fp) b tg vs d (wipeP env vs) env') (hc : ∀ s H0 C cl fp, TsP (blkX X sc s H0 C cl fp) b c env' k) (he : ∀ s H0 C cl fp, EvS (blkX X sc s H0 C cl fp) b elt env' y) :
    TurnZ HotB X b sc tg [c] elt vs env d (if k then some y else none) := by
  refine ⟨env', k, ht, fun s H0 C cl fp _ => tss_one (hc s H0 C cl fp), ?_⟩
  cases k with
  | true => exact .inr ⟨rfl, y, rfl, fun s H0 C cl fp _ => he s H0 C cl fp⟩
  | false => exact .inl ⟨rfl, rfl⟩
end
/-! ### isinstance of the error in hand -/
section
variable {X : Cx} {b : Bs} {env : PEnv} {p : Addr × Obj} {C : Addr}
/-- what is known of the error p of the class C -/
structure ErrAt (K : KF) (C : Addr) (p : Addr × Obj) : Prop where
  z : L2N.Zn (.ref C) none p.2
  f : ∃ vs, p.2.data = .fields vs
  c : ExcC K C
theorem cr_isErr (hp : p ∈ X.pn) (h : ErrAt X.K C p) : CallR X (.builtin "isinstance") (rIsE X.K C p.1) := by
  intro pins s σ H xs us Q I r hh
  obtain ⟨c, cv, k, rfl, hcv, e, q⟩ := hh
  obtain ⟨u1, rst, rfl, r1, r2⟩ : ∃ u1 rst, us = u1 :: rst ∧ RelV (.ref p.1) u1 ∧ Vals [c] rst := by
    cases r with
    | cons a b => exact ⟨_, _, rfl, a, b⟩
  obtain ⟨u2, rfl, r3⟩ : ∃ u2, rst = [u2] ∧ RelV c u2 := by
    cases r2 with
    | cons a b => cases b; exact ⟨_, rfl, a⟩
  have e1 : u1 = .ref p.1 := r1
  subst e1
  obtain rfl := hcv _ r3
  obtain ⟨vs, hv⟩ := h.f
  obtain ⟨g, _⟩ := I.pin p (List.mem_append_left _ hp)
  have J : PySem.W.InstAt s.heap p.1 p.2 C none := by
    obtain ⟨p1, o1, o2, o3, o4⟩ := p
    obtain ⟨z1, z2, _⟩ := h.z
    dsimp only at z1 z2 hv
    subst z1 z2 hv
    exact ⟨g, rfl, rfl, trivial⟩
  have EC := h.c
  exact PySem.W.kia_one (PySem.W.handS_kitx_exc EC.hg EC.hk EC.hs EC.hd EC.ha EC.hn EC.ht EC.hm) I.kIn J e (fun z => nomatch z) fun tk => ⟨.bl k, H, I.kept (t' := tk) fun _ _ w => w, rfl, q⟩
theorem ev_isErr {x y : Str} {pp p2 p3 pos : Pos} {i : Nat} {cv : Value} {vc : V} {k : Bool} (hp : p ∈ X.pn) (h : ErrAt X.K C p) (hm : X.mg "isinstance" = none) (he : env[i]? = some (some (.sh (errD p.1)))) (hx : PE X (.Name x p3) (tC vc)) (hcv : ∀ u, RelV vc u → u = cv) (hk : PySem.W.kitOne X.K (.ref C) cv = some k)
    (hN : X.N[i]? = some y := by rfl) (hv : Vis X.env.scope y := by first | exact Or.inl rfl | exact Or.inr (Or.inl rfl) | exact Or.inr (Or.inr rfl)) (hd1 : (y == ("__debug__" : Str)) = false := by decide) (hd2 : (y == ("__classdict__" : Str)) = false := by decide) (hg : Gl X "isinstance" := by rfl)
    (h1 : starEach [.Name y p2, .Name x p3] X.env = (false, eval (.Name y p2) X.env) :: starEach [.Name x p3] X.env := by rfl) (h2 : starEach [.Name x p3] X.env = (false, eval (.Name x p3) X.env) :: starEach [] X.env := by rfl)
    (hpl : (backTo pos (starEach [.Name x p3] X.env)).any (·.1) = false := by rfl) : EvP X b (.Call (.Name "isinstance" pp) [.Name y p2, .Name x p3] [] pos) env (.sh (.bool k)) := fun σ G H Q E kk => by
  refine sem_e (pe_callB (cr_isErr hp h) hg hm (by decide +kernel) (pa_cons pe_sem (pa_cons hx pa_nil h2) h1) (by decide) (by decide) h1 hpl) ((ev_nsh he hN hv hd1 hd2) σ G H _ E fun v G1 H1 x q => ?_)
  obtain rfl : v = .ref p.1 := dp_err q
  exact ⟨vc, cv, k, rfl, hcv, hk, kk _ G1 H1 x (.bl k)⟩
end
/-! ### a def that is handed the error in hand -/
abbrev SpX := Addr × Obj → Sp
structure FnX (P : Program) (w : World) (K : KF) (mg : Str → Option Value) (base : Heap) (x : Str) (k : Nat) (ps : List Str) (sp : SpX) : Prop where
  ex : ∃ f fd, mg x = some (.ref f) ∧ PySem.W.keepIn K (.ref f) = true ∧ Binds K fd ps [] ∧ (∀ p vs H Q E, sp p vs H Q E → vs.length = ps.length) ∧
    ∀ (A : Around) (outer : List Env) (s : Shared) (H : Hp) (us : List Value) (vs : List V) (Q : VK) (E : XK) (p : Addr × Obj), L2H.RoomH k A → L2H.Hot1 A p → L2H.PinOk outer H s p → Env0 P w K mg base A outer s H → BindsTo s fd ⟨us, []⟩ (ps.zip us) → Vals vs us → sp p vs H Q E →
      codeAny (model P w) A (.call (.ref f) ⟨us, []⟩) (CR (L2N.CX P w) outer P w H s Q E) s
section
variable {P : Program} {w : World} {K : KF} {mg : Str → Option Value} {base : Heap} {x : Str} {st : Stmt} {f : Addr} {fd : FuncData} {N ps : List Str} {n : Nat} {α : Type}
/-- one argument, the error; a fresh answer -/
def spX (K : KF) (pre : α → Addr × Obj → Prop) (out : α → RV) : SpX := fun p vs H Q _ => ∃ (z : α), pre z p ∧ vs = [.ref p.1] ∧ ∃ G, SameK G H ∧ ∀ v G' H', Ext G H G' H' → RvOk K H G' H' (out z) v → Q v H'
theorem fnX_of {pre : α → Addr × Obj → Prop} {out : α → RV} {a1 : Str} (F : Fun K x x st f fd) (hm : mg x = some (.ref f)) (hb : Binds K fd [a1] []) (S : FnScope N [a1] (defScope st))
    (body : ∀ (cdv : Value) (A : Around) (outer : List Env) (s : Shared) (G H : Hp) (E : XK) (p : Addr × Obj) (z : α), L2H.RoomH n (A.deeper (envOfC x (defScope st) s.heap.objs.size f cdv)) → L2H.Hot1 A p → pre z p →
      BlP (L2H.cxH (L2N.CX P w) P w K mg base N x (defScope st) f cdv A outer s H E p) ⟨G, H⟩ (defBody st) (startE N [errD p.1]) { nx := fun _ => False, rt := fun r => r = out z }) : FnX P w K mg base x (n + 1) [a1] (spX K pre out) := by
  refine ⟨f, fd, hm, F.kp, hb, ?_, ?_⟩
  · rintro p vs H Q E ⟨z, _, rfl, _⟩
    rfl
  intro A outer s H us vs Q E p room hot pin e0 bnd rv ⟨z, hz, hvs, G, sG, hQ⟩
  obtain ⟨oc, od, kV, doc, pm, an, cdv, ct, osl, rfl, lk, hcd⟩ := F.ex
  have KX : K.In s.heap := e0.mod.kin.keeps fun b o e => (e0.bs b o e).1
  have kinds : ∀ y ∈ [a1].zip us, (defScope st).names.lookup y.1 = some .local ∨ ((defScope st).names.lookup y.1 = some .cell ∧ ((cellsFrom (s.heap.objs.size + 1) (defScope st).names []).lookup y.1).isSome = true) := fun y hy =>
    (S.par y.1 (List.of_mem_zip (show (y.1, y.2) ∈ _ from hy)).1).imp id fun q => ⟨q, PySem.W.cellsFrom_some _ _ _ (.inl q)⟩
  refine codeAny_call_function room.depth (KX _ _ lk) rfl S.co S.gen rfl (PySem.W.codeRec_of KX hcd) (bnd _ _ _ _ (wpAny_newFunctionEnv_cells S.kind kinds fun env he s1 x1 => ?_))
  subst he
  have I := L2H.inv_startH (CX := L2N.CX P w) (qual := x) (cd := cdv) (f := f) (E := E) S pin e0 (by rw [hvs]; rfl) rv x1
  refine ⟨(e0.mod.nolimit.keeps fun b o e => (e0.bs b o e).1).keeps x1.toInCall.keep, codeAny_func (wpAny_mono ((body cdv A outer s G H E p z (room.deeper _) hot hz (L2.start N vs) G H { nx := fun _ _ => False, rt := Q } (env_start sG ?_) ⟨?_, ?_, ?_, ?_⟩).out [] s1 I) (fun fl t hs => ?_) fun _ _ q => q)⟩
  · rw [hvs]
    exact .cons .adr .nil
  · exact fun _ _ _ _ q _ => q.elim
  · intro r v G' H' hr x' q
    subst hr
    exact hQ v G' H' x' q
  · exact fun _ _ _ _ q _ => q.elim
  · exact fun _ _ _ _ q _ => q.elim
  · cases fl with
    | ret u =>
      obtain ⟨v, _, H', J, r, q⟩ := hs
      exact ⟨v, H', J.os, J.bare, J.base, J.hok, r, q⟩
    | next => obtain ⟨_, _, _, q⟩ := hs; exact q.elim
    | brk => obtain ⟨_, _, _, q⟩ := hs; exact q.elim
    | cont => obtain ⟨_, _, _, q⟩ := hs; exact q.elim
end
section
variable {X : Cx} {b : Bs} {env : PEnv} {p : Addr × Obj} {x : Str} {n : Nat} {α : Type} {pre : α → Addr × Obj → Prop} {out : α → RV} {a1 : Str}
theorem ev_callX {y : Str} {pp p2 pos : Pos} {i : Nat} (F : FnX X.prog X.w X.K X.mg X.base x n [a1] (spX X.K pre out)) (z : α) (hr : L2H.RoomH n X.A) (hot : L2H.Hot1 X.A p) (hp : p ∈ X.pn) (hz : pre z p) (he : env[i]? = some (some (.sh (errD p.1))))
    (hN : X.N[i]? = some y := by rfl) (hv : Vis X.env.scope y := by first | exact Or.inl rfl | exact Or.inr (Or.inl rfl) | exact Or.inr (Or.inr rfl)) (hd1 : (y == ("__debug__" : Str)) = false := by decide) (hd2 : (y == ("__classdict__" : Str)) = false := by decide) (hg : Gl X x := by rfl) (hdb : (x == ("__debug__" : Str)) = false := by decide)
    (hst : starEach [.Name y p2] X.env = (false, eval (.Name y p2) X.env) :: starEach [] X.env := by rfl) (hpl : (backTo pos (starEach [] X.env)).any (·.1) = false := by rfl) : EvP X b (.Call (.Name x pp) [.Name y p2] [] pos) env (out z) := fun σ G H Q E kk => ⟨fun pins s I => by
  obtain ⟨f, fd, hm, hk, hb, _, run⟩ := F.ex
  refine wpAny_Call_Name_kw (ld_glob I hg hm ?_ hdb)
  refine PySem.W.callWith_K (h₀ := X.base) I.ok.mod.kin hk (thn ((pa_cons pe_sem pa_nil hst).run pos pins s σ H (fun vs H1 => ∃ G1, Ext G H G1 H1 ∧ vs = [.ref p.1]) I ((ev_nsh he hN hv hd1 hd2) σ G H _ E fun v G1 H1 x q => ⟨G1, x, by rw [dp_err q]⟩)) fun us t ⟨vs, H1, J, rv, G1, x1, hvs⟩ => ⟨J.kIn, ?_⟩) hst hpl
  have hl : us.length = 1 := by rw [← rv.length, hvs]; rfl
  have bb := hb t us J.kIn (by rw [List.append_nil]; exact hl)
  rw [List.append_nil] at bb
  obtain ⟨g, fr, nl, nf, nc⟩ := J.pin p (List.mem_append_left _ hp)
  have pk : L2H.PinOk X.stack H1 t p := ⟨g, fr, fun q => (List.mem_cons.mp (J.stkSub p.1 q)).elim nl nf, nc⟩
  refine wpAny_call (codeAny_mono (run X.A X.stack t H1 us vs Q (fun _ _ _ => False) p hr hot pk J.env0 bb rv ⟨z, hz, hvs, G1, x1.s, fun v G' H' x' q => kk v G' H' (x1.trans x') (q.base x1.h)⟩) fun r t' hq => ?_)
  cases r with
  | error e =>
    obtain ⟨_, _, _, _, _, _, _, _, _, _, _, _, q⟩ := hq
    exact q.elim
  | ok fl =>
    cases fl with
    | ret u => exact J.after hq
    | next => exact hq.elim
    | brk => exact hq.elim
    | cont => exact hq.elim⟩
end
/-! ### raising, trying -/
section
variable {X : Cx} {b : Bs} {env : PEnv} {R : Out} {rest : List Stmt} {pos : Pos} {e : Expr} {es : List Expr} {C : Addr}
/-- an exception of C may leave here -/
def RzP (X : Cx) (b : Bs) (C : Addr) (env : PEnv) : Prop := ∃ W, L2N.Takes X W ∧ ∀ σ G H, EnvOk X.K b G H σ env → W (.ref C) none σ H
/-- an expression that ends in an exception -/
def EvN (X : Cx) (b : Bs) (e : Expr) (env : PEnv) : Prop := ∀ (σ : L2.St) (G H : Hp) (Q : VK), EnvOk X.K b G H σ env → semE X e σ H Q
/-- an own class of errors -/
structure ErrCl (K : KF) (mg : Str → Option Value) (x : Str) (C : Addr) : Prop where
  q : PySem.W.excIn K C [.type "ValueError", .type "Exception", .type "BaseException", .type "object"] "ValueError.__new__" = true
  g : mg x = some (.ref C)
  k : PySem.W.keepIn K (.ref C) = true
  s : PySem.W.subIn K (.ref C) (.type "BaseException") = some true
  t : PySem.W.typeIn K (.ref C) = some (.type "type")
theorem bl_raise {x m : Str} {j : Nat} {p p2 pos2 : Pos} (hc : X.calm = true) (h : RzP X b C env) (c : ErrCl X.K X.mg x C) (hg : Gl X x := by rfl) (hdb : (x == ("__debug__" : Str)) = false := by decide) :
    BlP X b (.Raise (some (.Call (.Name x p) [.Constant (.str m) j p2] [] pos2)) none pos :: rest) env R := bl_cons fun σ G H D E y => by
  obtain ⟨W, tk, hw⟩ := h
  exact sem_s (L2N.ps_raise hc tk (L2N.pmk_own PySem.F.excBase_ValueError c.q c.g c.k (raises_own c.s c.t) hg hdb)) (hw σ G H E)
theorem ev_callN {x : Str} {n : Nat} {p : Pos} {ps : List Str} {α : Type} {pre : α → Prop} {args : α → List PD} {out : α → Oc} (F : Fn X.prog X.w X.K X.mg X.base x n ps (spF X.K pre args out)) (z : α) (hr : Room n X.A) (hz : pre z) (ha : ArS X b (e :: es) env (args z)) (ho : out z = .exc C) (h : RzP X b C env) (hg : Gl X x := by rfl)
    (hdb : (x == ("__debug__" : Str)) = false := by decide) (he : starEach (e :: es) X.env = (false, eval e X.env) :: starEach es X.env := by rfl) (hpl : (backTo pos (starEach es X.env)).any (·.1) = false := by rfl) : EvN X b (.Call (.Name x p) (e :: es) [] pos) env := by
  obtain ⟨f, fd, hF, hm, hk, hb, _⟩ := F.ex
  obtain ⟨W, tk, hw⟩ := h
  intro σ G H Q E
  refine sem_e (pe_callS hF hr hg hm hk hb (fun σ => L2N.passAt tk σ) pa_sem hdb he hpl) (ha σ G H _ E fun vs G1 H1 x q => ?_)
  refine ⟨z, G1, hz, x.s, q, ?_⟩
  rw [ho]
  exact fun H' k => hw σ G1 H' (E.ext (x.trans (Ext.only k x.s)))
theorem bl_exprN (h : EvN X b e env) (hs : swapsWith e none pos.line X.env = pure false := by rfl) : BlP X b (.Expr e pos :: rest) env R := bl_cons fun σ G H D E y => sem_s (ps_expr pe_sem hs) (h σ G H _ E)
theorem bl_retN1 (h : EvN X b e env) : BlP X b (.Return (some e) pos :: rest) env R := bl_cons fun σ G H D E y => sem_s (ps_ret pe_sem) (h σ G H _ E)
theorem bl_setN {x : Str} {p : Pos} (i : Nat) (hN : X.N.Nodup) (h : EvN X b e env) (hi : X.N[i]? = some x := by rfl) (hx : Loc X.env.scope x := by first | exact Or.inl rfl | exact Or.inr rfl)
    (hs : swapsWith e (some (.Name x p)) pos.line X.env = pure false := by rfl) (hf : X.fn x = true ∨ X.env.scope.names.lookup x = some .local := by first | exact .inl rfl | exact .inr rfl) : BlP X b (.Assign [.Name x p] e pos :: rest) env R := bl_cons fun σ G H D E y =>
  sem_s (ps_set hN hi hx pe_sem hs hf) (h σ G H _ E)
/-- try: body / except x as n: suite (which ends in return); what the body lets out is of that class -/
def SuiteOk (X : Cx) (b : Bs) (suite : List Stmt) (i : Nat) (env : PEnv) (R : Out) (C : Addr) : Prop :=
  ∀ a oe pn, L2N.Zn (.ref C) none oe → (∃ vs, oe.data = .fields vs) → BlP (X.suite a ((a, oe) :: pn)) b suite (env.set i (some (.sh (errD a)))) { nx := fun _ => False, rt := R.rt }
theorem bl_try {x n : Str} {i : Nat} {T : Addr} {body suite : List Stmt} {b₀ : Stmt} {np pos' : Pos} (hs : X.stack = X.env :: X.outer) (hf : X.env.frame = some X.env.locals) (hN : X.N.Nodup) (hc : Names X x (.ref T))
    (hb : ∀ pn xe, (∀ C, PySem.W.exmOne X.K (.ref C) (.ref T) = some true → SuiteOk X b (b₀ :: suite) i env R C → RzP (X.tr pn xe) b C env) → BlP (X.tr pn xe) b body env { R with nx := fun env' => BlP X b rest env' R })
    (hi : X.N[i]? = some n := by rfl) (hln : X.env.kindOf n = some .local := by rfl) :
    BlP X b (.Try body [.ExceptHandler (some (.Name x np)) (some n) (b₀ :: suite) pos'] [] [] pos :: rest) env R := bl_cons fun σ G H D E y => by
  let ts : Addr → Value → Option Addr → TS := fun a cls d => fun D σ H => ∀ oe pn, L2N.Zn cls d oe → (∃ vs, oe.data = .fields vs) → semB (X.suite a ((a, oe) :: pn)) (b₀ :: suite) D σ H
  let tb : WX → TS := fun W => fun D σ H => ∀ pn xe, L2N.Takes (X.tr pn xe) W → semB (X.tr pn xe) body D σ H
  refine sem_s (L2N.ps_try_as (i := i) (Wout := fun _ _ _ _ => False) (ts := ts) (tb := tb) hs hf hN hi hln hc (fun u s' ⟨_, _, _, _, _, _, _, _, _, _, _, _, _, _, _, _, z⟩ => z.elim) (fun W pn xe tk _ => ⟨fun pins s σ H D I h => (h pn xe tk).out pins s I⟩)
    (fun a oe cls d pn hz hd => ⟨fun pins s σ H D I h => (h oe pn hz hd).out pins s I⟩)) ?_
  intro pn xe tk
  refine hb pn xe (fun C hC hS => ⟨_, tk, fun σ1 G1 H1 E1 => ⟨true, hC, fun _ a na oe pn' hz hd => ?_, fun q => by cases q⟩⟩) σ G H D E ⟨fun env' σ' G' H' q E' => ?_, y.rt, fun _ _ _ _ q => y.bk _ _ _ _ q, fun _ _ _ _ q => y.ct _ _ _ _ q⟩
  · refine hS a oe pn' hz hd (σ1.set i (some (.ref a))) G1 H1 _ (E1.put (Ext.refl E1.x.s) (r := .sh (errD a)) .adr (.inr ⟨_, rfl⟩)) ⟨fun _ _ _ _ q => q.elim, y.rt, fun _ _ _ _ q => q.elim, fun _ _ _ _ q => q.elim⟩
  · exact y.nx env' σ' G' H' q E'
end
end TW


/-! PLf: more rules: {}, remove, wishes about exceptions. -/
namespace TW
open PySem PySem.Spec PyProof.Rows L2
section
variable {X : Cx} {b : Bs} {env : PEnv} {R : Out} {rest : List Stmt} {pos : Pos} {e : Expr} {es : List Expr} {C : Addr}
theorem ev_dict0 : EvP X b (.Dict [] [] pos) env (.sh (.dict [])) := fun σ G H Q E k => sem_e pe_dnewK fun p hp => k _ _ _ (Ext.new E.x.s hp) (.dct upd_same)
theorem bl_remove {x : Str} {i : Nat} {p p2 pos2 : Pos} {ns : List Int} {k : Int} (hc : X.calm = true) (he : env[i]? = some (some (.own (ns.map .int)))) (h : EvP X b e env (.sh (.int k))) (hk : k ∈ ns) (kk : BlP X b rest (env.set i (some (.own ((ns.erase k).map .int)))) R)
    (hN : X.N[i]? = some x := by rfl) (hv : Vis X.env.scope x := by first | exact Or.inl rfl | exact Or.inr (Or.inl rfl) | exact Or.inr (Or.inr rfl)) (hd : (x == ("__debug__" : Str)) = false := by decide) (hcd : (x == ("__classdict__" : Str)) = false := by decide)
    (hbase : attributeBase (.Name x p) "remove" X.env (eval (.Name x p) X.env) = eval (.Name x p) X.env := by rfl)
    (hfew : ((backTo pos2 (starEach [e] X.env)).all (fun x => !x.1) && (backToKw pos2 (keywordEach [] X.env)).all (fun x => x.1.isSome)
      && decide (([e] : List Expr).length + ([] : List Keyword).length + (if ([] : List Keyword).isEmpty then 0 else 1) < 30)) = true := by rfl)
    (hline : (p2.endLine == pos2.line) = true := by rfl) (hs1 : starEach [e] X.env = (false, eval e X.env) :: starEach [] X.env := by rfl) (hpl : (backTo pos2 (starEach [] X.env)).any (·.1) = false := by rfl)
    (hs : swapsWith (.Call (.Attribute (.Name x p) "remove" p2) [e] [] pos2) none pos.line X.env = pure false := by rfl) :
    BlP X b (.Expr (.Call (.Attribute (.Name x p) "remove" p2) [e] [] pos2) pos :: rest) env R := bl_cons fun σ G H D E y => by
  obtain ⟨a, vs, q1, q2, q3, q4⟩ := E.mut he
  have hvs := dpAll_ints q3
  refine sem_s (ps_expr (pe_remX (W := fun _ _ _ _ => False) (to := tVar i) (te := semE X e) hc (fun u s' z => ?_) (pe_var hN hv hd hcd) pe_sem hbase hfew hline hs1 hpl) hs) ?_
  · obtain ⟨_, _, _, _, _, _, _, _, _, _, _, _, _, _, _, _, w⟩ := z
    exact w.elim
  · refine ⟨_, q1, .inl ⟨rfl, _, SqL.of q2⟩, h σ G H _ E fun v G1 H1 z q => ?_⟩
    rw [dp_int q]
    refine ⟨a, ns, k, rfl, rfl, ?_, fun _ => ?_, fun hn => absurd hk hn⟩
    · rw [← hvs]; exact z.h.app q2
    · refine y.nx _ _ G1 _ kk (q4 G1 H1 _ _ z dpAll_of_ints)
theorem wk_set : ∀ {as cs : PEnv} {i : Nat} {x : Option RV}, wk as cs → wk (as.set i x) (cs.set i x)
  | [], [], _, _, h => h
  | _ :: _, _ :: _, 0, _, h => ⟨.inl rfl, h.2⟩
  | _ :: _, _ :: _, _ + 1, _, h => ⟨h.1, wk_set h.2⟩
theorem bl_wkset {i : Nat} {x : Option RV} {e1 e2 : PEnv} (w : wk e1 e2) (h : BlP X b rest (e2.set i x) R) : BlP X b rest (e1.set i x) R := bl_wk h (wk_set w)
theorem ixN_lt {n i : Nat} (h : i < n) : ixN n i = some i := by
  unfold ixN
  rw [if_pos (Int.natCast_nonneg i), if_pos (Int.ofNat_lt.mpr h), Int.toNat_natCast]
/-- range(j) -/
def natD (i : Nat) : PD := .int i
theorem rangeD_nat (n : Nat) : rangeD 0 n = (List.range n).map natD := by
  unfold rangeD natD
  simp only [Int.zero_add]
theorem it_rng {tg : Expr} {p : Pos} {j : Int} (hm : X.mg "range" = none) (ha : ArP X b [e] env [.sh (.int j)]) (h1 : -1000000 ≤ j ∧ j ≤ 1000000) (hg : Gl X "range" := by rfl) (hs : starEach [e] X.env = [(false, eval e X.env)] := by rfl) :
    ItP X b tg (.Call (.Name "range" p) [e] [] pos) env ((List.range j.toNat).map natD) := by
  rw [← rangeD_nat]
  exact it_range1 hm ha (by omega) (by omega) hg hs
theorem rng_get {n i : Nat} {d : PD} (h : ((List.range n).map natD)[i]? = some d) : i < n ∧ d = .int i := by
  rw [List.getElem?_map] at h
  by_cases hi : i < n
  · rw [List.getElem?_range hi] at h
    cases h
    exact ⟨hi, rfl⟩
  · rw [List.getElem?_eq_none (by simpa using Nat.le_of_not_lt hi)] at h
    cases h
theorem rng_len {n : Nat} : ((List.range n).map natD).length = n := by rw [List.length_map, List.length_range]
/-- what leaves a def's body -/
theorem rz_fn {P : Program} {w : World} {K : KF} {mg : Str → Option Value} {base : Heap} {N : List Str} {x : Str} {st : Stmt} {f : Addr} {cdv : Value} {A : Around} {outer : List Env} {s : Shared} {H Hb : Hp} {E : XK} {G : Hp} (h : ∀ H', SameH Hb H' → E (.ref C) none H') :
    RzP (bodyX P w K mg base N x st f cdv A outer s H E) ⟨G, Hb⟩ C env :=
  ⟨fun cls d _ H => E cls d H, L2N.takes_of rfl rfl rfl rfl, fun σ G1 H1 q => h H1 q.x.h⟩
end
end TW

/-! PLg: tests read over frozen slots, lists of new items, a dict keyed by ties, zip. -/
namespace TW
open PySem PySem.Spec PyProof.Rows L2
section
variable {K : KF} {b : Bs} {G H : Hp} {σ : L2.St} {env : PEnv} {r : RV} {i : Nat}
theorem SlotOk.free {B : Hp} {o : Option V} {a : Addr} (h : SlotOk K B G H r o a) (w : r.owns = true) : B a = none ∧ G a = none := by
  cases r with
  | sh d => cases w
  | bor ds => cases w
  | deep d => cases w
  | own ds => exact ⟨h.2.1, h.2.2.1⟩
  | nst ds => exact ⟨h.2.1, h.2.2.1⟩
  | obj φ => exact ⟨h.2.1, h.2.2.1⟩
  | box t p ds q => obtain ⟨_, _, _, _, _, _, _, o⟩ := h; exact ⟨o.1, o.2.1⟩
theorem SlotOk.ntc {B : Hp} {o : Option V} {a : Addr} (h : SlotOk K B G H r o a) (w : r.owns = true) : ∃ u, H a = some u ∧ NTC u := by
  cases r with
  | sh d => cases w
  | bor d => cases w
  | deep d => cases w
  | own ds => obtain ⟨_, _, _, vs, e, _⟩ := h; exact ⟨_, e, ntc_lst⟩
  | box t p ds q => obtain ⟨t, us, ws, _, _, _, _, _, _, vs, e, _⟩ := h; exact ⟨_, e, ntc_lst⟩
  | nst ds => obtain ⟨_, _, _, vs, e, _⟩ := h; exact ⟨_, e, ntc_lst⟩
  | obj φ => obtain ⟨_, _, _, u, e, n, _⟩ := h; exact ⟨u, e, n⟩
/-- the object of a slot of one's own is changed -/
theorem EnvOk.mutG (E : EnvOk K b G H σ env) (he : env[i]? = some (some r)) (hr : r.owns = true) : ∃ a, SlotOk K b.H G H r (σ[i]?.join) a ∧
    ∀ (G' H' : Hp) (o' : HO) (r' : RV), Ext G H G' H' → r'.owns = true → SlotOk K b.H G' (upd H' a o') r' (σ[i]?.join) a → EnvOk K b G' (upd H' a o') σ (env.set i (some r')) := by
  obtain ⟨x, hl, f, h3, h4⟩ := E
  have s0 := h3 i r he
  obtain ⟨q1, q2⟩ := s0.free hr
  refine ⟨f i, s0, fun G' H' o' r' y hr' s' => ?_⟩
  have g' : G' (f i) = none := y.n _ q2 (s0.at hr)
  have x' := x.trans y
  obtain ⟨u0, hu1, hu2⟩ := s0.ntc hr
  refine ⟨⟨x'.g, same_mutN x'.h q1 (y.h.app hu1 hu2.1) hu2, same_mut y.s g', x'.n⟩, by rw [List.length_set]; exact hl, f, fun j r2 e => ?_, fun j k r1 r2 n a1 a2 w1 w2 => ?_⟩
  · by_cases hj : j = i
    · subst hj
      cases set_same e
      exact s'
    · have e' := set_other hj e
      have sj := (h3 j r2 e').ext y
      have ne : r2.owns = true → f j ≠ f i := fun w => h4 j i _ _ hj e' he w hr
      cases r2 with
      | sh d => exact sj
      | bor ds => exact sj
      | deep d => exact sj
      | own ds => obtain ⟨q, o1, o2, w, o3, o4⟩ := sj; exact ⟨q, o1, o2, w, by rw [upd_ne (ne rfl)]; exact o3, o4⟩
      | nst ds => obtain ⟨q, o1, o2, w, o3, o4⟩ := sj; exact ⟨q, o1, o2, w, by rw [upd_ne (ne rfl)]; exact o3, o4⟩
      | obj φ => obtain ⟨q, o1, o2, w, o3, o4⟩ := sj; exact ⟨q, o1, o2, w, by rw [upd_ne (ne rfl)]; exact o3, o4⟩
      | box t p ds z =>
        obtain ⟨t, us, ws, b1, b2, b3, b4, o1, o2, w, o3, o4⟩ := sj
        exact ⟨t, us, ws, b1, b2, b3, b4, o1, o2, w, by rw [upd_ne (ne rfl)]; exact o3, o4⟩
  · have back : ∀ {j : Nat} {r1 : RV}, (env.set i (some r'))[j]? = some (some r1) → r1.owns = true → ∃ r2 : RV, env[j]? = some (some r2) ∧ r2.owns = true := fun {j r1} a w => by
      by_cases hj : j = i
      · subst hj
        exact ⟨_, he, hr⟩
      · exact ⟨_, set_other hj a, w⟩
    obtain ⟨s1, c1, c2⟩ := back a1 w1
    obtain ⟨s2, c3, c4⟩ := back a2 w2
    exact h4 j k s1 s2 n c1 c3 c2 c4
/-- a slot of one's own told anew, by a thing that is true of it as it stands -/
theorem EnvOk.retell {r' : RV} (E : EnvOk K b G H σ env) (he : env[i]? = some (some r)) (hr : r.owns = true) (hr' : r'.owns = true) (h : ∀ a, SlotOk K b.H G H r (σ[i]?.join) a → SlotOk K b.H G H r' (σ[i]?.join) a) : EnvOk K b G H σ (env.set i (some r')) := by
  obtain ⟨x, hl, f, h3, h4⟩ := E
  refine ⟨x, by rw [List.length_set]; exact hl, f, fun j r2 e => ?_, fun j k r1 r2 n a1 a2 w1 w2 => ?_⟩
  · by_cases hj : j = i
    · subst hj
      cases set_same e
      exact h _ (h3 j r he)
    · exact h3 j r2 (set_other hj e)
  · have back : ∀ {j : Nat} {r1 : RV}, (env.set i (some r'))[j]? = some (some r1) → r1.owns = true → ∃ r2 : RV, env[j]? = some (some r2) ∧ r2.owns = true := fun {j r1} a w => by
      by_cases hj : j = i
      · subst hj
        exact ⟨_, he, hr⟩
      · exact ⟨_, set_other hj a, w⟩
    obtain ⟨s1, c1, c2⟩ := back a1 w1
    obtain ⟨s2, c3, c4⟩ := back a2 w2
    exact h4 j k s1 s2 n c1 c3 c2 c4
end
section
variable {X : Cx} {b : Bs} {env : PEnv} {R : Out} {rest : List Stmt} {pos : Pos} {e e1 e2 : Expr} {es : List Expr} {r : RV} {k : Bool} {d : PD} {ds : List PD}
/-- a test over a slot as if it were frozen -/
theorem ts_fz (i : Nat) (he : env[i]? = some (some r)) (hr : r.owns = true) (h : TsP X b e (env.set i (some (.sh r.data))) k) : TsP X b e env k := fun σ G H Q E kk => by
  obtain ⟨G', E'⟩ := E.fz he hr
  exact h σ G' H Q E' fun G1 H1 x => kk G H1 (Ext.only x.h E.x.s)
theorem ev_fz (i : Nat) (he : env[i]? = some (some r)) (hr : r.owns = true) (hd : scD d = true) (h : EvP X b e (env.set i (some (.sh r.data))) (.sh d)) : EvP X b e env (.sh d) := fun σ G H Q E kk => by
  obtain ⟨G', E'⟩ := E.fz he hr
  exact h σ G' H Q E' fun v G1 H1 x q => kk v G H1 (Ext.only x.h E.x.s) (dp_sc q hd)
theorem bl_retell (i : Nat) {r' : RV} (he : env[i]? = some (some r)) (hr : r.owns = true) (hr' : r'.owns = true) (h : ∀ B G H o a, SlotOk X.K B G H r o a → SlotOk X.K B G H r' o a) (kk : BlP X b rest (env.set i (some r')) R) : BlP X b rest env R := fun σ G H D E x =>
  kk σ G H D (E.retell he hr hr' fun a => h _ _ _ _ a) x
theorem bl_toNst (i : Nat) (he : env[i]? = some (some (.own []))) (kk : BlP X b rest (env.set i (some (.nst []))) R) : BlP X b rest env R :=
  bl_retell (r := .own []) (r' := .nst []) i he rfl rfl (fun B G H o a q => by
    obtain ⟨h1, h2, h3, vs, h4, h5⟩ := q
    exact ⟨h1, h2, h3, vs, h4, h5, fun p hp => by cases h5; cases hp⟩) kk
/-- xs.append(a new list), xs a list of new items -/
theorem bl_appendNst {c : Expr} {i : Nat} {es2 : List PD} (hp : PE X c (tBM X.K "list" rAppend (tVar i) (tCons (semE X e) tNil))) (he : env[i]? = some (some (.nst ds))) (h : EvP X b e env (.own es2)) (hl : ds.length ≤ 1000000) (kk : BlP X b rest (env.set i (some (.nst (ds ++ [.list es2])))) R)
    (hs : swapsWith c none pos.line X.env = pure false := by rfl) : BlP X b (.Expr c pos :: rest) env R := bl_cons fun σ G H D E y => by
  refine sem_s (ps_expr hp hs) ?_
  obtain ⟨a, sa, q4⟩ := E.mutG he rfl
  obtain ⟨q1, q2, q2', vs, q3, q5, q6⟩ := id sa
  refine ⟨_, join_some q1, .inl ⟨rfl, _, SqL.of q3⟩, h σ G H _ E fun v G1 H1 z q => ?_⟩
  have hfr : ∃ p, v = .ref p ∧ H p = none := by obtain ⟨p, e, o, _⟩ := id q; exact ⟨p, e, o⟩
  obtain ⟨p, rfl, hp0⟩ := hfr
  obtain ⟨G2, x2, q2d⟩ := q.frz z (.inl rfl)
  refine ⟨a, vs, .ref p, rfl, rfl, z.h.app q3, small_lt (by rw [dpAll_len q5]; exact hl), y.nx _ _ G2 _ kk (q4 G2 H1 _ _ x2 rfl ?_)⟩
  refine ⟨q1, q2, x2.n a q2' (by rw [q3]; exact fun z => by cases z), vs ++ [.ref p], upd_same, dpAll_app (dpAll_mono x2.g _ _ q5) (dpAll_one q2d), fun p' hm => ?_⟩
  rcases List.mem_append.mp hm with hm | hm
  · exact q6 p' hm
  · have e1 := List.mem_singleton.mp hm
    cases e1
    exact E.x.h.free hp0
/-- data without references -/
theorem dqAll_sc {K : KF} {H H' : Hp} : ∀ {ds : List PD} {vs : List V}, (∀ d ∈ ds, scD d = true) → DqAll K H vs ds → DqAll K H' vs ds
  | [], _, _, h => by cases h; exact .nil
  | d :: ds, _, hs, h => by
    cases h with
    | cons a b => exact .cons (dp_sc a (hs d List.mem_cons_self)) (dqAll_sc (fun d hd => hs d (List.mem_cons_of_mem _ hd)) b)
theorem dq_inj {K : KF} {H : Hp} {d d' : PD} {v : V} (s1 : scD d = true) (s2 : scD d' = true) (a : Dq K H v d) (b : Dq K H v d') : d = d' := by
  cases a <;> first | (cases s1; done) | (cases b <;> first | rfl | (cases s2; done))
theorem dpAll_inj {K : KF} {H : Hp} : ∀ {ds es : List PD} {vs : List V}, (∀ d ∈ ds, scD d = true) → (∀ d ∈ es, scD d = true) → DqAll K H vs ds → DqAll K H vs es → ds = es
  | [], _, _, _, _, h, g => by cases h; cases g; rfl
  | d :: ds, [], _, _, _, h, g => by cases g; cases h
  | d :: ds, d' :: es, _, h1, h2, h, g => by
    cases h with
    | cons a b =>
      cases g with
      | cons a' b' =>
        rw [dq_inj (h1 d List.mem_cons_self) (h2 d' List.mem_cons_self) a a', dpAll_inj (fun d hd => h1 d (List.mem_cons_of_mem _ hd)) (fun d hd => h2 d (List.mem_cons_of_mem _ hd)) b b']
/-- name = a list of new lists: the first one is one's own, so is no other -/
theorem bl_setNst (i : Nat) {x : Str} {p : Pos} {d0 : List PD} {ls : List (List PD)} (hN : X.N.Nodup) (h : EvP X b e env (.nst (.list d0 :: ls.map .list))) (hs0 : ∀ d ∈ d0, scD d = true) (hs1 : ∀ l ∈ ls, ∀ d ∈ l, scD d = true) (hne : ∀ l ∈ ls, l ≠ d0)
    (kk : BlP X b rest (env.set i (some (.box false [] d0 (ls.map .list)))) R) (hi : X.N[i]? = some x := by rfl) (hx : Loc X.env.scope x := by first | exact Or.inl rfl | exact Or.inr rfl)
    (hs : swapsWith e (some (.Name x p)) pos.line X.env = pure false := by rfl) (hf : X.fn x = true ∨ X.env.scope.names.lookup x = some .local := by first | exact .inl rfl | exact .inr rfl) : BlP X b (.Assign [.Name x p] e pos :: rest) env R := bl_cons fun σ G H D E y =>
  sem_s (ps_set hN hi hx pe_sem hs hf) (h σ G H _ E fun v G1 H1 z q => by
    obtain ⟨a, rfl, o1, o2, vs, o3, o4, o5⟩ := q
    obtain ⟨v0, ws, rfl, w1, w2⟩ : ∃ v0 ws, vs = v0 :: ws ∧ Dq X.K G1 v0 (.list d0) ∧ DqAll X.K G1 ws (ls.map .list) := by
      cases o4 with
      | cons a b => exact ⟨_, _, rfl, a, b⟩
    obtain ⟨p0, us, rfl, u1, u2⟩ := dp_list w1
    have f0 : H p0 = none := o5 p0 List.mem_cons_self
    have ap : a ≠ p0 := fun q => by rw [q] at o2; rw [o2] at u1; cases u1
    -- the frozen part without the first list, with the whole
    let G2 : Hp := upd (fun q => if q = p0 then none else G1 q) a (.lst (.ref p0 :: ws))
    have g2 : ∀ q o, q ≠ p0 → G1 q = some o → G2 q = some o := fun q o h1 h2 => by
      have h3 : q ≠ a := fun z => by rw [z, o2] at h2; cases h2
      show upd _ a _ q = _
      rw [upd_ne h3]
      show (if q = p0 then none else G1 q) = _
      rw [if_neg h1]; exact h2
    have g0 : G2 p0 = none := by
      show upd _ a _ p0 = _
      rw [upd_ne ap.symm]
      exact if_pos rfl
    have s2 : SameK G2 H1 := ⟨fun q o h2 n => by
      by_cases h3 : q = a
      · subst h3
        have h2 : upd _ q _ q = some o := h2
        rw [upd_same] at h2; cases h2
        exact o3
      · have h2 : upd _ a _ q = some o := h2
        rw [upd_ne h3] at h2
        have h2 : (if q = p0 then none else G1 q) = some o := h2
        split at h2
        · cases h2
        · exact z.s.k q o h2 n, fun q ps h2 => by
      by_cases h3 : q = a
      · subst h3
        have h2 : upd _ q _ q = some (HO.tbl ps) := h2
        rw [upd_same] at h2; cases h2
      · have h2 : upd _ a _ q = some (HO.tbl ps) := h2
        rw [upd_ne h3] at h2
        have h2 : (if q = p0 then none else G1 q) = some (HO.tbl ps) := h2
        split at h2
        · cases h2
        · exact z.s.t q ps h2⟩
    have gp0 : G p0 = none := E.x.s.free f0
    have x2 : Ext G H G2 H1 := ⟨⟨fun q o h1 n => g2 q o (fun z2 => by rw [z2, gp0] at h1; cases h1) (z.g.k q o h1 n), fun q ps h1 => by
      obtain ⟨ps', h4⟩ := z.g.t q ps h1
      exact ⟨ps', g2 q _ (fun z2 => by rw [z2, gp0] at h1; cases h1) h4⟩⟩, z.h, s2, fun q h1 h2 => by
      by_cases h3 : q = a
      · subst h3; exact absurd o1 h2
      · show upd _ a _ q = _
        rw [upd_ne h3]
        show (if q = p0 then none else G1 q) = _
        split
        · rfl
        · exact z.n q h1 h2⟩
    have tail : ∀ (ls : List (List PD)) (ws : List V), (∀ l ∈ ls, ∀ d ∈ l, scD d = true) → (∀ l ∈ ls, l ≠ d0) → DqAll X.K G1 ws (ls.map .list) → DqAll X.K G2 ws (ls.map .list) := by
      intro ls
      induction ls with
      | nil => intro ws _ _ h; cases h; exact .nil
      | cons l ls ih =>
        intro ws hs1 hne h
        cases h with
        | cons a1 b1 =>
          obtain ⟨q, xs, rfl, e1, e2⟩ := dp_list a1
          have hq : q ≠ p0 := fun z2 => by
            subst z2
            rw [u1] at e1; cases e1
            exact hne l List.mem_cons_self (dpAll_inj (hs1 l List.mem_cons_self) hs0 e2 u2)
          exact .cons (.lst (g2 q _ hq e1) (dqAll_sc (hs1 l List.mem_cons_self) e2)) (ih _ (fun l hl => hs1 l (List.mem_cons_of_mem _ hl)) (fun l hl => hne l (List.mem_cons_of_mem _ hl)) b1)
    refine y.nx _ _ G2 H1 kk (E.put x2 (r := .box false [] d0 (ls.map .list)) ?_ (.inl rfl))
    refine ⟨a, p0, [], ws, rfl, upd_same, .nil, tail ls ws hs1 hne w2, f0, g0, us, z.s.app u1, dqAll_sc hs0 u2⟩)
/-! ### a dict keyed by ties -/
def keyT (t : T2) : List Key := [.inl t.1, .inl t.2]
def isMet (ks : List T2) (o : HO) : Prop := ∃ kvs : List (List Key × V), o = .dT kvs ∧ kvs.map (·.1) = ks.map keyT
theorem keyT_inj {s t : T2} (h : keyT s = keyT t) : s = t := by
  unfold keyT at h
  injection h with h1 h2
  injection h2 with h2 _
  injection h1 with h1
  injection h2 with h2
  exact Prod.ext h1 h2
theorem ev_met : EvP X b (.Dict [] [] pos) env (.obj (isMet [])) := fun σ G H Q E kk => sem_e pe_dnewT fun p hp => kk _ G _ (Ext.own E.x.s hp) ⟨p, rfl, hp, E.x.s.free hp, _, upd_same, ntc_dT, [], rfl, rfl⟩
def rInDct : R2 := fun x y H Q => ∃ a o, y = .ref a ∧ DGet H a x o ∧ Q (.bl o.isSome) H
theorem op_inDct (hu : X.A.units + 1 < cLine) : OpR X (compareOp .In) rInDct := fun pins s σ H x y u v Q I rx ry h => by
  obtain ⟨a, o, rfl, g, q⟩ := h
  obtain rfl : v = .ref a := ry
  exact d_in hu I g rx fun s' I' => ⟨.bl o.isSome, H, I', rfl, q⟩
theorem valV_map {ks : List T2} {kvs : List (List Key × V)} (h : kvs.map (·.1) = ks.map keyT) (t : T2) : (valV kvs (keyT t)).isSome = decide (t ∈ ks) := by
  rw [← valV_any]
  have e : (kvs.any fun kv => decide (kv.1 = keyT t)) = ((kvs.map (·.1)).any fun k => decide (k = keyT t)) := by rw [List.any_map]; rfl
  rw [e, h, List.any_map, Bool.eq_iff_iff, List.any_eq_true, decide_eq_true_iff]
  constructor
  · rintro ⟨s, hs, he⟩
    rw [← keyT_inj (of_decide_eq_true he)]; exact hs
  · exact fun hm => ⟨t, hm, decide_eq_true rfl⟩
theorem putK_map {ks : List T2} {kvs : List (List Key × V)} {v : V} (h : kvs.map (·.1) = ks.map keyT) {t : T2} (ht : t ∉ ks) : (putK kvs (keyT t) v).map (·.1) = (ks ++ [t]).map keyT := by
  have e : (kvs.any fun kv => decide (kv.1 = keyT t)) = false := by
    rw [valV_any, valV_map h, decide_eq_false ht]
  unfold putK
  rw [e, if_neg Bool.false_ne_true, List.map_append, List.map_append, h]
  rfl
theorem dp_p2 {K : KF} {H : Hp} {v : V} {t : T2} (h : Dq K H v (p2 t)) : ∃ a, v = .ref a ∧ H a = some (.tup ((keyT t).map kV)) := by
  obtain ⟨a, xs, rfl, h1, h2⟩ := dp_tuple h
  refine ⟨a, rfl, ?_⟩
  cases h2 with
  | cons a b =>
    cases b with
    | cons b c =>
      cases c
      rw [dp_int a, dp_int b] at h1
      exact h1
theorem ts_inMet {x : Str} {p : Pos} {i : Nat} {ks : List T2} {t : T2} (hu : X.A.units + 1 < cLine) (ha : EvP X b e env (.sh (p2 t))) (he : env[i]? = some (some (.obj (isMet ks)))) (hN : X.N[i]? = some x := by rfl) (hv : Vis X.env.scope x := by first | exact Or.inl rfl | exact Or.inr (Or.inl rfl) | exact Or.inr (Or.inr rfl))
    (hd : (x == ("__debug__" : Str)) = false := by decide) (hcd : (x == ("__classdict__" : Str)) = false := by decide) (hm : behindInMarks .In (.Name x p) = false := by first | exact nomark _ | rfl) : TsP X b (.Compare e [.In] [.Name x p] pos) env (decide (t ∈ ks)) := fun σ G H Q E kk => by
  refine sem_t (pt_cmpR (op_inDct hu) pe_sem (pe_var hN hv hd hcd) hm) (ha σ G H _ E fun v G1 H1 x1 q1 => ?_)
  obtain ⟨v2, e1, a, rfl, o1, o2, o, o3, _, kvs, rfl, hk⟩ := E.get he
  obtain ⟨c, rfl, h1⟩ := dp_p2 q1
  refine ⟨_, e1, a, _, rfl, DGet.t (x1.h.app o3) (x1.s.app h1), ?_⟩
  rw [valV_map hk]
  exact ⟨_, rfl, kk G1 H1 x1⟩
theorem bl_metSet (i : Nat) {x : Str} {p p2' : Pos} {ks : List T2} {t : T2} (hu : X.A.units + 1 < cLine) (he : env[i]? = some (some (.obj (isMet ks)))) (h : EvS X b e env d) (hi : EvP X b e2 env (.sh (p2 t))) (ht : t ∉ ks) (hl : ks.length ≤ 1000000) (kk : BlP X b rest (env.set i (some (.obj (isMet (ks ++ [t]))))) R) (hN : X.N[i]? = some x := by rfl)
    (hv : Vis X.env.scope x := by first | exact Or.inl rfl | exact Or.inr (Or.inl rfl) | exact Or.inr (Or.inr rfl)) (hd : (x == ("__debug__" : Str)) = false := by decide) (hcd : (x == ("__classdict__" : Str)) = false := by decide)
    (hs : swapsWithSole [.Subscript (.Name x p) e2 p2'] e pos.line X.env = pure false := by rfl) (hw : swappedStores [.Subscript (.Name x p) e2 p2'] e X.env = pure none := by rfl)
    (h1 : (assignEach [.Subscript (.Name x p) e2 p2'] X.env).map (·.2) = [assign (.Subscript (.Name x p) e2 p2') X.env] := by rfl)
    (ha : ∀ v, assign (.Subscript (.Name x p) e2 p2') X.env v = (do
      let ov ← holding [v] (eval (.Name x p) X.env)
      let iv ← holding [v, ov] (eval e2 X.env)
      standAt p2'
      holding [v, ov, iv] (setItem ov iv v)
      release [v, ov, iv] []) := by intro _; rfl) : BlP X b (.Assign [.Subscript (.Name x p) e2 p2'] e pos :: rest) env R := bl_cons fun σ G H D E y => by
  refine sem_s (ps_asg pe_sem (pg_sub (pe_var hN hv hd hcd) pe_sem (set_dict hu) ha) hs hw h1) (h σ G H _ E fun v G1 H1 z q => ?_)
  have E1 := E.ext z
  obtain ⟨a, sa, q4⟩ := E1.mutG he rfl
  obtain ⟨q1, q2, q2', o, q3, _, kvs, rfl, hk⟩ := id sa
  refine ⟨_, join_some q1, hi σ G1 H1 _ E1 fun v2 G2 H2 z2 q5 => ?_⟩
  obtain ⟨c, rfl, h5⟩ := dp_p2 q5
  have hlen : kvs.length = ks.length := by
    have := congrArg List.length hk
    rwa [List.length_map, List.length_map] at this
  refine ⟨a, _, rfl, DPut.t (z2.h.app q3) (z2.s.app h5) (small_lt (by omega)), y.nx _ _ G2 _ kk (q4 G2 H2 _ _ z2 rfl ?_)⟩
  exact ⟨q1, q2, z2.n a q2' (by rw [q3]; exact fun z => by cases z), _, upd_same, ntc_dT, _, rfl, putK_map hk ht⟩
/-! ### zip -/
theorem it_zip {elts : List Expr} {kk : Nat} {p tpos : Pos} {ds es' : List PD} (hm : X.mg "zip" = none) (ha : ArS X b [e1, e2] env [.list ds, .list es']) (hg : Gl X "zip" := by rfl) (hs : starEach [e1, e2] X.env = (false, eval e1 X.env) :: starEach [e2] X.env := by rfl) (hpl : (backTo pos (starEach [e2] X.env)).any (·.1) = false := by rfl) :
    ItP X b (.Tuple elts kk tpos) (.Call (.Name "zip" p) [e1, e2] [] pos) env ((ds.zip es').map fun z => .tuple [z.1, z.2]) := fun σ G H Q E k => by
  refine sem_i (pi_zip hg hm pa_sem hs hpl) (ha σ G H _ E fun vs G1 H1 z q => ?_)
  obtain ⟨v, w, rfl, q1, q2⟩ : ∃ v w, vs = [v, w] ∧ Dq X.K G1 v (.list ds) ∧ Dq X.K G1 w (.list es') := by
    cases q with
    | cons a b =>
      cases b with
      | cons b c => cases c; exact ⟨_, _, rfl, a, b⟩
  obtain ⟨a, xs, rfl, a1, a2⟩ := dp_list q1
  obtain ⟨c, ys, rfl, c1, c2⟩ := dp_list q2
  refine ⟨a, c, xs, ys, rfl, SqL.of (z.s.app a1), SqL.of (z.s.app c1), k _ G1 H1 z fun i G2 H2 s1 s2 => ⟨fun d hd => ?_, fun hle => ?_⟩⟩
  · rw [List.getElem?_map] at hd
    obtain ⟨⟨d1, d2⟩, hz, rfl⟩ := Option.map_eq_some_iff.mp hd
    obtain ⟨g1, g2⟩ := List.getElem?_zip_eq_some.mp hz
    obtain ⟨x, x1, x2⟩ := dpAll_get a2 g1
    obtain ⟨y, y1, y2⟩ := dpAll_get c2 g2
    have sa := SqL.of (K := X.K) (s2.app (s1.app a1))
    have sc := SqL.of (K := X.K) (s2.app (s1.app c1))
    refine ⟨⟨xs, ys, x, y, sa, sc, x1, y1⟩, fun u H3 hu => ?_⟩
    obtain ⟨T, x', y', rfl, hT, rfl, ex, ey⟩ := hu
    have e1 := ex xs sa
    have e2 := ey ys sc
    rw [x1] at e1; cases e1
    rw [y1] at e2; cases e2
    have hG : G2 T = none := s2.free hT
    refine ⟨upd G2 T (.tup [x, y]), Ext.new s2 hT, .tup upd_same (.cons (dp_mono (s1.trans (same_new hG)) _ _ x2) (.cons (dp_mono (s1.trans (same_new hG)) _ _ y2) .nil))⟩
  · rw [List.length_map, List.length_zip] at hle
    refine ⟨xs, ys, SqL.of (s2.app (s1.app a1)), SqL.of (s2.app (s1.app c1)), ?_⟩
    rw [dpAll_len a2, dpAll_len c2]
    omega
end
end TW

/-! PLk: len(set(a tuple)), sorted tuples, is not False. -/
namespace TW
open PySem PySem.Spec PyProof.Rows L2
/-- each once -/
def dd : List Int → List Int
  | [] => []
  | x :: l => if x ∈ dd l then dd l else x :: dd l
theorem dd_mem {x : Int} : ∀ {l : List Int}, x ∈ dd l ↔ x ∈ l
  | [] => Iff.rfl
  | y :: l => by
    unfold dd
    split
    · rename_i h
      rw [dd_mem, List.mem_cons]
      exact ⟨.inr, fun q => q.elim (fun e => e ▸ dd_mem.mp h) id⟩
    · rw [List.mem_cons, List.mem_cons, dd_mem]
theorem dd_nodup : ∀ l : List Int, (dd l).Nodup
  | [] => List.nodup_nil
  | y :: l => by
    unfold dd
    split
    · exact dd_nodup l
    · rename_i h
      exact List.nodup_cons.mpr ⟨h, dd_nodup l⟩
theorem dd_le : ∀ l : List Int, (dd l).length ≤ l.length
  | [] => Nat.le_refl _
  | y :: l => by
    have := dd_le l
    unfold dd
    split <;> simp <;> omega
theorem dd_full : ∀ l : List Int, (dd l).length = l.length ↔ l.Nodup
  | [] => ⟨fun _ => List.nodup_nil, fun _ => rfl⟩
  | y :: l => by
    have ih := dd_full l
    have le := dd_le l
    unfold dd
    rw [List.nodup_cons]
    split
    · rename_i h
      rw [dd_mem] at h
      rw [List.length_cons]
      exact ⟨fun q => by omega, fun q => absurd h q.1⟩
    · rename_i h
      rw [dd_mem] at h
      rw [List.length_cons, List.length_cons]
      exact ⟨fun q => ⟨h, ih.mp (by omega)⟩, fun q => by rw [ih.mpr q.2]⟩
theorem nd_len {α : Type} [DecidableEq α] : ∀ {l m : List α}, l.Nodup → (∀ x ∈ l, x ∈ m) → l.length ≤ m.length
  | [], _, _, _ => Nat.zero_le _
  | a :: l, m, hn, hs => by
    have ha := hs a List.mem_cons_self
    have hn' := List.nodup_cons.mp hn
    have ih := nd_len (m := m.erase a) hn'.2 fun x hx => (List.mem_erase_of_ne (a := x) (b := a) (fun e : x = a => hn'.1 (e ▸ hx))).mpr (hs x (List.mem_cons_of_mem _ hx))
    have e := List.length_erase_of_mem ha
    have hp := List.length_pos_of_mem ha
    rw [List.length_cons]
    omega
section
variable {X : Cx} {b : Bs} {env : PEnv}
/-- len(set(t)), t a tuple of ints -/
theorem pe_lenSetTup {a : Expr} {ta : TE} {p p2 q pos : Pos} (hc : X.calm = true) (hg : Gl X "len") (hm : X.mg "len" = none) (hg2 : Gl X "set") (hm2 : X.mg "set" = none) (ha : PE X a ta) (na : starEach [a] X.env = (false, eval a X.env) :: starEach [] X.env) :
    PE X (.Call (.Name "len" p) [.Call (.Name "set" p2) [a] [] q] [] pos) (fun σ H Q => ta σ H fun x H1 => ∃ (l : Addr) (ns : List Int), x = .ref l ∧ SqT X.K H1 l (ns.map V.int) ∧ ns.length ≤ 1000 ∧ Q (.int ((dd ns).length : Nat)) H1) := by
  refine ⟨fun pins s σ H Q I h => Call_ (ld_blt I hg hm boot_len (PyProof.Rows.callWith_builtin1 (PyProof.Rows.args_cons (Call_ (ld_blt I hg2 hm2 boot_set (PyProof.Rows.callWith_type1 (PyProof.Rows.args_cons (thn (ha.run pins s σ H _ I h) fun v s1 ⟨x, H1, I1, r1, l, ns, ex, hq, hl, q1⟩ => PyProof.Rows.args_nil ?_) na) na rfl))) rfl) rfl rfl))⟩
  subst ex
  cases r1
  obtain ⟨its, rv, pl, hz⟩ := I1.tuple hq
  refine call_set_tupI ns (I1.ok.hd hc) (show s1.heap.IsTuple l its.toArray from pl) (by simpa using rv.ints) (by unfold scanBound; omega) fun h' tk c hS hcl hk => ?_
  refine PyProof.Rows.args_nil ?_
  obtain ⟨o, es, ep, t, ho, hex, hd, _, hnd, hmem, _, hf, hn, _⟩ := hS
  have e : c = (dd ns).length := by
    rw [← hn, ← Array.length_toList, ← List.length_map (f := keyOf)]
    refine Nat.le_antisymm (nd_len hnd fun x hx => ?_) (nd_len (dd_nodup ns) fun x hx => ?_)
    · exact dd_mem.mpr (of_decide_eq_true ((hmem x).mpr hx))
    · exact (hmem x).mp (decide_eq_true (dd_mem.mp hx))
  have I2 : Inv X pins σ H1 { s1 with heap := h', toks := tk } := I1.kept fun b o e => hk b o e
  exact call_len_set ho hex hd hf (by rw [hn] <;> omega) ⟨.int ((dd ns).length : Nat), H1, I2.tok _, ⟨_, by rw [hn, e]⟩, q1⟩
theorem ev_lenSetT {e : Expr} {ns : List Int} {p p2 q pos : Pos} (hc : X.calm = true) (hm : X.mg "len" = none) (hm2 : X.mg "set" = none) (h : EvP X b e env (.sh (.tuple (ns.map .int)))) (hl : ns.length ≤ 1000) (hg : Gl X "len" := by rfl) (hg2 : Gl X "set" := by rfl)
    (na : starEach [e] X.env = (false, eval e X.env) :: starEach [] X.env := by rfl) : EvP X b (.Call (.Name "len" p) [.Call (.Name "set" p2) [e] [] q] [] pos) env (.sh (.int (dd ns).length)) := fun σ G H Q E k => by
  refine sem_e (pe_lenSetTup hc hg hm hg2 hm2 pe_sem na) (h σ G H _ E fun v G1 H1 x q => ?_)
  obtain ⟨a, xs, rfl, h1, h2⟩ := dp_tuple q
  rw [dpAll_ints h2] at h1
  exact ⟨a, ns, rfl, SqT.of (x.s.app h1), hl, k _ G1 H1 x (.int _)⟩
end
/-! ### sorted tuples -/
def ltL (a b : List Int) : Bool := PySem.W.listLt a b
theorem ltL_cons (x y : Int) (a b : List Int) : ltL (x :: a) (y :: b) = if x = y then ltL a b else decide (x < y) := rfl
theorem ltL_tri : ∀ {a b : List Int}, ltL a b = false → ltL b a = false → a = b
  | [], [], _, _ => rfl
  | [], _ :: _, h, _ => by cases h
  | _ :: _, [], _, h => by cases h
  | x :: a, y :: b, h1, h2 => by
    rw [ltL_cons] at h1 h2
    by_cases e : x = y
    · subst e
      rw [if_pos rfl] at h1 h2
      rw [ltL_tri h1 h2]
    · rw [if_neg e] at h1
      rw [if_neg (fun q => e q.symm)] at h2
      have a1 := of_decide_eq_false h1
      have a2 := of_decide_eq_false h2
      omega
def tI (l : List Int) : PD := .tuple (l.map .int)
theorem dataLe_tI (a b : List Int) : PySem.W.dataLe false tI a b = !ltL b a := by
  show (!PySem.W.dataLt (tI b) (tI a)) = _
  rw [show PySem.W.dataLt (tI b) (tI a) = ltL b a from (PySem.W.dataLt_tuple _ _).trans (PySem.W.lexAll_map b a)]
theorem alike_tI (a b : List Int) : PySem.W.alike (tI a) (tI b) = true := by
  show PySem.W.alike (.tuple _) (.tuple _) = true
  simp only [PySem.W.alike]
  exact PySem.W.alikeAll_map a b
section
variable {X : Cx} {r : RV}
/-- sorted(tuples of ints) -/
theorem c_sortT {ls ms : List (List Int)} (hu : X.A.units + 64 < cLine) (h : r.items = some (ls.map tI)) (hne : ∀ l ∈ ls, l ≠ []) (hp : ms.Perm ls) (ho : ms.Pairwise fun a b => ltL b a = false) : Cl X (.builtin "sorted") [r] (.own (ms.map tI)) := by
  have e : ls.mergeSort (PySem.W.dataLe false tI) = ms := by
    refine ((List.mergeSort_perm ls _).trans hp.symm).eq_of_pairwise (le := fun a b => ltL b a = false) (fun a b _ _ h1 h2 => ltL_tri h2 h1) ?_ ho
    refine (List.pairwise_mergeSort (le := PySem.W.dataLe false tI) (fun a b c h1 h2 => (PySem.W.sortLe_total _ false _).trans a b c h1 h2) (fun a b => ?_) ls).imp fun {a b} q => ?_
    · exact Bool.or_eq_true_iff.mpr ((PySem.W.sortLe_total _ false _).total a b)
    · rw [dataLe_tI] at q
      simpa using q
  have hso : PySem.W.Sortable (ls.map tI) := .inl fun d hd => by
    obtain ⟨l, hl, rfl⟩ := List.mem_map.mp hd
    cases l with
    | nil => exact absurd rfl (hne [] hl)
    | cons x l => exact ⟨_, _, rfl⟩
  have := c_sorted (X := X) (r := r) (enc := tI) (xs := ls) (n := 1) hu (fun l => lay_tuple (lay_map fun _ => lay_int)) alike_tI hso h
  rwa [e] at this
end
end TW

namespace KW
open PySem PySem.Spec PyProof.Rows L2 TW

/-! ### the text by places -/
def topS (i : Nat) : Stmt := PySem.Challenge.pw_tiecount_k06_whole_ways.main.body.getD i (.Pass ⟨0, 0, 0, 0⟩)
abbrev s_is_among : Stmt := topS 11
abbrev s_need_counts : Stmt := topS 12
abbrev s_wanted_by : Stmt := topS 13
abbrev s_is_tie : Stmt := topS 15
abbrev s_need_web : Stmt := topS 16
abbrev s_tied : Stmt := topS 17
abbrev s_beside : Stmt := topS 18
abbrev s_counts_by : Stmt := topS 19
abbrev s_left_by : Stmt := topS 21
abbrev s_lacking : Stmt := topS 23
abbrev s_nearer_by : Stmt := topS 24
abbrev s_nearer : Stmt := topS 25
abbrev s_turned : Stmt := topS 26
abbrev s_way : Stmt := topS 27
abbrev s_too_many : Stmt := topS 29
abbrev s_built : Stmt := topS 30
abbrev s_told_of : Stmt := topS 31
abbrev s_told : Stmt := topS 32
abbrev s_law_cell : Stmt := topS 34
abbrev s_law_mixed : Stmt := topS 35
abbrev s_law_whole : Stmt := topS 36
abbrev s_law_web : Stmt := topS 37
abbrev s_law_tied : Stmt := topS 38
abbrev s_law_counts : Stmt := topS 39
abbrev s_law_fits : Stmt := topS 40
abbrev s_law_left : Stmt := topS 41
abbrev s_law_is_row : Stmt := topS 42
abbrev s_law_kind : Stmt := topS 43
abbrev s_law_changed : Stmt := topS 44
abbrev s_law_led : Stmt := topS 45
abbrev s_law_told : Stmt := topS 46
abbrev s_law_others : Stmt := topS 47
abbrev s_law_refused : Stmt := topS 48
abbrev s_law : Stmt := topS 49
/-- the built-in names are the interpreter's own -/
structure Bt (mg : Str → Option Value) : Prop where
  isinstance : mg "isinstance" = none
  int : mg "int" = none
  bool : mg "bool" = none
  list : mg "list" = none
  tuple : mg "tuple" = none
  len : mg "len" = none
  range : mg "range" = none
  min : mg "min" = none
  max : mg "max" = none
  sorted : mg "sorted" = none
  sum : mg "sum" = none
  any : mg "any" = none
  all : mg "all" = none
  set : mg "set" = none
  zip : mg "zip" = none
  ValueError : mg "ValueError" = none
end KW

namespace KW
open PySem TW
/-! ### plain: cells, mixed numbers -/
/-- below 2 ^ (n + 1) in size -/
def Bd (n : Nat) (c : Int) : Prop := c.natAbs.log2 ≤ n
theorem bd_lt {n : Nat} {c : Int} (h : Bd n c) : c.natAbs < 2 ^ (n + 1) := by
  unfold Bd at h
  by_cases h0 : c.natAbs = 0
  · rw [h0]; exact Nat.two_pow_pos _
  · exact (Nat.log2_lt h0).mp (Nat.lt_succ_of_le h)
theorem bd_of {n : Nat} {c : Int} (h : c.natAbs < 2 ^ (n + 1)) : Bd n c := by
  unfold Bd
  by_cases h0 : c.natAbs = 0
  · rw [h0]; exact Nat.le_trans (by decide) (Nat.zero_le n)
  · exact Nat.le_of_lt_succ ((Nat.log2_lt h0).mpr h)
theorem bd_mono {n m : Nat} {c : Int} (h : Bd n c) (l : n ≤ m) : Bd m c := Nat.le_trans h l
theorem bd_le {n : Nat} {c d : Int} (h : Bd n c) (l : d.natAbs ≤ c.natAbs) : Bd n d := bd_of (Nat.lt_of_le_of_lt l (bd_lt h))
theorem bd_add {n : Nat} {c d : Int} (h : Bd n c) (g : Bd n d) : Bd (n + 1) (c + d) := by
  refine bd_of ?_
  have h1 := bd_lt h
  have h2 := bd_lt g
  rw [Nat.pow_succ]
  omega
theorem bd_mulc {n : Nat} {c : Int} (h : Bd n c) (k : Nat) (a : Int) (ha : a.natAbs ≤ 2 ^ k) : Bd (n + k) (a * c) := by
  refine bd_of ?_
  have h1 := bd_lt h
  rw [Int.natAbs_mul, show n + k + 1 = k + (n + 1) by omega, Nat.pow_add]
  exact Nat.lt_of_le_of_lt (Nat.mul_le_mul_right _ ha) (Nat.mul_lt_mul_of_pos_left h1 (Nat.two_pow_pos _))
theorem bd_div {n : Nat} {c : Int} (h : Bd n c) (d : Int) (hd : 0 < d) : Bd n (c / d) := by
  refine bd_le h ?_
  have h1 := Int.mul_ediv_self_le (x := c) (k := d) (by omega)
  have h2 := Int.lt_mul_ediv_self_add (x := c) (k := d) hd
  by_cases hc : 0 ≤ c
  · have h3 : 0 ≤ c / d := Int.ediv_nonneg hc (by omega)
    have h4 : c / d ≤ c := Int.ediv_le_self d hc
    omega
  · have h3 : c / d < 0 := Int.ediv_neg_of_neg_of_pos (by omega) hd
    have h4 : c ≤ c / d := by
      have : d * (c / d) ≤ 1 * (c / d) := Int.mul_le_mul_of_nonpos_right (by omega) (by omega)
      have h5 : c < d * (c / d) + d := h2
      by_cases hq : c / d = -1
      · rw [hq] at h1 h5 ⊢; omega
      · have h6 : c / d ≤ -2 := by omega
        have h7 : d * (c / d + 1) ≤ 1 * (c / d + 1) := Int.mul_le_mul_of_nonpos_right (by omega) (by omega)
        rw [Int.mul_add, Int.mul_one, Int.one_mul] at h7
        omega
    omega
theorem bd_small {c : Int} {n : Nat} (h : c.natAbs < 2 ^ (n + 1)) : Bd n c := bd_of h
/-- the k-th cell -/
def cellF (ns : List Int) (k : Int) : Int := ns.getD k.toNat 0
def mixF (c k : Int) : Int := (c + 7919 * k + 13) * (c + 7919 * k + 13) % 1000000007 * 48271 % 998244353 / 11
theorem mixF_nn (c k : Int) : 0 ≤ mixF c k := by
  unfold mixF
  exact Int.ediv_nonneg (Int.emod_nonneg _ (by decide)) (by decide)
/-- a script whose cells are of a told size -/
def Scr (ns : List Int) : Prop := ns.length ≤ 63 ∧ ∀ z ∈ ns, Bd 1048577 z
theorem cell_bd {ns : List Int} (h : Scr ns) (k : Int) : Bd 1048577 (cellF ns k) := by
  unfold cellF
  rw [List.getD_eq_getElem?_getD]
  cases e : ns[k.toNat]? with
  | none => exact Nat.le_trans (by decide) (Nat.zero_le _)
  | some z => exact h.2 z (List.mem_of_getElem? e)
theorem mix_fits {c k : Int} (hc : Bd 1048600 c) (hk : Bd 1048600 k) : CMulB (c + 7919 * k + 13) (c + 7919 * k + 13) := by
  have h1 : Bd (1048600 + 13) (7919 * k) := bd_mulc hk 13 7919 (by decide)
  have h2 := bd_add (bd_mono hc (Nat.le_add_right _ 13)) h1
  have h3 : Bd (1048600 + 13 + 1) 13 := bd_mono (show Bd 4 13 from (by decide : (13 : Int).natAbs.log2 ≤ 4)) (by omega)
  have h4 := bd_add h2 h3
  unfold Bd at h4
  unfold CMulB
  omega
end KW

namespace KW
open PySem PySem.Spec PyProof.Rows L2 TW
local macro_rules | `(tactic| walk_at "bo") => `(tactic| first | with_reducible exact o_add | with_reducible exact o_sub | with_reducible exact o_lt | with_reducible exact o_le | with_reducible exact o_gt | with_reducible exact o_ge | with_reducible exact o_eqI | with_reducible exact o_neI | with_reducible refine o_mod ?_ <;> omega | with_reducible refine o_fdiv ?_ ?_ <;> omega | with_reducible exact o_isN | with_reducible exact o_notN | exact o_add | exact o_sub | exact o_lt | exact o_le | exact o_gt | exact o_ge | exact o_eqI | exact o_neI | exact o_mod (by omega) | exact o_fdiv (by omega) (by omega) | exact o_mul (.inl (by omega)) | exact o_mul (.inr (by omega)) | exact o_eqS | exact o_neS | exact o_eqB | exact o_neB | exact o_isN | exact o_notN | exact o_cat rfl rfl (by walk_at "le"))
local macro_rules | `(tactic| walk_at "le") => `(tactic| first | decide | omega | (simp only [List.length_append, List.length_cons, List.length_nil, List.length_map, List.length_take, List.length_drop, List.length_range]; omega))
local macro_rules | `(tactic| walk_at "rg") => `(tactic| first | omega | decide)
local macro_rules | `(tactic| walk_at "bc") => `(tactic| first | exact c_len rfl | exact c_min2 rfl | exact c_max2 rfl | exact c_sum rfl rfl | exact c_any rfl rfl | exact c_all rfl rfl | exact c_list (tup := true) (.inl rfl) | exact c_list (tup := true) (.inr rfl) | exact c_tuple rfl | exact c_intB)
local macro_rules | `(tactic| walk_at "sl") => `(tactic| first | exact s_take rfl | exact s_drop rfl)
local macro_rules | `(tactic| walk_at "ns") => `(tactic| first | assumption | rfl)
local macro_rules | `(tactic| walk_at "bk") => `(tactic| first | rfl | decide +kernel)
local macro_rules | `(tactic| walk_at "wk") => `(tactic| repeat (first | exact trivial | refine ⟨Or.inl rfl, ?_⟩ | refine ⟨Or.inr rfl, ?_⟩))
local macro_rules | `(tactic| walk_at "pre") => `(tactic| first | trivial | assumption)
local macro_rules | `(tactic| walk_at "ix") => `(tactic| first | exact x_list rfl rfl | exact x_tup rfl)
section
variable {P : Program} {w : World} {K : KF} {mg : Str → Option Value} {base : Heap} {f : Addr} {fd : FuncData}
abbrev n_is_among : List Str := ["thing", "least", "most"]
theorem sc_is_among : FnScope n_is_among ["thing", "least", "most"] (defScope s_is_among) := ⟨rfl, rfl, rfl, by decide +kernel, rfl, by decide +kernel, by decide +kernel⟩
def inD (lo hi : Int) : PD → Bool
  | .int i => decide (lo ≤ i) && decide (i ≤ hi)
  | _ => false
/-- a whole number from lo to hi -/
def amongD (d : PD) (lo hi : Int) : Bool := isInt d && (!isBool d && inD lo hi d)
theorem int_of {d : PD} (h1 : isInt d = true) (h2 : (!isBool d) = true) : ∃ i, d = .int i := by
  cases d with
  | int i => exact ⟨i, rfl⟩
  | bool b => simp [isBool] at h2
  | _ => cases h1
abbrev F_is_among (P : Program) (w : World) (K : KF) (mg : Str → Option Value) (base : Heap) : Prop :=
  Fn P w K mg base "is_among" 1 ["thing", "least", "most"] (spF K (fun z : PD × Int × Int => topOk z.1 = true) (fun z => [z.1, .int z.2.1, .int z.2.2]) fun z => .ret (.sh (.bool (amongD z.1 z.2.1 z.2.2))))
theorem ok_is_among (F : Fun K "is_among" "is_among" s_is_among f fd) (hm : mg "is_among" = some (.ref f)) (hb : Binds K fd ["thing", "least", "most"] []) (T : Bt mg) : F_is_among P w K mg base := by
  refine fn_pure F hm hb sc_is_among (fun _ => rfl) fun cdv A outer s G H E ⟨d, lo, hi⟩ hr hz hE => ?_
  have hN := sc_is_among.nd
  refine bl_ret (ev_and (ev_isi T.isinstance T.int (ev_nsh (i := 0) rfl) (kit_int _) hz) fun h1 => ev_and (ev_not (ev_isi T.isinstance T.bool (ev_nsh (i := 0) rfl) (kit_bool _) hz)) fun h2 => ?_) rfl
  obtain ⟨i, rfl⟩ := int_of h1 h2
  exact ev_one (ev_chain (ev_nsh (i := 1) rfl) (ev_nsh (i := 0) rfl) (fun _ => ev_nsh (i := 2) rfl) (by walk_at "bo") (fun _ => by walk_at "bo") ⟨_, op_le⟩)
end
end KW

namespace KW
open PySem PySem.Spec PyProof.Rows L2 TW
local macro_rules | `(tactic| walk_at "bo") => `(tactic| first | with_reducible exact o_add | with_reducible exact o_sub | with_reducible exact o_lt | with_reducible exact o_le | with_reducible exact o_gt | with_reducible exact o_ge | with_reducible exact o_eqI | with_reducible exact o_neI | with_reducible refine o_mod ?_ <;> omega | with_reducible refine o_fdiv ?_ ?_ <;> omega | with_reducible exact o_isN | with_reducible exact o_notN | exact o_add | exact o_sub | exact o_lt | exact o_le | exact o_gt | exact o_ge | exact o_eqI | exact o_neI | exact o_mod (by omega) | exact o_fdiv (by omega) (by omega) | exact o_mul (.inl (by omega)) | exact o_mul (.inr (by omega)) | exact o_eqS | exact o_neS | exact o_eqB | exact o_neB | exact o_isN | exact o_notN | exact o_cat rfl rfl (by walk_at "le"))
local macro_rules | `(tactic| walk_at "le") => `(tactic| first | decide | omega | (simp only [List.length_append, List.length_cons, List.length_nil, List.length_map, List.length_take, List.length_drop, List.length_range]; omega))
local macro_rules | `(tactic| walk_at "rg") => `(tactic| first | omega | decide)
local macro_rules | `(tactic| walk_at "bc") => `(tactic| first | exact c_len rfl | exact c_min2 rfl | exact c_max2 rfl | exact c_sum rfl rfl | exact c_any rfl rfl | exact c_all rfl rfl | exact c_list (tup := true) (.inl rfl) | exact c_list (tup := true) (.inr rfl) | exact c_tuple rfl | exact c_intB)
local macro_rules | `(tactic| walk_at "sl") => `(tactic| first | exact s_take rfl | exact s_drop rfl)
local macro_rules | `(tactic| walk_at "ns") => `(tactic| first | assumption | rfl)
local macro_rules | `(tactic| walk_at "bk") => `(tactic| first | rfl | decide +kernel)
local macro_rules | `(tactic| walk_at "wk") => `(tactic| repeat (first | exact trivial | refine ⟨Or.inl rfl, ?_⟩ | refine ⟨Or.inr rfl, ?_⟩))
local macro_rules | `(tactic| walk_at "pre") => `(tactic| first | trivial | assumption)
local macro_rules | `(tactic| walk_at "ix") => `(tactic| first | exact x_list rfl rfl | exact x_tup rfl)
section
variable {P : Program} {w : World} {K : KF} {mg : Str → Option Value} {base : Heap} {f : Addr} {fd : FuncData}
abbrev n_law_cell : List Str := ["_law_script", "_law_k"]
theorem sc_law_cell : FnScope n_law_cell ["_law_script", "_law_k"] (defScope s_law_cell) := ⟨rfl, rfl, rfl, by decide +kernel, rfl, by decide +kernel, by decide +kernel⟩
abbrev F_law_cell (P : Program) (w : World) (K : KF) (mg : Str → Option Value) (base : Heap) : Prop :=
  Fn P w K mg base "_law_cell" 1 ["_law_script", "_law_k"] (spF K (fun z : List Int × Int => 0 ≤ z.2) (fun z => [scrD z.1, .int z.2]) fun z => .ret (.sh (.int (cellF z.1 z.2))))
theorem ok_law_cell (F : Fun K "_law_cell" "_law_cell" s_law_cell f fd) (hm : mg "_law_cell" = some (.ref f)) (hb : Binds K fd ["_law_script", "_law_k"] []) (T : Bt mg) : F_law_cell P w K mg base := by
  refine fn_pure F hm hb sc_law_cell (fun _ => rfl) fun cdv A outer s G H E ⟨ns, k⟩ hr hz hE => ?_
  have hz : 0 ≤ k := hz
  have hl : lenD (scrD ns) = some ns.length := by simp [scrD, lenD]
  refine bl_if (ts_cmp (ev_nsh (i := 1) rfl) (ev_bi T.len (c_len (r := .sh (scrD ns)) hl) (ar_cons (ev_nsh (i := 0) rfl) ar_nil)) (by walk_at "bo")) (fun h => ?_) (fun h => ?_)
  · have h1 : k < ns.length := of_decide_eq_true h
    have h2 : k.toNat < ns.length := by omega
    have e : cellF ns k = ns[k.toNat] := by
      unfold cellF
      rw [List.getD_eq_getElem?_getD, List.getElem?_eq_getElem h2]
      rfl
    refine bl_ret (ev_ix (ev_nsh (i := 0) rfl) (ev_nsh (i := 1) rfl) (x_scr (m := k.toNat) (by omega) (List.getElem?_eq_getElem h2))) ?_
    show RV.sh (.int ns[k.toNat]) = .sh (.int (cellF ns k))
    rw [e]
  · have h1 : ¬ k < ns.length := of_decide_eq_false h
    have e : cellF ns k = 0 := by
      unfold cellF
      rw [List.getD_eq_getElem?_getD, List.getElem?_eq_none (by omega)]
      rfl
    refine bl_nil ?_
    refine bl_ret ev_int ?_
    show RV.sh (.int 0) = .sh (.int (cellF ns k))
    rw [e]
end
end KW

namespace KW
open PySem PySem.Spec PyProof.Rows L2 TW
local macro_rules | `(tactic| walk_at "bo") => `(tactic| first | with_reducible exact o_add | with_reducible exact o_sub | with_reducible exact o_lt | with_reducible exact o_le | with_reducible exact o_gt | with_reducible exact o_ge | with_reducible exact o_eqI | with_reducible exact o_neI | with_reducible refine o_mod ?_ <;> omega | with_reducible refine o_fdiv ?_ ?_ <;> omega | with_reducible exact o_isN | with_reducible exact o_notN | exact o_add | exact o_sub | exact o_lt | exact o_le | exact o_gt | exact o_ge | exact o_eqI | exact o_neI | exact o_mod (by omega) | exact o_fdiv (by omega) (by omega) | exact o_mul (.inl (by omega)) | exact o_mul (.inr (by omega)) | exact o_eqS | exact o_neS | exact o_eqB | exact o_neB | exact o_isN | exact o_notN | exact o_cat rfl rfl (by walk_at "le"))
local macro_rules | `(tactic| walk_at "le") => `(tactic| first | decide | omega | (simp only [List.length_append, List.length_cons, List.length_nil, List.length_map, List.length_take, List.length_drop, List.length_range]; omega))
local macro_rules | `(tactic| walk_at "rg") => `(tactic| first | omega | decide)
local macro_rules | `(tactic| walk_at "bc") => `(tactic| first | exact c_len rfl | exact c_min2 rfl | exact c_max2 rfl | exact c_sum rfl rfl | exact c_any rfl rfl | exact c_all rfl rfl | exact c_list (tup := true) (.inl rfl) | exact c_list (tup := true) (.inr rfl) | exact c_tuple rfl | exact c_intB)
local macro_rules | `(tactic| walk_at "sl") => `(tactic| first | exact s_take rfl | exact s_drop rfl)
local macro_rules | `(tactic| walk_at "ns") => `(tactic| first | assumption | rfl)
local macro_rules | `(tactic| walk_at "bk") => `(tactic| first | rfl | decide +kernel)
local macro_rules | `(tactic| walk_at "wk") => `(tactic| repeat (first | exact trivial | refine ⟨Or.inl rfl, ?_⟩ | refine ⟨Or.inr rfl, ?_⟩))
local macro_rules | `(tactic| walk_at "pre") => `(tactic| first | trivial | assumption)
local macro_rules | `(tactic| walk_at "ix") => `(tactic| first | exact x_list rfl rfl | exact x_tup rfl)
section
variable {P : Program} {w : World} {K : KF} {mg : Str → Option Value} {base : Heap} {f : Addr} {fd : FuncData}
abbrev n_law_mixed : List Str := ["_law_cell_here", "_law_k", "_law_number"]
theorem sc_law_mixed : FnScope n_law_mixed ["_law_cell_here", "_law_k"] (defScope s_law_mixed) := ⟨rfl, rfl, rfl, by decide +kernel, rfl, by decide +kernel, by decide +kernel⟩
abbrev F_law_mixed (P : Program) (w : World) (K : KF) (mg : Str → Option Value) (base : Heap) : Prop :=
  Fn P w K mg base "_law_mixed" 1 ["_law_cell_here", "_law_k"] (spF K (fun z : Int × Int => Bd 1048600 z.1 ∧ Bd 1048600 z.2) (fun z => [.int z.1, .int z.2]) fun z => .ret (.sh (.int (mixF z.1 z.2))))
theorem ok_law_mixed (F : Fun K "_law_mixed" "_law_mixed" s_law_mixed f fd) (hm : mg "_law_mixed" = some (.ref f)) (hb : Binds K fd ["_law_cell_here", "_law_k"] []) (T : Bt mg) : F_law_mixed P w K mg base := by
  refine fn_pure F hm hb sc_law_mixed (fun _ => rfl) fun cdv A outer s G H E ⟨c, k⟩ hr ⟨h1, h2⟩ hE => ?_
  have hN := sc_law_mixed.nd
  refine bl_setF 2 hN (evS_sh (ev_bin (ev_bin (ev_nsh (i := 0) rfl) (ev_bin ev_int (ev_nsh (i := 1) rfl) (by walk_at "bo")) (by walk_at "bo")) ev_int (by walk_at "bo"))) ?_
  exact bl_ret (ev_bin (ev_bin (ev_bin (ev_bin (ev_bin (ev_nsh (i := 2) rfl) (ev_nsh (i := 2) rfl) (o_mulB (mix_fits h1 h2))) ev_int (by walk_at "bo")) ev_int (by walk_at "bo")) ev_int (by walk_at "bo")) ev_int (by walk_at "bo")) rfl
end
end KW

namespace KW
open PySem PySem.Spec PyProof.Rows L2 TW
local macro_rules | `(tactic| walk_at "bo") => `(tactic| first | with_reducible exact o_add | with_reducible exact o_sub | with_reducible exact o_lt | with_reducible exact o_le | with_reducible exact o_gt | with_reducible exact o_ge | with_reducible exact o_eqI | with_reducible exact o_neI | with_reducible refine o_mod ?_ <;> omega | with_reducible refine o_fdiv ?_ ?_ <;> omega | with_reducible exact o_isN | with_reducible exact o_notN | exact o_add | exact o_sub | exact o_lt | exact o_le | exact o_gt | exact o_ge | exact o_eqI | exact o_neI | exact o_mod (by omega) | exact o_fdiv (by omega) (by omega) | exact o_mul (.inl (by omega)) | exact o_mul (.inr (by omega)) | exact o_eqS | exact o_neS | exact o_eqB | exact o_neB | exact o_isN | exact o_notN | exact o_cat rfl rfl (by walk_at "le"))
local macro_rules | `(tactic| walk_at "le") => `(tactic| first | decide | omega | (simp only [List.length_append, List.length_cons, List.length_nil, List.length_map, List.length_take, List.length_drop, List.length_range]; omega))
local macro_rules | `(tactic| walk_at "rg") => `(tactic| first | omega | decide)
local macro_rules | `(tactic| walk_at "bc") => `(tactic| first | exact c_len rfl | exact c_min2 rfl | exact c_max2 rfl | exact c_sum rfl rfl | exact c_any rfl rfl | exact c_all rfl rfl | exact c_list (tup := true) (.inl rfl) | exact c_list (tup := true) (.inr rfl) | exact c_tuple rfl | exact c_intB)
local macro_rules | `(tactic| walk_at "sl") => `(tactic| first | exact s_take rfl | exact s_drop rfl)
local macro_rules | `(tactic| walk_at "ns") => `(tactic| first | assumption | rfl)
local macro_rules | `(tactic| walk_at "bk") => `(tactic| first | rfl | decide +kernel)
local macro_rules | `(tactic| walk_at "wk") => `(tactic| repeat (first | exact trivial | refine ⟨Or.inl rfl, ?_⟩ | refine ⟨Or.inr rfl, ?_⟩))
local macro_rules | `(tactic| walk_at "pre") => `(tactic| first | trivial | assumption)
local macro_rules | `(tactic| walk_at "ix") => `(tactic| first | exact x_list rfl rfl | exact x_tup rfl)
section
variable {P : Program} {w : World} {K : KF} {mg : Str → Option Value} {base : Heap} {f : Addr} {fd : FuncData}
abbrev n_law_whole : List Str := ["_law_found"]
theorem sc_law_whole : FnScope n_law_whole ["_law_found"] (defScope s_law_whole) := ⟨rfl, rfl, rfl, by decide +kernel, rfl, by decide +kernel, by decide +kernel⟩
def wholeD (d : PD) : Bool := isInt d && !isBool d
abbrev F_law_whole (P : Program) (w : World) (K : KF) (mg : Str → Option Value) (base : Heap) : Prop :=
  Fn P w K mg base "_law_whole" 1 ["_law_found"] (spF K (fun z : PD => topOk z = true) (fun z => [z]) fun z => .ret (.sh (.bool (wholeD z))))
theorem ok_law_whole (F : Fun K "_law_whole" "_law_whole" s_law_whole f fd) (hm : mg "_law_whole" = some (.ref f)) (hb : Binds K fd ["_law_found"] []) (T : Bt mg) : F_law_whole P w K mg base := by
  refine fn_pure F hm hb sc_law_whole (fun _ => rfl) fun cdv A outer s G H E z hr hz hE => ?_
  exact bl_ret (ev_and (ev_isi T.isinstance T.int (ev_nsh (i := 0) rfl) (kit_int _) hz) fun h1 => (ev_one (ev_not (ev_isi T.isinstance T.bool (ev_nsh (i := 0) rfl) (kit_bool _) hz)))) rfl
end
end KW

namespace KW
open PySem PySem.Spec PyProof.Rows L2 TW
local macro_rules | `(tactic| walk_at "bo") => `(tactic| first | with_reducible exact o_add | with_reducible exact o_sub | with_reducible exact o_lt | with_reducible exact o_le | with_reducible exact o_gt | with_reducible exact o_ge | with_reducible exact o_eqI | with_reducible exact o_neI | with_reducible refine o_mod ?_ <;> omega | with_reducible refine o_fdiv ?_ ?_ <;> omega | with_reducible exact o_isN | with_reducible exact o_notN | exact o_add | exact o_sub | exact o_lt | exact o_le | exact o_gt | exact o_ge | exact o_eqI | exact o_neI | exact o_mod (by omega) | exact o_fdiv (by omega) (by omega) | exact o_mul (.inl (by omega)) | exact o_mul (.inr (by omega)) | exact o_eqS | exact o_neS | exact o_eqB | exact o_neB | exact o_isN | exact o_notN | exact o_cat rfl rfl (by walk_at "le"))
local macro_rules | `(tactic| walk_at "le") => `(tactic| first | decide | omega | (simp only [List.length_append, List.length_cons, List.length_nil, List.length_map, List.length_take, List.length_drop, List.length_range]; omega))
local macro_rules | `(tactic| walk_at "rg") => `(tactic| first | omega | decide)
local macro_rules | `(tactic| walk_at "bc") => `(tactic| first | exact c_len rfl | exact c_min2 rfl | exact c_max2 rfl | exact c_sum rfl rfl | exact c_any rfl rfl | exact c_all rfl rfl | exact c_list (tup := true) (.inl rfl) | exact c_list (tup := true) (.inr rfl) | exact c_tuple rfl | exact c_intB)
local macro_rules | `(tactic| walk_at "sl") => `(tactic| first | exact s_take rfl | exact s_drop rfl)
local macro_rules | `(tactic| walk_at "ns") => `(tactic| first | assumption | rfl)
local macro_rules | `(tactic| walk_at "bk") => `(tactic| first | rfl | decide +kernel)
local macro_rules | `(tactic| walk_at "wk") => `(tactic| repeat (first | exact trivial | refine ⟨Or.inl rfl, ?_⟩ | refine ⟨Or.inr rfl, ?_⟩))
local macro_rules | `(tactic| walk_at "pre") => `(tactic| first | trivial | assumption)
local macro_rules | `(tactic| walk_at "ix") => `(tactic| first | exact x_list rfl rfl | exact x_tup rfl)
section
variable {P : Program} {w : World} {K : KF} {mg : Str → Option Value} {base : Heap} {f : Addr} {fd : FuncData}
/-! ### the program's errors -/
/-- the addresses of the classes -/
structure ErA where
  T : Addr
  bc : Addr
  bm : Addr
  bw : Addr
  be : Addr
  un : Addr
  nw : Addr
/-- the names -/
structure ErN (mg : Str → Option Value) (a : ErA) : Prop where
  nT : mg "TieError" = some (.ref a.T)
  n1 : mg "BadCounts" = some (.ref a.bc)
  n2 : mg "BadMany" = some (.ref a.bm)
  n3 : mg "BadWeb" = some (.ref a.bw)
  n4 : mg "BadExchange" = some (.ref a.be)
  n5 : mg "Unlike" = some (.ref a.un)
  n6 : mg "NoWeb" = some (.ref a.nw)
/-- which class an error of C is of -/
structure ErK (K : KF) (a : ErA) (C : Addr) (b1 b2 b3 b4 b5 b6 : Bool) : Prop where
  k1 : PySem.W.kitOne K (.ref C) (.ref a.bc) = some b1
  k2 : PySem.W.kitOne K (.ref C) (.ref a.bm) = some b2
  k3 : PySem.W.kitOne K (.ref C) (.ref a.bw) = some b3
  k4 : PySem.W.kitOne K (.ref C) (.ref a.be) = some b4
  k5 : PySem.W.kitOne K (.ref C) (.ref a.un) = some b5
  k6 : PySem.W.kitOne K (.ref C) (.ref a.nw) = some b6
  kv : PySem.W.kitOne K (.ref C) (.type "ValueError") = some true
/-- a class that is raised, with the law's word for it -/
structure Raised (K : KF) (mg : Str → Option Value) (a : ErA) (x : Str) (C : Addr) (w : Str) : Prop where
  cl : ErrCl K mg x C
  ec : ExcC K C
  tm : PySem.W.exmOne K (.ref C) (.ref a.T) = some true
  w : (w = "counts" ∧ ErK K a C true false false false false false) ∨ (w = "many" ∧ ErK K a C false true false false false false) ∨ (w = "web" ∧ ErK K a C false false true false false false) ∨
    (w = "exchange" ∧ ErK K a C false false false true false false) ∨ (w = "unlike" ∧ ErK K a C false false false false true false) ∨ (w = "none" ∧ ErK K a C false false false false false true)
end
end KW

namespace KW
open PySem PySem.Spec PyProof.Rows L2 TW
local macro_rules | `(tactic| walk_at "bo") => `(tactic| first | with_reducible exact o_add | with_reducible exact o_sub | with_reducible exact o_lt | with_reducible exact o_le | with_reducible exact o_gt | with_reducible exact o_ge | with_reducible exact o_eqI | with_reducible exact o_neI | with_reducible refine o_mod ?_ <;> omega | with_reducible refine o_fdiv ?_ ?_ <;> omega | with_reducible exact o_isN | with_reducible exact o_notN | exact o_add | exact o_sub | exact o_lt | exact o_le | exact o_gt | exact o_ge | exact o_eqI | exact o_neI | exact o_mod (by omega) | exact o_fdiv (by omega) (by omega) | exact o_mul (.inl (by omega)) | exact o_mul (.inr (by omega)) | exact o_eqS | exact o_neS | exact o_eqB | exact o_neB | exact o_isN | exact o_notN | exact o_cat rfl rfl (by walk_at "le"))
local macro_rules | `(tactic| walk_at "le") => `(tactic| first | decide | omega | (simp only [List.length_append, List.length_cons, List.length_nil, List.length_map, List.length_take, List.length_drop, List.length_range]; omega))
local macro_rules | `(tactic| walk_at "rg") => `(tactic| first | omega | decide)
local macro_rules | `(tactic| walk_at "bc") => `(tactic| first | exact c_len rfl | exact c_min2 rfl | exact c_max2 rfl | exact c_sum rfl rfl | exact c_any rfl rfl | exact c_all rfl rfl | exact c_list (tup := true) (.inl rfl) | exact c_list (tup := true) (.inr rfl) | exact c_tuple rfl | exact c_intB)
local macro_rules | `(tactic| walk_at "sl") => `(tactic| first | exact s_take rfl | exact s_drop rfl)
local macro_rules | `(tactic| walk_at "ns") => `(tactic| first | assumption | rfl)
local macro_rules | `(tactic| walk_at "bk") => `(tactic| first | rfl | decide +kernel)
local macro_rules | `(tactic| walk_at "wk") => `(tactic| repeat (first | exact trivial | refine ⟨Or.inl rfl, ?_⟩ | refine ⟨Or.inr rfl, ?_⟩))
local macro_rules | `(tactic| walk_at "pre") => `(tactic| first | trivial | assumption)
local macro_rules | `(tactic| walk_at "ix") => `(tactic| first | exact x_list rfl rfl | exact x_tup rfl)
section
variable {P : Program} {w : World} {K : KF} {mg : Str → Option Value} {base : Heap} {f : Addr} {fd : FuncData}
abbrev n_law_kind : List Str := ["_law_error", "_law_found", "_law_word", "_law_is_one"]
theorem sc_law_kind : FnScope n_law_kind ["_law_error"] (defScope s_law_kind) := ⟨rfl, rfl, rfl, by decide +kernel, rfl, by decide +kernel, by decide +kernel⟩
def encW (z : Str × Bool) : PD := .tuple [.str z.1, .bool z.2]
abbrev F_law_kind (P : Program) (w : World) (K : KF) (mg : Str → Option Value) (base : Heap) (a : ErA) : Prop :=
  FnX P w K mg base "_law_kind" 1 ["_law_error"] (spX K (fun (z : Addr × Str) p => ErrAt K z.1 p ∧ ∃ x, Raised K mg a x z.1 z.2) fun z => .own [.str z.2])
theorem ok_law_kind {a : ErA} (F : Fun K "_law_kind" "_law_kind" s_law_kind f fd) (hm : mg "_law_kind" = some (.ref f)) (hb : Binds K fd ["_law_error"] []) (T : Bt mg) (N : ErN mg a) : F_law_kind P w K mg base a := by
  refine fnX_of F hm hb sc_law_kind fun cdv A outer s G H E p ⟨C, w⟩ hr hot ⟨hz, x, hR⟩ => ?_
  have hN := sc_law_kind.nd
  have hot : L2H.HotC (L2H.cxH (L2N.CX P ‹World›) P ‹World› K mg base n_law_kind "_law_kind" (defScope s_law_kind) f cdv A outer s H E p) := ⟨p, hot, List.mem_singleton.mpr rfl⟩
  have go : ∀ {b1 b2 b3 b4 b5 b6 : Bool}, ErK K a C b1 b2 b3 b4 b5 b6 → ((([("counts", b1), ("many", b2), ("web", b3), ("exchange", b4), ("unlike", b5), ("none", b6)] : List (Str × Bool)).filterMap fun z => if z.2 then some (PyData.str z.1) else none) = [.str w]) →
      BlP (L2H.cxH (L2N.CX P ‹World›) P ‹World› K mg base n_law_kind "_law_kind" (defScope s_law_kind) f cdv A outer s H E p) ⟨G, H⟩ (defBody s_law_kind) (startE n_law_kind [errD p.1]) { nx := fun _ => False, rt := fun r => r = .own [.str w] } := by
    intro b1 b2 b3 b4 b5 b6 k hw
    refine bl_setF 1 hN (evS_own (ev_lst (as_cons (evS_sh (ev_tup (as_cons (evS_sh ev_str) (as_cons (evS_sh (ev_isErr (List.mem_singleton.mpr rfl) hz T.isinstance (i := 0) rfl (pe_glob (v := .ref a.bc) rfl N.n1 rfl) (fun _ q => q) k.k1)) as_nil)))) (as_cons (evS_sh (ev_tup (as_cons (evS_sh ev_str) (as_cons (evS_sh (ev_isErr (List.mem_singleton.mpr rfl) hz T.isinstance (i := 0) rfl (pe_glob (v := .ref a.bm) rfl N.n2 rfl) (fun _ q => q) k.k2)) as_nil)))) as_nil)))) ?_
    refine bl_setF 1 hN (evS_own (ev_bin (ev_nsh (i := 1) rfl) (ev_lst (as_cons (evS_sh (ev_tup (as_cons (evS_sh ev_str) (as_cons (evS_sh (ev_isErr (List.mem_singleton.mpr rfl) hz T.isinstance (i := 0) rfl (pe_glob (v := .ref a.bw) rfl N.n3 rfl) (fun _ q => q) k.k3)) as_nil)))) (as_cons (evS_sh (ev_tup (as_cons (evS_sh ev_str) (as_cons (evS_sh (ev_isErr (List.mem_singleton.mpr rfl) hz T.isinstance (i := 0) rfl (pe_glob (v := .ref a.be) rfl N.n4 rfl) (fun _ q => q) k.k4)) as_nil)))) as_nil))) (by walk_at "bo"))) ?_
    refine bl_setF 1 hN (evS_own (ev_bin (ev_nsh (i := 1) rfl) (ev_lst (as_cons (evS_sh (ev_tup (as_cons (evS_sh ev_str) (as_cons (evS_sh (ev_isErr (List.mem_singleton.mpr rfl) hz T.isinstance (i := 0) rfl (pe_glob (v := .ref a.un) rfl N.n5 rfl) (fun _ q => q) k.k5)) as_nil)))) (as_cons (evS_sh (ev_tup (as_cons (evS_sh ev_str) (as_cons (evS_sh (ev_isErr (List.mem_singleton.mpr rfl) hz T.isinstance (i := 0) rfl (pe_glob (v := .ref a.nw) rfl N.n6 rfl) (fun _ q => q) k.k6)) as_nil)))) as_nil))) (by walk_at "bo"))) ?_
    refine bl_setLcHot (own := [("_law_word", 2), ("_law_is_one", 3)]) (xs := ([("counts", b1), ("many", b2), ("web", b3), ("exchange", b4), ("unlike", b5), ("none", b6)] : List (Str × Bool))) (enc := encW) (f := fun z => if z.2 then some (PyData.str z.1) else none) 1 hot hN (blkOk_by (by walk_at "bk")) (sw_true rfl rfl rfl rfl) (evS_sh (ev_nsh (i := 1) rfl)) (by walk_at "le")
      (fun z hz => turn_ifH (fun _ _ _ _ _ hB => tw_tupH hB (tws_cons (tw_name 2 hN) (tws_cons (tw_name 3 hN) tws_nil))) (fun _ _ _ _ _ => (ts_val (ev_nsh (i := 3) rfl))) (fun _ _ _ _ _ => (evS_sh (ev_nsh (i := 2) rfl)))) ?_
    refine bl_ret (r := .own (List.replicate (Int.toNat 1) [PyData.str w]).flatten) (ev_bin (ev_name (i := 1) rfl) (ev_ty T.int (r := .sh (.int 1)) (c_intB (k := true)) (ar_cons (ev_and (k := true) (ev_cmp (ev_bi T.len (c_len (n := 1) (by show lenD (.list _) = _; rw [hw]; rfl)) (ar_cons (ev_name (i := 1) rfl) ar_nil)) ev_int (by walk_at "bo")) fun h1 => (ev_one (ev_isErr (List.mem_singleton.mpr rfl) hz T.isinstance (i := 0) rfl (pe_bltn (v := .ty "ValueError") rfl T.ValueError (by decide +kernel) rfl) (fun _ q => q) k.kv))) ar_nil)) (o_rep (by show some _ = some _; rw [hw]) (by decide) (by walk_at "le"))) rfl
  rcases hR.w with ⟨e, k⟩ | ⟨e, k⟩ | ⟨e, k⟩ | ⟨e, k⟩ | ⟨e, k⟩ | ⟨e, k⟩ <;> exact go k (by rw [show w = _ from e]; rfl)
end
end KW

namespace KW
open PySem PySem.Spec PyProof.Rows L2 TW
local macro_rules | `(tactic| walk_at "bo") => `(tactic| first | with_reducible exact o_add | with_reducible exact o_sub | with_reducible exact o_lt | with_reducible exact o_le | with_reducible exact o_gt | with_reducible exact o_ge | with_reducible exact o_eqI | with_reducible exact o_neI | with_reducible refine o_mod ?_ <;> omega | with_reducible refine o_fdiv ?_ ?_ <;> omega | with_reducible exact o_isN | with_reducible exact o_notN | exact o_add | exact o_sub | exact o_lt | exact o_le | exact o_gt | exact o_ge | exact o_eqI | exact o_neI | exact o_mod (by omega) | exact o_fdiv (by omega) (by omega) | exact o_mul (.inl (by omega)) | exact o_mul (.inr (by omega)) | exact o_eqS | exact o_neS | exact o_eqB | exact o_neB | exact o_isN | exact o_notN | exact o_cat rfl rfl (by walk_at "le"))
local macro_rules | `(tactic| walk_at "le") => `(tactic| first | decide | omega | (simp only [List.length_append, List.length_cons, List.length_nil, List.length_map, List.length_take, List.length_drop, List.length_range]; omega))
local macro_rules | `(tactic| walk_at "rg") => `(tactic| first | omega | decide)
local macro_rules | `(tactic| walk_at "bc") => `(tactic| first | exact c_len rfl | exact c_min2 rfl | exact c_max2 rfl | exact c_sum rfl rfl | exact c_any rfl rfl | exact c_all rfl rfl | exact c_list (tup := true) (.inl rfl) | exact c_list (tup := true) (.inr rfl) | exact c_tuple rfl | exact c_intB)
local macro_rules | `(tactic| walk_at "sl") => `(tactic| first | exact s_take rfl | exact s_drop rfl)
local macro_rules | `(tactic| walk_at "ns") => `(tactic| first | assumption | rfl)
local macro_rules | `(tactic| walk_at "bk") => `(tactic| first | rfl | decide +kernel)
local macro_rules | `(tactic| walk_at "wk") => `(tactic| repeat (first | exact trivial | refine ⟨Or.inl rfl, ?_⟩ | refine ⟨Or.inr rfl, ?_⟩))
local macro_rules | `(tactic| walk_at "pre") => `(tactic| first | trivial | assumption)
local macro_rules | `(tactic| walk_at "ix") => `(tactic| first | exact x_list rfl rfl | exact x_tup rfl)
section
variable {P : Program} {w : World} {K : KF} {mg : Str → Option Value} {base : Heap} {f : Addr} {fd : FuncData}
def intOf : PD → Int
  | .int i => i
  | _ => 0
def itemsOf : PD → List PD
  | .list ds => ds
  | _ => []
def intsOf (d : PD) : List Int := (itemsOf d).map intOf
theorem among_int {d : PD} {lo hi : Int} (h : amongD d lo hi = true) : d = .int (intOf d) ∧ lo ≤ intOf d ∧ intOf d ≤ hi := by
  unfold amongD at h
  obtain ⟨h1, h2⟩ := Bool.and_eq_true_iff.mp h
  obtain ⟨h2, h3⟩ := Bool.and_eq_true_iff.mp h2
  obtain ⟨i, rfl⟩ := int_of h1 h2
  obtain ⟨h4, h5⟩ := Bool.and_eq_true_iff.mp h3
  exact ⟨rfl, of_decide_eq_true h4, of_decide_eq_true h5⟩
theorem among_of {i lo hi : Int} (h1 : lo ≤ i) (h2 : i ≤ hi) : amongD (.int i) lo hi = true := by
  simp [amongD, TW.isInt, TW.isBool, inD, h1, h2]
theorem intsOf_ints (ns : List Int) : intsOf (.list (ns.map .int)) = ns := by
  unfold intsOf itemsOf
  rw [List.map_map]
  exact List.map_id'' (fun _ => rfl) ns
end
end KW

namespace KW
open PySem PySem.Spec PyProof.Rows L2 TW
local macro_rules | `(tactic| walk_at "bo") => `(tactic| first | with_reducible exact o_add | with_reducible exact o_sub | with_reducible exact o_lt | with_reducible exact o_le | with_reducible exact o_gt | with_reducible exact o_ge | with_reducible exact o_eqI | with_reducible exact o_neI | with_reducible refine o_mod ?_ <;> omega | with_reducible refine o_fdiv ?_ ?_ <;> omega | with_reducible exact o_isN | with_reducible exact o_notN | exact o_add | exact o_sub | exact o_lt | exact o_le | exact o_gt | exact o_ge | exact o_eqI | exact o_neI | exact o_mod (by omega) | exact o_fdiv (by omega) (by omega) | exact o_mul (.inl (by omega)) | exact o_mul (.inr (by omega)) | exact o_eqS | exact o_neS | exact o_eqB | exact o_neB | exact o_isN | exact o_notN | exact o_cat rfl rfl (by walk_at "le"))
local macro_rules | `(tactic| walk_at "le") => `(tactic| first | decide | omega | (simp only [List.length_append, List.length_cons, List.length_nil, List.length_map, List.length_take, List.length_drop, List.length_range]; omega))
local macro_rules | `(tactic| walk_at "rg") => `(tactic| first | omega | decide)
local macro_rules | `(tactic| walk_at "bc") => `(tactic| first | exact c_len rfl | exact c_min2 rfl | exact c_max2 rfl | exact c_sum rfl rfl | exact c_any rfl rfl | exact c_all rfl rfl | exact c_list (tup := true) (.inl rfl) | exact c_list (tup := true) (.inr rfl) | exact c_tuple rfl | exact c_intB)
local macro_rules | `(tactic| walk_at "sl") => `(tactic| first | exact s_take rfl | exact s_drop rfl)
local macro_rules | `(tactic| walk_at "ns") => `(tactic| first | assumption | rfl)
local macro_rules | `(tactic| walk_at "bk") => `(tactic| first | rfl | decide +kernel)
local macro_rules | `(tactic| walk_at "wk") => `(tactic| repeat (first | exact trivial | refine ⟨Or.inl rfl, ?_⟩ | refine ⟨Or.inr rfl, ?_⟩))
local macro_rules | `(tactic| walk_at "pre") => `(tactic| first | trivial | assumption)
local macro_rules | `(tactic| walk_at "ix") => `(tactic| first | exact x_list rfl rfl | exact x_tup rfl)
section
variable {P : Program} {w : World} {K : KF} {mg : Str → Option Value} {base : Heap} {f : Addr} {fd : FuncData}
abbrev n_need_counts : List Str := ["thing", "count"]
theorem sc_need_counts : FnScope n_need_counts ["thing"] (defScope s_need_counts) := ⟨rfl, rfl, rfl, by decide +kernel, rfl, by decide +kernel, by decide +kernel⟩
/-- the module's numbers -/
structure CtC (mg : Str → Option Value) : Prop where
  MOST_POINTS : ∃ t, mg "MOST_POINTS" = some (.int 10 t)
  MOST_COUNT : ∃ t, mg "MOST_COUNT" = some (.int 20 t)
def countsOk : PD → Bool
  | .list ds => (decide ((1 : Int) ≤ ds.length) && decide ((ds.length : Int) ≤ 10)) && ds.all fun d => amongD d 0 20
  | _ => false
theorem countsOk_list (ds : List PD) : countsOk (.list ds) = ((decide ((1 : Int) ≤ ds.length) && decide ((ds.length : Int) ≤ 10)) && ds.all fun d => amongD d 0 20) := rfl
/-- plain at the top, and so each item of a list -/
def topOk2 : PD → Bool
  | .list ds => ds.all topOk
  | d => topOk d
theorem topOk2_top {d : PD} (h : topOk2 d = true) : topOk d = true := by
  cases d <;> first | rfl | exact h
abbrev F_need_counts (P : Program) (w : World) (K : KF) (mg : Str → Option Value) (base : Heap) (a : ErA) : Prop :=
  Fn P w K mg base "need_counts" 2 ["thing"] (spF K (fun d : PD => topOk2 d = true) (fun d => [d]) fun d => if countsOk d then .ret (.sh .none) else .exc a.bc)
theorem ok_need_counts {a : ErA} (F : Fun K "need_counts" "need_counts" s_need_counts f fd) (hm : mg "need_counts" = some (.ref f)) (hb : Binds K fd ["thing"] []) (T : Bt mg) (C : CtC mg) (R : ErrCl K mg "BadCounts" a.bc) (h_is_among : F_is_among P w K mg base) : F_need_counts P w K mg base a := by
  refine fn_pure F hm hb sc_need_counts (fun _ => rfl) fun cdv A outer s G H E d hr hz hE => ?_
  have hN := sc_need_counts.nd
  have hz : topOk2 d = true := hz
  by_cases hl : isList d = true
  · obtain ⟨ds, rfl⟩ : ∃ ds, d = .list ds := by
      cases d <;> first | exact ⟨_, rfl⟩ | cases hl
    have e : ∀ k : Bool, countsOk (.list ds) = k → (if countsOk (.list ds) = true then Oc.ret (.sh .none) else .exc a.bc) = if k = true then Oc.ret (.sh .none) else .exc a.bc := fun k h => by rw [h]
    refine bl_if (ts_w (tw_or (ts_not (ts_val (ev_isi T.isinstance T.list (ev_nsh (i := 0) rfl) (kit_list _) (topOk2_top hz)))) fun h1 => (tw_or1 (ts_not (ts_chain ev_int (ev_bi T.len (c_len (r := .sh (.list ds)) (n := ds.length) rfl) (ar_cons (ev_nsh (i := 0) rfl) ar_nil)) (fun _ => (ev_gint C.MOST_POINTS)) (by walk_at "bo") (fun _ => by walk_at "bo") ⟨_, op_le⟩))))) (fun h => ?_) (fun h => ?_)
    · have hk : countsOk (.list ds) = false := by
        have h' : (!(decide ((1 : Int) ≤ ds.length) && decide ((ds.length : Int) ≤ 10))) = true := h
        rw [countsOk_list]
        rw [Bool.not_eq_true'] at h'
        rw [h', Bool.false_and]
      exact bl_raise rfl (rz_fn (hE _ (e _ hk))) R
    · have h' : (decide ((1 : Int) ≤ ds.length) && decide ((ds.length : Int) ≤ 10)) = true := by
        have h' : (!(decide ((1 : Int) ≤ ds.length) && decide ((ds.length : Int) ≤ 10))) = false := h
        simpa using h'
      refine bl_nil ?_
      refine bl_for (passes_of rfl) rfl (it_list (evS_sh (ev_nsh (i := 0) rfl))) (fun i env' => ((ds.take i).all fun d => amongD d 0 20) = true ∧ wk env' [some (.sh (.list ds)), none]) ⟨rfl, .inl rfl, .inr rfl, trivial⟩ (fun Gb i d env1 hi hI => ?_) (fun env1 hI => ?_)
      · refine ⟨_, tg_name 1 hN, ?_⟩
        obtain ⟨hI, hw⟩ := hI
        refine bl_wkset hw ?_
        · have tk : ds.take (i + 1) = ds.take i ++ [d] := by rw [List.take_add_one, hi]; rfl
          have md := List.mem_of_getElem? hi
          refine bl_if (ts_not (ts_val (ev_call h_is_among (_, _, _) hr (List.all_eq_true.mp hz d md) (as_cons (evS_sh (ev_nsh (i := 1) rfl)) (as_cons (evS_sh ev_int) (as_cons (evS_sh (ev_gint C.MOST_COUNT)) as_nil))) rfl))) (fun h => ?_) (fun h => ?_)
          · have hk : countsOk (.list ds) = false := by
              rw [countsOk_list]
              rw [h', Bool.true_and]
              refine Bool.eq_false_iff.mpr fun q => ?_
              have q1 := List.all_eq_true.mp q d md
              rw [show amongD d 0 20 = true from q1] at h
              cases h
            exact bl_raise rfl (rz_fn (hE _ (e _ hk))) R
          · refine bl_nil (bl_nil ⟨?_, .inl rfl, .inr rfl, trivial⟩)
            rw [tk, List.all_append, hI]
            have h2 : amongD d 0 20 = true := by simpa using h
            simp [h2]
      · obtain ⟨hI, _⟩ := hI
        rw [List.take_length] at hI
        refine bl_nil ?_
        have hk : countsOk (.list ds) = true := by rw [countsOk_list]; rw [h', hI]; rfl
        show (outR (if countsOk (.list ds) = true then Oc.ret (.sh .none) else .exc a.bc)).nx env1
        rw [hk]
        rfl
  · have hk : countsOk d = false := by
      cases d <;> first | rfl | exact absurd rfl hl
    refine bl_if (k := true) (tsP_r (ts_w (tw_or (k1 := true) (ts_not (ts_val (ev_isi T.isinstance T.list (ev_nsh (i := 0) rfl) (kit_list _) (topOk2_top hz)))) fun h1 => absurd (show (!isList d) = false from h1) (by rw [Bool.eq_false_iff.mpr hl]; decide))) (by show (!isList d || true) = true; rw [Bool.or_true])) (fun _ => ?_) (fun h => by cases h)
    exact bl_raise rfl (rz_fn (hE _ (by rw [hk]; rfl))) R
end
end KW

namespace KW
open PySem PySem.Spec PyProof.Rows L2 TW
local macro_rules | `(tactic| walk_at "bo") => `(tactic| first | with_reducible exact o_add | with_reducible exact o_sub | with_reducible exact o_lt | with_reducible exact o_le | with_reducible exact o_gt | with_reducible exact o_ge | with_reducible exact o_eqI | with_reducible exact o_neI | with_reducible refine o_mod ?_ <;> omega | with_reducible refine o_fdiv ?_ ?_ <;> omega | with_reducible exact o_isN | with_reducible exact o_notN | exact o_add | exact o_sub | exact o_lt | exact o_le | exact o_gt | exact o_ge | exact o_eqI | exact o_neI | exact o_mod (by omega) | exact o_fdiv (by omega) (by omega) | exact o_mul (.inl (by omega)) | exact o_mul (.inr (by omega)) | exact o_eqS | exact o_neS | exact o_eqB | exact o_neB | exact o_isN | exact o_notN | exact o_cat rfl rfl (by walk_at "le"))
local macro_rules | `(tactic| walk_at "le") => `(tactic| first | decide | omega | (simp only [List.length_append, List.length_cons, List.length_nil, List.length_map, List.length_take, List.length_drop, List.length_range]; omega))
local macro_rules | `(tactic| walk_at "rg") => `(tactic| first | omega | decide)
local macro_rules | `(tactic| walk_at "bc") => `(tactic| first | exact c_len rfl | exact c_min2 rfl | exact c_max2 rfl | exact c_sum rfl rfl | exact c_any rfl rfl | exact c_all rfl rfl | exact c_list (tup := true) (.inl rfl) | exact c_list (tup := true) (.inr rfl) | exact c_tuple rfl | exact c_intB)
local macro_rules | `(tactic| walk_at "sl") => `(tactic| first | exact s_take rfl | exact s_drop rfl)
local macro_rules | `(tactic| walk_at "ns") => `(tactic| first | assumption | rfl)
local macro_rules | `(tactic| walk_at "bk") => `(tactic| first | rfl | decide +kernel)
local macro_rules | `(tactic| walk_at "wk") => `(tactic| repeat (first | exact trivial | refine ⟨Or.inl rfl, ?_⟩ | refine ⟨Or.inr rfl, ?_⟩))
local macro_rules | `(tactic| walk_at "pre") => `(tactic| first | trivial | assumption)
local macro_rules | `(tactic| walk_at "ix") => `(tactic| first | exact x_list rfl rfl | exact x_tup rfl)
section
variable {P : Program} {w : World} {K : KF} {mg : Str → Option Value} {base : Heap} {f : Addr} {fd : FuncData}
theorem counts_ints {d : PD} (h : countsOk d = true) : d = .list ((intsOf d).map .int) ∧ 1 ≤ (intsOf d).length ∧ (intsOf d).length ≤ 10 ∧ ∀ x ∈ intsOf d, 0 ≤ x ∧ x ≤ 20 := by
  cases d with
  | list ds =>
    rw [countsOk_list] at h
    obtain ⟨h1, h3⟩ := Bool.and_eq_true_iff.mp h
    obtain ⟨h1, h2⟩ := Bool.and_eq_true_iff.mp h1
    have h1 := of_decide_eq_true h1
    have h2 := of_decide_eq_true h2
    have hl : (intsOf (.list ds)).length = ds.length := List.length_map _
    refine ⟨?_, by omega, by omega, fun x hx => ?_⟩
    · congr 1
      unfold intsOf itemsOf
      rw [List.map_map]
      exact (List.map_id'' (fun _ => rfl) ds).symm.trans (List.map_congr_left fun d hd => (among_int (List.all_eq_true.mp h3 d hd)).1)
    · obtain ⟨d, hd, rfl⟩ := List.mem_map.mp hx
      exact (among_int (List.all_eq_true.mp h3 d hd)).2
  | _ => cases h
theorem countsOk_ints {ns : List Int} (h1 : 1 ≤ ns.length) (h2 : ns.length ≤ 10) (h3 : ∀ x ∈ ns, 0 ≤ x ∧ x ≤ 20) : countsOk (.list (ns.map .int)) = true := by
  rw [countsOk_list]
  have e : ((ns.map PyData.int).all fun d => amongD d 0 20) = true := by
    rw [List.all_eq_true]
    intro d hd
    obtain ⟨x, hx, rfl⟩ := List.mem_map.mp hd
    exact among_of (h3 x hx).1 (h3 x hx).2
  rw [e, List.length_map]
  simp
  omega
end
end KW

namespace KW
open PySem TW
/-! ### plain: the law's web -/
/-- the ties of all pairs of n points, by the greater one -/
def pairsUpTo (o k : Nat) : List T2 := (List.range k).map fun (i : Nat) => ((i : Int), (o : Int))
def pairs (n : Nat) : List T2 := (List.range n).flatMap fun o => pairsUpTo o o
def m4 (k : Int) : Int := [2, 3, 5, 4].getD k.toNat 1
def numAt (ns : List Int) (first c : Int) (t : T2) : Int := mixF (cellF ns (first + 1 + (t.1 + 3 * t.2) % 6)) (t.1 + 11 * t.2 + c / 64)
def keepT (ns : List Int) (first c : Int) (t : T2) : Bool :=
  ((decide (c / 10 % 6 < 4) && decide (numAt ns first c t % m4 (c / 10 % 6) = 0)) || (decide (c / 10 % 6 = 4) && decide (numAt ns first c t % 4 > 0))) ||
  (decide (c / 10 % 6 = 5) && (decide (t.2 = t.1 + 1) || decide (numAt ns first c t % 6 = 0)))
def webSize (ns : List Int) (first most : Int) : Nat := (1 + cellF ns first % most).toNat
def webRaw (ns : List Int) (first most : Int) : List T2 := (pairs (webSize ns first most)).filter (keepT ns first (cellF ns first))
def webTurn (ns : List Int) (first most : Int) : Nat := (cellF ns first / 60 % (1 + ((webRaw ns first most).length : Int))).toNat
def webTies (ns : List Int) (first most : Int) : List T2 := (webRaw ns first most).drop (webTurn ns first most) ++ (webRaw ns first most).take (webTurn ns first most)
theorem pairsUpTo_succ (o k : Nat) : pairsUpTo o (k + 1) = pairsUpTo o k ++ [((k : Int), (o : Int))] := by
  unfold pairsUpTo
  rw [List.range_succ, List.map_append]
  rfl
theorem pairs_succ (n : Nat) : pairs (n + 1) = pairs n ++ pairsUpTo n n := by
  unfold pairs
  rw [List.range_succ, List.flatMap_append]
  simp
theorem pairs_mem {n : Nat} {t : T2} : t ∈ pairs n ↔ 0 ≤ t.1 ∧ t.1 < t.2 ∧ t.2 < n := by
  unfold pairs pairsUpTo
  simp only [List.mem_flatMap, List.mem_range, List.mem_map]
  constructor
  · rintro ⟨o, ho, i, hi, rfl⟩
    exact ⟨by simp, by simpa using hi, by simpa using ho⟩
  · rintro ⟨h1, h2, h3⟩
    exact ⟨t.2.toNat, by omega, t.1.toNat, by omega, by ext <;> simp <;> omega⟩
theorem pairs_len_le : ∀ n, n ≤ 10 → (pairs n).length ≤ 45 := by decide +kernel
theorem pairs_nodup : ∀ n, n ≤ 10 → (pairs n).Nodup := by decide +kernel
theorem webSize_le {ns : List Int} {first most : Int} (h : 1 ≤ most ∧ most ≤ 10) : 1 ≤ webSize ns first most ∧ (webSize ns first most : Int) ≤ most ∧ ((webSize ns first most : Nat) : Int) = 1 + cellF ns first % most := by
  unfold webSize
  have h1 := Int.emod_nonneg (cellF ns first) (show most ≠ 0 by omega)
  have h2 := Int.emod_lt_of_pos (cellF ns first) (show 0 < most by omega)
  omega
theorem webRaw_len {ns : List Int} {first most : Int} (h : 1 ≤ most ∧ most ≤ 10) : (webRaw ns first most).length ≤ 45 := by
  refine Nat.le_trans (List.length_filter_le _ _) (pairs_len_le _ ?_)
  have := webSize_le (ns := ns) (first := first) h
  omega
theorem webTurn_le {ns : List Int} {first most : Int} : webTurn ns first most ≤ (webRaw ns first most).length := by
  unfold webTurn
  have h2 := Int.emod_lt_of_pos (cellF ns first / 60) (show (0 : Int) < 1 + ((webRaw ns first most).length : Int) by omega)
  omega
theorem webTies_perm (ns : List Int) (first most : Int) : (webTies ns first most).Perm (webRaw ns first most) := by
  unfold webTies
  refine List.perm_append_comm.trans ?_
  rw [List.take_append_drop]
theorem webTies_len {ns : List Int} {first most : Int} (h : 1 ≤ most ∧ most ≤ 10) : (webTies ns first most).length ≤ 45 := by
  rw [(webTies_perm ns first most).length_eq]
  exact webRaw_len h
theorem webTies_mem {ns : List Int} {first most : Int} {t : T2} (h : t ∈ webTies ns first most) : 0 ≤ t.1 ∧ t.1 < t.2 ∧ t.2 < (webSize ns first most : Int) :=
  pairs_mem.mp (List.mem_filter.mp ((webTies_perm ns first most).mem_iff.mp h)).1
theorem webTies_nodup {ns : List Int} {first most : Int} (h : 1 ≤ most ∧ most ≤ 10) : (webTies ns first most).Nodup := by
  refine (webTies_perm ns first most).nodup_iff.mpr (List.Pairwise.sublist List.filter_sublist (pairs_nodup _ ?_))
  have := webSize_le (ns := ns) (first := first) h
  omega
/-- how many ties the point p is in -/
def degI (ties : List T2) (p : Int) : Nat := (ties.filter fun t => decide (p ∈ [t.1, t.2])).length
def countsL (size : Nat) (ties : List T2) : List Int := (List.range size).map fun (p : Nat) => (degI ties (p : Int) : Int)
theorem degI_perm {s t : List T2} (h : s.Perm t) (p : Int) : degI s p = degI t p := (h.filter _).length_eq
theorem degI_pairs : ∀ n, n ≤ 10 → ∀ p, p < 10 → degI (pairs n) (p : Nat) ≤ 9 := by decide +kernel
theorem degI_web {ns : List Int} {first most : Int} (h : 1 ≤ most ∧ most ≤ 10) (p : Nat) (hp : p < 10) : degI (webTies ns first most) p ≤ 9 := by
  rw [degI_perm (webTies_perm ns first most)]
  refine Nat.le_trans (List.Sublist.length_le (List.Sublist.filter _ List.filter_sublist)) (degI_pairs _ ?_ p hp)
  have := webSize_le (ns := ns) (first := first) h
  omega
end KW

namespace KW
open PySem PySem.Spec PyProof.Rows L2 TW
local macro_rules | `(tactic| walk_at "bo") => `(tactic| first | with_reducible exact o_add | with_reducible exact o_sub | with_reducible exact o_lt | with_reducible exact o_le | with_reducible exact o_gt | with_reducible exact o_ge | with_reducible exact o_eqI | with_reducible exact o_neI | with_reducible refine o_mod ?_ <;> omega | with_reducible refine o_fdiv ?_ ?_ <;> omega | with_reducible exact o_isN | with_reducible exact o_notN | exact o_add | exact o_sub | exact o_lt | exact o_le | exact o_gt | exact o_ge | exact o_eqI | exact o_neI | exact o_mod (by omega) | exact o_fdiv (by omega) (by omega) | exact o_mul (.inl (by omega)) | exact o_mul (.inr (by omega)) | exact o_eqS | exact o_neS | exact o_eqB | exact o_neB | exact o_isN | exact o_notN | exact o_cat rfl rfl (by walk_at "le"))
local macro_rules | `(tactic| walk_at "le") => `(tactic| first | decide | omega | (simp only [List.length_append, List.length_cons, List.length_nil, List.length_map, List.length_take, List.length_drop, List.length_range]; omega))
local macro_rules | `(tactic| walk_at "rg") => `(tactic| first | omega | decide)
local macro_rules | `(tactic| walk_at "bc") => `(tactic| first | exact c_len rfl | exact c_min2 rfl | exact c_max2 rfl | exact c_sum rfl rfl | exact c_any rfl rfl | exact c_all rfl rfl | exact c_list (tup := true) (.inl rfl) | exact c_list (tup := true) (.inr rfl) | exact c_tuple rfl | exact c_intB)
local macro_rules | `(tactic| walk_at "sl") => `(tactic| first | exact s_take rfl | exact s_drop rfl)
local macro_rules | `(tactic| walk_at "ns") => `(tactic| first | assumption | rfl)
local macro_rules | `(tactic| walk_at "bk") => `(tactic| first | rfl | decide +kernel)
local macro_rules | `(tactic| walk_at "wk") => `(tactic| repeat (first | exact trivial | refine ⟨Or.inl rfl, ?_⟩ | refine ⟨Or.inr rfl, ?_⟩))
local macro_rules | `(tactic| walk_at "pre") => `(tactic| first | trivial | assumption)
local macro_rules | `(tactic| walk_at "ix") => `(tactic| first | exact x_list rfl rfl | exact x_tup rfl)
section
variable {P : Program} {w : World} {K : KF} {mg : Str → Option Value} {base : Heap} {f : Addr} {fd : FuncData}
abbrev n_law_web : List Str := ["_law_script", "_law_first", "_law_most", "_law_cell_here", "_law_size", "_law_ties", "_law_other", "_law_one", "_law_number", "_law_kind_here", "_law_turn"]
theorem sc_law_web : FnScope n_law_web ["_law_script", "_law_first", "_law_most"] (defScope s_law_web) := ⟨rfl, rfl, rfl, by decide +kernel, rfl, by decide +kernel, by decide +kernel⟩
def webD (size : Nat) (ties : List T2) : PD := .tuple [.int size, .list (ties.map p2)]
abbrev F_law_web (P : Program) (w : World) (K : KF) (mg : Str → Option Value) (base : Heap) : Prop :=
  Fn P w K mg base "_law_web" 2 ["_law_script", "_law_first", "_law_most"] (spF K (fun z : List Int × Int × Int => Scr z.1 ∧ 0 ≤ z.2.1 ∧ 1 ≤ z.2.2 ∧ z.2.2 ≤ 10) (fun z => [scrD z.1, .int z.2.1, .int z.2.2]) fun z => .ret (.sh (webD (webSize z.1 z.2.1 z.2.2) (webTies z.1 z.2.1 z.2.2))))
def webE (ns : List Int) (first most : Int) (ts : List T2) : PEnv := [some (.sh (scrD ns)), some (.sh (.int first)), some (.sh (.int most)), some (.sh (.int (cellF ns first))), some (.sh (.int (1 + cellF ns first % most))), some (.own (ts.map p2)), none, none, none, none, none]
theorem num_pre {ns : List Int} (hS : Scr ns) (first c : Int) (hc : Bd 1048577 c) {i o : Int} (hi : 0 ≤ i ∧ i ≤ 10) (ho : 0 ≤ o ∧ o ≤ 10) (k : Int) : Bd 1048600 (cellF ns k) ∧ Bd 1048600 (i + 11 * o + c / 64) := by
  refine ⟨bd_mono (cell_bd hS k) (by decide), ?_⟩
  have h1 : Bd 1048577 (i + 11 * o) := bd_mono (n := 7) (bd_small (by omega)) (by decide)
  exact bd_mono (bd_add h1 (bd_div hc 64 (by decide))) (by decide)
theorem ok_law_web (F : Fun K "_law_web" "_law_web" s_law_web f fd) (hm : mg "_law_web" = some (.ref f)) (hb : Binds K fd ["_law_script", "_law_first", "_law_most"] []) (T : Bt mg) (h_law_cell : F_law_cell P w K mg base) (h_law_mixed : F_law_mixed P w K mg base) : F_law_web P w K mg base := by
  refine fn_pure F hm hb sc_law_web (fun _ => rfl) fun cdv A outer s G H E ⟨ns, first, most⟩ hr ⟨hS, hf0, hm1, hm2⟩ hE => ?_
  have hN := sc_law_web.nd
  dsimp only at hS hf0 hm1 hm2 ⊢
  have hsz := webSize_le (ns := ns) (first := first) ⟨hm1, hm2⟩
  have hcb := cell_bd hS first
  refine bl_setF (d := .int (cellF ns first)) 3 hN (evS_sh (ev_call h_law_cell (ns, first) hr hf0 (as_cons (evS_sh (ev_nsh (i := 0) rfl)) (as_cons (evS_sh (ev_nsh (i := 1) rfl)) as_nil)) rfl)) ?_
  refine bl_setF 4 hN (evS_sh (ev_bin ev_int (ev_bin (ev_nsh (i := 3) rfl) (ev_nsh (i := 2) rfl) (by walk_at "bo")) (by walk_at "bo"))) ?_
  refine bl_set 5 hN (ev_lst as_nil) ?_
  have hlen : ∀ n : Nat, (n : Int) ≤ 10 → ((pairs n).filter (keepT ns first (cellF ns first))).length ≤ 45 := fun n hn => Nat.le_trans (List.length_filter_le _ _) (pairs_len_le n (by omega))
  refine bl_for (passes_of rfl) rfl (it_rng T.range (ar_cons (ev_nsh (i := 4) rfl) ar_nil) (by omega)) (fun i env' => wk env' (webE ns first most ((pairs i).filter (keepT ns first (cellF ns first))))) (by walk_at "wk") (fun Gb i d env1 hi hI => ?_) (fun env1 hI => ?_)
  · obtain ⟨hi, rfl⟩ := rng_get hi
    have hi10 : (i : Int) < 10 := by omega
    refine ⟨_, tg_name 6 hN, bl_wkset hI ?_⟩
    refine bl_for (passes_of rfl) rfl (it_rng T.range (ar_cons (ev_nsh (i := 6) rfl) ar_nil) (by omega)) (fun j env' => wk env' ((webE ns first most ((pairs i ++ pairsUpTo i j).filter (keepT ns first (cellF ns first)))).set 6 (some (.sh (.int i))))) (by rw [show pairs i ++ pairsUpTo i 0 = pairs i from List.append_nil _]; walk_at "wk") (fun Gb2 j d env2 hj hI2 => ?_) (fun env2 hI2 => ?_)
    · obtain ⟨hj, rfl⟩ := rng_get hj
      have hj10 : (j : Int) < i := by omega
      have hlen2 : ((pairs i ++ pairsUpTo i j).filter (keepT ns first (cellF ns first))).length ≤ 100 := by
        have h1 := hlen i (by omega)
        rw [List.filter_append, List.length_append]
        have h2 : ((pairsUpTo i j).filter (keepT ns first (cellF ns first))).length ≤ 10 := Nat.le_trans (List.length_filter_le _ _) (by unfold pairsUpTo; rw [List.length_map, List.length_range]; omega)
        omega
      have hsucc : (pairs i ++ pairsUpTo i (j + 1)).filter (keepT ns first (cellF ns first)) = (pairs i ++ pairsUpTo i j).filter (keepT ns first (cellF ns first)) ++ (if keepT ns first (cellF ns first) ((j : Int), (i : Int)) = true then [((j : Int), (i : Int))] else []) := by
        rw [pairsUpTo_succ, ← List.append_assoc, List.filter_append (l₂ := [((j : Int), (i : Int))])]
        rw [List.filter_cons, List.filter_nil]
      refine ⟨_, tg_name 7 hN, bl_wkset hI2 ?_⟩
      refine bl_setF (d := .int (numAt ns first (cellF ns first) ((j : Int), (i : Int)))) 8 hN (evS_sh (ev_call h_law_mixed (_, _) hr (num_pre hS first _ hcb (i := (j : Int)) (o := (i : Int)) (by omega) (by omega) _) (as_cons (evS_sh (ev_call h_law_cell (ns, _) hr (by show (0 : Int) ≤ _; omega) (as_cons (evS_sh (ev_nsh (i := 0) rfl)) (as_cons (evS_sh (ev_bin (ev_bin (ev_nsh (i := 1) rfl) ev_int (by walk_at "bo")) (ev_bin (ev_bin (ev_nsh (i := 7) rfl) (ev_bin ev_int (ev_nsh (i := 6) rfl) (by walk_at "bo")) (by walk_at "bo")) ev_int (by walk_at "bo")) (by walk_at "bo"))) as_nil)) rfl)) (as_cons (evS_sh (ev_bin (ev_bin (ev_nsh (i := 7) rfl) (ev_bin ev_int (ev_nsh (i := 6) rfl) (by walk_at "bo")) (by walk_at "bo")) (ev_bin (ev_nsh (i := 3) rfl) ev_int (by walk_at "bo")) (by walk_at "bo"))) as_nil)) rfl)) ?_
      refine bl_setF 9 hN (evS_sh (ev_bin (ev_bin (ev_nsh (i := 3) rfl) ev_int (by walk_at "bo")) ev_int (by walk_at "bo"))) ?_
      have hk0 := Int.emod_nonneg (cellF ns first / 10) (show (6 : Int) ≠ 0 by decide)
      have hix : decide (cellF ns first / 10 % 6 < 4) = true → atI [PyData.int 2, .int 3, .int 5, .int 4] (cellF ns first / 10 % 6) = some (.int (m4 (cellF ns first / 10 % 6))) ∧ 0 < m4 (cellF ns first / 10 % 6) := fun h => by
        have h := of_decide_eq_true h
        have h4 : cellF ns first / 10 % 6 = 0 ∨ cellF ns first / 10 % 6 = 1 ∨ cellF ns first / 10 % 6 = 2 ∨ cellF ns first / 10 % 6 = 3 := by omega
        rcases h4 with e | e | e | e <;> rw [e] <;> exact ⟨rfl, by decide⟩
      refine bl_if (ts_w (tw_or (ts_w (tw_and (ts_cmp (ev_nsh (i := 9) rfl) ev_int (by walk_at "bo")) fun h1 => (tw_and1 (ts_cmp (ev_bin (ev_nsh (i := 8) rfl) (ev_ix (ev_lst (as_cons (evS_sh ev_int) (as_cons (evS_sh ev_int) (as_cons (evS_sh ev_int) (as_cons (evS_sh ev_int) as_nil))))) (ev_nsh (i := 9) rfl) (x_list rfl (hix h1).1)) (o_mod (hix h1).2)) ev_int (by walk_at "bo"))))) fun h1 => (tw_or1 (ts_w (tw_and (ts_cmp (ev_nsh (i := 9) rfl) ev_int (by walk_at "bo")) fun h1 => (tw_and1 (ts_cmp (ev_bin (ev_nsh (i := 8) rfl) ev_int (by walk_at "bo")) ev_int (by walk_at "bo")))))))) (fun h => ?_) (fun h => ?_)
      · have hkeep : keepT ns first (cellF ns first) ((j : Int), (i : Int)) = true := by
          unfold keepT
          exact Bool.or_eq_true_iff.mpr (.inl h)
        refine bl_append (i := 5) (pe_bm PySem.F.plainAttrs_list PySem.F.slot_list_append PySem.F.type_list_append mt_append (pv 5) pa_sem) rfl (as_cons (evS_sh (ev_tup (as_cons (evS_sh (ev_nsh (i := 7) rfl)) (as_cons (evS_sh (ev_nsh (i := 6) rfl)) as_nil)))) as_nil) (by rw [List.length_map]; omega) ?_
        refine bl_nil (bl_nil ?_)
        show wk _ _
        rw [hsucc, if_pos hkeep]; unfold webE; rw [List.map_append]
        walk_at "wk"
      · refine bl_if (ts_w (tw_and (ts_cmp (ev_nsh (i := 9) rfl) ev_int (by walk_at "bo")) fun h1 => (tw_and1 (ts_w (tw_or (ts_cmp (ev_nsh (i := 6) rfl) (ev_bin (ev_nsh (i := 7) rfl) ev_int (by walk_at "bo")) (by walk_at "bo")) fun h1 => (tw_or1 (ts_cmp (ev_bin (ev_nsh (i := 8) rfl) ev_int (by walk_at "bo")) ev_int (by walk_at "bo")))))))) (fun h2 => ?_) (fun h2 => ?_)
        · have hkeep : keepT ns first (cellF ns first) ((j : Int), (i : Int)) = true := by
            unfold keepT
            exact Bool.or_eq_true_iff.mpr (.inr h2)
          refine bl_append (i := 5) (pe_bm PySem.F.plainAttrs_list PySem.F.slot_list_append PySem.F.type_list_append mt_append (pv 5) pa_sem) rfl (as_cons (evS_sh (ev_tup (as_cons (evS_sh (ev_nsh (i := 7) rfl)) (as_cons (evS_sh (ev_nsh (i := 6) rfl)) as_nil)))) as_nil) (by rw [List.length_map]; omega) ?_
          refine bl_nil (bl_nil (bl_nil ?_))
          show wk _ _
          rw [hsucc, if_pos hkeep]; unfold webE; rw [List.map_append]
          walk_at "wk"
        · have hkeep : ¬ keepT ns first (cellF ns first) ((j : Int), (i : Int)) = true := by
            unfold keepT
            intro q
            rcases Bool.or_eq_true_iff.mp q with q | q
            · exact absurd (h.symm.trans q) Bool.false_ne_true
            · exact absurd (h2.symm.trans q) Bool.false_ne_true
          refine bl_nil (bl_nil (bl_nil ?_))
          show wk _ _
          rw [hsucc, if_neg hkeep, List.append_nil]
          walk_at "wk"
    · rw [rng_len, Int.toNat_natCast, ← pairs_succ] at hI2
      refine bl_wk (bl_nil ?_) hI2
      show wk _ _
      walk_at "wk"
  · rw [rng_len] at hI
    have hI : wk env1 (webE ns first most (webRaw ns first most)) := hI
    refine bl_wk ?_ hI
    have hraw := webRaw_len (ns := ns) (first := first) ⟨hm1, hm2⟩
    have htn : ((webTurn ns first most : Nat) : Int) = cellF ns first / 60 % (1 + ((webRaw ns first most).length : Int)) := by
      unfold webTurn
      exact Int.toNat_of_nonneg (Int.emod_nonneg _ (by omega))
    refine bl_setF 10 hN (evS_sh (d := .int (webTurn ns first most)) ?_) ?_
    · rw [htn]
      exact ev_bin (ev_bin (ev_nsh (i := 3) rfl) ev_int (by walk_at "bo")) (ev_bin ev_int (ev_bi T.len (c_len (n := (webRaw ns first most).length) (by show some _ = _; rw [List.length_map])) (ar_cons (ev_name (i := 5) rfl) ar_nil)) (by walk_at "bo")) (by walk_at "bo")
    refine bl_ret (r := .sh (webD (webSize ns first most) (webTies ns first most))) ?_ rfl
    have e : webD (webSize ns first most) (webTies ns first most) = .tuple [.int (1 + cellF ns first % most), .list (((webRaw ns first most).map p2).drop (webTurn ns first most) ++ ((webRaw ns first most).map p2).take (webTurn ns first most))] := by
      unfold webD webTies
      rw [hsz.2.2, List.map_append, List.map_drop, List.map_take]
    rw [e]
    exact (ev_tup (as_cons (evS_sh (ev_nsh (i := 4) rfl)) (as_cons (evS_own (ev_bin (ev_slice (ev_name (i := 5) rfl) (PrtP.yes (ev_nsh (i := 10) rfl)) PrtP.no (s_drop rfl)) (ev_slice (ev_name (i := 5) rfl) PrtP.no (PrtP.yes (ev_nsh (i := 10) rfl)) (s_take rfl)) (o_cat rfl rfl (by walk_at "le")))) as_nil)))
end
end KW

namespace KW
open PySem PySem.Spec PyProof.Rows L2 TW
local macro_rules | `(tactic| walk_at "bo") => `(tactic| first | with_reducible exact o_add | with_reducible exact o_sub | with_reducible exact o_lt | with_reducible exact o_le | with_reducible exact o_gt | with_reducible exact o_ge | with_reducible exact o_eqI | with_reducible exact o_neI | with_reducible refine o_mod ?_ <;> omega | with_reducible refine o_fdiv ?_ ?_ <;> omega | with_reducible exact o_isN | with_reducible exact o_notN | exact o_add | exact o_sub | exact o_lt | exact o_le | exact o_gt | exact o_ge | exact o_eqI | exact o_neI | exact o_mod (by omega) | exact o_fdiv (by omega) (by omega) | exact o_mul (.inl (by omega)) | exact o_mul (.inr (by omega)) | exact o_eqS | exact o_neS | exact o_eqB | exact o_neB | exact o_isN | exact o_notN | exact o_cat rfl rfl (by walk_at "le"))
local macro_rules | `(tactic| walk_at "le") => `(tactic| first | decide | omega | (simp only [List.length_append, List.length_cons, List.length_nil, List.length_map, List.length_take, List.length_drop, List.length_range]; omega))
local macro_rules | `(tactic| walk_at "rg") => `(tactic| first | omega | decide)
local macro_rules | `(tactic| walk_at "bc") => `(tactic| first | exact c_len rfl | exact c_min2 rfl | exact c_max2 rfl | exact c_sum rfl rfl | exact c_any rfl rfl | exact c_all rfl rfl | exact c_list (tup := true) (.inl rfl) | exact c_list (tup := true) (.inr rfl) | exact c_tuple rfl | exact c_intB)
local macro_rules | `(tactic| walk_at "sl") => `(tactic| first | exact s_take rfl | exact s_drop rfl)
local macro_rules | `(tactic| walk_at "ns") => `(tactic| first | assumption | rfl)
local macro_rules | `(tactic| walk_at "bk") => `(tactic| first | rfl | decide +kernel)
local macro_rules | `(tactic| walk_at "wk") => `(tactic| repeat (first | exact trivial | refine ⟨Or.inl rfl, ?_⟩ | refine ⟨Or.inr rfl, ?_⟩))
local macro_rules | `(tactic| walk_at "pre") => `(tactic| first | trivial | assumption)
local macro_rules | `(tactic| walk_at "ix") => `(tactic| first | exact x_list rfl rfl | exact x_tup rfl)
section
variable {P : Program} {w : World} {K : KF} {mg : Str → Option Value} {base : Heap} {f : Addr} {fd : FuncData}
abbrev n_law_counts : List Str := ["_law_size", "_law_ties", "_law_tie", "_law_point"]
theorem sc_law_counts : FnScope n_law_counts ["_law_size", "_law_ties"] (defScope s_law_counts) := ⟨rfl, rfl, rfl, by decide +kernel, rfl, by decide +kernel, by decide +kernel⟩
abbrev F_law_counts (P : Program) (w : World) (K : KF) (mg : Str → Option Value) (base : Heap) : Prop :=
  Fn P w K mg base "_law_counts" 1 ["_law_size", "_law_ties"] (spF K (fun z : Nat × List T2 => z.1 ≤ 1000 ∧ z.2.length ≤ 1000) (fun z => [.int z.1, .list (z.2.map p2)]) fun z => .ret (.own ((countsL z.1 z.2).map .int)))
theorem ok_law_counts (F : Fun K "_law_counts" "_law_counts" s_law_counts f fd) (hm : mg "_law_counts" = some (.ref f)) (hb : Binds K fd ["_law_size", "_law_ties"] []) (T : Bt mg) : F_law_counts P w K mg base := by
  refine fn_pure F hm hb sc_law_counts (fun _ => rfl) fun cdv A outer s G H E ⟨size, ties⟩ hr ⟨h1, h2⟩ hE => ?_
  have hN := sc_law_counts.nd
  dsimp only at h1 h2 ⊢
  refine bl_ret (evP_r (ev_lcM (xs := List.range size) (enc := natD) (g := fun p => .int (degI ties (p : Int))) (own := [("_law_point", 3)]) rfl hN (blkOk_by (by walk_at "bk")) (it_rng (j := (size : Int)) T.range (ar_cons (ev_nsh (i := 0) rfl) ar_nil) (by omega)) (by rw [List.length_range]; omega) fun z hz => turn_all (fun _ _ _ _ _ => tw_name 3 hN) (fun _ _ _ _ _ =>
    (evS_sh (ev_bi T.len (c_len (n := degI ties (z : Int)) (by show some _ = some _; rw [List.length_map]; rfl)) (ar_cons (ev_lcF (xs := ties) (enc := p2) (p := fun t => decide ((z : Int) ∈ [t.1, t.2])) (g := fun _ => .int 1) (own := [("_law_tie", 2)]) rfl hN (blkOk_by (by walk_at "bk")) (it_list (evS_sh (ev_nsh (i := 1) rfl))) (by omega) fun t ht => turn_if (fun _ _ _ _ _ => tw_name 2 hN) (fun _ _ _ _ _ => (ts_cmp (ev_nsh (i := 3) rfl) (ev_nsh (i := 2) rfl) (o_inT [t.1, t.2] rfl))) (fun h => fun _ _ _ _ _ => (evS_sh ev_int))) ar_nil))))) ?_) rfl
  unfold countsL
  rw [List.map_map]
  rfl
end
end KW

namespace KW
open PySem TW
/-! ### plain: what many want -/
/-- the greatest first -/
def desc (ns : List Int) : List Int := ns.mergeSort fun a b => decide (b ≤ a)
theorem desc_perm (ns : List Int) : (desc ns).Perm ns := List.mergeSort_perm ns _
theorem desc_down (ns : List Int) : (desc ns).Pairwise (· ≥ ·) := by
  refine (List.pairwise_mergeSort (le := fun a b : Int => decide (b ≤ a)) (fun a b c h1 h2 => ?_) (fun a b => ?_) ns).imp fun h => of_decide_eq_true h
  · have := of_decide_eq_true h1
    have := of_decide_eq_true h2
    exact decide_eq_true (by omega)
  · rcases Int.le_total b a with h | h
    · simp [h]
    · simp [h]
theorem desc_len (ns : List Int) : (desc ns).length = ns.length := (desc_perm ns).length_eq
/-- the sum of the greatest m; what there is room for -/
def wantF (ns : List Int) (m : Nat) : T2 := (((desc ns).take m).sum, (m : Int) * ((m : Int) - 1) + (((desc ns).drop m).map fun x => min x (m : Int)).sum)
theorem desc_of_perm {a b : List Int} (h : a.Perm b) : desc a = desc b :=
  TW.perm_down_eq ((desc_perm a).trans (h.trans (desc_perm b).symm)) (desc_down a) (desc_down b)
end KW

namespace KW
open PySem PySem.Spec PyProof.Rows L2 TW
local macro_rules | `(tactic| walk_at "bo") => `(tactic| first | with_reducible exact o_add | with_reducible exact o_sub | with_reducible exact o_lt | with_reducible exact o_le | with_reducible exact o_gt | with_reducible exact o_ge | with_reducible exact o_eqI | with_reducible exact o_neI | with_reducible refine o_mod ?_ <;> omega | with_reducible refine o_fdiv ?_ ?_ <;> omega | with_reducible exact o_isN | with_reducible exact o_notN | exact o_add | exact o_sub | exact o_lt | exact o_le | exact o_gt | exact o_ge | exact o_eqI | exact o_neI | exact o_mod (by omega) | exact o_fdiv (by omega) (by omega) | exact o_mul (.inl (by omega)) | exact o_mul (.inr (by omega)) | exact o_eqS | exact o_neS | exact o_eqB | exact o_neB | exact o_isN | exact o_notN | exact o_cat rfl rfl (by walk_at "le"))
local macro_rules | `(tactic| walk_at "le") => `(tactic| first | decide | omega | (simp only [List.length_append, List.length_cons, List.length_nil, List.length_map, List.length_take, List.length_drop, List.length_range]; omega))
local macro_rules | `(tactic| walk_at "rg") => `(tactic| first | omega | decide)
local macro_rules | `(tactic| walk_at "bc") => `(tactic| first | exact c_len rfl | exact c_min2 rfl | exact c_max2 rfl | exact c_sum rfl rfl | exact c_any rfl rfl | exact c_all rfl rfl | exact c_list (tup := true) (.inl rfl) | exact c_list (tup := true) (.inr rfl) | exact c_tuple rfl | exact c_intB)
local macro_rules | `(tactic| walk_at "sl") => `(tactic| first | exact s_take rfl | exact s_drop rfl)
local macro_rules | `(tactic| walk_at "ns") => `(tactic| first | assumption | rfl)
local macro_rules | `(tactic| walk_at "bk") => `(tactic| first | rfl | decide +kernel)
local macro_rules | `(tactic| walk_at "wk") => `(tactic| repeat (first | exact trivial | refine ⟨Or.inl rfl, ?_⟩ | refine ⟨Or.inr rfl, ?_⟩))
local macro_rules | `(tactic| walk_at "pre") => `(tactic| first | trivial | assumption)
local macro_rules | `(tactic| walk_at "ix") => `(tactic| first | exact x_list rfl rfl | exact x_tup rfl)
section
variable {P : Program} {w : World} {K : KF} {mg : Str → Option Value} {base : Heap} {f : Addr} {fd : FuncData}
abbrev n_wanted_by : List Str := ["counts", "many", "row", "count"]
theorem sc_wanted_by : FnScope n_wanted_by ["counts", "many"] (defScope s_wanted_by) := ⟨rfl, rfl, rfl, by decide +kernel, rfl, by decide +kernel, by decide +kernel⟩
abbrev F_wanted_by (P : Program) (w : World) (K : KF) (mg : Str → Option Value) (base : Heap) : Prop :=
  Fn P w K mg base "wanted_by" 1 ["counts", "many"] (spF K (fun z : List Int × Nat => z.1.length ≤ 1000 ∧ z.2 ≤ 1000) (fun z => [.list (z.1.map .int), .int z.2]) fun z => .ret (.sh (p2 (wantF z.1 z.2))))
theorem ok_wanted_by (F : Fun K "wanted_by" "wanted_by" s_wanted_by f fd) (hm : mg "wanted_by" = some (.ref f)) (hb : Binds K fd ["counts", "many"] []) (T : Bt mg) : F_wanted_by P w K mg base := by
  refine fn_pure F hm hb sc_wanted_by (fun _ => rfl) fun cdv A outer s G H E ⟨ns, m⟩ hr ⟨hl, hmm⟩ hE => ?_
  have hN := sc_wanted_by.nd
  dsimp only at hl hmm ⊢
  refine bl_setF 2 hN (evS_own (ev_sortedRev (ms := desc ns) T.sorted (ev_nsh (i := 0) rfl) rfl (desc_perm ns) (desc_down ns) (pe_callBK cr_sortedRev rfl T.sorted (by decide +kernel) (pa_cons pe_sem pa_nil) (pk_cons pe_bl pk_nil)))) ?_
  have hd := desc_len ns
  refine bl_ret (r := .sh (p2 (wantF ns m))) ?_ rfl
  have e1 : ∀ n, ((desc ns).map PyData.int).take n = ((desc ns).take n).map PyData.int := fun n => List.map_take.symm
  have e2 : ∀ n, ((desc ns).map PyData.int).drop n = ((desc ns).drop n).map PyData.int := fun n => List.map_drop.symm
  refine ev_tup (as_cons (evS_sh (ev_bi T.sum (c_sum (r := .own (((desc ns).map PyData.int).take m)) (ns := (desc ns).take m) rfl (congrArg PyData.list (e1 m))) (ar_cons (ev_slice (ev_nsh (i := 2) rfl) PrtP.no (PrtP.yes (ev_nsh (i := 1) rfl)) (s_take rfl)) ar_nil))) (as_cons (evS_sh (ev_bin (ev_bin (ev_nsh (i := 1) rfl) (ev_bin (ev_nsh (i := 1) rfl) ev_int (by walk_at "bo")) (by walk_at "bo")) (ev_bi T.sum (c_sum (r := .own (((desc ns).drop m).map fun x => .int (min x (m : Int)))) (ns := ((desc ns).drop m).map fun x => min x (m : Int)) rfl ?_) (ar_cons (ev_lcM (xs := (desc ns).drop m) (enc := PyData.int) (g := fun x => .int (min x (m : Int))) (own := [("count", 3)]) rfl hN (blkOk_by (by walk_at "bk")) (it_list (by rw [← e2]; exact evS_own (ev_slice (ev_nsh (i := 2) rfl) (PrtP.yes (ev_nsh (i := 1) rfl)) PrtP.no (s_drop rfl)))) (by rw [List.length_drop]; omega) fun z hz => turn_all (fun _ _ _ _ _ => tw_name 3 hN) (fun _ _ _ _ _ => (evS_sh (ev_bi T.min (c_min2 rfl) (ar_cons (ev_nsh (i := 3) rfl) (ar_cons (ev_nsh (i := 1) rfl) ar_nil)))))) ar_nil)) (by walk_at "bo"))) as_nil))
  show PyData.list _ = .list _
  rw [List.map_map]
  rfl
end
end KW

namespace KW
open PySem TW
/-! ### plain: the law's counts -/
theorem perm_sum {a b : List Int} (h : a.Perm b) : a.sum = b.sum := by
  induction h with
  | nil => rfl
  | cons x _ ih => rw [List.sum_cons, List.sum_cons, ih]
  | swap x y l => simp only [List.sum_cons]; omega
  | trans _ _ h1 h2 => exact h1.trans h2
def up4 (k : Int) : Int := [1, -1, 2, 1].getD k.toNat 0
def top4 (size : Nat) (k : Int) : Int := [(size : Int), size + 2, 21, 3].getD k.toNat 1
def placeD (size : Nat) (c : Int) (t : Nat) : Nat := (c / (4 + (t : Int)) % (size : Int)).toNat
def stepD (size : Nat) (c : Int) (l : List Int) (t : Nat) : List Int := l.set (placeD size c t) (max 0 (min 20 (l.getD (placeD size c t) 0 + up4 (c / (40 + (t : Int)) % 4))))
def drawnF (ns : List Int) (first most : Int) : List Int :=
  if cellF ns (first + 7) % 4 = 0 then countsL (webSize ns first most) (webTies ns first most)
  else if cellF ns (first + 7) % 4 = 3 then (List.range (webSize ns first most)).map fun (k : Nat) => mixF (cellF ns (first + 7)) (k : Int) % top4 (webSize ns first most) (cellF ns (first + 7) / 4 % 4)
  else (List.range (cellF ns (first + 7) % 4).toNat).foldl (stepD (webSize ns first most) (cellF ns (first + 7))) (countsL (webSize ns first most) (webTies ns first most))
theorem countsL_len (n : Nat) (t : List T2) : (countsL n t).length = n := by unfold countsL; rw [List.length_map, List.length_range]
theorem countsL_ok {ns : List Int} {first most : Int} (h : 1 ≤ most ∧ most ≤ 10) : ∀ x ∈ countsL (webSize ns first most) (webTies ns first most), 0 ≤ x ∧ x ≤ 9 := by
  intro x hx
  obtain ⟨p, hp, rfl⟩ := List.mem_map.mp hx
  have h1 := webSize_le (ns := ns) (first := first) h
  have h2 := List.mem_range.mp hp
  have := degI_web (ns := ns) (first := first) h p (by omega)
  omega
theorem stepD_ok {size : Nat} {c : Int} {l : List Int} {t : Nat} (h : ∀ x ∈ l, 0 ≤ x ∧ x ≤ 20) : ∀ x ∈ stepD size c l t, 0 ≤ x ∧ x ≤ 20 := by
  intro x hx
  unfold stepD at hx
  rcases List.mem_or_eq_of_mem_set hx with h1 | rfl
  · exact h x h1
  · omega
theorem stepD_len {size : Nat} {c : Int} {l : List Int} {t : Nat} : (stepD size c l t).length = l.length := List.length_set
theorem fold_ok {size : Nat} {c : Int} : ∀ (ts : List Nat) (l : List Int), (∀ x ∈ l, 0 ≤ x ∧ x ≤ 20) → (∀ x ∈ ts.foldl (stepD size c) l, 0 ≤ x ∧ x ≤ 20) ∧ (ts.foldl (stepD size c) l).length = l.length
  | [], l, h => ⟨h, rfl⟩
  | t :: ts, l, h => by
    obtain ⟨h1, h2⟩ := fold_ok ts (stepD size c l t) (stepD_ok h)
    exact ⟨h1, h2.trans stepD_len⟩
theorem top4_ok {size : Nat} (h : 1 ≤ size ∧ size ≤ 10) {k : Int} : 0 < top4 size k ∧ top4 size k ≤ 21 := by
  unfold top4
  match k.toNat with
  | 0 => show (0 : Int) < (size : Int) ∧ (size : Int) ≤ 21; omega
  | 1 => show (0 : Int) < (size : Int) + 2 ∧ (size : Int) + 2 ≤ 21; omega
  | 2 => show (0 : Int) < 21 ∧ (21 : Int) ≤ 21; omega
  | 3 => show (0 : Int) < 3 ∧ (3 : Int) ≤ 21; omega
  | n + 4 => show (0 : Int) < 1 ∧ (1 : Int) ≤ 21; omega
theorem drawnF_ok {ns : List Int} {first most : Int} (h : 1 ≤ most ∧ most ≤ 10) : (drawnF ns first most).length = webSize ns first most ∧ ∀ x ∈ drawnF ns first most, 0 ≤ x ∧ x ≤ 20 := by
  have hs := webSize_le (ns := ns) (first := first) h
  have hc := countsL_ok (ns := ns) (first := first) h
  unfold drawnF
  split
  · exact ⟨countsL_len _ _, fun x hx => by have := hc x hx; omega⟩
  · split
    · refine ⟨by rw [List.length_map, List.length_range], fun x hx => ?_⟩
      obtain ⟨k, _, rfl⟩ := List.mem_map.mp hx
      have ht := top4_ok (size := webSize ns first most) (by omega) (k := cellF ns (first + 7) / 4 % 4)
      have h1 := Int.emod_nonneg (mixF (cellF ns (first + 7)) (k : Int)) (show top4 (webSize ns first most) (cellF ns (first + 7) / 4 % 4) ≠ 0 by omega)
      have h2 := Int.emod_lt_of_pos (mixF (cellF ns (first + 7)) (k : Int)) ht.1
      omega
    · obtain ⟨h1, h2⟩ := fold_ok (size := webSize ns first most) (c := cellF ns (first + 7)) (List.range (cellF ns (first + 7) % 4).toNat) (countsL (webSize ns first most) (webTies ns first most)) (fun x hx => by have := hc x hx; omega)
      exact ⟨h2.trans (countsL_len _ _), h1⟩
theorem drawnF_len {ns : List Int} {first most : Int} (h : 1 ≤ most ∧ most ≤ 10) : 1 ≤ (drawnF ns first most).length ∧ (drawnF ns first most).length ≤ 10 := by
  have hs := webSize_le (ns := ns) (first := first) h
  rw [(drawnF_ok h).1]
  omega
end KW

namespace KW
open PySem PySem.Spec PyProof.Rows L2 TW
local macro_rules | `(tactic| walk_at "bo") => `(tactic| first | with_reducible exact o_add | with_reducible exact o_sub | with_reducible exact o_lt | with_reducible exact o_le | with_reducible exact o_gt | with_reducible exact o_ge | with_reducible exact o_eqI | with_reducible exact o_neI | with_reducible refine o_mod ?_ <;> omega | with_reducible refine o_fdiv ?_ ?_ <;> omega | with_reducible exact o_isN | with_reducible exact o_notN | exact o_add | exact o_sub | exact o_lt | exact o_le | exact o_gt | exact o_ge | exact o_eqI | exact o_neI | exact o_mod (by omega) | exact o_fdiv (by omega) (by omega) | exact o_mul (.inl (by omega)) | exact o_mul (.inr (by omega)) | exact o_eqS | exact o_neS | exact o_eqB | exact o_neB | exact o_isN | exact o_notN | exact o_cat rfl rfl (by walk_at "le"))
local macro_rules | `(tactic| walk_at "le") => `(tactic| first | decide | omega | (simp only [List.length_append, List.length_cons, List.length_nil, List.length_map, List.length_take, List.length_drop, List.length_range]; omega))
local macro_rules | `(tactic| walk_at "rg") => `(tactic| first | omega | decide)
local macro_rules | `(tactic| walk_at "bc") => `(tactic| first | exact c_len rfl | exact c_min2 rfl | exact c_max2 rfl | exact c_sum rfl rfl | exact c_any rfl rfl | exact c_all rfl rfl | exact c_list (tup := true) (.inl rfl) | exact c_list (tup := true) (.inr rfl) | exact c_tuple rfl | exact c_intB)
local macro_rules | `(tactic| walk_at "sl") => `(tactic| first | exact s_take rfl | exact s_drop rfl)
local macro_rules | `(tactic| walk_at "ns") => `(tactic| first | assumption | rfl)
local macro_rules | `(tactic| walk_at "bk") => `(tactic| first | rfl | decide +kernel)
local macro_rules | `(tactic| walk_at "wk") => `(tactic| repeat (first | exact trivial | refine ⟨Or.inl rfl, ?_⟩ | refine ⟨Or.inr rfl, ?_⟩))
local macro_rules | `(tactic| walk_at "pre") => `(tactic| first | trivial | assumption)
local macro_rules | `(tactic| walk_at "ix") => `(tactic| first | exact x_list rfl rfl | exact x_tup rfl)
section
variable {P : Program} {w : World} {K : KF} {mg : Str → Option Value} {base : Heap} {f : Addr} {fd : FuncData}
/-! ### literals, evaluated at once -/
def litAll (f : Expr → Option PD) : List Expr → Option (List PD)
  | [] => some []
  | e :: es => match f e, litAll f es with
    | some d, some ds => some (d :: ds)
    | _, _ => none
def litE : Nat → Expr → Option PD
  | 0, _ => none
  | n + 1, e => match e with
    | .Constant (.int i) _ _ => some (.int i)
    | .Constant (.bool k) _ _ => some (.bool k)
    | .Constant (.str x) _ _ => some (.str x)
    | .Constant .none _ _ => some .none
    | .UnaryOp .USub (.Constant (.int i) _ _) _ => some (.int (-i))
    | .Tuple es _ _ => if es.length ≤ 1000 then (litAll (litE n) es).map .tuple else none
    | .List es _ => if es.length ≤ 1000 then (litAll (litE n) es).map .list else none
    | .Dict [] [] _ => some (.dict [])
    | _ => none
theorem litAll_len {f : Expr → Option PD} : ∀ {es : List Expr} {ds : List PD}, litAll f es = some ds → ds.length = es.length
  | [], ds, h => by cases h; rfl
  | e :: es, ds, h => by
    unfold litAll at h
    split at h
    · rename_i d ds' h1 h2
      cases h
      rw [List.length_cons, List.length_cons, litAll_len h2]
    · cases h
theorem star_plain {e : Expr} {es : List Expr} {en : Env} {n : Nat} {d : PD} (h : litE n e = some d) : starEach (e :: es) en = (false, eval e en) :: starEach es en := by
  cases n with
  | zero => cases h
  | succ n => cases e <;> first | rfl | (cases h; done)
theorem as_lit {X : Cx} {b : Bs} {env : PEnv} {n : Nat} (ih : ∀ (e : Expr) (d : PD), litE n e = some d → EvS X b e env d) : ∀ {es : List Expr} {ds : List PD}, litAll (litE n) es = some ds → ArS X b es env ds
  | [], ds, h => by cases h; exact as_nil
  | e :: es, ds, h => by
    unfold litAll at h
    split at h
    · rename_i d ds' h1 h2
      cases h
      exact as_cons (ih e d h1) (as_lit ih h2) (star_plain h1)
    · cases h
theorem ev_litN {X : Cx} {b : Bs} {env : PEnv} : ∀ (n : Nat) (e : Expr) (d : PD), litE n e = some d → EvS X b e env d
  | 0, _, _, h => by cases h
  | n + 1, e, d, h => by
    have ih := ev_litN (X := X) (b := b) (env := env) n
    unfold litE at h
    split at h
    · cases h; exact evS_sh ev_int
    · cases h; exact evS_sh ev_bool
    · cases h; exact evS_sh ev_str
    · cases h; exact evS_sh ev_none
    · cases h; exact evS_sh (ev_un ev_int o_neg)
    · split at h
      · rename_i hl
        obtain ⟨ds, h1, rfl⟩ := Option.map_eq_some_iff.mp h
        exact evS_sh (ev_tup (as_lit ih h1) (by rw [litAll_len h1]; omega))
      · cases h
    · split at h
      · rename_i hl
        obtain ⟨ds, h1, rfl⟩ := Option.map_eq_some_iff.mp h
        exact evS_own (ev_lst (as_lit ih h1) (by rw [litAll_len h1]; omega))
      · cases h
    · cases h; exact evS_sh ev_dict0
    · cases h
theorem ev_lit {X : Cx} {b : Bs} {env : PEnv} {e : Expr} {d : PD} (h : litE 5 e = some d) : EvS X b e env d := ev_litN 5 e d h
theorem ars_lit {X : Cx} {b : Bs} {env : PEnv} {es : List Expr} {ds : List PD} (h : litAll (litE 5) es = some ds) : ArS X b es env ds := as_lit (ev_litN 5) h
theorem own_lit {X : Cx} {b : Bs} {env : PEnv} {es : List Expr} {ds : List PD} {pos : Pos} (h : litAll (litE 5) es = some ds) (hl : ds.length ≤ 1000 := by decide) : EvP X b (.List es pos) env (.own ds) := ev_lst (ars_lit h) (by omega)
end
end KW

namespace KW
open PySem PySem.Spec PyProof.Rows L2 TW
local macro_rules | `(tactic| walk_at "bo") => `(tactic| first | with_reducible exact o_add | with_reducible exact o_sub | with_reducible exact o_lt | with_reducible exact o_le | with_reducible exact o_gt | with_reducible exact o_ge | with_reducible exact o_eqI | with_reducible exact o_neI | with_reducible refine o_mod ?_ <;> omega | with_reducible refine o_fdiv ?_ ?_ <;> omega | with_reducible exact o_isN | with_reducible exact o_notN | exact o_add | exact o_sub | exact o_lt | exact o_le | exact o_gt | exact o_ge | exact o_eqI | exact o_neI | exact o_mod (by omega) | exact o_fdiv (by omega) (by omega) | exact o_mul (.inl (by omega)) | exact o_mul (.inr (by omega)) | exact o_eqS | exact o_neS | exact o_eqB | exact o_neB | exact o_isN | exact o_notN | exact o_cat rfl rfl (by walk_at "le"))
local macro_rules | `(tactic| walk_at "le") => `(tactic| first | decide | omega | (simp only [List.length_append, List.length_cons, List.length_nil, List.length_map, List.length_take, List.length_drop, List.length_range]; omega))
local macro_rules | `(tactic| walk_at "rg") => `(tactic| first | omega | decide)
local macro_rules | `(tactic| walk_at "bc") => `(tactic| first | exact c_len rfl | exact c_min2 rfl | exact c_max2 rfl | exact c_sum rfl rfl | exact c_any rfl rfl | exact c_all rfl rfl | exact c_list (tup := true) (.inl rfl) | exact c_list (tup := true) (.inr rfl) | exact c_tuple rfl | exact c_intB)
local macro_rules | `(tactic| walk_at "sl") => `(tactic| first | exact s_take rfl | exact s_drop rfl)
local macro_rules | `(tactic| walk_at "ns") => `(tactic| first | assumption | rfl)
local macro_rules | `(tactic| walk_at "bk") => `(tactic| first | rfl | decide +kernel)
local macro_rules | `(tactic| walk_at "wk") => `(tactic| repeat (first | exact trivial | refine ⟨Or.inl rfl, ?_⟩ | refine ⟨Or.inr rfl, ?_⟩))
local macro_rules | `(tactic| walk_at "pre") => `(tactic| first | trivial | assumption)
local macro_rules | `(tactic| walk_at "ix") => `(tactic| first | exact x_list rfl rfl | exact x_tup rfl)
section
variable {P : Program} {w : World} {K : KF} {mg : Str → Option Value} {base : Heap} {f : Addr} {fd : FuncData}
/-- the suite «return _law_kind(_law_error)» -/
theorem suite_kind {X : Cx} {b : Bs} {env : PEnv} {a : ErA} {i : Nat} {R : Out} {C : Addr} {x w : Str} {p1 p2 p3 p4 : Pos} (h : F_law_kind X.prog X.w X.K X.mg X.base a) (hC : Raised X.K X.mg a x C w) (hr : Room 1 X.A) (k : R.rt (.own [.str w])) (hi : i < env.length)
    (hN : X.N[i]? = some "_law_error" := by rfl) (hv : Vis X.env.scope "_law_error" := by first | exact Or.inl rfl | exact Or.inr (Or.inl rfl) | exact Or.inr (Or.inr rfl)) (hg : Gl X "_law_kind" := by rfl)
    (hst : starEach [.Name "_law_error" p2] X.env = (false, eval (.Name "_law_error" p2) X.env) :: starEach [] X.env := by rfl) (hpl : (backTo p3 (starEach [] X.env)).any (·.1) = false := by rfl) :
    SuiteOk X b [.Return (some (.Call (.Name "_law_kind" p1) [.Name "_law_error" p2] [] p3)) p4] i env R C := fun a' oe pn hz hd => by
  obtain ⟨vs, hvs⟩ := id hd
  exact bl_ret (ev_callX (X := X.suite a' ((a', oe) :: pn)) (p := (a', oe)) h (C, w) ⟨hr.dp, hr.un⟩ ⟨rfl, vs, hvs, hz.2.2 vs hvs⟩ List.mem_cons_self ⟨⟨hz, hd, hC.ec⟩, x, hC⟩ (List.getElem?_set_self hi) hN hv (by decide) (by decide) hg (by decide) hst hpl) k
/-- the suite «return ('refused', _law_kind(_law_error))» -/
theorem suite_refused {X : Cx} {b : Bs} {env : PEnv} {a : ErA} {i : Nat} {R : Out} {C : Addr} {x w : Str} {j j2 : Nat} {p1 p2 p3 p4 p5 p6 : Pos} (h : F_law_kind X.prog X.w X.K X.mg X.base a) (hC : Raised X.K X.mg a x C w) (hr : Room 1 X.A) (k : R.rt (.sh (.tuple [.str "refused", .list [.str w]]))) (hi : i < env.length)
    (hN : X.N[i]? = some "_law_error" := by rfl) (hv : Vis X.env.scope "_law_error" := by first | exact Or.inl rfl | exact Or.inr (Or.inl rfl) | exact Or.inr (Or.inr rfl)) (hg : Gl X "_law_kind" := by rfl)
    (hst : starEach [.Name "_law_error" p2] X.env = (false, eval (.Name "_law_error" p2) X.env) :: starEach [] X.env := by rfl) (hpl : (backTo p3 (starEach [] X.env)).any (·.1) = false := by rfl)
    (hs1 : starEach [.Constant (.str "refused") j p5, .Call (.Name "_law_kind" p1) [.Name "_law_error" p2] [] p3] X.env = (false, eval (.Constant (.str "refused") j p5) X.env) :: starEach [.Call (.Name "_law_kind" p1) [.Name "_law_error" p2] [] p3] X.env := by rfl)
    (hs2 : starEach [.Call (.Name "_law_kind" p1) [.Name "_law_error" p2] [] p3] X.env = (false, eval (.Call (.Name "_law_kind" p1) [.Name "_law_error" p2] [] p3) X.env) :: starEach [] X.env := by rfl) :
    SuiteOk X b [.Return (some (.Tuple [.Constant (.str "refused") j p5, .Call (.Name "_law_kind" p1) [.Name "_law_error" p2] [] p3] j2 p6)) p4] i env R C := fun a' oe pn hz hd => by
  obtain ⟨vs, hvs⟩ := id hd
  exact bl_ret (ev_tup (as_cons (evS_sh ev_str) (as_cons (evS_own (ev_callX (X := X.suite a' ((a', oe) :: pn)) (p := (a', oe)) h (C, w) ⟨hr.dp, hr.un⟩ ⟨rfl, vs, hvs, hz.2.2 vs hvs⟩ List.mem_cons_self ⟨⟨hz, hd, hC.ec⟩, x, hC⟩ (List.getElem?_set_self hi) hN hv (by decide) (by decide) hg (by decide) hst hpl)) as_nil hs2) hs1)) k
theorem names_T {X : Cx} {a : ErA} (hg : Gl X "TieError") (N : ErN X.mg a) : Names X "TieError" (.ref a.T) := ⟨hg, by decide, .inl N.nT⟩
end
end KW

namespace KW
open PySem TW
open Classical
/-! ### plain: webs, pieces -/
def Adj (ties : List T2) (p q : Int) : Prop := (p, q) ∈ ties ∨ (q, p) ∈ ties
theorem Adj.symm {ties : List T2} {p q : Int} (h : Adj ties p q) : Adj ties q p := Or.symm h
inductive Reach (ties : List T2) (p : Int) : Int → Prop
  | refl : Reach ties p p
  | step {q r : Int} : Reach ties p q → Adj ties q r → Reach ties p r
theorem Reach.trans {ties : List T2} {p q r : Int} (h : Reach ties p q) (g : Reach ties q r) : Reach ties p r := by
  induction g with
  | refl => exact h
  | step _ a ih => exact ih.step a
theorem Reach.one {ties : List T2} {p q : Int} (h : Adj ties p q) : Reach ties p q := Reach.refl.step h
theorem Reach.symm {ties : List T2} {p q : Int} (h : Reach ties p q) : Reach ties q p := by
  induction h with
  | refl => exact .refl
  | step _ a ih => exact (Reach.one a.symm).trans ih
/-- the points of a web are 0 .. n - 1 -/
structure Web (n : Nat) (ties : List T2) : Prop where
  r : ∀ t ∈ ties, 0 ≤ t.1 ∧ t.1 < t.2 ∧ t.2 < (n : Int)
  nd : ties.Nodup
theorem Web.adj {n : Nat} {ties : List T2} (w : Web n ties) {p q : Int} (h : Adj ties p q) : (0 ≤ p ∧ p < n) ∧ 0 ≤ q ∧ q < n := by
  rcases h with h | h
  · have := w.r _ h; dsimp only at this; omega
  · have := w.r _ h; dsimp only at this; omega
theorem Web.reach {n : Nat} {ties : List T2} (w : Web n ties) {p q : Int} (h : Reach ties p q) (hp : 0 ≤ p ∧ p < n) : 0 ≤ q ∧ q < n := by
  induction h with
  | refl => exact hp
  | step _ a _ => exact (w.adj a).2
/-- 0 .. n - 1 -/
def ptsL (n : Nat) : List Int := (List.range n).map fun (k : Nat) => (k : Int)
theorem pts_mem {n : Nat} {p : Int} : p ∈ ptsL n ↔ 0 ≤ p ∧ p < n := by
  unfold ptsL
  simp only [List.mem_map, List.mem_range]
  constructor
  · rintro ⟨k, hk, rfl⟩; omega
  · rintro ⟨h1, h2⟩; exact ⟨p.toNat, by omega, by omega⟩
theorem pts_succ (n : Nat) : ptsL (n + 1) = ptsL n ++ [(n : Int)] := by
  unfold ptsL
  rw [List.range_succ, List.map_append]
  rfl
theorem pts_len (n : Nat) : (ptsL n).length = n := by unfold ptsL; rw [List.length_map, List.length_range]
theorem pts_sorted : ∀ n, (ptsL n).Pairwise (· < ·)
  | 0 => List.Pairwise.nil
  | n + 1 => by
    rw [pts_succ, List.pairwise_append]
    refine ⟨pts_sorted n, List.pairwise_singleton _ _, fun a ha b hb => ?_⟩
    obtain rfl := List.mem_singleton.mp hb
    exact (pts_mem.mp ha).2
theorem pts_nodup (n : Nat) : (ptsL n).Nodup := (pts_sorted n).imp fun h => by omega
theorem pts_get {n i : Nat} (h : i < n) : (ptsL n)[i]? = some (i : Int) := by
  unfold ptsL
  rw [List.getElem?_map, List.getElem?_range h]
  rfl
/-- the points that hang with p -/
noncomputable def compL (n : Nat) (ties : List T2) (p : Int) : List Int := (ptsL n).filter fun q => decide (Reach ties p q)
theorem comp_mem {n : Nat} {ties : List T2} (w : Web n ties) {p q : Int} (hp : 0 ≤ p ∧ p < n) : q ∈ compL n ties p ↔ Reach ties p q := by
  unfold compL
  rw [List.mem_filter, decide_eq_true_iff]
  exact ⟨fun h => h.2, fun h => ⟨pts_mem.mpr (w.reach h hp), h⟩⟩
theorem comp_sorted (n : Nat) (ties : List T2) (p : Int) : (compL n ties p).Pairwise (· < ·) := (pts_sorted n).sublist List.filter_sublist
def IsLeast (ties : List T2) (p : Int) : Prop := ∀ q, 0 ≤ q → q < p → ¬ Reach ties p q
noncomputable def piecesTo (n : Nat) (ties : List T2) (k : Nat) : List (List Int) := ((ptsL k).filter fun p => decide (IsLeast ties p)).map (compL n ties)
noncomputable def piecesL (n : Nat) (ties : List T2) : List (List Int) := piecesTo n ties n
theorem pieces_succ (n : Nat) (ties : List T2) (k : Nat) : (IsLeast ties k → piecesTo n ties (k + 1) = piecesTo n ties k ++ [compL n ties k]) ∧ (¬ IsLeast ties k → piecesTo n ties (k + 1) = piecesTo n ties k) := by
  unfold piecesTo
  rw [pts_succ, List.filter_append, List.map_append]
  constructor
  · intro h
    rw [List.filter_cons, decide_eq_true h, if_pos rfl]
    rfl
  · intro h
    rw [List.filter_cons, decide_eq_false h, if_neg Bool.false_ne_true, List.filter_nil, List.map_nil, List.append_nil]
/-- the least point that hangs with p -/
theorem least_of (ties : List T2) : ∀ (k : Nat) (p : Int), p < k → 0 ≤ p → ∃ m, 0 ≤ m ∧ m ≤ p ∧ Reach ties p m ∧ IsLeast ties m
  | 0, p, h1, h2 => by omega
  | k + 1, p, h1, h2 => by
    by_cases h : IsLeast ties p
    · exact ⟨p, h2, Int.le_refl p, .refl, h⟩
    · unfold IsLeast at h
      simp only [Classical.not_forall, Classical.not_not] at h
      obtain ⟨q, q1, q2, q3⟩ := h
      obtain ⟨m, m1, m2, m3, m4⟩ := least_of ties k q (by omega) q1
      exact ⟨m, m1, by omega, q3.trans m3, m4⟩
/-- whether k lies in one of the pieces ahead -/
theorem in_pieces {n : Nat} {ties : List T2} (w : Web n ties) {k : Nat} (hk : k < n) : ((piecesTo n ties k).any fun l => decide ((k : Int) ∈ l)) = true ↔ ¬ IsLeast ties (k : Int) := by
  rw [List.any_eq_true]
  constructor
  · rintro ⟨l, hl, hm⟩
    have hm := of_decide_eq_true hm
    unfold piecesTo at hl
    obtain ⟨p, hp, rfl⟩ := List.mem_map.mp hl
    have hp1 := pts_mem.mp (List.mem_filter.mp hp).1
    have hr := (comp_mem w (by omega)).mp hm
    exact fun h => h p hp1.1 hp1.2 hr.symm
  · intro h
    obtain ⟨m, m1, m2, m3, m4⟩ := least_of ties (k + 1) k (by omega) (by omega)
    have hne : m ≠ k := fun e => h (e ▸ m4)
    refine ⟨compL n ties m, ?_, decide_eq_true ((comp_mem w (by omega)).mpr m3.symm)⟩
    unfold piecesTo
    exact List.mem_map.mpr ⟨m, List.mem_filter.mpr ⟨pts_mem.mpr (by omega), decide_eq_true m4⟩, rfl⟩
/-- what is sorted is told by its members -/
theorem sorted_eq : ∀ {a b : List Int}, a.Pairwise (· < ·) → b.Pairwise (· < ·) → (∀ x, x ∈ a ↔ x ∈ b) → a = b := fun {a b} ha hb h => by
  have na : a.Nodup := ha.imp fun h => by omega
  have nb : b.Nodup := hb.imp fun h => by omega
  have p : a.Perm b := (List.perm_ext_iff_of_nodup na nb).mpr h
  exact p.eq_of_pairwise (le := fun x y => x ≤ y) (fun x y _ _ h1 h2 => Int.le_antisymm h1 h2) (ha.imp fun h => by omega) (hb.imp fun h => by omega)
/-! the law's marks -/
def relax (marks : List Int) (t : T2) : List Int :=
  (marks.set t.1.toNat (min (marks.getD t.1.toNat 0) (marks.getD t.2.toNat 0))).set t.2.toNat (min (marks.getD t.1.toNat 0) (marks.getD t.2.toNat 0))
def marksR (n : Nat) (ties : List T2) (k : Nat) : List Int := (List.range k).foldl (fun m _ => ties.foldl relax m) (ptsL n)
theorem marks_succ (n : Nat) (ties : List T2) (k : Nat) : marksR n ties (k + 1) = ties.foldl relax (marksR n ties k) := by
  unfold marksR
  rw [List.range_succ, List.foldl_append]
  rfl
def mkAt (l : List Int) (p : Int) : Int := l.getD p.toNat 0
theorem relax_len (l : List Int) (t : T2) : (relax l t).length = l.length := by unfold relax; rw [List.length_set, List.length_set]
theorem mk_set {l : List Int} {i : Nat} {x : Int} {p : Int} (hi : i < l.length) (hp : 0 ≤ p) : mkAt (l.set i x) p = if p = i then x else mkAt l p := by
  unfold mkAt
  rw [List.getD_eq_getElem?_getD, List.getD_eq_getElem?_getD, List.getElem?_set]
  by_cases h : p = i
  · subst h; simp [hi]
  · rw [if_neg (by omega), if_neg h]
theorem relax_mk {n : Nat} {l : List Int} {t : T2} {p : Int} (hl : l.length = n) (ht : 0 ≤ t.1 ∧ t.1 < t.2 ∧ t.2 < (n : Int)) (hp : 0 ≤ p) : mkAt (relax l t) p = if p = t.1 ∨ p = t.2 then min (mkAt l t.1) (mkAt l t.2) else mkAt l p := by
  unfold relax
  rw [mk_set (by rw [List.length_set]; omega) hp, mk_set (by omega) hp]
  have e1 : ((t.1.toNat : Nat) : Int) = t.1 := by omega
  have e2 : ((t.2.toNat : Nat) : Int) = t.2 := by omega
  rw [e1, e2]
  by_cases h1 : p = t.1 <;> by_cases h2 : p = t.2 <;> simp [h1, h2, mkAt]
/-- what the marks are, all the time -/
structure MkOk (n : Nat) (ties : List T2) (l : List Int) : Prop where
  len : l.length = n
  r : ∀ p, 0 ≤ p → p < (n : Int) → Reach ties p (mkAt l p)
  le : ∀ p, 0 ≤ p → p < (n : Int) → mkAt l p ≤ p ∧ 0 ≤ mkAt l p
theorem mkOk_relax {n : Nat} {ties : List T2} {l : List Int} (h : MkOk n ties l) (w : Web n ties) {t : T2} (ht : t ∈ ties) : MkOk n ties (relax l t) ∧ (∀ p, 0 ≤ p → p < (n : Int) → mkAt (relax l t) p ≤ mkAt l p) ∧ mkAt (relax l t) t.1 ≤ mkAt l t.2 ∧ mkAt (relax l t) t.2 ≤ mkAt l t.1 := by
  have ht' := w.r t ht
  have a : Adj ties t.1 t.2 := .inl ht
  have e1 := h.r t.1 (by omega) (by omega)
  have e2 := h.r t.2 (by omega) (by omega)
  have l1 := h.le t.1 (by omega) (by omega)
  have l2 := h.le t.2 (by omega) (by omega)
  have hm : ∀ p, 0 ≤ p → mkAt (relax l t) p = if p = t.1 ∨ p = t.2 then min (mkAt l t.1) (mkAt l t.2) else mkAt l p := fun p hp => relax_mk h.len ht' hp
  refine ⟨⟨(relax_len l t).trans h.len, fun p p1 p2 => ?_, fun p p1 p2 => ?_⟩, fun p p1 p2 => ?_, ?_, ?_⟩
  · rw [hm p p1]
    split
    · rename_i hh
      rcases Int.le_total (mkAt l t.1) (mkAt l t.2) with q | q
      · rw [Int.min_eq_left q]
        rcases hh with rfl | rfl
        · exact e1
        · exact (Reach.one a.symm).trans e1
      · rw [Int.min_eq_right q]
        rcases hh with rfl | rfl
        · exact (Reach.one a).trans e2
        · exact e2
    · exact h.r p p1 p2
  · rw [hm p p1]
    split
    · rename_i hh; omega
    · exact h.le p p1 p2
  · rw [hm p p1]
    split
    · rename_i hh
      rcases hh with rfl | rfl <;> omega
    · exact Int.le_refl _
  · rw [hm t.1 (by omega), if_pos (.inl rfl)]; omega
  · rw [hm t.2 (by omega), if_pos (.inr rfl)]; omega
theorem fold_mk {n : Nat} {ties : List T2} (w : Web n ties) : ∀ (ts : List T2) (l : List Int), (∀ t ∈ ts, t ∈ ties) → MkOk n ties l → MkOk n ties (ts.foldl relax l) ∧ (∀ p, 0 ≤ p → p < (n : Int) → mkAt (ts.foldl relax l) p ≤ mkAt l p) ∧
    ∀ t ∈ ts, mkAt (ts.foldl relax l) t.1 ≤ mkAt l t.2 ∧ mkAt (ts.foldl relax l) t.2 ≤ mkAt l t.1
  | [], l, _, h => ⟨h, fun _ _ _ => Int.le_refl _, fun t ht => by cases ht⟩
  | t :: ts, l, hs, h => by
    obtain ⟨g1, g2, g3, g4⟩ := mkOk_relax h w (hs t List.mem_cons_self)
    obtain ⟨f1, f2, f3⟩ := fold_mk w ts (relax l t) (fun x hx => hs x (List.mem_cons_of_mem _ hx)) g1
    have ht := w.r t (hs t List.mem_cons_self)
    refine ⟨f1, fun p p1 p2 => Int.le_trans (f2 p p1 p2) (g2 p p1 p2), fun x hx => ?_⟩
    rcases List.mem_cons.mp hx with rfl | hx'
    · have a1 := f2 x.1 (by omega) (by omega)
      have a2 := f2 x.2 (by omega) (by omega)
      exact ⟨Int.le_trans a1 g3, Int.le_trans a2 g4⟩
    · have hx2 := w.r x (hs x hx)
      have b := f3 x hx'
      have c1 := g2 x.1 (by omega) (by omega)
      have c2 := g2 x.2 (by omega) (by omega)
      exact ⟨Int.le_trans b.1 c2, Int.le_trans b.2 c1⟩
theorem marks0 (n : Nat) (ties : List T2) : MkOk n ties (ptsL n) := by
  have e : ∀ p, 0 ≤ p → p < (n : Int) → mkAt (ptsL n) p = p := fun p p1 p2 => by
    unfold mkAt
    rw [List.getD_eq_getElem?_getD, pts_get (by omega)]
    show ((p.toNat : Nat) : Int) = p
    omega
  exact ⟨pts_len n, fun p p1 p2 => by rw [e p p1 p2]; exact .refl, fun p p1 p2 => by rw [e p p1 p2]; omega⟩
theorem marks_ok {n : Nat} {ties : List T2} (w : Web n ties) : ∀ k, MkOk n ties (marksR n ties k)
  | 0 => marks0 n ties
  | k + 1 => by rw [marks_succ]; exact (fold_mk w ties _ (fun _ h => h) (marks_ok w k)).1
/-- settled: marked by its piece's least -/
def Settled (ties : List T2) (l : List Int) (p : Int) : Prop := IsLeast ties (mkAt l p)
theorem settled_le {n : Nat} {ties : List T2} {l : List Int} (h : MkOk n ties l) {p m : Int} (hp : 0 ≤ p ∧ p < n) (hr : Reach ties p m) (hm : IsLeast ties m) (hle : mkAt l p ≤ m) : Settled ties l p := by
  have r := h.r p hp.1 hp.2
  have l0 := h.le p hp.1 hp.2
  have e : mkAt l p = m := by
    by_cases q : mkAt l p < m
    · exact absurd (hr.symm.trans r) (hm _ l0.2 q)
    · omega
  unfold Settled
  rw [e]; exact hm
theorem settled_keep {n : Nat} {ties : List T2} (w : Web n ties) {l : List Int} (h : MkOk n ties l) {p : Int} (hp : 0 ≤ p ∧ p < n) (s : Settled ties l p) : Settled ties (ties.foldl relax l) p := by
  obtain ⟨f1, f2, _⟩ := fold_mk w ties l (fun _ h => h) h
  exact settled_le f1 hp (h.r p hp.1 hp.2) s (f2 p hp.1 hp.2)
theorem settled_next {n : Nat} {ties : List T2} (w : Web n ties) {l : List Int} (h : MkOk n ties l) {p q : Int} (a : Adj ties p q) (s : Settled ties l p) : Settled ties (ties.foldl relax l) q := by
  obtain ⟨f1, f2, f3⟩ := fold_mk w ties l (fun _ h => h) h
  obtain ⟨hp, hq⟩ := w.adj a
  refine settled_le f1 hq ((Reach.one a.symm).trans (h.r p hp.1 hp.2)) s ?_
  rcases a with a | a
  · exact (f3 _ a).2
  · exact (f3 _ a).1
noncomputable def settledN (n : Nat) (ties : List T2) (l : List Int) : Nat := ((ptsL n).filter fun p => decide (Settled ties l p)).length
theorem filter_lt {α : Type} {f g : α → Bool} : ∀ {l : List α}, (∀ x ∈ l, f x = true → g x = true) → (∃ x ∈ l, g x = true ∧ f x = false) → (l.filter f).length < (l.filter g).length
  | [], _, h => by obtain ⟨_, h, _⟩ := h; cases h
  | a :: l, hs, h => by
    have le : ∀ l : List α, (∀ x ∈ l, f x = true → g x = true) → (l.filter f).length ≤ (l.filter g).length := by
      intro l
      induction l with
      | nil => intro _; exact Nat.le_refl 0
      | cons a l ih =>
        intro hs
        have ih := ih fun x hx => hs x (List.mem_cons_of_mem _ hx)
        rw [List.filter_cons, List.filter_cons]
        cases e : f a with
        | true => rw [hs a List.mem_cons_self e]; simpa using ih
        | false => cases g a <;> simp <;> omega
    rw [List.filter_cons, List.filter_cons]
    have tl := le l fun x hx => hs x (List.mem_cons_of_mem _ hx)
    obtain ⟨x, hx, h1, h2⟩ := h
    rcases List.mem_cons.mp hx with rfl | hx
    · rw [h1, h2]; simp; omega
    · have ih := filter_lt (fun x hx => hs x (List.mem_cons_of_mem _ hx)) ⟨x, hx, h1, h2⟩
      cases e : f a with
      | true => rw [hs a List.mem_cons_self e]; simpa using ih
      | false => cases g a <;> simp <;> omega
/-- an unsettled point has a tie from a settled one to an unsettled one -/
theorem edge_of {ties : List T2} {S : Int → Prop} {p q : Int} (h : Reach ties p q) (hp : S p) (hq : ¬ S q) : ∃ a b, Adj ties a b ∧ S a ∧ ¬ S b := by
  induction h with
  | refl => exact absurd hp hq
  | @step q r _ a ih =>
    by_cases hs : S q
    · exact ⟨q, r, a, hs, hq⟩
    · exact ih hs
theorem settled_grows {n : Nat} {ties : List T2} (w : Web n ties) {l : List Int} (h : MkOk n ties l) (hx : ∃ p, (0 ≤ p ∧ p < (n : Int)) ∧ ¬ Settled ties l p) : settledN n ties l < settledN n ties (ties.foldl relax l) := by
  obtain ⟨p, hp, hs⟩ := hx
  obtain ⟨m, m1, m2, m3, m4⟩ := least_of ties (p.toNat + 1) p (by omega) hp.1
  have hm : Settled ties l m := by
    have := h.le m m1 (by omega)
    exact settled_le h (by omega) .refl m4 this.1
  obtain ⟨a, b, ab, sa, sb⟩ := edge_of m3.symm hm hs
  refine filter_lt (fun x hx e => ?_) ⟨b, pts_mem.mpr (w.adj ab).2, ?_, ?_⟩
  · exact decide_eq_true (settled_keep w h (pts_mem.mp hx) (of_decide_eq_true e))
  · exact decide_eq_true (settled_next w h ab sa)
  · exact decide_eq_false sb
theorem marks_done {n : Nat} {ties : List T2} (w : Web n ties) : ∀ k, (∀ p, 0 ≤ p → p < (n : Int) → Settled ties (marksR n ties k) p) ∨ k ≤ settledN n ties (marksR n ties k)
  | 0 => .inr (Nat.zero_le _)
  | k + 1 => by
    rcases marks_done w k with h | h
    · left
      intro p p1 p2
      rw [marks_succ]
      exact settled_keep w (marks_ok w k) ⟨p1, p2⟩ (h p p1 p2)
    · by_cases hx : ∃ p, (0 ≤ p ∧ p < (n : Int)) ∧ ¬ Settled ties (marksR n ties k) p
      · right
        rw [marks_succ]
        have := settled_grows w (marks_ok w k) hx
        omega
      · left
        intro p p1 p2
        rw [marks_succ]
        refine settled_keep w (marks_ok w k) ⟨p1, p2⟩ ?_
        exact Classical.byContradiction fun q => hx ⟨p, ⟨p1, p2⟩, q⟩
theorem marks_all {n : Nat} {ties : List T2} (w : Web n ties) : ∀ p, 0 ≤ p → p < (n : Int) → Settled ties (marksR n ties n) p := by
  rcases marks_done w n with h | h
  · exact h
  · intro p p1 p2
    refine Classical.byContradiction fun hs => ?_
    have hlt : settledN n ties (marksR n ties n) < n := by
      have := filter_lt (f := fun p => decide (Settled ties (marksR n ties n) p)) (g := fun _ => true) (l := ptsL n) (fun _ _ _ => rfl) ⟨p, pts_mem.mpr ⟨p1, p2⟩, rfl, decide_eq_false hs⟩
      have e : ((ptsL n).filter fun _ => true) = ptsL n := List.filter_eq_self.mpr fun _ _ => rfl
      rw [e, pts_len] at this
      exact this
    omega
/-- the points of one mark -/
def markL (n : Nat) (ties : List T2) (m : Int) : List Int := (ptsL n).filter fun p => decide (mkAt (marksR n ties n) p = m)
theorem markL_least {n : Nat} {ties : List T2} (w : Web n ties) {m : Int} (hm : 0 ≤ m ∧ m < n) (h : IsLeast ties m) : markL n ties m = compL n ties m := by
  unfold markL compL
  refine List.filter_congr fun p hp => ?_
  have hp := pts_mem.mp hp
  have hs := marks_all w p hp.1 hp.2
  have hr := (marks_ok w n).r p hp.1 hp.2
  have hl := (marks_ok w n).le p hp.1 hp.2
  rw [Bool.eq_iff_iff, decide_eq_true_iff, decide_eq_true_iff]
  constructor
  · intro e; rw [e] at hr; exact hr.symm
  · intro r
    have r2 : Reach ties m (mkAt (marksR n ties n) p) := r.trans hr
    by_cases q : mkAt (marksR n ties n) p < m
    · exact absurd r2 (h _ hl.2 q)
    · by_cases q2 : m < mkAt (marksR n ties n) p
      · exact absurd r2.symm (hs m hm.1 q2)
      · omega
theorem markL_not {n : Nat} {ties : List T2} (w : Web n ties) {m : Int} (h : ¬ IsLeast ties m) : markL n ties m = [] := by
  unfold markL
  rw [List.filter_eq_nil_iff]
  intro p hp e
  have hp := pts_mem.mp hp
  have hs := marks_all w p hp.1 hp.2
  unfold Settled at hs
  rw [of_decide_eq_true e] at hs
  exact h hs
theorem comp_ne {n : Nat} {ties : List T2} {m : Int} (hm : 0 ≤ m ∧ m < n) : compL n ties m ≠ [] := by
  intro e
  have : m ∈ compL n ties m := by
    unfold compL
    exact List.mem_filter.mpr ⟨pts_mem.mpr hm, decide_eq_true .refl⟩
  rw [e] at this
  cases this
end KW

namespace KW
open PySem PySem.Spec PyProof.Rows L2 TW
local macro_rules | `(tactic| walk_at "bo") => `(tactic| first | with_reducible exact o_add | with_reducible exact o_sub | with_reducible exact o_lt | with_reducible exact o_le | with_reducible exact o_gt | with_reducible exact o_ge | with_reducible exact o_eqI | with_reducible exact o_neI | with_reducible refine o_mod ?_ <;> omega | with_reducible refine o_fdiv ?_ ?_ <;> omega | with_reducible exact o_isN | with_reducible exact o_notN | exact o_add | exact o_sub | exact o_lt | exact o_le | exact o_gt | exact o_ge | exact o_eqI | exact o_neI | exact o_mod (by omega) | exact o_fdiv (by omega) (by omega) | exact o_mul (.inl (by omega)) | exact o_mul (.inr (by omega)) | exact o_eqS | exact o_neS | exact o_eqB | exact o_neB | exact o_isN | exact o_notN | exact o_cat rfl rfl (by walk_at "le"))
local macro_rules | `(tactic| walk_at "le") => `(tactic| first | decide | omega | (simp only [List.length_append, List.length_cons, List.length_nil, List.length_map, List.length_take, List.length_drop, List.length_range]; omega))
local macro_rules | `(tactic| walk_at "rg") => `(tactic| first | omega | decide)
local macro_rules | `(tactic| walk_at "bc") => `(tactic| first | exact c_len rfl | exact c_min2 rfl | exact c_max2 rfl | exact c_sum rfl rfl | exact c_any rfl rfl | exact c_all rfl rfl | exact c_list (tup := true) (.inl rfl) | exact c_list (tup := true) (.inr rfl) | exact c_tuple rfl | exact c_intB)
local macro_rules | `(tactic| walk_at "sl") => `(tactic| first | exact s_take rfl | exact s_drop rfl)
local macro_rules | `(tactic| walk_at "ns") => `(tactic| first | assumption | rfl)
local macro_rules | `(tactic| walk_at "bk") => `(tactic| first | rfl | decide +kernel)
local macro_rules | `(tactic| walk_at "wk") => `(tactic| repeat (first | exact trivial | refine ⟨Or.inl rfl, ?_⟩ | refine ⟨Or.inr rfl, ?_⟩))
local macro_rules | `(tactic| walk_at "pre") => `(tactic| first | trivial | assumption)
local macro_rules | `(tactic| walk_at "ix") => `(tactic| first | exact x_list rfl rfl | exact x_tup rfl)
section
variable {P : Program} {w : World} {K : KF} {mg : Str → Option Value} {base : Heap} {f : Addr} {fd : FuncData}
abbrev n_is_tie : List Str := ["size", "thing"]
theorem sc_is_tie : FnScope n_is_tie ["size", "thing"] (defScope s_is_tie) := ⟨rfl, rfl, rfl, by decide +kernel, rfl, by decide +kernel, by decide +kernel⟩
def tieOf : PD → T2
  | .tuple [x, y] => (intOf x, intOf y)
  | _ => (0, 0)
/-- a tie of points below n -/
def isTieD (n : Int) : PD → Bool
  | .tuple [x, y] => amongD x 0 (n - 1) && (amongD y 0 (n - 1) && decide (intOf x < intOf y))
  | _ => false
/-- plain at the top, and so each part of a tuple -/
def topOkT : PD → Bool
  | .tuple ds => ds.all topOk
  | d => topOk d
theorem topOkT_top {d : PD} (h : topOkT d = true) : topOk d = true := by
  cases d <;> first | rfl | exact h
theorem tie_data {n : Int} {d : PD} (h : isTieD n d = true) : d = p2 (tieOf d) ∧ 0 ≤ (tieOf d).1 ∧ (tieOf d).1 < (tieOf d).2 ∧ (tieOf d).2 < n := by
  unfold isTieD at h
  split at h
  · obtain ⟨h1, h2⟩ := Bool.and_eq_true_iff.mp h
    obtain ⟨h2, h3⟩ := Bool.and_eq_true_iff.mp h2
    obtain ⟨e1, a1, a2⟩ := among_int h1
    obtain ⟨e2, a3, a4⟩ := among_int h2
    have h3 := of_decide_eq_true h3
    refine ⟨?_, a1, h3, by show intOf _ < n; omega⟩
    show PyData.tuple [_, _] = .tuple [.int (intOf _), .int (intOf _)]
    rw [← e1, ← e2]
  · cases h
theorem tie_p2 {n : Int} {t : T2} (h : 0 ≤ t.1 ∧ t.1 < t.2 ∧ t.2 < n) : isTieD n (p2 t) = true := by
  show (amongD (.int t.1) 0 (n - 1) && (amongD (.int t.2) 0 (n - 1) && decide (t.1 < t.2))) = true
  rw [among_of (by omega) (by omega), among_of (by omega) (by omega), decide_eq_true h.2.1]
  rfl
theorem tieOf_p2 (t : T2) : tieOf (p2 t) = t := rfl
abbrev F_is_tie (P : Program) (w : World) (K : KF) (mg : Str → Option Value) (base : Heap) : Prop :=
  Fn P w K mg base "is_tie" 2 ["size", "thing"] (spF K (fun z : Int × PD => topOkT z.2 = true) (fun z => [.int z.1, z.2]) fun z => .ret (.sh (.bool (isTieD z.1 z.2))))
theorem ok_is_tie (F : Fun K "is_tie" "is_tie" s_is_tie f fd) (hm : mg "is_tie" = some (.ref f)) (hb : Binds K fd ["size", "thing"] []) (T : Bt mg) (h_is_among : F_is_among P w K mg base) : F_is_tie P w K mg base := by
  refine fn_pure F hm hb sc_is_tie (fun _ => rfl) fun cdv A outer s G H E ⟨n, d⟩ hr hz hE => ?_
  have hN := sc_is_tie.nd
  have hz : topOkT d = true := hz
  dsimp only at hE ⊢
  by_cases ht : isTup d = true
  · obtain ⟨ds, rfl⟩ : ∃ ds, d = .tuple ds := by
      cases d <;> first | exact ⟨_, rfl⟩ | cases ht
    refine bl_if (k := !decide ((ds.length : Int) = 2)) (ts_w (tw_or (k := false) (ts_not (k := true) (ts_val (ev_isi T.isinstance T.tuple (ev_nsh (i := 1) rfl) (kit_tup _) rfl))) fun h1 => (tw_or1 (ts_cmp (ev_bi T.len (c_len (r := .sh (.tuple ds)) (n := ds.length) rfl) (ar_cons (ev_nsh (i := 1) rfl) ar_nil)) ev_int (by walk_at "bo"))))) (fun h => ?_) (fun h => ?_)
    · have h2 : ¬ (ds.length : Int) = 2 := by simpa using h
      have e : isTieD n (.tuple ds) = false := by
        unfold isTieD
        split
        · rename_i x y q; cases q; exact absurd rfl h2
        · rfl
      rw [e]
      exact bl_ret ev_bool rfl
    · have h2 : (ds.length : Int) = 2 := by simpa using h
      obtain ⟨x, y, rfl⟩ : ∃ x y, ds = [x, y] := by
        match ds, h2 with
        | [x, y], _ => exact ⟨x, y, rfl⟩
        | [], h => simp at h
        | [_], h => simp at h
        | _ :: _ :: _ :: _, h => simp at h; omega
      have tx : topOk x = true := List.all_eq_true.mp hz x (by simp)
      have ty : topOk y = true := List.all_eq_true.mp hz y (by simp)
      refine bl_nil ?_
      refine bl_ret (ev_and (ev_call h_is_among (x, 0, n - 1) hr tx (as_cons (evS_sh (ev_ix (ev_nsh (i := 1) rfl) ev_int (x_tup rfl))) (as_cons (evS_sh ev_int) (as_cons (evS_sh (ev_bin (ev_nsh (i := 0) rfl) ev_int (by walk_at "bo"))) as_nil))) rfl) fun h1 => (ev_and (ev_call h_is_among (y, 0, n - 1) hr ty (as_cons (evS_sh (ev_ix (ev_nsh (i := 1) rfl) ev_int (x_tup rfl))) (as_cons (evS_sh ev_int) (as_cons (evS_sh (ev_bin (ev_nsh (i := 0) rfl) ev_int (by walk_at "bo"))) as_nil))) rfl) fun h2 => ?_)) rfl
      obtain ⟨e1, _⟩ := among_int h1
      obtain ⟨e2, _⟩ := among_int h2
      generalize hi : intOf x = i at e1
      generalize hj : intOf y = j at e2
      subst e1 e2
      exact (ev_one (ev_cmp (ev_ix (ev_nsh (i := 1) rfl) ev_int (x_tup rfl)) (ev_ix (ev_nsh (i := 1) rfl) ev_int (x_tup rfl)) (by walk_at "bo")))
  · have e : isTieD n d = false := by
      cases d <;> first | rfl | exact absurd rfl ht
    rw [e]
    refine bl_if (k := true) (tsP_r (ts_w (tw_or (k1 := true) (ts_not (ts_val (ev_isi T.isinstance T.tuple (ev_nsh (i := 1) rfl) (kit_tup _) (topOkT_top hz)))) fun h1 => absurd (show (!isTup d) = false from h1) (by rw [Bool.eq_false_iff.mpr ht]; decide))) (by show (!isTup d || true) = true; rw [Bool.or_true])) (fun _ => ?_) (fun h => by cases h)
    exact bl_ret ev_bool rfl
end
end KW

namespace KW
open PySem PySem.Spec PyProof.Rows L2 TW
local macro_rules | `(tactic| walk_at "bo") => `(tactic| first | with_reducible exact o_add | with_reducible exact o_sub | with_reducible exact o_lt | with_reducible exact o_le | with_reducible exact o_gt | with_reducible exact o_ge | with_reducible exact o_eqI | with_reducible exact o_neI | with_reducible refine o_mod ?_ <;> omega | with_reducible refine o_fdiv ?_ ?_ <;> omega | with_reducible exact o_isN | with_reducible exact o_notN | exact o_add | exact o_sub | exact o_lt | exact o_le | exact o_gt | exact o_ge | exact o_eqI | exact o_neI | exact o_mod (by omega) | exact o_fdiv (by omega) (by omega) | exact o_mul (.inl (by omega)) | exact o_mul (.inr (by omega)) | exact o_eqS | exact o_neS | exact o_eqB | exact o_neB | exact o_isN | exact o_notN | exact o_cat rfl rfl (by walk_at "le"))
local macro_rules | `(tactic| walk_at "le") => `(tactic| first | decide | omega | (simp only [List.length_append, List.length_cons, List.length_nil, List.length_map, List.length_take, List.length_drop, List.length_range]; omega))
local macro_rules | `(tactic| walk_at "rg") => `(tactic| first | omega | decide)
local macro_rules | `(tactic| walk_at "bc") => `(tactic| first | exact c_len rfl | exact c_min2 rfl | exact c_max2 rfl | exact c_sum rfl rfl | exact c_any rfl rfl | exact c_all rfl rfl | exact c_list (tup := true) (.inl rfl) | exact c_list (tup := true) (.inr rfl) | exact c_tuple rfl | exact c_intB)
local macro_rules | `(tactic| walk_at "sl") => `(tactic| first | exact s_take rfl | exact s_drop rfl)
local macro_rules | `(tactic| walk_at "ns") => `(tactic| first | assumption | rfl)
local macro_rules | `(tactic| walk_at "bk") => `(tactic| first | rfl | decide +kernel)
local macro_rules | `(tactic| walk_at "wk") => `(tactic| repeat (first | exact trivial | refine ⟨Or.inl rfl, ?_⟩ | refine ⟨Or.inr rfl, ?_⟩))
local macro_rules | `(tactic| walk_at "pre") => `(tactic| first | trivial | assumption)
local macro_rules | `(tactic| walk_at "ix") => `(tactic| first | exact x_list rfl rfl | exact x_tup rfl)
section
variable {P : Program} {w : World} {K : KF} {mg : Str → Option Value} {base : Heap} {f : Addr} {fd : FuncData}
abbrev n_need_web : List Str := ["size", "ties", "met", "tie"]
theorem sc_need_web : FnScope n_need_web ["size", "ties"] (defScope s_need_web) := ⟨rfl, rfl, rfl, by decide +kernel, rfl, by decide +kernel, by decide +kernel⟩
structure CtW (mg : Str → Option Value) : Prop where
  MOST_POINTS : ∃ t, mg "MOST_POINTS" = some (.int 10 t)
def webOk (s : PD) : PD → Bool
  | .list ds => amongD s 1 10 && (ds.all (isTieD (intOf s)) && decide ((ds.map tieOf).Nodup))
  | _ => false
def topOkW : PD → Bool
  | .list ds => ds.all topOkT
  | d => topOk d
theorem topOkW_top {d : PD} (h : topOkW d = true) : topOk d = true := by
  cases d <;> first | rfl | exact h
theorem p2_map {n : Int} {ds : List PD} (h : ds.all (isTieD n) = true) : ds = (ds.map tieOf).map p2 := by
  rw [List.map_map]
  exact (List.map_id'' (fun _ => rfl) ds).symm.trans (List.map_congr_left fun d hd => (tie_data (List.all_eq_true.mp h d hd)).1)
theorem web_of {s t : PD} (h : webOk s t = true) : ∃ (n : Nat) (ties : List T2), s = .int n ∧ t = .list (ties.map p2) ∧ Web n ties ∧ 1 ≤ n ∧ n ≤ 10 := by
  unfold webOk at h
  split at h
  · rename_i ds
    obtain ⟨h1, h2⟩ := Bool.and_eq_true_iff.mp h
    obtain ⟨h2, h3⟩ := Bool.and_eq_true_iff.mp h2
    obtain ⟨e1, a1, a2⟩ := among_int h1
    have e3 : ((intOf s).toNat : Int) = intOf s := by omega
    refine ⟨(intOf s).toNat, ds.map tieOf, by rw [e3]; exact e1, congrArg PyData.list (p2_map h2), ⟨fun t ht => ?_, of_decide_eq_true h3⟩, by omega, by omega⟩
    obtain ⟨d, hd, rfl⟩ := List.mem_map.mp ht
    have := tie_data (List.all_eq_true.mp h2 d hd)
    omega
  · cases h
theorem web_data {n : Nat} {ties : List T2} (w : Web n ties) (h1 : 1 ≤ n) (h2 : n ≤ 10) : webOk (.int n) (.list (ties.map p2)) = true := by
  show (amongD (.int (n : Int)) 1 10 && ((ties.map p2).all (isTieD (n : Int)) && decide (((ties.map p2).map tieOf).Nodup))) = true
  have e1 : (ties.map p2).all (isTieD (n : Int)) = true := by
    rw [List.all_eq_true]
    intro d hd
    obtain ⟨t, ht, rfl⟩ := List.mem_map.mp hd
    exact tie_p2 (w.r t ht)
  have e2 : (ties.map p2).map tieOf = ties := by
    rw [List.map_map]
    exact List.map_id'' (fun _ => rfl) ties
  rw [among_of (by omega) (by omega), e1, e2, decide_eq_true w.nd]
  rfl
abbrev F_need_web (P : Program) (w : World) (K : KF) (mg : Str → Option Value) (base : Heap) (a : ErA) : Prop :=
  Fn P w K mg base "need_web" 3 ["size", "ties"] (spF K (fun z : PD × PD => topOk z.1 = true ∧ topOkW z.2 = true ∧ (itemsOf z.2).length ≤ 1000) (fun z => [z.1, z.2]) fun z => if webOk z.1 z.2 then .ret (.sh .none) else .exc a.bw)
theorem ok_need_web {a : ErA} (F : Fun K "need_web" "need_web" s_need_web f fd) (hm : mg "need_web" = some (.ref f)) (hb : Binds K fd ["size", "ties"] []) (T : Bt mg) (C : CtW mg) (R : ErrCl K mg "BadWeb" a.bw) (h_is_among : F_is_among P w K mg base) (h_is_tie : F_is_tie P w K mg base) : F_need_web P w K mg base a := by
  refine fn_pure F hm hb sc_need_web (fun _ => rfl) fun cdv A outer s G H E ⟨sz, ts⟩ hr ⟨hz1, hz2, hz3⟩ hE => ?_
  have hN := sc_need_web.nd
  dsimp only at hz1 hz2 hz3 hE ⊢
  have hu : (bodyX P ‹World› K mg base n_need_web "need_web" s_need_web f cdv A outer s H E).A.units + 1 < cLine := by have := hr.un; show (A.deeper _).units + 1 < cLine; omega
  have no : webOk sz ts = false → RzP (bodyX P ‹World› K mg base n_need_web "need_web" s_need_web f cdv A outer s H E) ⟨G, H⟩ a.bw (startE n_need_web [sz, ts]) := fun h => rz_fn (hE _ (by rw [h]; rfl))
  have noE : ∀ {env : PEnv} {G0 : Hp}, webOk sz ts = false → RzP (bodyX P ‹World› K mg base n_need_web "need_web" s_need_web f cdv A outer s H E) ⟨G0, H⟩ a.bw env := fun h => rz_fn (hE _ (by rw [h]; rfl))
  by_cases h1 : amongD sz 1 10 = true
  · by_cases h2 : isList ts = true
    · obtain ⟨ds, rfl⟩ : ∃ ds, ts = .list ds := by
        cases ts <;> first | exact ⟨_, rfl⟩ | cases h2
      obtain ⟨e1, a1, a2⟩ := among_int h1
      generalize hn : intOf sz = n at e1 a1 a2
      subst e1
      have hw : webOk (.int n) (.list ds) = (ds.all (isTieD n) && decide ((ds.map tieOf).Nodup)) := by
        show (amongD (.int n) 1 10 && _) = _
        rw [h1, Bool.true_and]
        rfl
      refine bl_if (k := false) (ts_w (tw_or (k := false) (tsP_r (ts_not (ts_val (ev_call h_is_among (.int n, 1, 10) (hr.mono (by decide)) rfl (as_cons (evS_sh (ev_nsh (i := 0) rfl)) (as_cons (evS_sh ev_int) (as_cons (evS_sh (ev_gint C.MOST_POINTS)) as_nil))) rfl))) (by show (!amongD (.int n) 1 10) = false; rw [h1]; rfl)) fun h1 => (tw_or1 (ts_not (k := true) (ts_val (ev_isi T.isinstance T.list (ev_nsh (i := 1) rfl) (kit_list _) rfl)))))) (fun h => by cases h) (fun h => ?_)
      refine bl_nil ?_
      refine bl_set (r := .obj (isMet [])) 2 hN ev_met ?_
      refine bl_for (passes_of rfl) rfl (it_list (evS_sh (ev_nsh (i := 1) rfl))) (fun i env' => ((ds.take i).all (isTieD n) = true ∧ ((ds.take i).map tieOf).Nodup) ∧ wk env' [some (.sh (.int n)), some (.sh (.list ds)), some (.obj (isMet ((ds.take i).map tieOf))), none]) ⟨⟨rfl, List.nodup_nil⟩, by walk_at "wk"⟩ (fun Gb i d env1 hi hI => ?_) (fun env1 hI => ?_)
      · obtain ⟨⟨g1, g2⟩, hw1⟩ := hI
        refine ⟨_, tg_name 3 hN, bl_wkset hw1 ?_⟩
        have tk : ds.take (i + 1) = ds.take i ++ [d] := by rw [List.take_add_one, hi]; rfl
        have md := List.mem_of_getElem? hi
        have td : topOkT d = true := List.all_eq_true.mp hz2 d md
        have hlen : (ds.take i).length ≤ 1000 := by rw [List.length_take]; exact Nat.le_trans (Nat.min_le_right _ _) hz3
        by_cases hd : isTieD n d = true
        · obtain ⟨e2, _⟩ := tie_data hd
          by_cases hm2 : tieOf d ∈ (ds.take i).map tieOf
          · refine bl_if (k := true) (tsP_r (ts_w (tw_or (ts_not (ts_val (ev_call h_is_tie (n, d) hr td (as_cons (evS_sh (ev_nsh (i := 0) rfl)) (as_cons (evS_sh (ev_nsh (i := 3) rfl)) as_nil)) rfl))) fun h1 => (tw_or1 (ts_inMet (i := 2) (ks := (ds.take i).map tieOf) (t := tieOf d) hu (evP_r (ev_nsh (i := 3) rfl) (congrArg RV.sh e2)) rfl)))) (by rw [decide_eq_true hm2, Bool.or_true])) (fun h => ?_) (fun h => by cases h)
            refine bl_raise rfl (noE ?_) R
            rw [hw, Bool.and_eq_false_iff]
            right
            refine decide_eq_false fun hnd => ?_
            have hs : ((ds.take (i + 1)).map tieOf).Sublist (ds.map tieOf) := (List.take_sublist _ _).map _
            have := hnd.sublist hs
            rw [tk, List.map_append, List.nodup_append] at this
            exact this.2.2 _ hm2 _ (List.mem_singleton.mpr rfl) rfl
          · refine bl_if (k := false) (tsP_r (ts_w (tw_or (ts_not (ts_val (ev_call h_is_tie (n, d) hr td (as_cons (evS_sh (ev_nsh (i := 0) rfl)) (as_cons (evS_sh (ev_nsh (i := 3) rfl)) as_nil)) rfl))) fun h1 => (tw_or1 (ts_inMet (i := 2) (ks := (ds.take i).map tieOf) (t := tieOf d) hu (evP_r (ev_nsh (i := 3) rfl) (congrArg RV.sh e2)) rfl)))) (by rw [decide_eq_false hm2, Bool.or_false]; show (!isTieD n d) = false; rw [hd]; rfl)) (fun h => by cases h) (fun h => ?_)
            refine bl_nil ?_
            refine bl_metSet (ks := (ds.take i).map tieOf) (t := tieOf d) 2 hu rfl (evS_sh ev_bool) (evP_r (ev_nsh (i := 3) rfl) (congrArg RV.sh e2)) hm2 (by rw [List.length_map]; omega) ?_
            refine bl_nil ?_
            have e3 : (ds.take (i + 1)).map tieOf = (ds.take i).map tieOf ++ [tieOf d] := by rw [tk, List.map_append]; rfl
            refine ⟨⟨?_, ?_⟩, ?_⟩
            · rw [tk, List.all_append, g1]
              simp [hd]
            · rw [e3, List.nodup_append]
              refine ⟨g2, List.pairwise_singleton _ _, fun x hx y hy => ?_⟩
              obtain rfl := List.mem_singleton.mp hy
              exact fun e => hm2 (e ▸ hx)
            · rw [e3]
              walk_at "wk"
        · refine bl_if (k := true) (tsP_r (ts_w (tw_or (k1 := true) (ts_not (ts_val (ev_call h_is_tie (n, d) hr td (as_cons (evS_sh (ev_nsh (i := 0) rfl)) (as_cons (evS_sh (ev_nsh (i := 3) rfl)) as_nil)) rfl))) fun h1 => absurd (show (!isTieD n d) = false from h1) (by rw [Bool.eq_false_iff.mpr hd]; decide))) (by rw [Bool.or_true])) (fun h => ?_) (fun h => by cases h)
          refine bl_raise rfl (noE ?_) R
          rw [hw, Bool.and_eq_false_iff]
          left
          exact Bool.eq_false_iff.mpr fun q => hd (List.all_eq_true.mp q d md)
      · obtain ⟨⟨g1, g2⟩, hw1⟩ := hI
        rw [List.take_length] at g1 g2
        refine bl_nil ?_
        have hk : webOk (.int n) (.list ds) = true := by rw [hw, g1, decide_eq_true g2]; rfl
        show (outR (if webOk (.int n) (.list ds) = true then Oc.ret (.sh .none) else .exc a.bw)).nx env1
        rw [hk]
        rfl
    · have hk : webOk sz ts = false := by
        cases ts <;> first | rfl | exact absurd rfl h2
      refine bl_if (k := true) (tsP_r (ts_w (tw_or (ts_not (ts_val (ev_call h_is_among (sz, 1, 10) (hr.mono (by decide)) hz1 (as_cons (evS_sh (ev_nsh (i := 0) rfl)) (as_cons (evS_sh ev_int) (as_cons (evS_sh (ev_gint C.MOST_POINTS)) as_nil))) rfl))) fun h1 => (tw_or1 (ts_not (ts_val (ev_isi T.isinstance T.list (ev_nsh (i := 1) rfl) (kit_list _) (topOkW_top hz2))))))) (by show (_ || !isList ts) = true; rw [Bool.eq_false_iff.mpr h2]; exact Bool.or_true _)) (fun h => ?_) (fun h => by cases h)
      exact bl_raise rfl (no hk) R
  · have hk : webOk sz ts = false := by
      cases ts <;> first | rfl | (show (amongD sz 1 10 && _) = false; rw [Bool.eq_false_iff.mpr h1]; rfl)
    refine bl_if (k := true) (tsP_r (ts_w (tw_or (k1 := true) (ts_not (ts_val (ev_call h_is_among (sz, 1, 10) (hr.mono (by decide)) hz1 (as_cons (evS_sh (ev_nsh (i := 0) rfl)) (as_cons (evS_sh ev_int) (as_cons (evS_sh (ev_gint C.MOST_POINTS)) as_nil))) rfl))) fun h2 => absurd (show (!amongD sz 1 10) = false from h2) (by rw [Bool.eq_false_iff.mpr h1]; decide))) (by rw [Bool.or_true])) (fun h => ?_) (fun h => by cases h)
    exact bl_raise rfl (no hk) R
end
end KW

namespace KW
open PySem PySem.Spec PyProof.Rows L2 TW
local macro_rules | `(tactic| walk_at "bo") => `(tactic| first | with_reducible exact o_add | with_reducible exact o_sub | with_reducible exact o_lt | with_reducible exact o_le | with_reducible exact o_gt | with_reducible exact o_ge | with_reducible exact o_eqI | with_reducible exact o_neI | with_reducible refine o_mod ?_ <;> omega | with_reducible refine o_fdiv ?_ ?_ <;> omega | with_reducible exact o_isN | with_reducible exact o_notN | exact o_add | exact o_sub | exact o_lt | exact o_le | exact o_gt | exact o_ge | exact o_eqI | exact o_neI | exact o_mod (by omega) | exact o_fdiv (by omega) (by omega) | exact o_mul (.inl (by omega)) | exact o_mul (.inr (by omega)) | exact o_eqS | exact o_neS | exact o_eqB | exact o_neB | exact o_isN | exact o_notN | exact o_cat rfl rfl (by walk_at "le"))
local macro_rules | `(tactic| walk_at "le") => `(tactic| first | decide | omega | (simp only [List.length_append, List.length_cons, List.length_nil, List.length_map, List.length_take, List.length_drop, List.length_range]; omega))
local macro_rules | `(tactic| walk_at "rg") => `(tactic| first | omega | decide)
local macro_rules | `(tactic| walk_at "bc") => `(tactic| first | exact c_len rfl | exact c_min2 rfl | exact c_max2 rfl | exact c_sum rfl rfl | exact c_any rfl rfl | exact c_all rfl rfl | exact c_list (tup := true) (.inl rfl) | exact c_list (tup := true) (.inr rfl) | exact c_tuple rfl | exact c_intB)
local macro_rules | `(tactic| walk_at "sl") => `(tactic| first | exact s_take rfl | exact s_drop rfl)
local macro_rules | `(tactic| walk_at "ns") => `(tactic| first | assumption | rfl)
local macro_rules | `(tactic| walk_at "bk") => `(tactic| first | rfl | decide +kernel)
local macro_rules | `(tactic| walk_at "wk") => `(tactic| repeat (first | exact trivial | refine ⟨Or.inl rfl, ?_⟩ | refine ⟨Or.inr rfl, ?_⟩))
local macro_rules | `(tactic| walk_at "pre") => `(tactic| first | trivial | assumption)
local macro_rules | `(tactic| walk_at "ix") => `(tactic| first | exact x_list rfl rfl | exact x_tup rfl)
section
variable {P : Program} {w : World} {K : KF} {mg : Str → Option Value} {base : Heap} {f : Addr} {fd : FuncData}
/-- sorted(ints), few -/
theorem c_sortI {X : Cx} {r : RV} {ns ms : List Int} (h : r.data = .list (ns.map .int)) (hl : ns.length < 64) (hp : ms.Perm ns) (ho : ms.Pairwise (· ≤ ·)) : Cl X (.builtin "sorted") [r] (.own (ms.map .int)) := ⟨_, cr_sorted, fun G H vs Q s q k => by
  obtain ⟨v, B, rfl, q0⟩ := rvl1 q
  have a0 := q0.dp s
  rw [h] at a0
  obtain ⟨a, rfl, h1⟩ := dp_lstInts a0
  refine ⟨a, ns, rfl, SqL.of h1, hl, fun ns' p pe od hp' => ?_⟩
  have e : ns' = ms := (pe.trans hp.symm).eq_of_pairwise (le := fun x y => x ≤ y) (fun x y _ _ h1 h2 => Int.le_antisymm h1 h2) od ho
  subst e
  exact k _ G _ (Ext.own s hp') ⟨p, rfl, hp', s.free hp', _, upd_same, dpAll_of_ints⟩⟩
/-- the least first -/
def asc (ns : List Int) : List Int := ns.mergeSort fun a b => decide (a ≤ b)
theorem asc_perm (ns : List Int) : (asc ns).Perm ns := List.mergeSort_perm ns _
theorem asc_up (ns : List Int) : (asc ns).Pairwise (· ≤ ·) := by
  refine (List.pairwise_mergeSort (le := fun a b : Int => decide (a ≤ b)) (fun a b c h1 h2 => ?_) (fun a b => ?_) ns).imp fun h => of_decide_eq_true h
  · have := of_decide_eq_true h1
    have := of_decide_eq_true h2
    exact decide_eq_true (by omega)
  · rcases Int.le_total a b with h | h
    · simp [h]
    · simp [h]
theorem asc_len (ns : List Int) : (asc ns).length = ns.length := (asc_perm ns).length_eq
theorem nodup_len {α : Type} [DecidableEq α] : ∀ {l m : List α}, l.Nodup → (∀ x ∈ l, x ∈ m) → l.length ≤ m.length
  | [], _, _, _ => Nat.zero_le _
  | a :: l, m, hn, hs => by
    have ha := hs a List.mem_cons_self
    have hn' := List.nodup_cons.mp hn
    have ih := nodup_len (m := m.erase a) hn'.2 fun x hx => (List.mem_erase_of_ne (a := x) (b := a) (fun e : x = a => hn'.1 (e ▸ hx))).mpr (hs x (List.mem_cons_of_mem _ hx))
    have e := List.length_erase_of_mem ha
    have hp := List.length_pos_of_mem ha
    rw [List.length_cons]
    omega
end
end KW

namespace KW
open PySem PySem.Spec PyProof.Rows L2 TW
local macro_rules | `(tactic| walk_at "bo") => `(tactic| first | with_reducible exact o_add | with_reducible exact o_sub | with_reducible exact o_lt | with_reducible exact o_le | with_reducible exact o_gt | with_reducible exact o_ge | with_reducible exact o_eqI | with_reducible exact o_neI | with_reducible refine o_mod ?_ <;> omega | with_reducible refine o_fdiv ?_ ?_ <;> omega | with_reducible exact o_isN | with_reducible exact o_notN | exact o_add | exact o_sub | exact o_lt | exact o_le | exact o_gt | exact o_ge | exact o_eqI | exact o_neI | exact o_mod (by omega) | exact o_fdiv (by omega) (by omega) | exact o_mul (.inl (by omega)) | exact o_mul (.inr (by omega)) | exact o_eqS | exact o_neS | exact o_eqB | exact o_neB | exact o_isN | exact o_notN | exact o_cat rfl rfl (by walk_at "le"))
local macro_rules | `(tactic| walk_at "le") => `(tactic| first | decide | omega | (simp only [List.length_append, List.length_cons, List.length_nil, List.length_map, List.length_take, List.length_drop, List.length_range]; omega))
local macro_rules | `(tactic| walk_at "rg") => `(tactic| first | omega | decide)
local macro_rules | `(tactic| walk_at "bc") => `(tactic| first | exact c_len rfl | exact c_min2 rfl | exact c_max2 rfl | exact c_sum rfl rfl | exact c_any rfl rfl | exact c_all rfl rfl | exact c_list (tup := true) (.inl rfl) | exact c_list (tup := true) (.inr rfl) | exact c_tuple rfl | exact c_intB)
local macro_rules | `(tactic| walk_at "sl") => `(tactic| first | exact s_take rfl | exact s_drop rfl)
local macro_rules | `(tactic| walk_at "ns") => `(tactic| first | assumption | rfl)
local macro_rules | `(tactic| walk_at "bk") => `(tactic| first | rfl | decide +kernel)
local macro_rules | `(tactic| walk_at "wk") => `(tactic| repeat (first | exact trivial | refine ⟨Or.inl rfl, ?_⟩ | refine ⟨Or.inr rfl, ?_⟩))
local macro_rules | `(tactic| walk_at "pre") => `(tactic| first | trivial | assumption)
local macro_rules | `(tactic| walk_at "ix") => `(tactic| first | exact x_list rfl rfl | exact x_tup rfl)
section
variable {P : Program} {w : World} {K : KF} {mg : Str → Option Value} {base : Heap} {f : Addr} {fd : FuncData}
/-- what the web's data say -/
def sizeOf2 (s : PD) : Nat := (intOf s).toNat
def tiesOf (t : PD) : List T2 := (itemsOf t).map tieOf
theorem tiesOf_p2 (ties : List T2) : tiesOf (.list (ties.map p2)) = ties := by
  unfold tiesOf itemsOf
  rw [List.map_map]
  exact List.map_id'' (fun _ => rfl) ties
theorem sizeOf2_nat (n : Nat) : sizeOf2 (.int (n : Int)) = n := Int.toNat_natCast n
theorem web_nt {s t : PD} (h : webOk s t = true) : s = .int (sizeOf2 s) ∧ t = .list ((tiesOf t).map p2) ∧ Web (sizeOf2 s) (tiesOf t) ∧ 1 ≤ sizeOf2 s ∧ sizeOf2 s ≤ 10 := by
  obtain ⟨n, ties, rfl, rfl, w, h1, h2⟩ := web_of h
  rw [tiesOf_p2, sizeOf2_nat]
  exact ⟨rfl, rfl, w, h1, h2⟩
abbrev WebPre (z : PD × PD) : Prop := topOk z.1 = true ∧ topOkW z.2 = true ∧ (itemsOf z.2).length ≤ 1000
theorem topOkW_p2 (ties : List T2) : topOkW (.list (ties.map p2)) = true := by
  show (ties.map p2).all topOkT = true
  rw [List.all_map]
  exact List.all_eq_true.mpr fun _ _ => rfl
theorem webPre_p2 {n : Int} {ties : List T2} (h : ties.length ≤ 1000) : WebPre (.int n, .list (ties.map p2)) := ⟨rfl, topOkW_p2 ties, by show (ties.map p2).length ≤ 1000; rw [List.length_map]; exact h⟩
/-- four things -/
theorem four_of {α : Type} {ds : List α} (h : ds.length = 4) : ∃ x y z v, ds = [x, y, z, v] := by
  match ds, h with
  | [x, y, z, v], _ => exact ⟨x, y, z, v, rfl⟩
/-- a web is small enough for every road here -/
theorem Web.deg {n : Nat} {ties : List T2} (w : Web n ties) (h : n ≤ 10) (p : Int) : degI ties p < 64 ∧ ties.length ≤ 45 := by
  have hs : ties.length ≤ 45 := by
    have hsub : ∀ t ∈ ties, t ∈ pairs n := fun t ht => pairs_mem.mpr (w.r t ht)
    have := nodup_len w.nd hsub
    exact Nat.le_trans this (pairs_len_le n h)
  refine ⟨?_, hs⟩
  have := List.length_filter_le (fun t => decide (p ∈ [t.1, t.2])) ties
  unfold degI
  omega
end
end KW

namespace KW
open PySem PySem.Spec PyProof.Rows L2 TW
local macro_rules | `(tactic| walk_at "bo") => `(tactic| first | with_reducible exact o_add | with_reducible exact o_sub | with_reducible exact o_lt | with_reducible exact o_le | with_reducible exact o_gt | with_reducible exact o_ge | with_reducible exact o_eqI | with_reducible exact o_neI | with_reducible refine o_mod ?_ <;> omega | with_reducible refine o_fdiv ?_ ?_ <;> omega | with_reducible exact o_isN | with_reducible exact o_notN | exact o_add | exact o_sub | exact o_lt | exact o_le | exact o_gt | exact o_ge | exact o_eqI | exact o_neI | exact o_mod (by omega) | exact o_fdiv (by omega) (by omega) | exact o_mul (.inl (by omega)) | exact o_mul (.inr (by omega)) | exact o_eqS | exact o_neS | exact o_eqB | exact o_neB | exact o_isN | exact o_notN | exact o_cat rfl rfl (by walk_at "le"))
local macro_rules | `(tactic| walk_at "le") => `(tactic| first | decide | omega | (simp only [List.length_append, List.length_cons, List.length_nil, List.length_map, List.length_take, List.length_drop, List.length_range]; omega))
local macro_rules | `(tactic| walk_at "rg") => `(tactic| first | omega | decide)
local macro_rules | `(tactic| walk_at "bc") => `(tactic| first | exact c_len rfl | exact c_min2 rfl | exact c_max2 rfl | exact c_sum rfl rfl | exact c_any rfl rfl | exact c_all rfl rfl | exact c_list (tup := true) (.inl rfl) | exact c_list (tup := true) (.inr rfl) | exact c_tuple rfl | exact c_intB)
local macro_rules | `(tactic| walk_at "sl") => `(tactic| first | exact s_take rfl | exact s_drop rfl)
local macro_rules | `(tactic| walk_at "ns") => `(tactic| first | assumption | rfl)
local macro_rules | `(tactic| walk_at "bk") => `(tactic| first | rfl | decide +kernel)
local macro_rules | `(tactic| walk_at "wk") => `(tactic| repeat (first | exact trivial | refine ⟨Or.inl rfl, ?_⟩ | refine ⟨Or.inr rfl, ?_⟩))
local macro_rules | `(tactic| walk_at "pre") => `(tactic| first | trivial | assumption)
local macro_rules | `(tactic| walk_at "ix") => `(tactic| first | exact x_list rfl rfl | exact x_tup rfl)
section
variable {P : Program} {w : World} {K : KF} {mg : Str → Option Value} {base : Heap} {f : Addr} {fd : FuncData}
/-- an if whose ways meet again -/
theorem bl_ifJ {X : Cx} {b : Bs} {env : PEnv} {R : Out} {e : Expr} {bA bB rest : List Stmt} {pos : Pos} {k : Bool} (mid : PEnv) (hc : TsP X b e env k)
    (h1 : (∀ e', wk e' mid → BlP X b rest e' R) → k = true → BlP X b bA env { R with nx := fun env' => BlP X b rest env' R })
    (h2 : (∀ e', wk e' mid → BlP X b rest e' R) → k = false → BlP X b bB env { R with nx := fun env' => BlP X b rest env' R })
    (kk : BlP X b rest mid R) : BlP X b (.If e bA bB pos :: rest) env R :=
  bl_if hc (h1 fun _ w => bl_wk kk w) (h2 fun _ w => bl_wk kk w)
theorem wk_trans : ∀ {a b c : PEnv}, wk a b → wk b c → wk a c
  | [], [], _, _, h => h
  | [], _ :: _, _, h, _ => h.elim
  | _ :: _, [], _, h, _ => h.elim
  | _ :: _, _ :: _, [], _, h => h.elim
  | x :: a, y :: b, z :: c, h, g => by
    refine ⟨?_, wk_trans h.2 g.2⟩
    rcases g.1 with e | e
    · rw [e]; exact h.1
    · exact .inr e
theorem getD_at {ds : List PD} {i : Int} (h0 : 0 ≤ i) (h1 : i < ds.length) : atI ds i = some (ds.getD i.toNat .none) := by
  obtain ⟨n, rfl⟩ := Int.eq_ofNat_of_zero_le h0
  refine atI_nat ?_
  have hn : n < ds.length := by omega
  rw [Int.toNat_natCast, List.getD_eq_getElem?_getD, List.getElem?_eq_getElem hn]
  rfl
theorem lay_eqv {d : PD} {n : Nat} (h : Lay n d) : PyData.eqv d d = true := PySem.SeqAt.eqv_refl d h.1
/-- what is compared with itself -/
theorem o_eqR {X : Cx} {r1 r2 : RV} {d : PD} (hu : X.A.units + 64 < cLine) (hl : Lay 60 d) (h1 : r1.data = d) (h2 : r2.data = d) : Op2 X (compareOp .Eq) r1 r2 (.sh (.bool true)) := by
  have := o_eq (X := X) (r1 := r1) (r2 := r2) (n := 0) hu (h1 ▸ hl) (h2 ▸ hl)
  rwa [h1, h2, lay_eqv hl] at this
theorem o_neR {X : Cx} {r1 r2 : RV} {d : PD} (hu : X.A.units + 64 < cLine) (hl : Lay 60 d) (h1 : r1.data = d) (h2 : r2.data = d) : Op2 X (compareOp .NotEq) r1 r2 (.sh (.bool false)) := by
  have := o_ne (X := X) (r1 := r1) (r2 := r2) (n := 0) hu (h1 ▸ hl) (h2 ▸ hl)
  rwa [h1, h2, lay_eqv hl] at this
theorem lay_refD (x : Str) (h : PyData.strOk x = true) : Lay 60 (.tuple [.str "refused", .list [.str x]]) := lay_tuple (n := 59) (by
  intro d hd
  rcases List.mem_cons.mp hd with rfl | hd
  · exact lay_str (by decide +kernel)
  · obtain rfl := List.mem_singleton.mp hd
    exact lay_list (n := 58) (by intro d hd; obtain rfl := List.mem_singleton.mp hd; exact lay_str h))
theorem lay_lst {n : Nat} {α : Type} {enc : α → PD} (l : List α) (h : ∀ x, Lay n (enc x)) (hn : n ≤ 59 := by decide) : Lay 60 (.list (l.map enc)) := (lay_list (lay_map h)).mono (by omega)
end
end KW

namespace KW
open PySem PySem.Spec PyProof.Rows L2 TW
local macro_rules | `(tactic| walk_at "bo") => `(tactic| first | with_reducible exact o_add | with_reducible exact o_sub | with_reducible exact o_lt | with_reducible exact o_le | with_reducible exact o_gt | with_reducible exact o_ge | with_reducible exact o_eqI | with_reducible exact o_neI | with_reducible refine o_mod ?_ <;> omega | with_reducible refine o_fdiv ?_ ?_ <;> omega | with_reducible exact o_isN | with_reducible exact o_notN | exact o_add | exact o_sub | exact o_lt | exact o_le | exact o_gt | exact o_ge | exact o_eqI | exact o_neI | exact o_mod (by omega) | exact o_fdiv (by omega) (by omega) | exact o_mul (.inl (by omega)) | exact o_mul (.inr (by omega)) | exact o_eqS | exact o_neS | exact o_eqB | exact o_neB | exact o_isN | exact o_notN | exact o_cat rfl rfl (by walk_at "le"))
local macro_rules | `(tactic| walk_at "le") => `(tactic| first | decide | omega | (simp only [List.length_append, List.length_cons, List.length_nil, List.length_map, List.length_take, List.length_drop, List.length_range]; omega))
local macro_rules | `(tactic| walk_at "rg") => `(tactic| first | omega | decide)
local macro_rules | `(tactic| walk_at "bc") => `(tactic| first | exact c_len rfl | exact c_min2 rfl | exact c_max2 rfl | exact c_sum rfl rfl | exact c_any rfl rfl | exact c_all rfl rfl | exact c_list (tup := true) (.inl rfl) | exact c_list (tup := true) (.inr rfl) | exact c_tuple rfl | exact c_intB)
local macro_rules | `(tactic| walk_at "sl") => `(tactic| first | exact s_take rfl | exact s_drop rfl)
local macro_rules | `(tactic| walk_at "ns") => `(tactic| first | assumption | rfl)
local macro_rules | `(tactic| walk_at "bk") => `(tactic| first | rfl | decide +kernel)
local macro_rules | `(tactic| walk_at "wk") => `(tactic| repeat (first | exact trivial | refine ⟨Or.inl rfl, ?_⟩ | refine ⟨Or.inr rfl, ?_⟩))
local macro_rules | `(tactic| walk_at "pre") => `(tactic| first | trivial | assumption)
local macro_rules | `(tactic| walk_at "ix") => `(tactic| first | exact x_list rfl rfl | exact x_tup rfl)
section
variable {P : Program} {w : World} {K : KF} {mg : Str → Option Value} {base : Heap} {f : Addr} {fd : FuncData}
abbrev n_tied : List Str := ["one", "other"]
theorem sc_tied : FnScope n_tied ["one", "other"] (defScope s_tied) := ⟨rfl, rfl, rfl, by decide +kernel, rfl, by decide +kernel, by decide +kernel⟩
/-- the tie of two points -/
def tie (a b : Int) : T2 := (min a b, max a b)
theorem tie_comm (a b : Int) : tie a b = tie b a := Prod.ext (Int.min_comm a b) (Int.max_comm a b)
theorem tie_lt {a b : Int} (h : a < b) : tie a b = (a, b) := Prod.ext (Int.min_eq_left (Int.le_of_lt h)) (Int.max_eq_right (Int.le_of_lt h))
abbrev F_tied (P : Program) (w : World) (K : KF) (mg : Str → Option Value) (base : Heap) : Prop :=
  Fn P w K mg base "tied" 1 ["one", "other"] (spF K (fun _ : Int × Int => True) (fun z => [.int z.1, .int z.2]) fun z => .ret (.sh (p2 (tie z.1 z.2))))
theorem ok_tied (F : Fun K "tied" "tied" s_tied f fd) (hm : mg "tied" = some (.ref f)) (hb : Binds K fd ["one", "other"] []) (T : Bt mg) : F_tied P w K mg base := by
  refine fn_pure F hm hb sc_tied (fun _ => rfl) fun cdv A outer s G H E ⟨a, b⟩ hr hz hE => ?_
  have hN := sc_tied.nd
  exact bl_ret (ev_tup (as_cons (evS_sh (ev_bi T.min (c_min2 rfl) (ar_cons (ev_nsh (i := 0) rfl) (ar_cons (ev_nsh (i := 1) rfl) ar_nil)))) (as_cons (evS_sh (ev_bi T.max (c_max2 rfl) (ar_cons (ev_nsh (i := 0) rfl) (ar_cons (ev_nsh (i := 1) rfl) ar_nil)))) as_nil))) rfl
end
end KW

namespace KW
open PySem PySem.Spec PyProof.Rows L2 TW
local macro_rules | `(tactic| walk_at "bo") => `(tactic| first | with_reducible exact o_add | with_reducible exact o_sub | with_reducible exact o_lt | with_reducible exact o_le | with_reducible exact o_gt | with_reducible exact o_ge | with_reducible exact o_eqI | with_reducible exact o_neI | with_reducible refine o_mod ?_ <;> omega | with_reducible refine o_fdiv ?_ ?_ <;> omega | with_reducible exact o_isN | with_reducible exact o_notN | exact o_add | exact o_sub | exact o_lt | exact o_le | exact o_gt | exact o_ge | exact o_eqI | exact o_neI | exact o_mod (by omega) | exact o_fdiv (by omega) (by omega) | exact o_mul (.inl (by omega)) | exact o_mul (.inr (by omega)) | exact o_eqS | exact o_neS | exact o_eqB | exact o_neB | exact o_isN | exact o_notN | exact o_cat rfl rfl (by walk_at "le"))
local macro_rules | `(tactic| walk_at "le") => `(tactic| first | decide | omega | (simp only [List.length_append, List.length_cons, List.length_nil, List.length_map, List.length_take, List.length_drop, List.length_range]; omega))
local macro_rules | `(tactic| walk_at "rg") => `(tactic| first | omega | decide)
local macro_rules | `(tactic| walk_at "bc") => `(tactic| first | exact c_len rfl | exact c_min2 rfl | exact c_max2 rfl | exact c_sum rfl rfl | exact c_any rfl rfl | exact c_all rfl rfl | exact c_list (tup := true) (.inl rfl) | exact c_list (tup := true) (.inr rfl) | exact c_tuple rfl | exact c_intB)
local macro_rules | `(tactic| walk_at "sl") => `(tactic| first | exact s_take rfl | exact s_drop rfl)
local macro_rules | `(tactic| walk_at "ns") => `(tactic| first | assumption | rfl)
local macro_rules | `(tactic| walk_at "bk") => `(tactic| first | rfl | decide +kernel)
local macro_rules | `(tactic| walk_at "wk") => `(tactic| repeat (first | exact trivial | refine ⟨Or.inl rfl, ?_⟩ | refine ⟨Or.inr rfl, ?_⟩))
local macro_rules | `(tactic| walk_at "pre") => `(tactic| first | trivial | assumption)
local macro_rules | `(tactic| walk_at "ix") => `(tactic| first | exact x_list rfl rfl | exact x_tup rfl)
section
variable {P : Program} {w : World} {K : KF} {mg : Str → Option Value} {base : Heap} {f : Addr} {fd : FuncData}
def q4 (t : T4) : List Int := [t.1, t.2.1, t.2.2.1, t.2.2.2]
/-- an exchange of the web, of any four points -/
def Fits (ties : List T2) (t : T4) : Prop := (q4 t).Nodup ∧ tie t.1 t.2.1 ∈ ties ∧ tie t.2.2.1 t.2.2.2 ∈ ties ∧ tie t.1 t.2.2.1 ∉ ties ∧ tie t.2.1 t.2.2.2 ∉ ties
instance (ties : List T2) (t : T4) : Decidable (Fits ties t) := by unfold Fits; exact inferInstance
def fitsB (ties : List T2) (t : T4) : Bool := decide (Fits ties t)
end
end KW

namespace KW
open PySem TW
/-! ### plain: exchanges -/
theorem ltL2 (a b c d : Int) : ltL [a, b] [c, d] = decide (a < c ∨ a = c ∧ b < d) := by
  rw [ltL_cons, ltL_cons, show ltL [] [] = false from rfl]
  by_cases h : a = c
  · subst h
    by_cases h2 : b = d
    · subst h2; simp
    · simp [h2]
  · simp [h]
theorem ltL4 (a b c d a' b' c' d' : Int) : ltL [a, b, c, d] [a', b', c', d'] = decide (a < a' ∨ a = a' ∧ (b < b' ∨ b = b' ∧ (c < c' ∨ c = c' ∧ d < d'))) := by
  rw [ltL_cons, ltL_cons, ltL2]
  by_cases h : a = a'
  · subst h
    by_cases h2 : b = b'
    · subst h2; simp
    · simp [h2]
  · simp [h]
/-- ties, the least first -/
def srtT (l : List T2) : List T2 := l.mergeSort fun s t => decide (s.1 < t.1 ∨ s.1 = t.1 ∧ s.2 ≤ t.2)
theorem srtT_perm (l : List T2) : (srtT l).Perm l := List.mergeSort_perm l _
theorem srtT_up (l : List T2) : (srtT l).Pairwise fun s t => s.1 < t.1 ∨ s.1 = t.1 ∧ s.2 ≤ t.2 := by
  refine (List.pairwise_mergeSort (le := fun s t : T2 => decide (s.1 < t.1 ∨ s.1 = t.1 ∧ s.2 ≤ t.2)) (fun a b c h1 h2 => ?_) (fun a b => ?_) l).imp fun h => of_decide_eq_true h
  · have := of_decide_eq_true h1
    have := of_decide_eq_true h2
    exact decide_eq_true (by omega)
  · simp only [Bool.or_eq_true, decide_eq_true_eq]; omega
theorem up_eq {l m : List T2} (h : l.Perm m) (h1 : l.Pairwise fun s t => s.1 < t.1 ∨ s.1 = t.1 ∧ s.2 ≤ t.2) (h2 : m.Pairwise fun s t => s.1 < t.1 ∨ s.1 = t.1 ∧ s.2 ≤ t.2) : l = m :=
  h.eq_of_pairwise (fun a b _ _ h1 h2 => Prod.ext (by omega) (by omega)) h1 h2
theorem srtT_eq {l m : List T2} (h : l.Perm m) : srtT l = srtT m := up_eq ((srtT_perm l).trans (h.trans (srtT_perm m).symm)) (srtT_up l) (srtT_up m)
theorem srtT_lt (l : List T2) : ((srtT l).map fun t : T2 => [t.1, t.2]).Pairwise fun a b => ltL b a = false := by
  rw [List.pairwise_map]
  refine (srtT_up l).imp fun {s t} h => ?_
  rw [ltL2]
  exact decide_eq_false (by omega)
def keepB (t : T4) (x : T2) : Bool := !decide (x = tie t.1 t.2.1) && !decide (x = tie t.2.2.1 t.2.2.2)
def keepX (ties : List T2) (t : T4) : List T2 := ties.filter (keepB t)
/-- what an exchange leaves -/
def leftL (ties : List T2) (t : T4) : List T2 := srtT (keepX ties t ++ [tie t.1 t.2.2.1, tie t.2.1 t.2.2.2])
theorem tie_eq {a b c d : Int} : tie a b = tie c d ↔ (a = c ∧ b = d) ∨ (a = d ∧ b = c) := by
  unfold tie
  rw [Prod.mk.injEq]
  omega
theorem tie_of {t : T2} (h : t.1 < t.2) : tie t.1 t.2 = t := tie_lt h
theorem q4_nodup {t : T4} : (q4 t).Nodup ↔ t.1 ≠ t.2.1 ∧ t.1 ≠ t.2.2.1 ∧ t.1 ≠ t.2.2.2 ∧ t.2.1 ≠ t.2.2.1 ∧ t.2.1 ≠ t.2.2.2 ∧ t.2.2.1 ≠ t.2.2.2 := by
  unfold q4
  simp [and_assoc]
theorem keepX_perm {n : Nat} {ties : List T2} (w : Web n ties) {t : T4} (h : Fits ties t) : ties.Perm (keepX ties t ++ [tie t.1 t.2.1, tie t.2.2.1 t.2.2.2]) := by
  obtain ⟨a, b, c, d⟩ := t
  obtain ⟨h0, h1, h2, h3, h4⟩ := h
  have h0 := q4_nodup.mp h0
  dsimp only at h0 h1 h2 h3 h4 ⊢
  refine (List.perm_ext_iff_of_nodup w.nd ?_).mpr fun x => ?_
  · rw [List.nodup_append]
    refine ⟨w.nd.sublist List.filter_sublist, ?_, fun x hx y hy => ?_⟩
    · rw [List.nodup_cons]
      refine ⟨?_, by simp⟩
      rw [List.mem_singleton, tie_eq]
      omega
    · unfold keepX keepB at hx
      have := (List.mem_filter.mp hx).2
      simp only [Bool.and_eq_true, Bool.not_eq_true', decide_eq_false_iff_not] at this
      rcases List.mem_cons.mp hy with rfl | hy
      · exact this.1
      · rw [List.mem_singleton.mp hy]; exact this.2
  · unfold keepX keepB
    simp only [List.mem_append, List.mem_filter, Bool.and_eq_true, Bool.not_eq_true', decide_eq_false_iff_not, List.mem_cons, List.not_mem_nil, or_false]
    constructor
    · intro hx
      by_cases e1 : x = tie a b
      · exact .inr (.inl e1)
      · by_cases e2 : x = tie c d
        · exact .inr (.inr e2)
        · exact .inl ⟨hx, e1, e2⟩
    · rintro (hx | rfl | rfl)
      · exact hx.1
      · exact h1
      · exact h2
theorem left_perm (ties : List T2) (t : T4) : (leftL ties t).Perm (keepX ties t ++ [tie t.1 t.2.2.1, tie t.2.1 t.2.2.2]) := srtT_perm _
theorem left_mem {ties : List T2} {t : T4} {x : T2} : x ∈ leftL ties t ↔ (x ∈ ties ∧ x ≠ tie t.1 t.2.1 ∧ x ≠ tie t.2.2.1 t.2.2.2) ∨ x = tie t.1 t.2.2.1 ∨ x = tie t.2.1 t.2.2.2 := by
  rw [(left_perm ties t).mem_iff]
  unfold keepX keepB
  simp only [List.mem_append, List.mem_filter, Bool.and_eq_true, Bool.not_eq_true', decide_eq_false_iff_not, List.mem_cons, List.not_mem_nil, or_false]
theorem degI_app (s t : List T2) (p : Int) : degI (s ++ t) p = degI s p + degI t p := by
  unfold degI
  rw [List.filter_append, List.length_append]
theorem degI_one (a b p : Int) (h : a ≠ b) : degI [tie a b] p = (if p = a then 1 else 0) + (if p = b then 1 else 0) := by
  unfold degI
  rw [List.filter_cons, List.filter_nil]
  have e : (p ∈ [(tie a b).1, (tie a b).2]) ↔ p = a ∨ p = b := by
    simp only [tie, List.mem_cons, List.not_mem_nil, or_false]
    omega
  by_cases h1 : p = a
  · rw [if_pos (decide_eq_true (e.mpr (.inl h1))), if_pos h1, if_neg (fun q => h (h1.symm.trans q))]; rfl
  · by_cases h2 : p = b
    · rw [if_pos (decide_eq_true (e.mpr (.inr h2))), if_pos h2, if_neg h1]; rfl
    · rw [if_neg (by rw [decide_eq_true_iff, e]; omega), if_neg h1, if_neg h2]; rfl
/-- all counts stay -/
theorem left_deg {n : Nat} {ties : List T2} (w : Web n ties) {t : T4} (h : Fits ties t) (p : Int) : degI (leftL ties t) p = degI ties p := by
  rw [degI_perm (left_perm ties t), degI_perm (keepX_perm w h), degI_app, degI_app]
  have h0 := q4_nodup.mp h.1
  obtain ⟨a, b, c, d⟩ := t
  dsimp only at h0 ⊢
  rw [show [tie a c, tie b d] = [tie a c] ++ [tie b d] from rfl, show [tie a b, tie c d] = [tie a b] ++ [tie c d] from rfl, degI_app, degI_app, degI_one _ _ _ (by omega), degI_one _ _ _ (by omega), degI_one _ _ _ (by omega), degI_one _ _ _ (by omega)]
  omega
theorem left_counts {n : Nat} {ties : List T2} (w : Web n ties) {t : T4} (h : Fits ties t) : countsL n (leftL ties t) = countsL n ties := by
  unfold countsL
  exact List.map_congr_left fun p _ => by rw [left_deg w h]
theorem left_len {n : Nat} {ties : List T2} (w : Web n ties) {t : T4} (h : Fits ties t) : (leftL ties t).length = ties.length := by
  rw [(left_perm ties t).length_eq, (keepX_perm w h).length_eq, List.length_append, List.length_append]
  rfl
def InR (n : Nat) (t : T4) : Prop := ∀ x ∈ q4 t, 0 ≤ x ∧ x < (n : Int)
theorem inR_iff {n : Nat} {t : T4} : InR n t ↔ (0 ≤ t.1 ∧ t.1 < n) ∧ (0 ≤ t.2.1 ∧ t.2.1 < n) ∧ (0 ≤ t.2.2.1 ∧ t.2.2.1 < n) ∧ (0 ≤ t.2.2.2 ∧ t.2.2.2 < (n : Int)) := by
  unfold InR q4
  simp
theorem fits_in {n : Nat} {ties : List T2} (w : Web n ties) {t : T4} (h : Fits ties t) : InR n t := by
  rw [inR_iff]
  have h1 := w.r _ h.2.1
  have h2 := w.r _ h.2.2.1
  simp only [tie] at h1 h2
  omega
theorem left_web {n : Nat} {ties : List T2} (w : Web n ties) {t : T4} (h : Fits ties t) : Web n (leftL ties t) := by
  have hr := inR_iff.mp (fits_in w h)
  obtain ⟨a, b, c, d⟩ := t
  obtain ⟨h0, h1, h2, h3, h4⟩ := h
  have h0 := q4_nodup.mp h0
  dsimp only at h0 h1 h2 h3 h4 hr
  refine ⟨fun x hx => ?_, ?_⟩
  · rcases left_mem.mp hx with hx | rfl | rfl
    · exact w.r x hx.1
    · simp only [tie]; omega
    · simp only [tie]; omega
  · rw [(left_perm ties _).nodup_iff, List.nodup_append]
    refine ⟨w.nd.sublist List.filter_sublist, ?_, fun x hx y hy e => ?_⟩
    · rw [List.nodup_cons]
      refine ⟨?_, by simp⟩
      rw [List.mem_singleton, tie_eq]
      dsimp only
      omega
    · subst e
      have hx := (List.mem_filter.mp hx).1
      rcases List.mem_cons.mp hy with rfl | hy
      · exact h3 hx
      · rw [List.mem_singleton.mp hy] at hx; exact h4 hx
/-! the same exchange told otherwise -/
def sy1 (t : T4) : T4 := (t.2.1, t.1, t.2.2.2, t.2.2.1)
def sy2 (t : T4) : T4 := (t.2.2.1, t.2.2.2, t.1, t.2.1)
def sy3 (t : T4) : T4 := (t.2.2.2, t.2.2.1, t.2.1, t.1)
theorem fits_sy1 {ties : List T2} {t : T4} (h : Fits ties t) : Fits ties (sy1 t) := by
  obtain ⟨h0, h1, h2, h3, h4⟩ := h
  have h0 := q4_nodup.mp h0
  refine ⟨q4_nodup.mpr ?_, ?_, ?_, ?_, ?_⟩ <;> simp only [sy1]
  · omega
  · rwa [tie_comm]
  · rwa [tie_comm]
  · exact h4
  · exact h3
theorem fits_sy2 {ties : List T2} {t : T4} (h : Fits ties t) : Fits ties (sy2 t) := by
  obtain ⟨h0, h1, h2, h3, h4⟩ := h
  have h0 := q4_nodup.mp h0
  refine ⟨q4_nodup.mpr ?_, ?_, ?_, ?_, ?_⟩ <;> simp only [sy2]
  · omega
  · exact h2
  · exact h1
  · rwa [tie_comm]
  · rwa [tie_comm]
theorem fits_sy3 {ties : List T2} {t : T4} (h : Fits ties t) : Fits ties (sy3 t) := fits_sy2 (fits_sy1 h)
theorem fitsB_sy1 (ties : List T2) (t : T4) : fitsB ties (sy1 t) = fitsB ties t := decide_eq_decide.mpr ⟨fun h => fits_sy1 h, fits_sy1⟩
theorem fitsB_sy2 (ties : List T2) (t : T4) : fitsB ties (sy2 t) = fitsB ties t := decide_eq_decide.mpr ⟨fun h => fits_sy2 h, fits_sy2⟩
theorem fitsB_sy3 (ties : List T2) (t : T4) : fitsB ties (sy3 t) = fitsB ties t := decide_eq_decide.mpr ⟨fun h => fits_sy3 h, fits_sy3⟩
theorem left_sy1 (ties : List T2) (t : T4) : leftL ties (sy1 t) = leftL ties t := by
  refine srtT_eq ?_
  have e : keepX ties (sy1 t) = keepX ties t := List.filter_congr fun x _ => by
    unfold keepB sy1
    rw [tie_comm t.2.1 t.1, tie_comm t.2.2.2 t.2.2.1]
  rw [e]
  exact List.Perm.append_left _ (List.Perm.swap _ _ _)
theorem left_sy2 (ties : List T2) (t : T4) : leftL ties (sy2 t) = leftL ties t := by
  unfold leftL
  have e : keepX ties (sy2 t) = keepX ties t := List.filter_congr fun x _ => by
    unfold keepB sy2
    rw [Bool.and_comm]
  rw [e]
  unfold sy2
  dsimp only
  rw [tie_comm t.2.2.1 t.1, tie_comm t.2.2.2 t.2.1]
theorem left_sy3 (ties : List T2) (t : T4) : leftL ties (sy3 t) = leftL ties t := (left_sy1 ties (sy2 t)).trans (left_sy2 ties t)
/-! all of them -/
theorem fm_succ {α β : Type} {xs : List α} {i : Nat} {x : α} (h : xs[i]? = some x) (g : α → List β) : (xs.take (i + 1)).flatMap g = (xs.take i).flatMap g ++ g x := by
  rw [List.take_add_one, h, List.flatMap_append]
  simp
theorem fm_len {α β : Type} {k : Nat} : ∀ {xs : List α} {g : α → List β}, (∀ x ∈ xs, (g x).length ≤ k) → (xs.flatMap g).length ≤ xs.length * k
  | [], _, _ => Nat.zero_le _
  | x :: xs, g, h => by
    rw [List.flatMap_cons, List.length_append, List.length_cons, Nat.add_mul, Nat.one_mul]
    have := h x List.mem_cons_self
    have := fm_len (xs := xs) (g := g) fun y hy => h y (List.mem_cons_of_mem _ hy)
    omega
theorem fm_take {α β : Type} {k m : Nat} {xs : List α} {g : α → List β} (h : ∀ x ∈ xs, (g x).length ≤ k) (hm : xs.length ≤ m) (i : Nat) : ((xs.take i).flatMap g).length ≤ m * k :=
  Nat.le_trans (fm_len fun x hx => h x (List.mem_of_mem_take hx)) (Nat.mul_le_mul (Nat.le_trans (List.length_take_le' _ _) hm) (Nat.le_refl _))
theorem map_get {α : Type} {enc : α → PD} {xs : List α} {i : Nat} {d : PD} (h : (xs.map enc)[i]? = some d) : ∃ x, xs[i]? = some x ∧ d = enc x := by
  rw [List.getElem?_map] at h
  obtain ⟨x, h1, h2⟩ := Option.map_eq_some_iff.mp h
  exact ⟨x, h1, h2.symm⟩
/-- .. as the program meets them -/
def ex1 (ties : List T2) (o : T2) (x : T2) (cd : T2) : List T4 := if decide (o.1 < x.1) && fitsB ties (o.1, o.2, cd.1, cd.2) then [(o.1, o.2, cd.1, cd.2)] else []
def ex2 (ties : List T2) (o : T2) (x : T2) : List T4 := [x, (x.2, x.1)].flatMap (ex1 ties o x)
def ex3 (ties : List T2) (o : T2) : List T4 := ties.flatMap (ex2 ties o)
def exL (ties : List T2) : List T4 := ties.flatMap (ex3 ties)
theorem ex1_mem {ties : List T2} {o x cd : T2} {t : T4} : t ∈ ex1 ties o x cd ↔ o.1 < x.1 ∧ Fits ties t ∧ t = (o.1, o.2, cd.1, cd.2) := by
  unfold ex1 fitsB
  by_cases h : o.1 < x.1 ∧ Fits ties (o.1, o.2, cd.1, cd.2)
  · rw [if_pos (by simp [h.1, h.2]), List.mem_singleton]
    constructor
    · rintro rfl; exact ⟨h.1, h.2, rfl⟩
    · exact fun q => q.2.2
  · rw [if_neg (by simpa using h)]
    constructor
    · intro q; cases q
    · rintro ⟨q1, q2, rfl⟩; exact absurd ⟨q1, q2⟩ h
theorem ex2_mem {ties : List T2} {o x : T2} {t : T4} : t ∈ ex2 ties o x ↔ o.1 < x.1 ∧ Fits ties t ∧ t.1 = o.1 ∧ t.2.1 = o.2 ∧ (t.2.2 = x ∨ t.2.2 = (x.2, x.1)) := by
  unfold ex2
  rw [List.mem_flatMap]
  obtain ⟨a, b, c, d⟩ := t
  constructor
  · rintro ⟨cd, hcd, h⟩
    obtain ⟨h1, h2, h3⟩ := ex1_mem.mp h
    cases h3
    refine ⟨h1, h2, rfl, rfl, ?_⟩
    rcases List.mem_cons.mp hcd with rfl | hcd
    · exact .inl rfl
    · rw [List.mem_singleton] at hcd; subst hcd; exact .inr rfl
  · rintro ⟨h1, h2, h3, h4, h5⟩
    dsimp only at h3 h4 h5
    subst h3 h4
    rcases h5 with rfl | h5
    · exact ⟨(c, d), by simp, ex1_mem.mpr ⟨h1, h2, rfl⟩⟩
    · refine ⟨(x.2, x.1), by simp, ex1_mem.mpr ⟨h1, h2, ?_⟩⟩
      rw [h5]
theorem exL_mem {n : Nat} {ties : List T2} (w : Web n ties) {t : T4} : t ∈ exL ties ↔ Fits ties t ∧ t.1 < t.2.1 ∧ t.1 < t.2.2.1 ∧ t.1 < t.2.2.2 := by
  unfold exL ex3
  simp only [List.mem_flatMap]
  obtain ⟨a, b, c, d⟩ := t
  constructor
  · rintro ⟨o, ho, x, hx, h⟩
    obtain ⟨h1, h2, h3, h4, h5⟩ := ex2_mem.mp h
    have r1 := w.r o ho
    have r2 := w.r x hx
    dsimp only at h3 h4 h5 ⊢
    refine ⟨h2, ?_⟩
    rcases h5 with h5 | h5
    · rw [← h5] at h1 r2; dsimp only at h1 r2; omega
    · have e1 : c = x.2 := congrArg Prod.fst h5
      have e2 : d = x.1 := congrArg Prod.snd h5
      omega
  · rintro ⟨h, h1, h2, h3⟩
    dsimp only at h1 h2 h3
    have g1 := h.2.1
    have g2 := h.2.2.1
    have hn := q4_nodup.mp h.1
    dsimp only at g1 g2 hn
    rw [tie_lt h1] at g1
    refine ⟨_, g1, _, g2, ex2_mem.mpr ⟨?_, h, rfl, rfl, ?_⟩⟩
    · simp only [tie]; omega
    · simp only [tie, Prod.mk.injEq]; omega
theorem exL_nodup {n : Nat} {ties : List T2} (w : Web n ties) : (exL ties).Nodup := by
  unfold exL
  refine List.pairwise_flatMap.mpr ⟨fun o ho => ?_, w.nd.imp fun {o o'} hne t ht t' ht' => ?_⟩
  · unfold ex3
    refine List.pairwise_flatMap.mpr ⟨fun x hx => ?_, ?_⟩
    · unfold ex2
      have r2 := w.r x hx
      refine List.pairwise_flatMap.mpr ⟨fun cd _ => ?_, ?_⟩
      · unfold ex1
        split
        · exact List.pairwise_singleton _ _
        · exact List.Pairwise.nil
      · rw [List.pairwise_cons]
        refine ⟨fun y hy t ht t' ht' e => ?_, List.pairwise_singleton _ _⟩
        rw [List.mem_singleton] at hy
        subst hy e
        have e1 := (ex1_mem.mp ht).2.2
        have e2 := (ex1_mem.mp ht').2.2
        rw [e1] at e2
        have := congrArg (fun t : T4 => t.2.2.1) e2
        dsimp only at this
        omega
    · refine List.Pairwise.imp_of_mem (R := fun x y : T2 => x ≠ y) (fun {x y} hx hy hne t ht t' ht' e => ?_) w.nd
      subst e
      have r1 := w.r x hx
      have r2 := w.r y hy
      have e1 := (ex2_mem.mp ht).2.2.2.2
      have e2 := (ex2_mem.mp ht').2.2.2.2
      apply hne
      obtain ⟨a, b, c, d⟩ := t
      dsimp only at e1 e2
      rcases e1 with e1 | e1 <;> rcases e2 with e2 | e2 <;> rw [e1] at e2
      · exact e2
      · have := congrArg Prod.fst e2; have := congrArg Prod.snd e2; dsimp only at *; omega
      · have := congrArg Prod.fst e2; have := congrArg Prod.snd e2; dsimp only at *; omega
      · have := congrArg Prod.fst e2; have := congrArg Prod.snd e2; dsimp only at *; exact Prod.ext (by omega) (by omega)
  · rintro rfl
    unfold ex3 at ht ht'
    obtain ⟨x, _, h1⟩ := List.mem_flatMap.mp ht
    obtain ⟨y, _, h2⟩ := List.mem_flatMap.mp ht'
    have h1 := ex2_mem.mp h1
    have h2 := ex2_mem.mp h2
    exact hne (Prod.ext (h1.2.2.1.symm.trans h2.2.2.1) (h1.2.2.2.1.symm.trans h2.2.2.2.1))
/-- .. as the law meets them -/
def rngI (lo : Int) (m : Nat) : List Int := (List.range m).map fun (k : Nat) => lo + (k : Int)
theorem rngI_mem {lo x : Int} {m : Nat} : x ∈ rngI lo m ↔ lo ≤ x ∧ x < lo + m := by
  unfold rngI
  simp only [List.mem_map, List.mem_range]
  constructor
  · rintro ⟨k, hk, rfl⟩; omega
  · rintro ⟨h1, h2⟩; exact ⟨(x - lo).toNat, by omega, by omega⟩
theorem rngI_up (lo : Int) (m : Nat) : (rngI lo m).Pairwise (· < ·) := by
  unfold rngI
  rw [List.pairwise_map]
  exact List.pairwise_lt_range.imp fun h => by omega
theorem rngI_len (lo : Int) (m : Nat) : (rngI lo m).length = m := by unfold rngI; rw [List.length_map, List.length_range]
theorem rngI_D (lo : Int) (m : Nat) : rangeD lo m = (rngI lo m).map .int := by unfold rangeD rngI; rw [List.map_map]; rfl
/-- the points behind a -/
def beh (n : Nat) (a : Int) : List Int := rngI (a + 1) (n - (a + 1)).toNat
theorem beh_mem {n : Nat} {a x : Int} : x ∈ beh n a ↔ a < x ∧ x < n := by
  unfold beh
  rw [rngI_mem]
  omega
def al4 (ties : List T2) (a b c d : Int) : List T4 := if fitsB ties (a, b, c, d) then [(a, b, c, d)] else []
def bD (b c : Int) (d : Int) : Bool := !decide (d ∈ [b, c])
def bC (ties : List T2) (a b : Int) (c : Int) : Bool := !decide (c = b) && decide (tie a b ∈ ties)
def al3 (n : Nat) (ties : List T2) (a b c : Int) : List T4 := ((beh n a).filter (bD b c)).flatMap (al4 ties a b c)
def al2 (n : Nat) (ties : List T2) (a b : Int) : List T4 := ((beh n a).filter (bC ties a b)).flatMap (al3 n ties a b)
def al1 (n : Nat) (ties : List T2) (a : Int) : List T4 := (beh n a).flatMap (al2 n ties a)
def allL (n : Nat) (ties : List T2) : List T4 := (ptsL n).flatMap (al1 n ties)
theorem al4_mem {ties : List T2} {a b c d : Int} {t : T4} : t ∈ al4 ties a b c d ↔ Fits ties t ∧ t = (a, b, c, d) := by
  unfold al4 fitsB
  by_cases h : Fits ties (a, b, c, d)
  · rw [if_pos (by simp [h]), List.mem_singleton]
    constructor
    · rintro rfl; exact ⟨h, rfl⟩
    · exact fun q => q.2
  · rw [if_neg (by simpa using h)]
    constructor
    · intro q; cases q
    · rintro ⟨q, rfl⟩; exact absurd q h
theorem al3_mem {n : Nat} {ties : List T2} {a b c : Int} {t : T4} (h : t ∈ al3 n ties a b c) : t.1 = a ∧ t.2.1 = b ∧ t.2.2.1 = c := by
  obtain ⟨d, _, h⟩ := List.mem_flatMap.mp h
  obtain ⟨_, rfl⟩ := al4_mem.mp h
  exact ⟨rfl, rfl, rfl⟩
theorem al2_mem {n : Nat} {ties : List T2} {a b : Int} {t : T4} (h : t ∈ al2 n ties a b) : t.1 = a ∧ t.2.1 = b := by
  obtain ⟨d, _, h⟩ := List.mem_flatMap.mp h
  have := al3_mem h
  exact ⟨this.1, this.2.1⟩
theorem al1_mem {n : Nat} {ties : List T2} {a : Int} {t : T4} (h : t ∈ al1 n ties a) : t.1 = a := by
  obtain ⟨d, _, h⟩ := List.mem_flatMap.mp h
  exact (al2_mem h).1
theorem allL_mem {n : Nat} {ties : List T2} (w : Web n ties) {t : T4} : t ∈ allL n ties ↔ Fits ties t ∧ t.1 < t.2.1 ∧ t.1 < t.2.2.1 ∧ t.1 < t.2.2.2 := by
  constructor
  · intro h
    obtain ⟨a, _, h⟩ := List.mem_flatMap.mp h
    obtain ⟨b, hb, h⟩ := List.mem_flatMap.mp h
    obtain ⟨c, hc, h⟩ := List.mem_flatMap.mp h
    obtain ⟨d, hd, h⟩ := List.mem_flatMap.mp h
    obtain ⟨h, rfl⟩ := al4_mem.mp h
    have hb := beh_mem.mp hb
    have hc := beh_mem.mp (List.mem_filter.mp hc).1
    have hd := beh_mem.mp (List.mem_filter.mp hd).1
    exact ⟨h, hb.1, hc.1, hd.1⟩
  · rintro ⟨h, h1, h2, h3⟩
    have hr := inR_iff.mp (fits_in w h)
    have hn := q4_nodup.mp h.1
    have g1 := h.2.1
    obtain ⟨a, b, c, d⟩ := t
    dsimp only at h1 h2 h3 hr hn g1
    refine List.mem_flatMap.mpr ⟨a, pts_mem.mpr hr.1, List.mem_flatMap.mpr ⟨b, beh_mem.mpr (by omega), List.mem_flatMap.mpr ⟨c, List.mem_filter.mpr ⟨beh_mem.mpr (by omega), ?_⟩, List.mem_flatMap.mpr ⟨d, List.mem_filter.mpr ⟨beh_mem.mpr (by omega), ?_⟩, al4_mem.mpr ⟨h, rfl⟩⟩⟩⟩⟩
    · unfold bC
      rw [decide_eq_true g1, decide_eq_false (by omega)]; rfl
    · unfold bD
      rw [decide_eq_false (by simp; omega)]; rfl
def lt4 (s t : T4) : Prop := s.1 < t.1 ∨ s.1 = t.1 ∧ (s.2.1 < t.2.1 ∨ s.2.1 = t.2.1 ∧ (s.2.2.1 < t.2.2.1 ∨ s.2.2.1 = t.2.2.1 ∧ s.2.2.2 < t.2.2.2))
theorem pts_up (n : Nat) : (ptsL n).Pairwise (· < ·) := by
  unfold ptsL
  rw [List.pairwise_map]
  exact List.pairwise_lt_range.imp fun h => by omega
theorem beh_up (n : Nat) (a : Int) : (beh n a).Pairwise (· < ·) := rngI_up _ _
theorem allL_up (n : Nat) (ties : List T2) : (allL n ties).Pairwise lt4 := by
  refine List.pairwise_flatMap.mpr ⟨fun a _ => ?_, (pts_up n).imp fun {x y} hlt s hs t ht => ?_⟩
  · refine List.pairwise_flatMap.mpr ⟨fun b _ => ?_, (beh_up n a).imp fun {x y} hlt s hs t ht => ?_⟩
    · refine List.pairwise_flatMap.mpr ⟨fun c _ => ?_, ((beh_up n a).sublist List.filter_sublist).imp fun {x y} hlt s hs t ht => ?_⟩
      · refine List.pairwise_flatMap.mpr ⟨fun d _ => ?_, ((beh_up n a).sublist List.filter_sublist).imp fun {x y} hlt s hs t ht => ?_⟩
        · unfold al4
          split
          · exact List.pairwise_singleton _ _
          · exact List.Pairwise.nil
        · obtain ⟨_, rfl⟩ := al4_mem.mp hs
          obtain ⟨_, rfl⟩ := al4_mem.mp ht
          exact .inr ⟨rfl, .inr ⟨rfl, .inr ⟨rfl, hlt⟩⟩⟩
      · obtain ⟨s1, s2, s3⟩ := al3_mem hs
        obtain ⟨t1, t2, t3⟩ := al3_mem ht
        exact .inr ⟨s1.trans t1.symm, .inr ⟨s2.trans t2.symm, .inl (by omega)⟩⟩
    · obtain ⟨s1, s2⟩ := al2_mem hs
      obtain ⟨t1, t2⟩ := al2_mem ht
      exact .inr ⟨s1.trans t1.symm, .inl (by omega)⟩
  · have s1 := al1_mem hs
    have t1 := al1_mem ht
    exact .inl (by omega)
theorem allL_nodup (n : Nat) (ties : List T2) : (allL n ties).Nodup := (allL_up n ties).imp fun {s t} h e => by
  subst e
  unfold lt4 at h
  omega
theorem allL_perm {n : Nat} {ties : List T2} (w : Web n ties) : (allL n ties).Perm (exL ties) :=
  (List.perm_ext_iff_of_nodup (allL_nodup n ties) (exL_nodup w)).mpr fun t => (allL_mem w).trans (exL_mem w).symm
theorem allL_lt (n : Nat) (ties : List T2) : ((allL n ties).map q4).Pairwise fun a b => ltL b a = false := by
  rw [List.pairwise_map]
  refine (allL_up n ties).imp fun {s t} h => ?_
  unfold q4 lt4 at *
  rw [ltL4]
  exact decide_eq_false (by omega)
/-! few of them -/
theorem beh_len {n : Nat} {a : Int} (ha : 0 ≤ a) (h : n ≤ 10) : (beh n a).length ≤ 10 := by
  unfold beh
  rw [rngI_len]; omega
theorem al4_len (ties : List T2) (a b c d : Int) : (al4 ties a b c d).length ≤ 1 := by unfold al4; split <;> simp
theorem al3_len {n : Nat} {ties : List T2} {a : Int} (ha : 0 ≤ a) (h : n ≤ 10) (b c : Int) (i : Nat) : ((((beh n a).filter (bD b c)).take i).flatMap (al4 ties a b c)).length ≤ 10 :=
  fm_take (m := 10) (k := 1) (fun d _ => al4_len ties a b c d) (Nat.le_trans (List.length_filter_le _ _) (beh_len ha h)) i
theorem al3_len' {n : Nat} {ties : List T2} {a : Int} (ha : 0 ≤ a) (h : n ≤ 10) (b c : Int) : (al3 n ties a b c).length ≤ 10 := by
  have := al3_len (ties := ties) ha h b c ((beh n a).filter (bD b c)).length
  rwa [List.take_length] at this
theorem al2_len {n : Nat} {ties : List T2} {a : Int} (ha : 0 ≤ a) (h : n ≤ 10) (b : Int) (i : Nat) : ((((beh n a).filter (bC ties a b)).take i).flatMap (al3 n ties a b)).length ≤ 100 :=
  fm_take (m := 10) (k := 10) (fun c _ => al3_len' ha h b c) (Nat.le_trans (List.length_filter_le _ _) (beh_len ha h)) i
theorem al2_len' {n : Nat} {ties : List T2} {a : Int} (ha : 0 ≤ a) (h : n ≤ 10) (b : Int) : (al2 n ties a b).length ≤ 100 := by
  have := al2_len (ties := ties) ha h b ((beh n a).filter (bC ties a b)).length
  rwa [List.take_length] at this
theorem al1_len {n : Nat} {ties : List T2} {a : Int} (ha : 0 ≤ a) (h : n ≤ 10) (i : Nat) : (((beh n a).take i).flatMap (al2 n ties a)).length ≤ 1000 :=
  fm_take (m := 10) (k := 100) (fun b _ => al2_len' ha h b) (beh_len ha h) i
theorem al1_len' {n : Nat} {ties : List T2} {a : Int} (ha : 0 ≤ a) (h : n ≤ 10) : (al1 n ties a).length ≤ 1000 := by
  have := al1_len (ties := ties) ha h (beh n a).length
  rwa [List.take_length] at this
theorem allL_len0 {n : Nat} {ties : List T2} (h : n ≤ 10) (i : Nat) : (((ptsL n).take i).flatMap (al1 n ties)).length ≤ 10000 :=
  fm_take (m := 10) (k := 1000) (fun a ha => al1_len' (pts_mem.mp ha).1 h) (by unfold ptsL; rw [List.length_map, List.length_range]; exact h) i
theorem allL_len {n : Nat} {ties : List T2} (h : n ≤ 10) : (allL n ties).length ≤ 10000 := by
  have := allL_len0 (ties := ties) h (ptsL n).length
  rwa [List.take_length] at this
theorem ex2_len (ties : List T2) (o x : T2) (i : Nat) : (([x, (x.2, x.1)].take i).flatMap (ex1 ties o x)).length ≤ 2 :=
  fm_take (m := 2) (k := 1) (fun cd _ => by unfold ex1; split <;> simp) (Nat.le_refl _) i
theorem ex2_len' (ties : List T2) (o x : T2) : (ex2 ties o x).length ≤ 2 := ex2_len ties o x 2
theorem ex3_len {ties : List T2} (h : ties.length ≤ 45) (o : T2) (i : Nat) : ((ties.take i).flatMap (ex2 ties o)).length ≤ 90 :=
  fm_take (m := 45) (k := 2) (fun x _ => ex2_len' ties o x) h i
theorem ex3_len' {ties : List T2} (h : ties.length ≤ 45) (o : T2) : (ex3 ties o).length ≤ 90 := by
  have := ex3_len h o ties.length
  rwa [List.take_length] at this
theorem exL_len {ties : List T2} (h : ties.length ≤ 45) (i : Nat) : ((ties.take i).flatMap (ex3 ties)).length ≤ 4050 :=
  fm_take (m := 45) (k := 90) (fun o _ => ex3_len' h o) h i
end KW

namespace KW
open PySem PySem.Spec PyProof.Rows L2 TW
local macro_rules | `(tactic| walk_at "bo") => `(tactic| first | with_reducible exact o_add | with_reducible exact o_sub | with_reducible exact o_lt | with_reducible exact o_le | with_reducible exact o_gt | with_reducible exact o_ge | with_reducible exact o_eqI | with_reducible exact o_neI | with_reducible refine o_mod ?_ <;> omega | with_reducible refine o_fdiv ?_ ?_ <;> omega | with_reducible exact o_isN | with_reducible exact o_notN | exact o_add | exact o_sub | exact o_lt | exact o_le | exact o_gt | exact o_ge | exact o_eqI | exact o_neI | exact o_mod (by omega) | exact o_fdiv (by omega) (by omega) | exact o_mul (.inl (by omega)) | exact o_mul (.inr (by omega)) | exact o_eqS | exact o_neS | exact o_eqB | exact o_neB | exact o_isN | exact o_notN | exact o_cat rfl rfl (by walk_at "le"))
local macro_rules | `(tactic| walk_at "le") => `(tactic| first | decide | omega | (simp only [List.length_append, List.length_cons, List.length_nil, List.length_map, List.length_take, List.length_drop, List.length_range]; omega))
local macro_rules | `(tactic| walk_at "rg") => `(tactic| first | omega | decide)
local macro_rules | `(tactic| walk_at "bc") => `(tactic| first | exact c_len rfl | exact c_min2 rfl | exact c_max2 rfl | exact c_sum rfl rfl | exact c_any rfl rfl | exact c_all rfl rfl | exact c_list (tup := true) (.inl rfl) | exact c_list (tup := true) (.inr rfl) | exact c_tuple rfl | exact c_intB)
local macro_rules | `(tactic| walk_at "sl") => `(tactic| first | exact s_take rfl | exact s_drop rfl)
local macro_rules | `(tactic| walk_at "ns") => `(tactic| first | assumption | rfl)
local macro_rules | `(tactic| walk_at "bk") => `(tactic| first | rfl | decide +kernel)
local macro_rules | `(tactic| walk_at "wk") => `(tactic| repeat (first | exact trivial | refine ⟨Or.inl rfl, ?_⟩ | refine ⟨Or.inr rfl, ?_⟩))
local macro_rules | `(tactic| walk_at "pre") => `(tactic| first | trivial | assumption)
local macro_rules | `(tactic| walk_at "ix") => `(tactic| first | exact x_list rfl rfl | exact x_tup rfl)
section
variable {P : Program} {w : World} {K : KF} {mg : Str → Option Value} {base : Heap} {f : Addr} {fd : FuncData}
theorem mapT2 (l : List T2) : (l.map fun t : T2 => [t.1, t.2]).map tI = l.map p2 := by rw [List.map_map]; rfl
theorem mapT4 (l : List T4) : (l.map q4).map tI = l.map p4 := by rw [List.map_map]; rfl
theorem c_sortP2 {X : Cx} {r : RV} {ls : List T2} (hu : X.A.units + 64 < cLine) (h : r.items = some (ls.map p2)) : Cl X (.builtin "sorted") [r] (.own ((srtT ls).map p2)) := by
  rw [← mapT2]
  exact c_sortT hu (ls := ls.map fun t => [t.1, t.2]) (by rw [h, mapT2]) (fun l hl => by obtain ⟨t, _, rfl⟩ := List.mem_map.mp hl; simp) ((srtT_perm ls).map _) (srtT_lt ls)
theorem c_sortP4 {X : Cx} {r : RV} {ls ms : List T4} (hu : X.A.units + 64 < cLine) (h : r.items = some (ls.map p4)) (hp : ms.Perm ls) (ho : (ms.map q4).Pairwise fun a b => ltL b a = false) : Cl X (.builtin "sorted") [r] (.own (ms.map p4)) := by
  rw [← mapT4]
  exact c_sortT hu (ls := ls.map q4) (by rw [h, mapT4]) (fun l hl => by obtain ⟨t, _, rfl⟩ := List.mem_map.mp hl; simp [q4]) (hp.map _) ho
theorem op2_k {X : Cx} {r1 r2 : RV} {op : CmpOp} {k j : Bool} (h : Op2 X (compareOp op) r1 r2 (.sh (.bool j))) (e : j = true ↔ k = true) : Op2 X (compareOp op) r1 r2 (.sh (.bool k)) := by
  rw [← Bool.eq_iff_iff.mpr e]
  exact h
theorem o_inP {X : Cx} {r1 r2 : RV} {k : Bool} (hu : X.A.units + 65 < cLine) (x : T2) (xs : List T2) (h1 : r1 = .sh (p2 x)) (h2 : r2.data = .list (xs.map p2)) (hk : k = true ↔ x ∈ xs := by first | exact decide_eq_true_iff | simp) : Op2 X (compareOp .In) r1 r2 (.sh (.bool k)) :=
  op2_k (o_inG (X := X) (r1 := r1) (r2 := r2) good_p2 hu x xs (by rw [h1]; rfl) h2) (by refine Iff.trans ?_ hk.symm; simp)
theorem o_notInP {X : Cx} {r1 r2 : RV} {k : Bool} (hu : X.A.units + 65 < cLine) (x : T2) (xs : List T2) (h1 : r1 = .sh (p2 x)) (h2 : r2.data = .list (xs.map p2)) (hk : k = true ↔ x ∉ xs := by first | exact decide_eq_true_iff | simp) : Op2 X (compareOp .NotIn) r1 r2 (.sh (.bool k)) :=
  op2_k (o_notInG (X := X) (r1 := r1) (r2 := r2) good_p2 hu x xs (by rw [h1]; rfl) h2) (by refine Iff.trans ?_ hk.symm; simp)
end
end KW

namespace KW
open PySem TW
/-! ### plain: what one web lacks of another one; nearer by an exchange -/
def gone (s t : List T2) : List T2 := s.filter fun x => !decide (x ∈ t)
theorem gone_mem {s t : List T2} {x : T2} : x ∈ gone s t ↔ x ∈ s ∧ x ∉ t := by
  unfold gone
  rw [List.mem_filter]
  simp
theorem gone_nodup {s t : List T2} (h : s.Nodup) : (gone s t).Nodup := h.sublist List.filter_sublist
theorem gone_web {n : Nat} {s : List T2} (w : Web n s) (t : List T2) : Web n (gone s t) := ⟨fun x hx => w.r x (gone_mem.mp hx).1, gone_nodup w.nd⟩
theorem gone_len (s t : List T2) : (gone s t).length ≤ s.length := List.length_filter_le _ _
theorem degI_mono {s t : List T2} {p : Int} (h : s.Sublist t) : degI s p ≤ degI t p := (h.filter _).length_le
/-- what both have -/
def both (s t : List T2) : List T2 := s.filter fun x => decide (x ∈ t)
theorem deg_split (s t : List T2) (p : Int) : degI s p = degI (both s t) p + degI (gone s t) p := by
  unfold degI both gone
  induction s with
  | nil => rfl
  | cons x s ih =>
    by_cases h : x ∈ t
    · by_cases h2 : p ∈ [x.1, x.2]
      · simp only [List.filter_cons, h, h2, decide_true, decide_false, Bool.not_true, Bool.false_eq_true, if_true, if_false, List.length_cons]; omega
      · simp only [List.filter_cons, h, h2, decide_true, decide_false, Bool.not_true, Bool.false_eq_true, if_true, if_false]; omega
    · by_cases h2 : p ∈ [x.1, x.2]
      · simp only [List.filter_cons, h, h2, decide_true, decide_false, Bool.not_false, Bool.false_eq_true, if_true, if_false, List.length_cons]; omega
      · simp only [List.filter_cons, h, h2, decide_true, decide_false, Bool.not_false, Bool.false_eq_true, if_true, if_false]; omega
theorem both_perm {s t : List T2} (h1 : s.Nodup) (h2 : t.Nodup) : (both s t).Perm (both t s) := by
  refine (List.perm_ext_iff_of_nodup (h1.sublist List.filter_sublist) (h2.sublist List.filter_sublist)).mpr fun x => ?_
  rw [List.mem_filter, List.mem_filter, decide_eq_true_iff, decide_eq_true_iff]
  exact And.comm
theorem gone_deg {s t : List T2} (h1 : s.Nodup) (h2 : t.Nodup) {p : Int} (h : degI s p = degI t p) : degI (gone s t) p = degI (gone t s) p := by
  have e1 := deg_split s t p
  have e2 := deg_split t s p
  have e3 := degI_perm (both_perm h1 h2) p
  omega
/-- the other ends -/
def nbG (T : List T2) (p : Int) : List Int := (T.filter fun t => decide (p ∈ [t.1, t.2])).map fun t => t.1 + t.2 - p
theorem nbG_len (T : List T2) (p : Int) : (nbG T p).length = degI T p := by unfold nbG degI; rw [List.length_map]
theorem nbG_mem {n : Nat} {T : List T2} (w : Web n T) {p q : Int} : q ∈ nbG T p ↔ tie p q ∈ T := by
  unfold nbG
  simp only [List.mem_map, List.mem_filter, decide_eq_true_eq]
  constructor
  · rintro ⟨⟨a, b⟩, ⟨h1, h2⟩, rfl⟩
    have hr := w.r _ h1
    dsimp only at h2 hr ⊢
    rcases List.mem_cons.mp h2 with rfl | h2
    · rw [show p + b - p = b by omega, tie_lt hr.2.1]; exact h1
    · obtain rfl := List.mem_singleton.mp h2
      rw [show a + p - p = a by omega, tie_comm, tie_lt hr.2.1]; exact h1
  · intro h
    refine ⟨tie p q, ⟨h, ?_⟩, ?_⟩
    · simp only [tie, List.mem_cons, List.not_mem_nil, or_false]; omega
    · simp only [tie]; omega
theorem nbG_nodup {n : Nat} {T : List T2} (w : Web n T) (p : Int) : (nbG T p).Nodup := by
  unfold nbG
  refine List.pairwise_map.mpr (List.Pairwise.imp_of_mem (fun {x y} hx hy hne e => hne ?_) (w.nd.sublist List.filter_sublist))
  obtain ⟨x1, x2⟩ := List.mem_filter.mp hx
  obtain ⟨y1, y2⟩ := List.mem_filter.mp hy
  have rx := w.r x x1
  have ry := w.r y y1
  simp only [List.mem_cons, List.not_mem_nil, or_false, decide_eq_true_eq] at x2 y2
  exact Prod.ext (by omega) (by omega)
theorem tie_ne {n : Nat} {T : List T2} (w : Web n T) {a b : Int} (h : tie a b ∈ T) : a ≠ b := fun e => by
  have := w.r _ h
  subst e
  simp only [tie] at this
  omega
theorem tie_in {n : Nat} {T : List T2} (w : Web n T) {a b : Int} (h : tie a b ∈ T) : (0 ≤ a ∧ a < n) ∧ 0 ≤ b ∧ b < (n : Int) := by
  have := w.r _ h
  simp only [tie] at this
  omega
theorem max_by (f : Int → Nat) : ∀ {l : List Int}, l ≠ [] → ∃ m ∈ l, ∀ y ∈ l, f y ≤ f m
  | [], h => absurd rfl h
  | [x], _ => ⟨x, List.mem_cons_self, fun y hy => by rw [List.mem_singleton] at hy; rw [hy]; exact Nat.le_refl _⟩
  | x :: y :: l, _ => by
    obtain ⟨m, h1, h2⟩ := max_by f (l := y :: l) (by simp)
    by_cases h : f x ≤ f m
    · exact ⟨m, List.mem_cons_of_mem _ h1, fun z hz => (List.mem_cons.mp hz).elim (fun e => by rw [e]; exact h) (h2 z)⟩
    · exact ⟨x, List.mem_cons_self, fun z hz => (List.mem_cons.mp hz).elim (fun e => by rw [e]; exact Nat.le_refl _) fun q => by have := h2 z q; omega⟩
/-- two webs of the same counts, rising -/
structure Pair (n : Nat) (s t : List T2) : Prop where
  ws : Web n s
  wt : Web n t
  dg : ∀ p, degI s p = degI t p
  us : srtT s = s
  ut : srtT t = t
/-- a row of four points along a gone, a come, a gone tie that the two ends don't close -/
structure Near (s t : List T2) (a b c d : Int) : Prop where
  ab : tie a b ∈ gone s t
  bc : tie b c ∈ gone t s
  cd : tie c d ∈ gone s t
  da : d ≠ a
theorem deg_pos {T : List T2} {x : T2} (h : x ∈ T) : 1 ≤ degI T x.1 ∧ 1 ≤ degI T x.2 := by
  unfold degI
  exact ⟨List.length_pos_of_mem (List.mem_filter.mpr ⟨h, by simp⟩), List.length_pos_of_mem (List.mem_filter.mpr ⟨h, by simp⟩)⟩
theorem nb_of {n : Nat} {T : List T2} (w : Web n T) {p : Int} (h : 1 ≤ degI T p) : ∃ q, tie p q ∈ T := by
  rw [← nbG_len] at h
  obtain ⟨q, hq⟩ := List.exists_mem_of_length_pos h
  exact ⟨q, (nbG_mem w).mp hq⟩
theorem tie_deg {n : Nat} {T : List T2} (w : Web n T) {p q : Int} (h : tie p q ∈ T) : 1 ≤ degI T p ∧ 1 ≤ degI T q := by
  rw [← nbG_len, ← nbG_len]
  exact ⟨List.length_pos_of_mem ((nbG_mem w).mpr h), List.length_pos_of_mem ((nbG_mem w).mpr (by rw [tie_comm]; exact h))⟩
theorem gone_eq {n : Nat} {s t : List T2} (h : Pair n s t) (e : gone s t = []) : s = t := by
  have e2 : gone t s = [] := by
    cases hh : gone t s with
    | nil => rfl
    | cons x l =>
      have := (deg_pos (T := gone t s) (x := x) (by rw [hh]; exact List.mem_cons_self)).1
      rw [← gone_deg h.ws.nd h.wt.nd (h.dg _), e] at this
      exact absurd this (Nat.not_succ_le_zero 0)
  have hm : s.Perm t := (List.perm_ext_iff_of_nodup h.ws.nd h.wt.nd).mpr fun x => by
    constructor
    · intro hx
      by_cases hy : x ∈ t
      · exact hy
      · have := gone_mem.mpr ⟨hx, hy⟩
        rw [e] at this; cases this
    · intro hx
      by_cases hy : x ∈ s
      · exact hy
      · have := gone_mem.mpr ⟨hx, hy⟩
        rw [e2] at this; cases this
  rw [← h.us, ← h.ut]
  exact srtT_eq hm
theorem near_ex {n : Nat} {s t : List T2} (h : Pair n s t) (hne : s ≠ t) : ∃ a b c d, Near s t a b c d ∧ tie a d ∉ gone s t := by
  have wg := gone_web h.ws t
  have wc := gone_web h.wt s
  have dg : ∀ p, degI (gone s t) p = degI (gone t s) p := fun p => gone_deg h.ws.nd h.wt.nd (h.dg p)
  obtain ⟨x, hx⟩ := List.exists_mem_of_ne_nil _ fun e => hne (gone_eq h e)
  have hxr := wg.r x hx
  obtain ⟨b, hb, hmax⟩ := max_by (degI (gone s t)) (l := ptsL n) (List.ne_nil_of_mem (pts_mem.mpr (show 0 ≤ x.1 ∧ x.1 < (n : Int) by omega)))
  have hx1 := (deg_pos hx).1
  have hb1 : 1 ≤ degI (gone s t) b := Nat.le_trans hx1 (hmax x.1 (pts_mem.mpr (by omega)))
  obtain ⟨a0, ha0⟩ := nb_of wg hb1
  obtain ⟨c, hc⟩ := nb_of wc (dg b ▸ hb1)
  have hc1 : 1 ≤ degI (gone s t) c := by rw [dg]; exact (tie_deg wc hc).2
  obtain ⟨d, hd⟩ := nb_of wg hc1
  by_cases hcl : ∃ a, tie a b ∈ gone s t ∧ d ≠ a ∧ tie a d ∉ gone s t
  · obtain ⟨a, h1, h2, h3⟩ := hcl
    exact ⟨a, b, c, d, ⟨h1, hc, hd, h2⟩, h3⟩
  · exfalso
    have hall : ∀ a, tie a b ∈ gone s t → d ≠ a → tie a d ∈ gone s t := fun a h1 h2 => Classical.not_not.mp fun h3 => hcl ⟨a, h1, h2, h3⟩
    have hcb : c ∉ nbG (gone s t) b := fun q => by
      have h1 := gone_mem.mp ((nbG_mem wg).mp q)
      exact (gone_mem.mp hc).2 h1.1
    have hbb : b ∉ nbG (gone s t) b := fun q => tie_ne wg ((nbG_mem wg).mp q) rfl
    have hbc : b ≠ c := tie_ne wc hc
    have hdin := (tie_in wg hd).2
    have hd2 := hmax d (pts_mem.mpr hdin)
    have hnd := nbG_nodup wg b
    rw [← nbG_len, ← nbG_len] at hd2
    by_cases hdb : d ∈ nbG (gone s t) b
    · have h1 : (c :: b :: (nbG (gone s t) b).erase d).Nodup := by
        rw [List.nodup_cons, List.nodup_cons]
        refine ⟨?_, fun q => hbb (List.mem_of_mem_erase q), hnd.erase d⟩
        rw [List.mem_cons]
        rintro (q | q)
        · exact hbc q.symm
        · exact hcb (List.mem_of_mem_erase q)
      have h2 := nodup_len (m := nbG (gone s t) d) h1 fun q hq => by
        rw [nbG_mem wg]
        rcases List.mem_cons.mp hq with rfl | hq
        · rw [tie_comm]; exact hd
        rcases List.mem_cons.mp hq with rfl | hq
        · rw [tie_comm]; exact (nbG_mem wg).mp hdb
        · have h3 := (List.Nodup.mem_erase_iff hnd).mp hq
          rw [tie_comm]
          exact hall q (by rw [tie_comm]; exact (nbG_mem wg).mp h3.2) fun e => h3.1 e.symm
      rw [List.length_cons, List.length_cons, List.length_erase_of_mem hdb] at h2
      have := List.length_pos_of_mem hdb
      omega
    · have h1 : (c :: nbG (gone s t) b).Nodup := List.nodup_cons.mpr ⟨hcb, hnd⟩
      have h2 := nodup_len (m := nbG (gone s t) d) h1 fun q hq => by
        rw [nbG_mem wg]
        rcases List.mem_cons.mp hq with rfl | hq
        · rw [tie_comm]; exact hd
        · rw [tie_comm]
          exact hall q (by rw [tie_comm]; exact (nbG_mem wg).mp hq) fun e => hdb (e ▸ hq)
      rw [List.length_cons] at h2
      omega
/-- what the program makes of such a row -/
def nearBy (s t : List T2) (r : T4) : Option (Bool × T4) :=
  if tie r.1 r.2.2.2 ∉ s then some (true, (r.1, r.2.1, r.2.2.2, r.2.2.1)) else if tie r.1 r.2.2.2 ∈ t then some (false, (r.1, r.2.2.2, r.2.1, r.2.2.1)) else none
/-- an exchange of the first or of the second web that brings them nearer -/
def StepOk (s t : List T2) (r : Bool × T4) : Prop :=
  (r.1 = true ∧ Fits s r.2 ∧ (gone (leftL s r.2) t).length + 1 ≤ (gone s t).length) ∨ (r.1 = false ∧ Fits t r.2 ∧ (gone s (leftL t r.2)).length + 1 ≤ (gone s t).length)
theorem near_some {s t : List T2} {a b c d : Int} : (∃ r, nearBy s t (a, b, c, d) = some r) ↔ tie a d ∉ gone s t := by
  unfold nearBy
  rw [gone_mem]
  dsimp only
  by_cases h1 : tie a d ∈ s
  · rw [if_neg (fun q => q h1)]
    by_cases h2 : tie a d ∈ t
    · rw [if_pos h2]; exact ⟨fun _ q => q.2 h2, fun _ => ⟨_, rfl⟩⟩
    · rw [if_neg h2]; exact ⟨fun z => (by obtain ⟨r, z⟩ := z; cases z), fun q => absurd ⟨h1, h2⟩ q⟩
  · rw [if_pos h1]; exact ⟨fun _ q => h1 q.1, fun _ => ⟨_, rfl⟩⟩
theorem near_step {n : Nat} {s t : List T2} (h : Pair n s t) {a b c d : Int} (g : Near s t a b c d) {r : Bool × T4} (hr : nearBy s t (a, b, c, d) = some r) : StepOk s t r := by
  obtain ⟨ab, bc, cd, da⟩ := g
  have ab' := gone_mem.mp ab
  have bc' := gone_mem.mp bc
  have cd' := gone_mem.mp cd
  have n1 := tie_ne h.ws ab'.1
  have n2 := tie_ne h.wt bc'.1
  have n3 := tie_ne h.ws cd'.1
  have n4 : a ≠ c := fun e => by subst e; exact bc'.2 (by rw [tie_comm]; exact ab'.1)
  have n5 : b ≠ d := fun e => by subst e; exact bc'.2 (by rw [tie_comm]; exact cd'.1)
  have hlen : (tie a d :: ((gone s t).erase (tie a b)).erase (tie c d)).length + 1 ≤ (gone s t).length := by
    have h1 : tie c d ∈ (gone s t).erase (tie a b) := (List.mem_erase_of_ne (fun e => by rw [tie_eq] at e; omega)).mpr cd
    have l1 := List.length_erase_of_mem ab
    have l2 := List.length_erase_of_mem h1
    have p1 := List.length_pos_of_mem ab
    have p2 := List.length_pos_of_mem h1
    rw [List.length_cons]
    omega
  have hsub : ∀ {x : T2}, x ∈ gone s t → x ≠ tie a b → x ≠ tie c d → x ∈ tie a d :: ((gone s t).erase (tie a b)).erase (tie c d) := fun {x} hx e1 e2 => List.mem_cons_of_mem _ ((List.mem_erase_of_ne e2).mpr ((List.mem_erase_of_ne e1).mpr hx))
  unfold nearBy at hr
  dsimp only at hr
  by_cases h1 : tie a d ∈ s
  · rw [if_neg (fun q => q h1)] at hr
    by_cases h2 : tie a d ∈ t
    · rw [if_pos h2] at hr
      cases hr
      have hf : Fits t (a, d, b, c) := ⟨q4_nodup.mpr ⟨fun e => da e.symm, n1, n4, fun e => n5 e.symm, fun e => n3 e.symm, n2⟩, h2, bc'.1, ab'.2, by show tie d c ∉ t; rw [tie_comm]; exact cd'.2⟩
      refine .inr ⟨rfl, hf, ?_⟩
      have := nodup_len (m := tie a d :: ((gone s t).erase (tie a b)).erase (tie c d)) (gone_nodup (t := leftL t (a, d, b, c)) h.ws.nd) fun x hx => by
        obtain ⟨x1, x2⟩ := gone_mem.mp hx
        rw [left_mem] at x2
        dsimp only at x2
        by_cases e : x = tie a d
        · rw [e]; exact List.mem_cons_self
        · have e1 : x ≠ tie a b := fun q => x2 (.inr (.inl q))
          have e2 : x ≠ tie c d := fun q => x2 (.inr (.inr (by rw [tie_comm d c]; exact q)))
          have e3 : x ≠ tie b c := fun q => bc'.2 (q ▸ x1)
          exact hsub (gone_mem.mpr ⟨x1, fun q => x2 (.inl ⟨q, e, e3⟩)⟩) e1 e2
      exact Nat.le_trans (Nat.add_le_add_right this 1) hlen
    · rw [if_neg h2] at hr
      cases hr
  · rw [if_pos h1] at hr
    cases hr
    have hf : Fits s (a, b, d, c) := ⟨q4_nodup.mpr ⟨n1, fun e => da e.symm, n4, n5, n2, fun e => n3 e.symm⟩, ab'.1, by show tie d c ∈ s; rw [tie_comm]; exact cd'.1, h1, bc'.2⟩
    refine .inl ⟨rfl, hf, ?_⟩
    have := nodup_len (m := tie a d :: ((gone s t).erase (tie a b)).erase (tie c d)) (gone_nodup (t := t) (left_web h.ws hf).nd) fun x hx => by
      obtain ⟨x1, x2⟩ := gone_mem.mp hx
      rw [left_mem] at x1
      dsimp only at x1
      rcases x1 with ⟨y1, y2, y3⟩ | rfl | rfl
      · exact hsub (gone_mem.mpr ⟨y1, x2⟩) y2 fun q => y3 (by rw [tie_comm d c]; exact q)
      · exact List.mem_cons_self
      · exact absurd bc'.1 x2
    exact Nat.le_trans (Nat.add_le_add_right this 1) hlen
/-! rows of exchanges -/
def Led : List T2 → List T4 → List T2 → Prop
  | s, [], t => s = t
  | s, e :: es, t => Fits s e ∧ Led (leftL s e) es t
theorem led_app : ∀ {es fs : List T4} {s u t : List T2}, Led s es u → Led u fs t → Led s (es ++ fs) t
  | [], _, _, _, _, h, g => by
    have h : _ = _ := h
    subst h; exact g
  | _ :: _, _, _, _, _, h, g => ⟨h.1, led_app h.2 g⟩
def turn (e : T4) : T4 := (e.1, e.2.2.1, e.2.1, e.2.2.2)
theorem turn_fits {t : List T2} {e : T4} (h : Fits t e) : Fits (leftL t e) (turn e) := by
  obtain ⟨a, b, c, d⟩ := e
  obtain ⟨h0, h1, h2, h3, h4⟩ := h
  have h0 := q4_nodup.mp h0
  dsimp only at h0 h1 h2 h3 h4
  refine ⟨q4_nodup.mpr ?_, ?_, ?_, ?_, ?_⟩ <;> dsimp only [turn]
  · omega
  · exact left_mem.mpr (.inr (.inl rfl))
  · exact left_mem.mpr (.inr (.inr rfl))
  · rw [left_mem]
    dsimp only
    rintro (q | q | q)
    · exact q.2.1 rfl
    · rw [tie_eq] at q; omega
    · rw [tie_eq] at q; omega
  · rw [left_mem]
    dsimp only
    rintro (q | q | q)
    · exact q.2.2 rfl
    · rw [tie_eq] at q; omega
    · rw [tie_eq] at q; omega
theorem left_up (t : List T2) (e : T4) : srtT (leftL t e) = leftL t e := up_eq (srtT_perm _) (srtT_up _) (srtT_up _)
theorem turn_left {n : Nat} {t : List T2} (w : Web n t) (u : srtT t = t) {e : T4} (h : Fits t e) : leftL (leftL t e) (turn e) = t := by
  have w1 := left_web w h
  have f1 := turn_fits h
  have w2 := left_web w1 f1
  rw [← left_up (leftL t e) (turn e), ← u]
  refine (srtT_eq ?_)
  rw [u]
  refine (List.perm_ext_iff_of_nodup w2.nd w.nd).mpr fun x => ?_
  obtain ⟨a, b, c, d⟩ := e
  obtain ⟨h0, h1, h2, h3, h4⟩ := h
  dsimp only at h0 h1 h2 h3 h4
  rw [left_mem, left_mem]
  dsimp only [turn]
  constructor
  · rintro (⟨q1 | q1 | q1, q2, q3⟩ | q | q)
    · exact q1.1
    · exact absurd q1 q2
    · exact absurd q1 q3
    · rw [q]; exact h1
    · rw [q]; exact h2
  · intro hx
    by_cases e1 : x = tie a b
    · exact .inr (.inl e1)
    by_cases e2 : x = tie c d
    · exact .inr (.inr e2)
    exact .inl ⟨.inl ⟨hx, e1, e2⟩, fun q => h3 (q ▸ hx), fun q => h4 (q ▸ hx)⟩
theorem pair_left {n : Nat} {s t : List T2} (h : Pair n s t) {e : T4} (f : Fits s e) : Pair n (leftL s e) t := ⟨left_web h.ws f, h.wt, fun p => (left_deg h.ws f p).trans (h.dg p), left_up s e, h.ut⟩
theorem pair_right {n : Nat} {s t : List T2} (h : Pair n s t) {e : T4} (f : Fits t e) : Pair n s (leftL t e) := ⟨h.ws, left_web h.wt f, fun p => (h.dg p).trans (left_deg h.wt f p).symm, h.us, left_up t e⟩
/-- the way by what brings nearer -/
def wayR (nf : List T2 → List T2 → Option (Bool × T4)) : Nat → List T2 → List T2 → List T4
  | 0, _, _ => []
  | k + 1, s, t => if s = t then [] else match nf s t with
    | some (true, e) => e :: wayR nf k (leftL s e) t
    | some (false, e) => wayR nf k s (leftL t e) ++ [turn e]
    | none => []
theorem way_led {n : Nat} {nf : List T2 → List T2 → Option (Bool × T4)} (hn : ∀ s t, Pair n s t → s ≠ t → ∃ r, nf s t = some r ∧ StepOk s t r) : ∀ (k : Nat) (s t : List T2), Pair n s t → (gone s t).length ≤ k → Led s (wayR nf k s t) t ∧ (wayR nf k s t).length ≤ (gone s t).length
  | 0, s, t, h, hk => by
    have e : gone s t = [] := List.length_eq_zero_iff.mp (by omega)
    exact ⟨gone_eq h e, Nat.zero_le _⟩
  | k + 1, s, t, h, hk => by
    by_cases e : s = t
    · unfold wayR
      rw [if_pos e]
      exact ⟨e, Nat.zero_le _⟩
    · obtain ⟨⟨b, x⟩, e1, e2⟩ := hn s t h e
      unfold wayR
      rw [if_neg e, e1]
      rcases e2 with ⟨rfl, f, l⟩ | ⟨e3, f, l⟩
      · obtain ⟨i1, i2⟩ := way_led hn k (leftL s x) t (pair_left h f) (by dsimp only at l; omega)
        refine ⟨⟨f, i1⟩, ?_⟩
        dsimp only at l ⊢
        rw [List.length_cons]
        omega
      · dsimp only at e3
        subst e3
        obtain ⟨i1, i2⟩ := way_led hn k s (leftL t x) (pair_right h f) (by dsimp only at l; omega)
        refine ⟨led_app i1 ⟨turn_fits f, turn_left h.wt h.ut f⟩, ?_⟩
        dsimp only at l ⊢
        rw [List.length_append]
        show _ + 1 ≤ _
        omega
/-- there is one -/
theorem way_ex {n : Nat} {s t : List T2} (h : Pair n s t) : ∃ es, Led s es t := by
  classical
  refine ⟨_, (way_led (n := n) (nf := fun s t => if q : ∃ r, StepOk s t r then some (Classical.choose q) else none) (fun s t h hne => ?_) _ s t h (Nat.le_refl _)).1⟩
  obtain ⟨a, b, c, d, g, hg⟩ := near_ex h hne
  obtain ⟨r, hr⟩ := near_some.mpr hg
  have q : ∃ r, StepOk s t r := ⟨r, near_step h g hr⟩
  exact ⟨_, dif_pos q, Classical.choose_spec q⟩
end KW

namespace KW
open PySem TW
open Classical
/-! ### plain: how many pieces -/
theorem reach_sub {s t : List T2} (h : ∀ x ∈ s, Reach t x.1 x.2) {p q : Int} (r : Reach s p q) : Reach t p q := by
  induction r with
  | refl => exact .refl
  | step _ a ih =>
    rcases a with a | a
    · exact ih.trans (h _ a)
    · exact ih.trans (h _ a).symm
theorem reach_mono {s t : List T2} (h : ∀ x ∈ s, x ∈ t) {p q : Int} (r : Reach s p q) : Reach t p q := reach_sub (fun x hx => Reach.one (.inl (h x hx))) r
theorem reach_cons {ts : List T2} {t : T2} {p q : Int} : Reach (t :: ts) p q ↔ Reach ts p q ∨ (Reach ts p t.1 ∧ Reach ts t.2 q) ∨ (Reach ts p t.2 ∧ Reach ts t.1 q) := by
  have mono : ∀ {x y : Int}, Reach ts x y → Reach (t :: ts) x y := fun r => reach_mono (fun x hx => List.mem_cons_of_mem _ hx) r
  have ht : Reach (t :: ts) t.1 t.2 := Reach.one (.inl List.mem_cons_self)
  constructor
  · intro r
    induction r with
    | refl => exact .inl .refl
    | @step q r _ a ih =>
      have a' : Adj ts q r ∨ (q = t.1 ∧ r = t.2) ∨ (q = t.2 ∧ r = t.1) := by
        rcases a with a | a
        · rcases List.mem_cons.mp a with e | a
          · exact .inr (.inl ⟨congrArg Prod.fst e, congrArg Prod.snd e⟩)
          · exact .inl (.inl a)
        · rcases List.mem_cons.mp a with e | a
          · exact .inr (.inr ⟨congrArg Prod.snd e, congrArg Prod.fst e⟩)
          · exact .inl (.inr a)
      rcases a' with a | ⟨rfl, rfl⟩ | ⟨rfl, rfl⟩
      · rcases ih with ih | ⟨i1, i2⟩ | ⟨i1, i2⟩
        · exact .inl (ih.step a)
        · exact .inr (.inl ⟨i1, i2.step a⟩)
        · exact .inr (.inr ⟨i1, i2.step a⟩)
      · rcases ih with ih | ⟨i1, i2⟩ | ⟨i1, i2⟩
        · exact .inr (.inl ⟨ih, .refl⟩)
        · exact .inr (.inl ⟨i1, .refl⟩)
        · exact .inl i1
      · rcases ih with ih | ⟨i1, i2⟩ | ⟨i1, i2⟩
        · exact .inr (.inr ⟨ih, .refl⟩)
        · exact .inl i1
        · exact .inr (.inr ⟨i1, .refl⟩)
  · rintro (r | ⟨r1, r2⟩ | ⟨r1, r2⟩)
    · exact mono r
    · exact ((mono r1).trans ht).trans (mono r2)
    · exact ((mono r1).trans ht.symm).trans (mono r2)
noncomputable def cntP (n : Nat) (ties : List T2) : Nat := ((ptsL n).filter fun p => decide (IsLeast ties p)).length
theorem pieces_cnt (n : Nat) (ties : List T2) : (piecesL n ties).length = cntP n ties := by
  unfold piecesL piecesTo cntP
  rw [List.length_map]
theorem cnt_le (n : Nat) (ties : List T2) : cntP n ties ≤ n := by
  unfold cntP
  have := List.length_filter_le (fun p => decide (IsLeast ties p)) (ptsL n)
  rwa [pts_len] at this
theorem filter_drop {M : Int} {P P' : Int → Bool} : ∀ {l : List Int}, l.Nodup → M ∈ l → P M = true → (∀ x ∈ l, P' x = (P x && !decide (x = M))) → (l.filter P').length + 1 = (l.filter P).length
  | [], _, h, _, _ => by cases h
  | x :: l, hn, hm, hp, h => by
    have hx := h x List.mem_cons_self
    have hn' := List.nodup_cons.mp hn
    by_cases e : x = M
    · subst e
      have e2 : l.filter P' = l.filter P := List.filter_congr fun y hy => by
        rw [h y (List.mem_cons_of_mem _ hy), decide_eq_false (fun q : y = x => hn'.1 (q ▸ hy))]
        simp
      rw [List.filter_cons, List.filter_cons, hp, if_pos rfl, hx, hp, e2]
      simp
    · have hm' : M ∈ l := (List.mem_cons.mp hm).resolve_left (fun q => e q.symm)
      have ih := filter_drop hn'.2 hm' hp fun y hy => h y (List.mem_cons_of_mem _ hy)
      rw [decide_eq_false e, Bool.not_false, Bool.and_true] at hx
      rw [List.filter_cons, List.filter_cons, hx]
      cases P x with
      | true => simp only [if_true, List.length_cons]; omega
      | false => simpa using ih
/-- two pieces made one -/
theorem cnt_merge {n : Nat} {s s' : List T2} {a c : Int} (ha : 0 ≤ a ∧ a < n) (hc : 0 ≤ c ∧ c < n) (hn : ¬ Reach s a c)
    (h : ∀ p q, Reach s' p q ↔ Reach s p q ∨ (Reach s p a ∧ Reach s c q) ∨ (Reach s p c ∧ Reach s a q)) : cntP n s' + 1 = cntP n s := by
  obtain ⟨m1, a0, a1, a2, a3⟩ := least_of s n a ha.2 ha.1
  obtain ⟨m2, c0, c1, c2, c3⟩ := least_of s n c hc.2 hc.1
  have hne : m1 ≠ m2 := fun e => hn (a2.trans (e ▸ c2.symm))
  have key : ∀ {a c m1 m2 : Int}, 0 ≤ m1 → m1 < m2 → m2 < n → Reach s a m1 → IsLeast s m1 → Reach s c m2 → IsLeast s m2 →
      (∀ p q, Reach s' p q ↔ Reach s p q ∨ (Reach s p a ∧ Reach s c q) ∨ (Reach s p c ∧ Reach s a q)) → cntP n s' + 1 = cntP n s := by
    intro a c m1 m2 h0 hlt hm2 r1 l1 r2 l2 h
    unfold cntP
    refine filter_drop (M := m2) (pts_nodup n) (pts_mem.mpr (by omega)) (decide_eq_true l2) fun p hp => ?_
    have hp := pts_mem.mp hp
    rw [Bool.eq_iff_iff, Bool.and_eq_true, Bool.not_eq_true', decide_eq_true_iff, decide_eq_true_iff, decide_eq_false_iff_not]
    constructor
    · intro q
      refine ⟨fun x x0 x1 r => q x x0 x1 ((h p x).mpr (.inl r)), ?_⟩
      rintro rfl
      exact q m1 h0 hlt ((h p m1).mpr (.inr (.inr ⟨r2.symm, r1⟩)))
    · rintro ⟨q, hne⟩ x x0 x1 r
      rcases (h p x).mp r with r | ⟨g1, g2⟩ | ⟨g1, g2⟩
      · exact q x x0 x1 r
      · have e1 : ¬ m1 < p := fun z => q m1 h0 z (g1.trans r1)
        have e3 : ¬ p < m1 := fun z => l1 p hp.1 z (r1.symm.trans g1.symm)
        have e2 : ¬ x < m2 := fun z => l2 x x0 z (r2.symm.trans g2)
        omega
      · have e1 : ¬ m2 < p := fun z => q m2 (by omega) z (g1.trans r2)
        have e3 : ¬ p < m2 := fun z => l2 p hp.1 z (r2.symm.trans g1.symm)
        omega
  by_cases hlt : m1 < m2
  · exact key a0 hlt (by omega) a2 a3 c2 c3 h
  · exact key (a := c) (c := a) c0 (by omega) (by omega) c2 c3 a2 a3 fun p q => (h p q).trans ⟨fun z => z.elim .inl fun z => .inr z.symm, fun z => z.elim .inl fun z => .inr z.symm⟩
theorem reach_nil {p q : Int} (r : Reach [] p q) : p = q := by
  induction r with
  | refl => rfl
  | step _ a _ => rcases a with a | a <;> cases a
theorem cnt_nil (n : Nat) : cntP n [] = n := by
  unfold cntP
  rw [List.filter_eq_self.mpr, pts_len]
  intro p _
  exact decide_eq_true fun q _ q1 r => by have := reach_nil r; omega
/-- the others of a tie -/
def othersL (ties : List T2) (t : T2) : List T2 := ties.filter fun x => !decide (x = t)
theorem others_mem {ties : List T2} {t x : T2} : x ∈ othersL ties t ↔ x ∈ ties ∧ x ≠ t := by
  unfold othersL
  rw [List.mem_filter, Bool.not_eq_true', decide_eq_false_iff_not]
theorem forest {n : Nat} : ∀ {ts : List T2}, ts.Nodup → (∀ t ∈ ts, 0 ≤ t.1 ∧ t.1 < t.2 ∧ t.2 < (n : Int)) → (∀ t ∈ ts, ¬ Reach (othersL ts t) t.1 t.2) → cntP n ts + ts.length = n
  | [], _, _, _ => cnt_nil n
  | t :: ts, hn, hr, h => by
    have hn' := List.nodup_cons.mp hn
    have ih := forest hn'.2 (fun x hx => hr x (List.mem_cons_of_mem _ hx)) fun u hu r => h u (List.mem_cons_of_mem _ hu) (reach_mono (fun x hx => others_mem.mpr ⟨List.mem_cons_of_mem _ (others_mem.mp hx).1, (others_mem.mp hx).2⟩) r)
    have ht := hr t List.mem_cons_self
    have hb : ¬ Reach ts t.1 t.2 := fun r => h t List.mem_cons_self (reach_mono (fun x hx => others_mem.mpr ⟨List.mem_cons_of_mem _ hx, fun e => hn'.1 (by rw [← e]; exact hx)⟩) r)
    have := cnt_merge (n := n) (s := ts) (s' := t :: ts) (a := t.1) (c := t.2) (by omega) (by omega) hb fun p q => reach_cons
    rw [List.length_cons]
    omega
/-- a tie in a ring -/
def InRing (ties : List T2) (t : T2) : Prop := Reach (othersL ties t) t.1 t.2
theorem ring_ex {n : Nat} {ties : List T2} (w : Web n ties) (h2 : 2 ≤ cntP n ties) (hl : n ≤ ties.length + 1) : ∃ t ∈ ties, InRing ties t := by
  apply Classical.byContradiction
  intro h
  have := forest w.nd w.r fun t ht r => h ⟨t, ht, r⟩
  omega
theorem adj_tie {ties : List T2} {a b : Int} (h : tie a b ∈ ties) : Adj ties a b := by
  unfold tie at h
  rcases Int.le_total a b with e | e
  · rw [Int.min_eq_left e, Int.max_eq_right e] at h
    exact .inl h
  · rw [Int.min_eq_right e, Int.max_eq_left e] at h
    exact .inr h
theorem tie_adj {n : Nat} {ties : List T2} (w : Web n ties) {a b : Int} (h : Adj ties a b) : tie a b ∈ ties := by
  rcases h with h | h
  · rwa [tie_lt (w.r _ h).2.1]
  · rw [tie_comm, tie_lt (w.r _ h).2.1]
    exact h
/-- an exchange that makes one piece of two -/
theorem join_step {n : Nat} {ties : List T2} (w : Web n ties) {a b c d : Int} (hab : (a, b) ∈ ties) (hring : InRing ties (a, b)) (hcd : (c, d) ∈ ties) (hnc : ¬ Reach ties a c) :
    Fits ties (a, b, c, d) ∧ cntP n (leftL ties (a, b, c, d)) + 1 = cntP n ties := by
  have rab : Reach ties a b := Reach.one (.inl hab)
  have rcd : Reach ties c d := Reach.one (.inl hcd)
  have r1 := w.r _ hab
  have r2 := w.r _ hcd
  dsimp only at r1 r2
  have hF : Fits ties (a, b, c, d) := by
    refine ⟨q4_nodup.mpr ⟨by dsimp only; omega, fun e => hnc ?_, fun e => hnc ?_, fun e => hnc ?_, fun e => hnc ?_, by dsimp only; omega⟩, ?_, ?_, fun z => hnc ?_, fun z => hnc ?_⟩
    · rw [show a = c from e]; exact .refl
    · rw [show a = d from e]; exact rcd.symm
    · rw [show b = c from e] at rab; exact rab
    · rw [show b = d from e] at rab; exact rab.trans rcd.symm
    · rw [tie_lt r1.2.1]; exact hab
    · rw [tie_lt r2.2.1]; exact hcd
    · exact Reach.one (adj_tie z)
    · exact (rab.trans (Reach.one (adj_tie z))).trans rcd.symm
  refine ⟨hF, ?_⟩
  have tab := tie_lt r1.2.1
  have tcd := tie_lt r2.2.1
  have new : ∀ x, x ∈ ties → x ≠ (a, b) → x ≠ (c, d) → x ∈ leftL ties (a, b, c, d) := fun x hx h1 h2 => left_mem.mpr (.inl ⟨hx, by dsimp only; rw [tab]; exact h1, by dsimp only; rw [tcd]; exact h2⟩)
  have nac : Reach (leftL ties (a, b, c, d)) a c := Reach.one (adj_tie (left_mem.mpr (.inr (.inl rfl))))
  have nbd : Reach (leftL ties (a, b, c, d)) b d := Reach.one (adj_tie (left_mem.mpr (.inr (.inr rfl))))
  have nab : Reach (leftL ties (a, b, c, d)) a b := by
    have aux : ∀ {q : Int}, Reach (othersL ties (a, b)) a q → Reach ties a q ∧ Reach (leftL ties (a, b, c, d)) a q := fun {q} r => by
      induction r with
      | refl => exact ⟨.refl, .refl⟩
      | @step q r _ g ih =>
        obtain ⟨i1, i2⟩ := ih
        have hx : ∀ x : T2, x ∈ othersL ties (a, b) → (x.1 = q ∨ x.2 = q) → x ∈ leftL ties (a, b, c, d) := fun x hx hq => by
          obtain ⟨x1, x2⟩ := others_mem.mp hx
          refine new x x1 x2 ?_
          rintro rfl
          rcases hq with hq | hq
          · exact hnc (by rw [show c = q from hq]; exact i1)
          · have : d = q := hq
            rw [← this] at i1
            exact hnc (i1.trans rcd.symm)
        have g' : Adj ties q r := g.elim (fun z => .inl (others_mem.mp z).1) (fun z => .inr (others_mem.mp z).1)
        refine ⟨i1.step g', i2.step ?_⟩
        rcases g with z | z
        · exact .inl (hx _ z (.inl rfl))
        · exact .inr (hx _ z (.inr rfl))
    exact (aux hring).2
  refine cnt_merge (a := a) (c := c) (by omega) (by omega) hnc fun p q => ?_
  rw [← reach_cons (t := (a, c))]
  constructor
  · refine reach_sub fun x hx => ?_
    have m : ∀ {x y : Int}, Reach ties x y → Reach ((a, c) :: ties) x y := fun r => reach_mono (fun x hx => List.mem_cons_of_mem _ hx) r
    have hac : Reach ((a, c) :: ties) a c := Reach.one (.inl List.mem_cons_self)
    rcases left_mem.mp hx with h | h | h
    · exact Reach.one (.inl (List.mem_cons_of_mem _ h.1))
    · rw [h]
      simp only [tie]
      rcases Int.le_total a c with e | e
      · rw [Int.min_eq_left e, Int.max_eq_right e]; exact hac
      · rw [Int.min_eq_right e, Int.max_eq_left e]; exact hac.symm
    · have hbd : Reach ((a, c) :: ties) b d := ((m rab).symm.trans hac).trans (m rcd)
      rw [h]
      simp only [tie]
      rcases Int.le_total b d with e | e
      · rw [Int.min_eq_left e, Int.max_eq_right e]; exact hbd
      · rw [Int.min_eq_right e, Int.max_eq_left e]; exact hbd.symm
  · refine reach_sub fun x hx => ?_
    rcases List.mem_cons.mp hx with rfl | hx
    · exact nac
    · by_cases e1 : x = (a, b)
      · rw [e1]; exact nab
      · by_cases e2 : x = (c, d)
        · rw [e2]; exact (nac.symm.trans nab).trans nbd
        · exact Reach.one (.inl (new x hx e1 e2))
/-! ### the row of them -/
noncomputable def ringT (ties : List T2) : T2 := (ties.find? fun t => decide (InRing ties t)).getD (0, 0)
noncomputable def farL (n : Nat) (ties : List T2) (a : Int) : List T2 := ties.filter fun t => !decide (t.1 ∈ compL n ties a)
noncomputable def joinT (n : Nat) (ties : List T2) : T4 := ((ringT ties).1, (ringT ties).2, ((farL n ties (ringT ties).1).headD (0, 0)).1, ((farL n ties (ringT ties).1).headD (0, 0)).2)
/-- of which one that hangs together can be made -/
structure JoinOk (n : Nat) (ties : List T2) : Prop where
  w : Web n ties
  n1 : 1 ≤ n
  n10 : n ≤ 10
  deg : 1 < n → ∀ p : Int, 0 ≤ p → p < n → degI ties p ≠ 0
  len : n ≤ ties.length + 1
theorem ringT_ok {n : Nat} {ties : List T2} (h : JoinOk n ties) (h2 : 2 ≤ cntP n ties) : ties.find? (fun t => decide (InRing ties t)) = some (ringT ties) ∧ ringT ties ∈ ties ∧ InRing ties (ringT ties) := by
  obtain ⟨t, ht, hr⟩ := ring_ex h.w h2 h.len
  cases e : ties.find? (fun t => decide (InRing ties t)) with
  | none => exact absurd (decide_eq_true hr) (List.find?_eq_none.mp e t ht)
  | some u =>
    have e2 : ringT ties = u := by unfold ringT; rw [e]; rfl
    rw [e2]
    exact ⟨rfl, List.mem_of_find?_eq_some e, of_decide_eq_true (List.find?_some (p := fun t => decide (InRing ties t)) e)⟩
theorem far_ok {n : Nat} {ties : List T2} (h : JoinOk n ties) (h2 : 2 ≤ cntP n ties) {a : Int} (ha : 0 ≤ a ∧ a < n) : ∃ u us, farL n ties a = u :: us ∧ u ∈ ties ∧ ¬ Reach ties a u.1 := by
  have hp : ∃ p, (0 ≤ p ∧ p < (n : Int)) ∧ ¬ Reach ties a p := by
    apply Classical.byContradiction
    intro hno
    have hall : ∀ p, 0 ≤ p → p < (n : Int) → Reach ties a p := fun p p0 p1 => Classical.byContradiction fun q => hno ⟨p, ⟨p0, p1⟩, q⟩
    obtain ⟨m, m0, m1, m2, m3⟩ := least_of ties n a ha.2 ha.1
    have hle : cntP n ties ≤ 1 := by
      unfold cntP
      have hsub : ∀ x ∈ (ptsL n).filter fun p => decide (IsLeast ties p), x ∈ [m] := fun x hx => by
        obtain ⟨x1, x2⟩ := List.mem_filter.mp hx
        have x1 := pts_mem.mp x1
        have x2 : IsLeast ties x := of_decide_eq_true x2
        have r : Reach ties x m := (hall x x1.1 x1.2).symm.trans m2
        have e1 : ¬ m < x := fun z => x2 m m0 z r
        have e2 : ¬ x < m := fun z => m3 x x1.1 z r.symm
        exact List.mem_singleton.mpr (by omega)
      exact nodup_len ((pts_nodup n).sublist List.filter_sublist) hsub
    omega
  obtain ⟨p, hp, hr⟩ := hp
  have hn1 : 1 < n := by
    have := cnt_le n ties
    omega
  have hd := h.deg hn1 p hp.1 hp.2
  have hex : ∃ t ∈ ties, p ∈ [t.1, t.2] := by
    unfold degI at hd
    obtain ⟨t, ht⟩ := List.exists_mem_of_length_pos (Nat.pos_of_ne_zero hd)
    obtain ⟨t1, t2⟩ := List.mem_filter.mp ht
    exact ⟨t, t1, of_decide_eq_true t2⟩
  obtain ⟨t, ht, htp⟩ := hex
  have rt : Reach ties t.1 t.2 := Reach.one (.inl ht)
  have htr : ¬ Reach ties a t.1 := fun z => by
    simp only [List.mem_cons, List.not_mem_nil, or_false] at htp
    rcases htp with rfl | rfl
    · exact hr z
    · exact hr (z.trans rt)
  have hmem : t ∈ farL n ties a := List.mem_filter.mpr ⟨ht, by rw [Bool.not_eq_true', decide_eq_false_iff_not, comp_mem h.w ha]; exact htr⟩
  cases e : farL n ties a with
  | nil => rw [e] at hmem; cases hmem
  | cons u us =>
    have hu : u ∈ farL n ties a := by rw [e]; exact List.mem_cons_self
    obtain ⟨u1, u2⟩ := List.mem_filter.mp hu
    rw [Bool.not_eq_true', decide_eq_false_iff_not, comp_mem h.w ha] at u2
    exact ⟨u, us, rfl, u1, u2⟩
theorem joinT_ok {n : Nat} {ties : List T2} (h : JoinOk n ties) (h2 : 2 ≤ cntP n ties) : Fits ties (joinT n ties) ∧ cntP n (leftL ties (joinT n ties)) + 1 = cntP n ties ∧ JoinOk n (leftL ties (joinT n ties)) := by
  obtain ⟨_, h3, h4⟩ := ringT_ok h h2
  have hr := h.w.r _ h3
  obtain ⟨u, us, e, h5, h6⟩ := far_ok h h2 (a := (ringT ties).1) (by omega)
  have e2 : joinT n ties = ((ringT ties).1, (ringT ties).2, u.1, u.2) := by unfold joinT; rw [e]; rfl
  obtain ⟨g1, g2⟩ := join_step h.w (a := (ringT ties).1) (b := (ringT ties).2) (c := u.1) (d := u.2) h3 h4 h5 h6
  rw [← e2] at g1 g2
  exact ⟨g1, g2, ⟨left_web h.w g1, h.n1, h.n10, fun hn p p0 p1 => by rw [left_deg h.w g1]; exact h.deg hn p p0 p1, by rw [left_len h.w g1]; exact h.len⟩⟩
noncomputable def hereAt (n : Nat) (ties : List T2) : Nat → List T2
  | 0 => srtT ties
  | k + 1 => leftL (hereAt n ties k) (joinT n (hereAt n ties k))
noncomputable def rowAt (n : Nat) (ties : List T2) (k : Nat) : T4 := joinT n (hereAt n ties k)
noncomputable def joinM (n : Nat) (ties : List T2) : Nat := cntP n ties - 1
noncomputable def joinF (n : Nat) (ties : List T2) : List T4 := (List.range (joinM n ties)).map (rowAt n ties)
theorem reach_perm {s t : List T2} (h : s.Perm t) {p q : Int} : Reach s p q ↔ Reach t p q := ⟨reach_mono fun _ hx => h.mem_iff.mp hx, reach_mono fun _ hx => h.mem_iff.mpr hx⟩
theorem cnt_perm {s t : List T2} (h : s.Perm t) (n : Nat) : cntP n s = cntP n t := by
  unfold cntP
  congr 1
  refine List.filter_congr fun p _ => ?_
  rw [decide_eq_decide]
  exact ⟨fun z q q0 q1 r => z q q0 q1 ((reach_perm h).mpr r), fun z q q0 q1 r => z q q0 q1 ((reach_perm h).mp r)⟩
theorem web_perm {n : Nat} {s t : List T2} (h : s.Perm t) (w : Web n t) : Web n s := ⟨fun x hx => w.r x (h.mem_iff.mp hx), h.nodup_iff.mpr w.nd⟩
theorem cnt_pos {n : Nat} (ties : List T2) (h : 1 ≤ n) : 1 ≤ cntP n ties := by
  unfold cntP
  have : (0 : Int) ∈ (ptsL n).filter fun p => decide (IsLeast ties p) := List.mem_filter.mpr ⟨pts_mem.mpr (by omega), decide_eq_true fun q q0 q1 => by omega⟩
  exact List.length_pos_of_mem this
theorem joinOk_srt {n : Nat} {ties : List T2} (h : JoinOk n ties) : JoinOk n (srtT ties) := ⟨web_perm (srtT_perm ties) h.w, h.n1, h.n10, fun hn p p0 p1 => by rw [degI_perm (srtT_perm ties)]; exact h.deg hn p p0 p1, by rw [(srtT_perm ties).length_eq]; exact h.len⟩
theorem here_ok {n : Nat} {ties : List T2} (h : JoinOk n ties) : ∀ k, k ≤ joinM n ties → JoinOk n (hereAt n ties k) ∧ cntP n (hereAt n ties k) + k = cntP n ties
  | 0, _ => ⟨joinOk_srt h, by show cntP n (srtT ties) + 0 = _; rw [cnt_perm (srtT_perm ties)]; rfl⟩
  | k + 1, hk => by
    obtain ⟨i1, i2⟩ := here_ok h k (by omega)
    have h2 : 2 ≤ cntP n (hereAt n ties k) := by
      unfold joinM at hk; omega
    obtain ⟨_, g2, g3⟩ := joinT_ok i1 h2
    refine ⟨g3, ?_⟩
    show cntP n (leftL _ _) + (k + 1) = _
    omega
theorem row_ok {n : Nat} {ties : List T2} (h : JoinOk n ties) {k : Nat} (hk : k < joinM n ties) : 2 ≤ cntP n (hereAt n ties k) ∧ Fits (hereAt n ties k) (rowAt n ties k) ∧ cntP n (hereAt n ties (k + 1)) + 1 = cntP n (hereAt n ties k) := by
  obtain ⟨i1, i2⟩ := here_ok h k (by omega)
  have h2 : 2 ≤ cntP n (hereAt n ties k) := by
    unfold joinM at hk; omega
  obtain ⟨g1, g2, _⟩ := joinT_ok i1 h2
  exact ⟨h2, g1, g2⟩
/-- all ties are told twice -/
theorem sum_ind (n : Nat) (a : Int) (ha : 0 ≤ a ∧ a < n) : ((List.range n).map fun (p : Nat) => if (p : Int) = a then (1 : Int) else 0).sum = 1 := by
  have key : ∀ m : Nat, ((List.range m).map fun (p : Nat) => if (p : Int) = a then (1 : Int) else 0).sum = if a < m then 1 else 0 := by
    intro m
    induction m with
    | zero => rw [if_neg (by omega)]; rfl
    | succ m ih =>
      rw [List.range_succ, List.map_append, List.sum_append, ih]
      simp only [List.map_cons, List.map_nil, List.sum_cons, List.sum_nil]
      by_cases h1 : a < m
      · rw [if_pos h1, if_neg (by omega), if_pos (by omega)]; rfl
      · by_cases h2 : (m : Int) = a
        · rw [if_neg h1, if_pos h2, if_pos (by omega)]; rfl
        · rw [if_neg h1, if_neg h2, if_neg (by omega)]; rfl
  rw [key, if_pos ha.2]
theorem sum_add (l : List Nat) (f g : Nat → Int) : (l.map fun p => f p + g p).sum = (l.map f).sum + (l.map g).sum := by
  induction l with
  | nil => rfl
  | cons x l ih => simp only [List.map_cons, List.sum_cons, ih]; omega
theorem counts_sum {n : Nat} : ∀ {ties : List T2}, (∀ t ∈ ties, 0 ≤ t.1 ∧ t.1 < t.2 ∧ t.2 < (n : Int)) → (countsL n ties).sum = 2 * (ties.length : Int)
  | [], _ => by
    unfold countsL degI
    simp only [List.filter_nil, List.length_nil]
    induction n with
    | zero => rfl
    | succ m ih => rw [List.range_succ, List.map_append, List.sum_append, ih (fun t ht => by cases ht)]; rfl
  | t :: ties, h => by
    have ht := h t List.mem_cons_self
    have ih := counts_sum (n := n) (ties := ties) fun x hx => h x (List.mem_cons_of_mem _ hx)
    have e : ∀ p : Nat, (degI (t :: ties) (p : Int) : Int) = ((if (p : Int) = t.1 then 1 else 0) + (if (p : Int) = t.2 then 1 else 0)) + (degI ties (p : Int) : Int) := fun p => by
      have := degI_app [tie t.1 t.2] ties (p : Int)
      rw [tie_lt ht.2.1] at this
      have e2 := degI_one t.1 t.2 (p : Int) (by omega)
      rw [tie_lt ht.2.1] at e2
      rw [show t :: ties = [(t.1, t.2)] ++ ties from rfl, this, e2]
      (repeat' split) <;> omega
    unfold countsL at ih ⊢
    rw [List.map_congr_left fun p _ => e p, sum_add, sum_add, sum_ind n t.1 (by omega), sum_ind n t.2 (by omega), ih, List.length_cons]
    omega
end KW

namespace KW
open PySem PySem.Spec PyProof.Rows L2 TW
local macro_rules | `(tactic| walk_at "bo") => `(tactic| first | with_reducible exact o_add | with_reducible exact o_sub | with_reducible exact o_lt | with_reducible exact o_le | with_reducible exact o_gt | with_reducible exact o_ge | with_reducible exact o_eqI | with_reducible exact o_neI | with_reducible refine o_mod ?_ <;> omega | with_reducible refine o_fdiv ?_ ?_ <;> omega | with_reducible exact o_isN | with_reducible exact o_notN | exact o_add | exact o_sub | exact o_lt | exact o_le | exact o_gt | exact o_ge | exact o_eqI | exact o_neI | exact o_mod (by omega) | exact o_fdiv (by omega) (by omega) | exact o_mul (.inl (by omega)) | exact o_mul (.inr (by omega)) | exact o_eqS | exact o_neS | exact o_eqB | exact o_neB | exact o_isN | exact o_notN | exact o_cat rfl rfl (by walk_at "le"))
local macro_rules | `(tactic| walk_at "le") => `(tactic| first | decide | omega | (simp only [List.length_append, List.length_cons, List.length_nil, List.length_map, List.length_take, List.length_drop, List.length_range]; omega))
local macro_rules | `(tactic| walk_at "rg") => `(tactic| first | omega | decide)
local macro_rules | `(tactic| walk_at "bc") => `(tactic| first | exact c_len rfl | exact c_min2 rfl | exact c_max2 rfl | exact c_sum rfl rfl | exact c_any rfl rfl | exact c_all rfl rfl | exact c_list (tup := true) (.inl rfl) | exact c_list (tup := true) (.inr rfl) | exact c_tuple rfl | exact c_intB)
local macro_rules | `(tactic| walk_at "sl") => `(tactic| first | exact s_take rfl | exact s_drop rfl)
local macro_rules | `(tactic| walk_at "ns") => `(tactic| first | assumption | rfl)
local macro_rules | `(tactic| walk_at "bk") => `(tactic| first | rfl | decide +kernel)
local macro_rules | `(tactic| walk_at "wk") => `(tactic| repeat (first | exact trivial | refine ⟨Or.inl rfl, ?_⟩ | refine ⟨Or.inr rfl, ?_⟩))
local macro_rules | `(tactic| walk_at "pre") => `(tactic| first | trivial | assumption)
local macro_rules | `(tactic| walk_at "ix") => `(tactic| first | exact x_list rfl rfl | exact x_tup rfl)
section
variable {P : Program} {w : World} {K : KF} {mg : Str → Option Value} {base : Heap} {f : Addr} {fd : FuncData}
section
variable {X : Cx} {b : Bs} {env : PEnv} {R : Out} {rest : List Stmt} {e e1 e2 c : Expr} {d : PD} {ds : List PD} {pos : Pos}
/-- three rows that end where they meet -/
theorem bl_J3 {s1 s2 s3 : Stmt} (mid : PEnv) (h : (∀ e', wk e' mid → BlP X b rest e' R) → BlP X b (s1 :: s2 :: s3 :: rest) env R) (kk : BlP X b rest mid R) : BlP X b (s1 :: s2 :: s3 :: rest) env R := h fun _ w => bl_wk kk w
def rInsert : V → List V → Hp → VK → Prop := fun x vs H Q => ∃ (l : Addr) (xs : List V) (i : Int) (y : V), x = .ref l ∧ vs = [.int i, y] ∧ H l = some (.lst xs) ∧ xs.length < sizeLine ∧ 0 ≤ i ∧ i < 2 ^ 63 ∧
    Q .non (upd H l (.lst (xs.take i.toNat ++ [y] ++ xs.drop i.toNat)))
theorem mt_insert' : MtR X "list.insert" rInsert := mt_insert
/-- xs.insert(j, y) -/
theorem bl_insert {es : List Expr} {i : Nat} {j : Int} (hp : PE X c (tBM X.K "list" rInsert (tVar i) (semA X es))) (he : env[i]? = some (some (.own ds))) (h : ArS X b es env [.int j, d]) (h0 : 0 ≤ j) (hj : j < 1000000) (hl : ds.length ≤ 1000000) (k : BlP X b rest (env.set i (some (.own (ds.take j.toNat ++ [d] ++ ds.drop j.toNat)))) R)
    (hs : swapsWith c none pos.line X.env = pure false := by rfl) : BlP X b (.Expr c pos :: rest) env R := bl_cons fun σ G H D E y => by
  refine sem_s (ps_expr hp hs) ?_
  obtain ⟨a, vs, q1, q2, q3, q4⟩ := E.mut he
  refine ⟨_, q1, .inl ⟨rfl, _, SqL.of q2⟩, h σ G H _ E fun ws G1 H1 z q => ?_⟩
  cases q with
  | cons q5 q6 =>
    cases q6 with
    | cons q6 q7 =>
      cases q7
      rw [dp_int q5]
      have q3' := dpAll_mono z.g _ _ q3
      exact ⟨a, vs, j, _, rfl, rfl, z.h.app q2, small_lt (by rw [dpAll_len q3]; exact hl), h0, by omega, y.nx _ _ G1 _ k (q4 G1 H1 _ _ z (dpAll_app (dpAll_app (dpAll_take _ q3') (dpAll_one q6)) (dpAll_drop _ q3')))⟩
/-- xs.index(k) of ints -/
theorem ev_indexI {o : Expr} {es : List Expr} {r : RV} {ns : List Int} {k : Int} {j : Nat} (hp : PE X c (tBM X.K "list" (rIndex X.K) (semE X o) (semA X es))) (ho : EvP X b o env r) (hr : r = .sh (.list (ns.map .int))) (h : ArS X b es env [.int k]) (hj : ns[j]? = some k) (hno : ∀ m, m < j → ns[m]? ≠ some k) : EvP X b c env (.sh (.int (j : Nat))) := fun σ G H Q E kk => by
  subst hr
  refine sem_e hp ?_
  refine ho σ G H _ E fun v G1 H1 x1 q1 => ?_
  obtain ⟨a, xs, rfl, h1, h2⟩ := dp_list q1
  have h3 := dpAll_ints h2
  subst h3
  refine ⟨.inl ⟨rfl, _, SqL.of (x1.s.app h1)⟩, h σ G1 H1 _ (E.ext x1) fun ws G2 H2 x2 q => ?_⟩
  cases q with
  | cons q5 q6 =>
    cases q6
    rw [dp_int q5]
    refine ⟨a, ns.map V.int, .int k, j, .int k, rfl, rfl, SqL.of (x2.h.app (x1.s.app h1)), rfl, ?_, by rw [List.getElem?_map, hj]; rfl, by simp [eqV], fun m z' hm hz => ?_, kk _ G2 H2 (x1.trans x2) (.int _)⟩
    · rw [List.all_map]; exact List.all_eq_true.mpr fun _ _ => rfl
    · rw [List.getElem?_map] at hz
      obtain ⟨y, hy, rfl⟩ := Option.map_eq_some_iff.mp hz
      have := hno m hm
      rw [hy] at this
      simp [eqV]
      exact fun q => this (by rw [q])
/-- a tuple of one frozen thing and a list of one's own -/
theorem ev_tupPre {j : Nat} (h1 : EvS X b e1 env d) (h2 : EvP X b e2 env (.own ds)) (hs1 : starEach [e1, e2] X.env = (false, eval e1 X.env) :: starEach [e2] X.env := by rfl) (hs2 : starEach [e2] X.env = (false, eval e2 X.env) :: starEach [] X.env := by rfl) : EvP X b (.Tuple [e1, e2] j pos) env (.box true [d] ds []) := fun σ G H Q E kk => by
  refine sem_e (pe_tup (pa_cons pe_sem (pa_cons pe_sem pa_nil hs2) hs1)) ?_
  refine h1 σ G H _ E fun v1 G1 H1 x1 q1 => ?_
  refine h2 σ G1 H1 _ (E.ext x1) fun v2 G2 H2 x2 q2 => ?_
  obtain ⟨a, rfl, o1, o2, vs, o3, o4⟩ := q2
  refine ⟨small_line (by show 2 ≤ 1000000; decide), fun p hp => ?_⟩
  have hne : a ≠ p := fun z => by rw [z, hp] at o3; cases o3
  have sm : SameK G2 (upd G2 p (.tup [v1, .ref a])) := same_new (x2.s.free hp)
  refine kk (.ref p) _ _ ((x1.trans x2).trans (Ext.new x2.s hp)) ⟨p, a, [v1], [], rfl, upd_same, .cons (dp_mono (x2.g.trans sm) _ _ q1) .nil, .nil, x1.h.free o1, ?_, vs, ?_, dpAll_mono sm _ _ o4⟩
  · rw [upd_ne hne]; exact o2
  · rw [upd_ne hne]; exact o3
/-- .. told of two names: the first one's own -/
theorem bl_retBoxL (i : Nat) {x : Str} {p : Pos} {j : Nat} {tpos : Pos} (he : env[i]? = some (some (.own ds))) (h2 : EvS X b e2 env d) (k : R.rt (.box true [] ds [d])) (hN : X.N[i]? = some x := by rfl) (hv : Vis X.env.scope x := by first | exact Or.inl rfl | exact Or.inr (Or.inl rfl) | exact Or.inr (Or.inr rfl))
    (hd : (x == ("__debug__" : Str)) = false := by decide) (hcd : (x == ("__classdict__" : Str)) = false := by decide) (hs1 : starEach [.Name x p, e2] X.env = (false, eval (.Name x p) X.env) :: starEach [e2] X.env := by rfl) (hs2 : starEach [e2] X.env = (false, eval e2 X.env) :: starEach [] X.env := by rfl) : BlP X b (.Return (some (.Tuple [.Name x p, e2] j tpos)) pos :: rest) env R := bl_cons fun σ G H D E y => by
  refine sem_s (ps_ret (pe_tup (pa_cons (pe_var hN hv hd hcd) (pa_cons pe_sem pa_nil hs2) hs1))) ?_
  obtain ⟨v, e1, q⟩ := E.get he
  refine ⟨v, e1, h2 σ G H _ E fun v2 G2 H2 x2 q2 => ?_⟩
  obtain ⟨a, rfl, q⟩ := q
  obtain ⟨o1, o2, vs, o3, o4⟩ := q.ext x2
  refine ⟨small_line (by show 2 ≤ 1000000; decide), fun p hp => ?_⟩
  have hne : a ≠ p := fun z => by rw [z, hp] at o3; cases o3
  have sm : SameK G2 (upd G2 p (.tup [.ref a, v2])) := same_new (x2.s.free hp)
  refine y.rt _ (.ref p) _ _ k (E.x.trans (x2.trans (Ext.new x2.s hp))) ⟨p, a, [], [v2], rfl, upd_same, .nil, .cons (dp_mono sm _ _ q2) .nil, o1, ?_, vs, ?_, dpAll_mono sm _ _ o4⟩
  · rw [upd_ne hne]; exact o2
  · rw [upd_ne hne]; exact o3
/-- .. the second one's own -/
theorem bl_retBoxR (i : Nat) {x : Str} {p : Pos} {j : Nat} {tpos : Pos} (he : env[i]? = some (some (.own ds))) (h1 : EvS X b e1 env d) (k : R.rt (.box true [d] ds [])) (hN : X.N[i]? = some x := by rfl) (hv : Vis X.env.scope x := by first | exact Or.inl rfl | exact Or.inr (Or.inl rfl) | exact Or.inr (Or.inr rfl))
    (hd : (x == ("__debug__" : Str)) = false := by decide) (hcd : (x == ("__classdict__" : Str)) = false := by decide) (hs1 : starEach [e1, .Name x p] X.env = (false, eval e1 X.env) :: starEach [.Name x p] X.env := by rfl) (hs2 : starEach [.Name x p] X.env = (false, eval (.Name x p) X.env) :: starEach [] X.env := by rfl) : BlP X b (.Return (some (.Tuple [e1, .Name x p] j tpos)) pos :: rest) env R := bl_cons fun σ G H D E y => by
  refine sem_s (ps_ret (pe_tup (pa_cons pe_sem (pa_cons (pe_var hN hv hd hcd) pa_nil hs2) hs1))) ?_
  refine h1 σ G H _ E fun v1 G2 H2 x2 q2 => ?_
  obtain ⟨v, e1, q⟩ := (E.ext x2).get he
  refine ⟨v, e1, ?_⟩
  obtain ⟨a, rfl, o1, o2, vs, o3, o4⟩ := q
  refine ⟨small_line (by show 2 ≤ 1000000; decide), fun p hp => ?_⟩
  have hne : a ≠ p := fun z => by rw [z, hp] at o3; cases o3
  have sm : SameK G2 (upd G2 p (.tup [v1, .ref a])) := same_new (x2.s.free hp)
  refine y.rt _ (.ref p) _ _ k (E.x.trans (x2.trans (Ext.new x2.s hp))) ⟨p, a, [v1], [], rfl, upd_same, .cons (dp_mono sm _ _ q2) .nil, .nil, o1, ?_, vs, ?_, dpAll_mono sm _ _ o4⟩
  · rw [upd_ne hne]; exact o2
  · rw [upd_ne hne]; exact o3
/-- the own list of a tuple that no one else knows -/
theorem ev_ixBoxL {post : List PD} {j : Nat} {p2 : Pos} (ha : EvP X b e1 env (.box true [] ds post)) : EvP X b (.Subscript e1 (.Constant (.int 0) j p2) pos) env (.own ds) := fun σ G H Q E k => by
  refine sem_e (pe_ix ix_tup pe_sem pe_int (by exact fun _ _ => rfl)) (ha σ G H _ E fun v1 G1 H1 x1 q1 => ?_)
  obtain ⟨t, a, us, ws, rfl, h1, h2, h3, o⟩ := q1
  cases h2
  exact ⟨t, _, 0, .ref a, rfl, rfl, SqT.of (x1.s.app h1), atI_nat (j := 0) rfl, k _ G1 H1 x1 ⟨a, rfl, o⟩⟩
theorem ev_ixBoxR {d0 : PD} {post : List PD} {j : Nat} {p2 : Pos} (ha : EvP X b e1 env (.box true [d0] ds post)) : EvP X b (.Subscript e1 (.Constant (.int 1) j p2) pos) env (.own ds) := fun σ G H Q E k => by
  refine sem_e (pe_ix ix_tup pe_sem pe_int (by exact fun _ _ => rfl)) (ha σ G H _ E fun v1 G1 H1 x1 q1 => ?_)
  obtain ⟨t, a, us, ws, rfl, h1, h2, h3, o⟩ := q1
  cases h2 with
  | cons h4 h5 =>
    cases h5
    exact ⟨t, _, 1, .ref a, rfl, rfl, SqT.of (x1.s.app h1), atI_nat (j := 1) rfl, k _ G1 H1 x1 ⟨a, rfl, o⟩⟩
end
theorem ts_wk {X : Cx} {b : Bs} {env env' : PEnv} {e : Expr} {k : Bool} (w : wk env env') (h : TsP X b e env' k) : TsP X b e env k := fun σ G H Q E kk => h σ G H Q (E.wk w) kk
/-- the last one -/
theorem at_last (ds : List PD) (d : PD) : atI (ds ++ [d]) (-1) = some d := by
  have e : ixN (ds ++ [d]).length (-1) = some ds.length := by
    unfold ixN
    rw [if_neg (by decide), if_pos (by rw [List.length_append]; show _ ≤ _; simp; omega), List.length_append]
    congr 1
    show ((-1 : Int) + ((ds.length + 1 : Nat) : Int)).toNat = _
    omega
  unfold atI
  rw [e]
  show (ds ++ [d])[ds.length]? = some d
  rw [List.getElem?_append_right (Nat.le_refl _), Nat.sub_self]
  rfl
end
end KW

namespace KW
open PySem PySem.Spec PyProof.Rows L2 TW
local macro_rules | `(tactic| walk_at "bo") => `(tactic| first | with_reducible exact o_add | with_reducible exact o_sub | with_reducible exact o_lt | with_reducible exact o_le | with_reducible exact o_gt | with_reducible exact o_ge | with_reducible exact o_eqI | with_reducible exact o_neI | with_reducible refine o_mod ?_ <;> omega | with_reducible refine o_fdiv ?_ ?_ <;> omega | with_reducible exact o_isN | with_reducible exact o_notN | exact o_add | exact o_sub | exact o_lt | exact o_le | exact o_gt | exact o_ge | exact o_eqI | exact o_neI | exact o_mod (by omega) | exact o_fdiv (by omega) (by omega) | exact o_mul (.inl (by omega)) | exact o_mul (.inr (by omega)) | exact o_eqS | exact o_neS | exact o_eqB | exact o_neB | exact o_isN | exact o_notN | exact o_cat rfl rfl (by walk_at "le"))
local macro_rules | `(tactic| walk_at "le") => `(tactic| first | decide | omega | (simp only [List.length_append, List.length_cons, List.length_nil, List.length_map, List.length_take, List.length_drop, List.length_range]; omega))
local macro_rules | `(tactic| walk_at "rg") => `(tactic| first | omega | decide)
local macro_rules | `(tactic| walk_at "bc") => `(tactic| first | exact c_len rfl | exact c_min2 rfl | exact c_max2 rfl | exact c_sum rfl rfl | exact c_any rfl rfl | exact c_all rfl rfl | exact c_list (tup := true) (.inl rfl) | exact c_list (tup := true) (.inr rfl) | exact c_tuple rfl | exact c_intB)
local macro_rules | `(tactic| walk_at "sl") => `(tactic| first | exact s_take rfl | exact s_drop rfl)
local macro_rules | `(tactic| walk_at "ns") => `(tactic| first | assumption | rfl)
local macro_rules | `(tactic| walk_at "bk") => `(tactic| first | rfl | decide +kernel)
local macro_rules | `(tactic| walk_at "wk") => `(tactic| repeat (first | exact trivial | refine ⟨Or.inl rfl, ?_⟩ | refine ⟨Or.inr rfl, ?_⟩))
local macro_rules | `(tactic| walk_at "pre") => `(tactic| first | trivial | assumption)
local macro_rules | `(tactic| walk_at "ix") => `(tactic| first | exact x_list rfl rfl | exact x_tup rfl)
section
variable {P : Program} {w : World} {K : KF} {mg : Str → Option Value} {base : Heap} {f : Addr} {fd : FuncData}
abbrev n_left_by : List Str := ["ties", "exchange", "a", "b", "c", "d", "kept", "tie"]
theorem sc_left_by : FnScope n_left_by ["ties", "exchange"] (defScope s_left_by) := ⟨rfl, rfl, rfl, by decide +kernel, rfl, by decide +kernel, by decide +kernel⟩
abbrev F_left_by (P : Program) (w : World) (K : KF) (mg : Str → Option Value) (base : Heap) : Prop :=
  Fn P w K mg base "left_by" 2 ["ties", "exchange"] (spF K (fun z : List T2 × T4 => z.1.length ≤ 1000) (fun z => [.list (z.1.map p2), p4 z.2]) fun z => .ret (.own ((leftL z.1 z.2).map p2)))
theorem ok_left_by (F : Fun K "left_by" "left_by" s_left_by f fd) (hm : mg "left_by" = some (.ref f)) (hb : Binds K fd ["ties", "exchange"] []) (T : Bt mg) (h_tied : F_tied P w K mg base) : F_left_by P w K mg base := by
  refine fn_pure F hm hb sc_left_by (fun _ => rfl) fun cdv A outer s G H E ⟨ties, a, b, c, d⟩ hr hl hE => ?_
  have hN := sc_left_by.nd
  have hl : ties.length ≤ 1000 := hl
  have hu : ∀ X' : Cx, X'.A = (bodyX P ‹World› K mg base n_left_by "left_by" s_left_by f cdv A outer s H E).A → X'.A.units + 64 < cLine := fun X' e => by rw [e]; have := hr.un; show (A.deeper _).units + 64 < cLine; omega
  have hk : ((keepX ties (a, b, c, d)).map p2).length ≤ 1000 := by
    rw [List.length_map]; exact Nat.le_trans (List.length_filter_le _ _) hl
  refine bl_unp (evS_sh (ev_nsh (i := 1) rfl)) (tg_tup rfl (tgs_cons (tg_name 2 hN) (tgs_cons (tg_name 3 hN) (tgs_cons (tg_name 4 hN) (tgs_cons (tg_name 5 hN) tgs_nil))))) ?_
  refine bl_setLc (r := .own ((keepX ties (a, b, c, d)).map p2)) (xs := ties) (enc := p2) (f := fun x => if keepB (a, b, c, d) x then some (p2 x) else none) (own := [("tie", 7)]) 6 rfl hN (blkOk_by (by walk_at "bk")) (sw_true rfl rfl rfl rfl) (it_list (evS_sh (ev_nsh (i := 0) rfl))) (by omega) (fun z hz => turn_if (fun _ _ _ _ _ => tw_name 7 hN) (fun _ _ _ _ _ => (ts_w (tw_and (ts_cmp (ev_nsh (i := 7) rfl) (ev_call h_tied (a, b) hr trivial (as_cons (evS_sh (ev_nsh (i := 2) rfl)) (as_cons (evS_sh (ev_nsh (i := 3) rfl)) as_nil)) rfl) (o_neG good_p2 (hu _ (by rfl)) z (tie a b) (by rfl) (by rfl))) fun h1 => (tw_and1 (ts_cmp (ev_nsh (i := 7) rfl) (ev_call h_tied (c, d) hr trivial (as_cons (evS_sh (ev_nsh (i := 4) rfl)) (as_cons (evS_sh (ev_nsh (i := 5) rfl)) as_nil)) rfl) (o_neG good_p2 (hu _ (by rfl)) z (tie c d) (by rfl) (by rfl))))))) (fun h => fun _ _ _ _ _ => (evS_sh (ev_nsh (i := 7) rfl)))) (.inl (by rw [filterMap_if]; rfl)) ?_
  refine bl_ret (ev_bi T.sorted (c_sortP2 (ls := keepX ties (a, b, c, d) ++ [tie a c, tie b d]) (hu _ (by rfl)) (by rw [List.map_append]; rfl)) (ar_cons (ev_bin (r := .own ((keepX ties (a, b, c, d)).map p2 ++ [p2 (tie a c), p2 (tie b d)])) (ev_name (i := 6) rfl) (ev_lst (as_cons (evS_sh (ev_call h_tied (a, c) hr trivial (as_cons (evS_sh (ev_nsh (i := 2) rfl)) (as_cons (evS_sh (ev_nsh (i := 4) rfl)) as_nil)) rfl)) (as_cons (evS_sh (ev_call h_tied (b, d) hr trivial (as_cons (evS_sh (ev_nsh (i := 3) rfl)) (as_cons (evS_sh (ev_nsh (i := 5) rfl)) as_nil)) rfl)) as_nil))) (o_cat rfl rfl (by show _ + 2 ≤ 1000000; omega))) ar_nil)) rfl
end
end KW

namespace KW
open PySem PySem.Spec PyProof.Rows L2 TW
local macro_rules | `(tactic| walk_at "bo") => `(tactic| first | with_reducible exact o_add | with_reducible exact o_sub | with_reducible exact o_lt | with_reducible exact o_le | with_reducible exact o_gt | with_reducible exact o_ge | with_reducible exact o_eqI | with_reducible exact o_neI | with_reducible refine o_mod ?_ <;> omega | with_reducible refine o_fdiv ?_ ?_ <;> omega | with_reducible exact o_isN | with_reducible exact o_notN | exact o_add | exact o_sub | exact o_lt | exact o_le | exact o_gt | exact o_ge | exact o_eqI | exact o_neI | exact o_mod (by omega) | exact o_fdiv (by omega) (by omega) | exact o_mul (.inl (by omega)) | exact o_mul (.inr (by omega)) | exact o_eqS | exact o_neS | exact o_eqB | exact o_neB | exact o_isN | exact o_notN | exact o_cat rfl rfl (by walk_at "le"))
local macro_rules | `(tactic| walk_at "le") => `(tactic| first | decide | omega | (simp only [List.length_append, List.length_cons, List.length_nil, List.length_map, List.length_take, List.length_drop, List.length_range]; omega))
local macro_rules | `(tactic| walk_at "rg") => `(tactic| first | omega | decide)
local macro_rules | `(tactic| walk_at "bc") => `(tactic| first | exact c_len rfl | exact c_min2 rfl | exact c_max2 rfl | exact c_sum rfl rfl | exact c_any rfl rfl | exact c_all rfl rfl | exact c_list (tup := true) (.inl rfl) | exact c_list (tup := true) (.inr rfl) | exact c_tuple rfl | exact c_intB)
local macro_rules | `(tactic| walk_at "sl") => `(tactic| first | exact s_take rfl | exact s_drop rfl)
local macro_rules | `(tactic| walk_at "ns") => `(tactic| first | assumption | rfl)
local macro_rules | `(tactic| walk_at "bk") => `(tactic| first | rfl | decide +kernel)
local macro_rules | `(tactic| walk_at "wk") => `(tactic| repeat (first | exact trivial | refine ⟨Or.inl rfl, ?_⟩ | refine ⟨Or.inr rfl, ?_⟩))
local macro_rules | `(tactic| walk_at "pre") => `(tactic| first | trivial | assumption)
local macro_rules | `(tactic| walk_at "ix") => `(tactic| first | exact x_list rfl rfl | exact x_tup rfl)
section
variable {P : Program} {w : World} {K : KF} {mg : Str → Option Value} {base : Heap} {f : Addr} {fd : FuncData}
abbrev n_beside : List Str := ["ties", "point", "one", "other"]
theorem sc_beside : FnScope n_beside ["ties", "point"] (defScope s_beside) := ⟨rfl, rfl, rfl, by decide +kernel, rfl, by decide +kernel, by decide +kernel⟩
def nbs (ties : List T2) (p : Int) : List Int := (ties.filter fun t => decide (p = t.1) || decide (p = t.2)).map fun t => t.1 + t.2 - p
def besideL (ties : List T2) (p : Int) : List Int := asc (nbs ties p)
theorem nbs_len (ties : List T2) (p : Int) : (nbs ties p).length = degI ties p := by
  unfold nbs degI
  rw [List.length_map]
  congr 1
  refine List.filter_congr fun t _ => ?_
  rw [Bool.eq_iff_iff]
  simp
theorem beside_len (ties : List T2) (p : Int) : (besideL ties p).length = degI ties p := (asc_len _).trans (nbs_len ties p)
theorem beside_mem {ties : List T2} {p q : Int} : q ∈ besideL ties p ↔ Adj ties p q := by
  unfold besideL
  rw [(asc_perm _).mem_iff]
  unfold nbs Adj
  simp only [List.mem_map, List.mem_filter, Bool.or_eq_true, decide_eq_true_eq]
  constructor
  · rintro ⟨⟨a, b⟩, ⟨h1, h2 | h2⟩, rfl⟩
    · subst h2; left
      show (p, p + b - p) ∈ ties
      rw [show p + b - p = b by omega]; exact h1
    · subst h2; right
      show (a + p - p, p) ∈ ties
      rw [show a + p - p = a by omega]; exact h1
  · rintro (h | h)
    · exact ⟨(p, q), ⟨h, .inl rfl⟩, by show p + q - p = q; omega⟩
    · exact ⟨(q, p), ⟨h, .inr rfl⟩, by show q + p - p = q; omega⟩
abbrev F_beside (P : Program) (w : World) (K : KF) (mg : Str → Option Value) (base : Heap) : Prop :=
  Fn P w K mg base "beside" 1 ["ties", "point"] (spF K (fun z : List T2 × Int => z.1.length ≤ 1000 ∧ degI z.1 z.2 < 64) (fun z => [.list (z.1.map p2), .int z.2]) fun z => .ret (.own ((besideL z.1 z.2).map .int)))
theorem ok_beside (F : Fun K "beside" "beside" s_beside f fd) (hm : mg "beside" = some (.ref f)) (hb : Binds K fd ["ties", "point"] []) (T : Bt mg) : F_beside P w K mg base := by
  refine fn_pure F hm hb sc_beside (fun _ => rfl) fun cdv A outer s G H E ⟨ties, p⟩ hr ⟨h1, h2⟩ hE => ?_
  have hN := sc_beside.nd
  dsimp only at h1 h2 ⊢
  refine bl_ret (ev_bi T.sorted (c_sortI (ns := nbs ties p) (ms := besideL ties p) (by exact (congrArg PyData.list (List.map_map (f := fun t : T2 => t.1 + t.2 - p) (g := PyData.int)).symm)) (by rw [nbs_len]; exact h2) (asc_perm _) (asc_up _)) (ar_cons (ev_lcF (xs := ties) (enc := p2) (p := fun t => decide (p = t.1) || decide (p = t.2)) (g := fun t => .int (t.1 + t.2 - p)) (own := [("one", 2), ("other", 3)]) rfl hN (blkOk_by (by walk_at "bk")) (it_list (evS_sh (ev_nsh (i := 0) rfl))) (by omega) fun z hz => turn_if (fun _ _ _ _ _ => tw_tup rfl (tws_cons (tw_name 2 hN) (tws_cons (tw_name 3 hN) tws_nil))) (fun _ _ _ _ _ => (ts_w (tw_or (ts_cmp (ev_nsh (i := 1) rfl) (ev_nsh (i := 2) rfl) (by walk_at "bo")) fun h1 => (tw_or1 (ts_cmp (ev_nsh (i := 1) rfl) (ev_nsh (i := 3) rfl) (by walk_at "bo")))))) (fun h => fun _ _ _ _ _ => (evS_sh (ev_bin (ev_bin (ev_nsh (i := 2) rfl) (ev_nsh (i := 3) rfl) (by walk_at "bo")) (ev_nsh (i := 1) rfl) (by walk_at "bo"))))) ar_nil)) rfl
end
end KW

namespace KW
open PySem PySem.Spec PyProof.Rows L2 TW
local macro_rules | `(tactic| walk_at "bo") => `(tactic| first | with_reducible exact o_add | with_reducible exact o_sub | with_reducible exact o_lt | with_reducible exact o_le | with_reducible exact o_gt | with_reducible exact o_ge | with_reducible exact o_eqI | with_reducible exact o_neI | with_reducible refine o_mod ?_ <;> omega | with_reducible refine o_fdiv ?_ ?_ <;> omega | with_reducible exact o_isN | with_reducible exact o_notN | exact o_add | exact o_sub | exact o_lt | exact o_le | exact o_gt | exact o_ge | exact o_eqI | exact o_neI | exact o_mod (by omega) | exact o_fdiv (by omega) (by omega) | exact o_mul (.inl (by omega)) | exact o_mul (.inr (by omega)) | exact o_eqS | exact o_neS | exact o_eqB | exact o_neB | exact o_isN | exact o_notN | exact o_cat rfl rfl (by walk_at "le"))
local macro_rules | `(tactic| walk_at "le") => `(tactic| first | decide | omega | (simp only [List.length_append, List.length_cons, List.length_nil, List.length_map, List.length_take, List.length_drop, List.length_range]; omega))
local macro_rules | `(tactic| walk_at "rg") => `(tactic| first | omega | decide)
local macro_rules | `(tactic| walk_at "bc") => `(tactic| first | exact c_len rfl | exact c_min2 rfl | exact c_max2 rfl | exact c_sum rfl rfl | exact c_any rfl rfl | exact c_all rfl rfl | exact c_list (tup := true) (.inl rfl) | exact c_list (tup := true) (.inr rfl) | exact c_tuple rfl | exact c_intB)
local macro_rules | `(tactic| walk_at "sl") => `(tactic| first | exact s_take rfl | exact s_drop rfl)
local macro_rules | `(tactic| walk_at "ns") => `(tactic| first | assumption | rfl)
local macro_rules | `(tactic| walk_at "bk") => `(tactic| first | rfl | decide +kernel)
local macro_rules | `(tactic| walk_at "wk") => `(tactic| repeat (first | exact trivial | refine ⟨Or.inl rfl, ?_⟩ | refine ⟨Or.inr rfl, ?_⟩))
local macro_rules | `(tactic| walk_at "pre") => `(tactic| first | trivial | assumption)
local macro_rules | `(tactic| walk_at "ix") => `(tactic| first | exact x_list rfl rfl | exact x_tup rfl)
section
variable {P : Program} {w : World} {K : KF} {mg : Str → Option Value} {base : Heap} {f : Addr} {fd : FuncData}
abbrev n_counts_by : List Str := ["size", "ties", "point"]
theorem sc_counts_by : FnScope n_counts_by ["size", "ties"] (defScope s_counts_by) := ⟨rfl, rfl, rfl, by decide +kernel, rfl, by decide +kernel, by decide +kernel⟩
abbrev F_counts_by (P : Program) (w : World) (K : KF) (mg : Str → Option Value) (base : Heap) : Prop :=
  Fn P w K mg base "counts_by" 2 ["size", "ties"] (spF K (fun z : Nat × List T2 => Web z.1 z.2 ∧ z.1 ≤ 10) (fun z => [.int z.1, .list (z.2.map p2)]) fun z => .ret (.own ((countsL z.1 z.2).map .int)))
theorem ok_counts_by (F : Fun K "counts_by" "counts_by" s_counts_by f fd) (hm : mg "counts_by" = some (.ref f)) (hb : Binds K fd ["size", "ties"] []) (T : Bt mg) (h_beside : F_beside P w K mg base) : F_counts_by P w K mg base := by
  refine fn_pure F hm hb sc_counts_by (fun _ => rfl) fun cdv A outer s G H E ⟨n, ties⟩ hr ⟨w, h2⟩ hE => ?_
  have hN := sc_counts_by.nd
  dsimp only at w h2 ⊢
  refine bl_ret (evP_r (ev_lcM (xs := List.range n) (enc := natD) (g := fun p => .int (degI ties (p : Int))) (own := [("point", 2)]) rfl hN (blkOk_by (by walk_at "bk")) (it_rng (j := (n : Int)) T.range (ar_cons (ev_nsh (i := 0) rfl) ar_nil) (by omega)) (by rw [List.length_range]; omega) fun z hz => turn_all (fun _ _ _ _ _ => tw_name 2 hN) (fun _ _ _ _ _ => (evS_sh (ev_bi T.len (c_len (n := degI ties (z : Int)) (by show some _ = some _; rw [List.length_map, beside_len])) (ar_cons (ev_call h_beside (ties, (z : Int)) hr ⟨by show ties.length ≤ 1000; have := (w.deg h2 0).2; omega, (w.deg h2 z).1⟩ (as_cons (evS_sh (ev_nsh (i := 1) rfl)) (as_cons (evS_sh (ev_nsh (i := 2) rfl)) as_nil)) rfl) ar_nil))))) ?_) rfl
  unfold countsL
  rw [List.map_map]
  rfl
end
end KW

namespace KW
open PySem PySem.Spec PyProof.Rows L2 TW
local macro_rules | `(tactic| walk_at "bo") => `(tactic| first | with_reducible exact o_add | with_reducible exact o_sub | with_reducible exact o_lt | with_reducible exact o_le | with_reducible exact o_gt | with_reducible exact o_ge | with_reducible exact o_eqI | with_reducible exact o_neI | with_reducible refine o_mod ?_ <;> omega | with_reducible refine o_fdiv ?_ ?_ <;> omega | with_reducible exact o_isN | with_reducible exact o_notN | exact o_add | exact o_sub | exact o_lt | exact o_le | exact o_gt | exact o_ge | exact o_eqI | exact o_neI | exact o_mod (by omega) | exact o_fdiv (by omega) (by omega) | exact o_mul (.inl (by omega)) | exact o_mul (.inr (by omega)) | exact o_eqS | exact o_neS | exact o_eqB | exact o_neB | exact o_isN | exact o_notN | exact o_cat rfl rfl (by walk_at "le"))
local macro_rules | `(tactic| walk_at "le") => `(tactic| first | decide | omega | (simp only [List.length_append, List.length_cons, List.length_nil, List.length_map, List.length_take, List.length_drop, List.length_range]; omega))
local macro_rules | `(tactic| walk_at "rg") => `(tactic| first | omega | decide)
local macro_rules | `(tactic| walk_at "bc") => `(tactic| first | exact c_len rfl | exact c_min2 rfl | exact c_max2 rfl | exact c_sum rfl rfl | exact c_any rfl rfl | exact c_all rfl rfl | exact c_list (tup := true) (.inl rfl) | exact c_list (tup := true) (.inr rfl) | exact c_tuple rfl | exact c_intB)
local macro_rules | `(tactic| walk_at "sl") => `(tactic| first | exact s_take rfl | exact s_drop rfl)
local macro_rules | `(tactic| walk_at "ns") => `(tactic| first | assumption | rfl)
local macro_rules | `(tactic| walk_at "bk") => `(tactic| first | rfl | decide +kernel)
local macro_rules | `(tactic| walk_at "wk") => `(tactic| repeat (first | exact trivial | refine ⟨Or.inl rfl, ?_⟩ | refine ⟨Or.inr rfl, ?_⟩))
local macro_rules | `(tactic| walk_at "pre") => `(tactic| first | trivial | assumption)
local macro_rules | `(tactic| walk_at "ix") => `(tactic| first | exact x_list rfl rfl | exact x_tup rfl)
section
variable {P : Program} {w : World} {K : KF} {mg : Str → Option Value} {base : Heap} {f : Addr} {fd : FuncData}
abbrev n_lacking : List Str := ["one", "other", "tie"]
theorem sc_lacking : FnScope n_lacking ["one", "other"] (defScope s_lacking) := ⟨rfl, rfl, rfl, by decide +kernel, rfl, by decide +kernel, by decide +kernel⟩
abbrev F_lacking (P : Program) (w : World) (K : KF) (mg : Str → Option Value) (base : Heap) : Prop :=
  Fn P w K mg base "lacking" 1 ["one", "other"] (spF K (fun z : List T2 × List T2 => z.1.length ≤ 1000) (fun z => [.list (z.1.map p2), .list (z.2.map p2)]) fun z => .ret (.own ((gone z.1 z.2).map p2)))
theorem ok_lacking (F : Fun K "lacking" "lacking" s_lacking f fd) (hm : mg "lacking" = some (.ref f)) (hb : Binds K fd ["one", "other"] []) (T : Bt mg) : F_lacking P w K mg base := by
  refine fn_pure F hm hb sc_lacking (fun _ => rfl) fun cdv A outer s G H E ⟨one, other⟩ hr hl hE => ?_
  have hN := sc_lacking.nd
  have hl : one.length ≤ 1000 := hl
  have hu : ∀ X' : Cx, X'.A = (bodyX P ‹World› K mg base n_lacking "lacking" s_lacking f cdv A outer s H E).A → X'.A.units + 65 < cLine := fun X' e => by rw [e]; have := hr.un; show (A.deeper _).units + 65 < cLine; omega
  exact bl_ret (ev_lcF (xs := one) (enc := p2) (p := fun x => !decide (x ∈ other)) (g := p2) (own := [("tie", 2)]) rfl hN (blkOk_by (by walk_at "bk")) (it_list (evS_sh (ev_nsh (i := 0) rfl))) (by omega) fun z hz => turn_if (fun _ _ _ _ _ => tw_name 2 hN) (fun _ _ _ _ _ => (ts_cmp (ev_nsh (i := 2) rfl) (ev_nsh (i := 1) rfl) (o_notInP (hu _ (by rfl)) z other (by rfl) (by rfl)))) (fun h => fun _ _ _ _ _ => (evS_sh (ev_nsh (i := 2) rfl)))) rfl
end
end KW

namespace KW
open PySem PySem.Spec PyProof.Rows L2 TW
local macro_rules | `(tactic| walk_at "bo") => `(tactic| first | with_reducible exact o_add | with_reducible exact o_sub | with_reducible exact o_lt | with_reducible exact o_le | with_reducible exact o_gt | with_reducible exact o_ge | with_reducible exact o_eqI | with_reducible exact o_neI | with_reducible refine o_mod ?_ <;> omega | with_reducible refine o_fdiv ?_ ?_ <;> omega | with_reducible exact o_isN | with_reducible exact o_notN | exact o_add | exact o_sub | exact o_lt | exact o_le | exact o_gt | exact o_ge | exact o_eqI | exact o_neI | exact o_mod (by omega) | exact o_fdiv (by omega) (by omega) | exact o_mul (.inl (by omega)) | exact o_mul (.inr (by omega)) | exact o_eqS | exact o_neS | exact o_eqB | exact o_neB | exact o_isN | exact o_notN | exact o_cat rfl rfl (by walk_at "le"))
local macro_rules | `(tactic| walk_at "le") => `(tactic| first | decide | omega | (simp only [List.length_append, List.length_cons, List.length_nil, List.length_map, List.length_take, List.length_drop, List.length_range]; omega))
local macro_rules | `(tactic| walk_at "rg") => `(tactic| first | omega | decide)
local macro_rules | `(tactic| walk_at "bc") => `(tactic| first | exact c_len rfl | exact c_min2 rfl | exact c_max2 rfl | exact c_sum rfl rfl | exact c_any rfl rfl | exact c_all rfl rfl | exact c_list (tup := true) (.inl rfl) | exact c_list (tup := true) (.inr rfl) | exact c_tuple rfl | exact c_intB)
local macro_rules | `(tactic| walk_at "sl") => `(tactic| first | exact s_take rfl | exact s_drop rfl)
local macro_rules | `(tactic| walk_at "ns") => `(tactic| first | assumption | rfl)
local macro_rules | `(tactic| walk_at "bk") => `(tactic| first | rfl | decide +kernel)
local macro_rules | `(tactic| walk_at "wk") => `(tactic| repeat (first | exact trivial | refine ⟨Or.inl rfl, ?_⟩ | refine ⟨Or.inr rfl, ?_⟩))
local macro_rules | `(tactic| walk_at "pre") => `(tactic| first | trivial | assumption)
local macro_rules | `(tactic| walk_at "ix") => `(tactic| first | exact x_list rfl rfl | exact x_tup rfl)
section
variable {P : Program} {w : World} {K : KF} {mg : Str → Option Value} {base : Heap} {f : Addr} {fd : FuncData}
abbrev n_nearer_by : List Str := ["one", "other", "row", "a", "b", "c", "d"]
theorem sc_nearer_by : FnScope n_nearer_by ["one", "other", "row"] (defScope s_nearer_by) := ⟨rfl, rfl, rfl, by decide +kernel, rfl, by decide +kernel, by decide +kernel⟩
def nearD : Option (Bool × T4) → PD
  | none => .none
  | some r => .tuple [.bool r.1, p4 r.2]
abbrev F_nearer_by (P : Program) (w : World) (K : KF) (mg : Str → Option Value) (base : Heap) : Prop :=
  Fn P w K mg base "nearer_by" 2 ["one", "other", "row"] (spF K (fun _ : List T2 × List T2 × T4 => True) (fun z => [.list (z.1.map p2), .list (z.2.1.map p2), p4 z.2.2]) fun z => .ret (.sh (nearD (nearBy z.1 z.2.1 z.2.2))))
theorem ok_nearer_by (F : Fun K "nearer_by" "nearer_by" s_nearer_by f fd) (hm : mg "nearer_by" = some (.ref f)) (hb : Binds K fd ["one", "other", "row"] []) (T : Bt mg) (h_tied : F_tied P w K mg base) : F_nearer_by P w K mg base := by
  refine fn_pure F hm hb sc_nearer_by (fun _ => rfl) fun cdv A outer s G H E ⟨one, other, a, b, c, d⟩ hr hz hE => ?_
  have hN := sc_nearer_by.nd
  have hu : ∀ X' : Cx, X'.A = (bodyX P ‹World› K mg base n_nearer_by "nearer_by" s_nearer_by f cdv A outer s H E).A → X'.A.units + 65 < cLine := fun X' e => by rw [e]; have := hr.un; show (A.deeper _).units + 65 < cLine; omega
  refine bl_unp (evS_sh (ev_nsh (i := 2) rfl)) (tg_tup rfl (tgs_cons (tg_name 3 hN) (tgs_cons (tg_name 4 hN) (tgs_cons (tg_name 5 hN) (tgs_cons (tg_name 6 hN) tgs_nil))))) ?_
  refine bl_if (k := decide (tie a d ∉ one)) (tsP_r (ts_cmp (ev_call h_tied (a, d) (hr.mono (by decide)) trivial (as_cons (evS_sh (ev_nsh (i := 3) rfl)) (as_cons (evS_sh (ev_nsh (i := 6) rfl)) as_nil)) rfl) (ev_nsh (i := 0) rfl) (o_notInG good_p2 (hu _ (by rfl)) (tie a d) one (by rfl) (by rfl))) (by simp)) (fun h => ?_) (fun h => ?_)
  · have h := of_decide_eq_true h
    refine bl_ret (ev_tup (as_cons (evS_sh ev_bool) (as_cons (evS_sh (ev_tup (as_cons (evS_sh (ev_nsh (i := 3) rfl)) (as_cons (evS_sh (ev_nsh (i := 4) rfl)) (as_cons (evS_sh (ev_nsh (i := 6) rfl)) (as_cons (evS_sh (ev_nsh (i := 5) rfl)) as_nil)))))) as_nil))) ?_
    show _ = RV.sh (nearD (nearBy one other (a, b, c, d)))
    rw [show nearBy one other (a, b, c, d) = some (true, (a, b, d, c)) from if_pos h]
    rfl
  · have h := of_decide_eq_false h
    refine bl_nil ?_
    refine bl_if (k := decide (tie a d ∈ other)) (ts_cmp (ev_call h_tied (a, d) (hr.mono (by decide)) trivial (as_cons (evS_sh (ev_nsh (i := 3) rfl)) (as_cons (evS_sh (ev_nsh (i := 6) rfl)) as_nil)) rfl) (ev_nsh (i := 1) rfl) (o_inP (hu _ (by rfl)) (tie a d) other (by rfl) (by rfl))) (fun h2 => ?_) (fun h2 => ?_)
    · have h2 := of_decide_eq_true h2
      refine bl_ret (ev_tup (as_cons (evS_sh ev_bool) (as_cons (evS_sh (ev_tup (as_cons (evS_sh (ev_nsh (i := 3) rfl)) (as_cons (evS_sh (ev_nsh (i := 6) rfl)) (as_cons (evS_sh (ev_nsh (i := 4) rfl)) (as_cons (evS_sh (ev_nsh (i := 5) rfl)) as_nil)))))) as_nil))) ?_
      show _ = RV.sh (nearD (nearBy one other (a, b, c, d)))
      rw [show nearBy one other (a, b, c, d) = some (false, (a, d, b, c)) from (if_neg h).trans (if_pos h2)]
      rfl
    · have h2 := of_decide_eq_false h2
      refine bl_nil ?_
      refine bl_ret ev_none ?_
      show _ = RV.sh (nearD (nearBy one other (a, b, c, d)))
      rw [show nearBy one other (a, b, c, d) = none from (if_neg h).trans (if_neg h2)]
      rfl
end
end KW

namespace KW
open PySem PySem.Spec PyProof.Rows L2 TW
local macro_rules | `(tactic| walk_at "bo") => `(tactic| first | with_reducible exact o_add | with_reducible exact o_sub | with_reducible exact o_lt | with_reducible exact o_le | with_reducible exact o_gt | with_reducible exact o_ge | with_reducible exact o_eqI | with_reducible exact o_neI | with_reducible refine o_mod ?_ <;> omega | with_reducible refine o_fdiv ?_ ?_ <;> omega | with_reducible exact o_isN | with_reducible exact o_notN | exact o_add | exact o_sub | exact o_lt | exact o_le | exact o_gt | exact o_ge | exact o_eqI | exact o_neI | exact o_mod (by omega) | exact o_fdiv (by omega) (by omega) | exact o_mul (.inl (by omega)) | exact o_mul (.inr (by omega)) | exact o_eqS | exact o_neS | exact o_eqB | exact o_neB | exact o_isN | exact o_notN | exact o_cat rfl rfl (by walk_at "le"))
local macro_rules | `(tactic| walk_at "le") => `(tactic| first | decide | omega | (simp only [List.length_append, List.length_cons, List.length_nil, List.length_map, List.length_take, List.length_drop, List.length_range]; omega))
local macro_rules | `(tactic| walk_at "rg") => `(tactic| first | omega | decide)
local macro_rules | `(tactic| walk_at "bc") => `(tactic| first | exact c_len rfl | exact c_min2 rfl | exact c_max2 rfl | exact c_sum rfl rfl | exact c_any rfl rfl | exact c_all rfl rfl | exact c_list (tup := true) (.inl rfl) | exact c_list (tup := true) (.inr rfl) | exact c_tuple rfl | exact c_intB)
local macro_rules | `(tactic| walk_at "sl") => `(tactic| first | exact s_take rfl | exact s_drop rfl)
local macro_rules | `(tactic| walk_at "ns") => `(tactic| first | assumption | rfl)
local macro_rules | `(tactic| walk_at "bk") => `(tactic| first | rfl | decide +kernel)
local macro_rules | `(tactic| walk_at "wk") => `(tactic| repeat (first | exact trivial | refine ⟨Or.inl rfl, ?_⟩ | refine ⟨Or.inr rfl, ?_⟩))
local macro_rules | `(tactic| walk_at "pre") => `(tactic| first | trivial | assumption)
local macro_rules | `(tactic| walk_at "ix") => `(tactic| first | exact x_list rfl rfl | exact x_tup rfl)
section
variable {P : Program} {w : World} {K : KF} {mg : Str → Option Value} {base : Heap} {f : Addr} {fd : FuncData}
abbrev n_nearer : List Str := ["one", "other", "gone", "come", "first", "second", "a", "b", "c", "d"]
theorem sc_nearer : FnScope n_nearer ["one", "other"] (defScope s_nearer) := ⟨rfl, rfl, rfl, by decide +kernel, rfl, by decide +kernel, by decide +kernel⟩
/-! the search, as the program goes -/
def nr4 (s t : List T2) (a b c d : Int) : Option (Bool × T4) := if d ≠ a then nearBy s t (a, b, c, d) else none
def nr3 (s t : List T2) (a b c : Int) : Option (Bool × T4) := (besideL (gone s t) c).findSome? (nr4 s t a b c)
def nr2 (s t : List T2) (p : T2) : Option (Bool × T4) := (besideL (gone t s) p.2).findSome? (nr3 s t p.1 p.2)
def nr1 (s t : List T2) (x : T2) : Option (Bool × T4) := [x, (x.2, x.1)].findSome? (nr2 s t)
def nearF (s t : List T2) : Option (Bool × T4) := (gone s t).findSome? (nr1 s t)
theorem fs_at {α β : Type} {g : α → Option β} {xs : List α} {i : Nat} {x : α} {r : β} (h0 : ∀ y ∈ xs.take i, g y = none) (h : xs[i]? = some x) (hg : g x = some r) : xs.findSome? g = some r := by
  obtain ⟨hl, e⟩ := List.getElem?_eq_some_iff.mp h
  have e2 : xs = xs.take i ++ x :: xs.drop (i + 1) := by rw [← e, ← List.drop_eq_getElem_cons hl, List.take_append_drop]
  rw [e2, List.findSome?_append, List.findSome?_eq_none_iff.mpr h0, List.findSome?_cons, hg]
  rfl
theorem fs_next {α β : Type} {g : α → Option β} {xs : List α} {i : Nat} {x : α} (h0 : ∀ y ∈ xs.take i, g y = none) (h : xs[i]? = some x) (hg : g x = none) : ∀ y ∈ xs.take (i + 1), g y = none := fun y hy => by
  rw [List.take_add_one, h] at hy
  rcases List.mem_append.mp hy with q | q
  · exact h0 y q
  · rw [List.mem_singleton.mp q]; exact hg
theorem fs_all {α β : Type} {g : α → Option β} {xs : List α} (h0 : ∀ y ∈ xs, g y = none) : xs.findSome? g = none := List.findSome?_eq_none_iff.mpr h0
/-- tied, by beside -/
theorem beside_tie {n : Nat} {T : List T2} (w : Web n T) {p q : Int} : q ∈ besideL T p ↔ tie p q ∈ T := by
  rw [beside_mem]
  unfold Adj
  constructor
  · rintro (h | h)
    · rw [tie_lt (w.r _ h).2.1]; exact h
    · rw [tie_comm, tie_lt (w.r _ h).2.1]; exact h
  · intro h
    rcases Int.le_total p q with q1 | q1
    · left
      have : tie p q = (p, q) := Prod.ext (Int.min_eq_left q1) (Int.max_eq_right q1)
      rw [← this]; exact h
    · right
      have : tie p q = (q, p) := Prod.ext (Int.min_eq_right q1) (Int.max_eq_left q1)
      rw [← this]; exact h
/-- it is found, and brings nearer -/
theorem nearF_ok {n : Nat} {s t : List T2} (h : Pair n s t) (hne : s ≠ t) : ∃ r, nearF s t = some r ∧ StepOk s t r := by
  have wg := gone_web h.ws t
  have wc := gone_web h.wt s
  have key : ∃ r, nearF s t = some r := by
    obtain ⟨a, b, c, d, g, hg⟩ := near_ex h hne
    obtain ⟨r, hr⟩ := near_some.mpr hg
    cases e : nearF s t with
    | some r => exact ⟨r, rfl⟩
    | none =>
      exfalso
      have e1 := List.findSome?_eq_none_iff.mp e (tie a b) g.ab
      have e2 : nr2 s t (a, b) = none := by
        refine List.findSome?_eq_none_iff.mp e1 (a, b) ?_
        simp only [tie, List.mem_cons, List.not_mem_nil, or_false, Prod.mk.injEq]
        omega
      have e3 := List.findSome?_eq_none_iff.mp e2 c ((beside_tie wc).mpr g.bc)
      have e4 := List.findSome?_eq_none_iff.mp e3 d ((beside_tie wg).mpr g.cd)
      have e5 : nr4 s t a b c d = some r := (if_pos g.da).trans hr
      rw [e4] at e5
      cases e5
  obtain ⟨r, hr⟩ := key
  refine ⟨r, hr, ?_⟩
  obtain ⟨x, hx, h1⟩ := List.exists_of_findSome?_eq_some hr
  obtain ⟨⟨a, b⟩, hab, h2⟩ := List.exists_of_findSome?_eq_some h1
  obtain ⟨c, hc, h3⟩ := List.exists_of_findSome?_eq_some h2
  obtain ⟨d, hd, h4⟩ := List.exists_of_findSome?_eq_some h3
  have hda : d ≠ a := fun e => by
    unfold nr4 at h4
    rw [if_neg (fun q => q e)] at h4
    cases h4
  have h5 : nearBy s t (a, b, c, d) = some r := by
    unfold nr4 at h4
    rwa [if_pos hda] at h4
  refine near_step h (a := a) (b := b) (c := c) (d := d) ⟨?_, (beside_tie wc).mp hc, (beside_tie wg).mp hd, hda⟩ h5
  have hxr := wg.r x hx
  rcases List.mem_cons.mp hab with q | q
  · rw [show tie a b = x by rw [← q] at hxr ⊢; exact tie_lt hxr.2.1]; exact hx
  · have q := List.mem_singleton.mp q
    cases q
    rw [tie_comm, tie_lt hxr.2.1]; exact hx
abbrev F_nearer (P : Program) (w : World) (K : KF) (mg : Str → Option Value) (base : Heap) : Prop :=
  Fn P w K mg base "nearer" 3 ["one", "other"] (spF K (fun z : List T2 × List T2 => ∃ n, Web n z.1 ∧ Web n z.2 ∧ n ≤ 10) (fun z => [.list (z.1.map p2), .list (z.2.map p2)]) fun z => .ret (.sh (nearD (nearF z.1 z.2))))
theorem ok_nearer (F : Fun K "nearer" "nearer" s_nearer f fd) (hm : mg "nearer" = some (.ref f)) (hb : Binds K fd ["one", "other"] []) (T : Bt mg) (h_lacking : F_lacking P w K mg base) (h_beside : F_beside P w K mg base) (h_nearer_by : F_nearer_by P w K mg base) : F_nearer P w K mg base := by
  refine fn_pure F hm hb sc_nearer (fun _ => rfl) fun cdv A outer s G H E ⟨one, other⟩ hr ⟨n, w1, w2, hn⟩ hE => ?_
  have hN := sc_nearer.nd
  dsimp only at w1 w2 ⊢
  have hl1 := (w1.deg hn 0).2
  have hl2 := (w2.deg hn 0).2
  have wg := gone_web w1 other
  have wc := gone_web w2 one
  have hg1 := gone_len one other
  have hg2 := gone_len other one
  refine bl_setF (d := .list ((gone one other).map p2)) 2 hN (evS_own (ev_call h_lacking (one, other) (hr.mono (by decide)) (by show one.length ≤ 1000; omega) (as_cons (evS_sh (ev_nsh (i := 0) rfl)) (as_cons (evS_sh (ev_nsh (i := 1) rfl)) as_nil)) rfl)) ?_
  refine bl_setF (d := .list ((gone other one).map p2)) 3 hN (evS_own (ev_call h_lacking (other, one) (hr.mono (by decide)) (by show other.length ≤ 1000; omega) (as_cons (evS_sh (ev_nsh (i := 1) rfl)) (as_cons (evS_sh (ev_nsh (i := 0) rfl)) as_nil)) rfl)) ?_
  have hN1 : nearF one other = (gone one other).findSome? (nr1 one other) := rfl
  generalize nearF one other = NR at hN1 ⊢
  have hR1 : ∀ x, nr1 one other x = [x, (x.2, x.1)].findSome? (nr2 one other) := fun _ => rfl
  have hR2 : ∀ p, nr2 one other p = (besideL (gone other one) p.2).findSome? (nr3 one other p.1 p.2) := fun _ => rfl
  have hR3 : ∀ a b c, nr3 one other a b c = (besideL (gone one other) c).findSome? (nr4 one other a b c) := fun _ _ _ => rfl
  generalize nr1 one other = R1 at hN1 hR1
  generalize nr2 one other = R2 at hR1 hR2
  generalize nr3 one other = R3 at hR2 hR3
  generalize hgo : gone one other = go at *
  generalize hco : gone other one = co at *
  refine bl_for (passes_of rfl) rfl (it_list (evS_sh (ev_nsh (i := 2) rfl))) (fun i env' => (∀ y ∈ go.take i, R1 y = none) ∧ wk env' [some (.sh (.list (one.map p2))), some (.sh (.list (other.map p2))), some (.sh (.list (go.map p2))), some (.sh (.list (co.map p2))), none, none, none, none, none, none]) ⟨(fun t ht => by cases ht), by walk_at "wk"⟩ (fun Gb i d env1 hi hI => ?_) (fun env1 hI => ?_)
  · obtain ⟨hno, hI⟩ := hI
    obtain ⟨x, hx, rfl⟩ := map_get hi
    refine ⟨_, tg_tup rfl (tgs_cons (tg_name 4 hN) (tgs_cons (tg_name 5 hN) tgs_nil)), bl_wkset (wk_set hI) ?_⟩
    refine bl_for (ds := [x, (x.2, x.1)].map p2) (passes_of rfl) rfl (it_tup (evS_sh (ev_tup (as_cons (evS_sh (ev_tup (as_cons (evS_sh (ev_nsh (i := 4) rfl)) (as_cons (evS_sh (ev_nsh (i := 5) rfl)) as_nil)))) (as_cons (evS_sh (ev_tup (as_cons (evS_sh (ev_nsh (i := 5) rfl)) (as_cons (evS_sh (ev_nsh (i := 4) rfl)) as_nil)))) as_nil)) (by show 2 ≤ 1000000; decide)))) (fun j env' => (∀ y ∈ [x, (x.2, x.1)].take j, R2 y = none) ∧ wk env' [some (.sh (.list (one.map p2))), some (.sh (.list (other.map p2))), some (.sh (.list (go.map p2))), some (.sh (.list (co.map p2))), some (.sh (.int x.1)), some (.sh (.int x.2)), none, none, none, none]) ⟨(fun t ht => by cases ht), by walk_at "wk"⟩ (fun Gb2 j d env2 hj hI2 => ?_) (fun env2 hI2 => ?_)
    · obtain ⟨hno2, hI2⟩ := hI2
      obtain ⟨⟨a, b⟩, hab, rfl⟩ := map_get hj
      refine ⟨_, tg_tup rfl (tgs_cons (tg_name 6 hN) (tgs_cons (tg_name 7 hN) tgs_nil)), bl_wkset (wk_set hI2) ?_⟩
      refine bl_for (ds := (besideL co b).map .int) (passes_of rfl) rfl (it_list (evS_own (ev_call h_beside (co, b) (hr.mono (by decide)) ⟨by show co.length ≤ 1000; omega, (wc.deg hn b).1⟩ (as_cons (evS_sh (ev_nsh (i := 3) rfl)) (as_cons (evS_sh (ev_nsh (i := 7) rfl)) as_nil)) rfl))) (fun k env' => (∀ y ∈ (besideL co b).take k, R3 a b y = none) ∧ wk env' [some (.sh (.list (one.map p2))), some (.sh (.list (other.map p2))), some (.sh (.list (go.map p2))), some (.sh (.list (co.map p2))), some (.sh (.int x.1)), some (.sh (.int x.2)), some (.sh (.int a)), some (.sh (.int b)), none, none]) ⟨(fun t ht => by cases ht), by walk_at "wk"⟩ (fun Gb3 k d env3 hk hI3 => ?_) (fun env3 hI3 => ?_)
      · obtain ⟨hno3, hI3⟩ := hI3
        obtain ⟨c, hc, rfl⟩ := map_get hk
        refine ⟨_, tg_name 8 hN, bl_wkset hI3 ?_⟩
        refine bl_for (ds := (besideL go c).map .int) (passes_of rfl) rfl (it_list (evS_own (ev_call h_beside (go, c) (hr.mono (by decide)) ⟨by show go.length ≤ 1000; omega, (wg.deg hn c).1⟩ (as_cons (evS_sh (ev_nsh (i := 2) rfl)) (as_cons (evS_sh (ev_nsh (i := 8) rfl)) as_nil)) rfl))) (fun l env' => (∀ y ∈ (besideL go c).take l, nr4 one other a b c y = none) ∧ wk env' [some (.sh (.list (one.map p2))), some (.sh (.list (other.map p2))), some (.sh (.list (go.map p2))), some (.sh (.list (co.map p2))), some (.sh (.int x.1)), some (.sh (.int x.2)), some (.sh (.int a)), some (.sh (.int b)), some (.sh (.int c)), none]) ⟨(fun t ht => by cases ht), by walk_at "wk"⟩ (fun Gb4 l d env4 hl hI4 => ?_) (fun env4 hI4 => ?_)
        · obtain ⟨hno4, hI4⟩ := hI4
          obtain ⟨d, hd, rfl⟩ := map_get hl
          refine ⟨_, tg_name 9 hN, bl_wkset hI4 ?_⟩
          have h4 : nr4 one other a b c d = if d ≠ a then nearBy one other (a, b, c, d) else none := rfl
          refine bl_if (k := !decide (d = a) && !isNone (nearD (nearBy one other (a, b, c, d)))) (ts_w (tw_and (ts_cmp (ev_nsh (i := 9) rfl) (ev_nsh (i := 6) rfl) o_neI) fun h1 => (tw_and1 (ts_cmp (ev_call h_nearer_by (one, other, a, b, c, d) (hr.mono (by decide)) trivial (as_cons (evS_sh (ev_nsh (i := 0) rfl)) (as_cons (evS_sh (ev_nsh (i := 1) rfl)) (as_cons (evS_sh (ev_tup (as_cons (evS_sh (ev_nsh (i := 6) rfl)) (as_cons (evS_sh (ev_nsh (i := 7) rfl)) (as_cons (evS_sh (ev_nsh (i := 8) rfl)) (as_cons (evS_sh (ev_nsh (i := 9) rfl)) as_nil)))))) as_nil))) rfl) ev_none o_notN)))) (fun h => ?_) (fun h => ?_)
          · obtain ⟨h1, h2⟩ := Bool.and_eq_true_iff.mp h
            have h1 : d ≠ a := by simpa using h1
            rw [if_pos h1] at h4
            refine bl_ret (ev_call h_nearer_by (one, other, a, b, c, d) (hr.mono (by decide)) trivial (as_cons (evS_sh (ev_nsh (i := 0) rfl)) (as_cons (evS_sh (ev_nsh (i := 1) rfl)) (as_cons (evS_sh (ev_tup (as_cons (evS_sh (ev_nsh (i := 6) rfl)) (as_cons (evS_sh (ev_nsh (i := 7) rfl)) (as_cons (evS_sh (ev_nsh (i := 8) rfl)) (as_cons (evS_sh (ev_nsh (i := 9) rfl)) as_nil)))))) as_nil))) rfl) ?_
            obtain ⟨r, e⟩ : ∃ r, nearBy one other (a, b, c, d) = some r := by
              cases e : nearBy one other (a, b, c, d) with
              | none => rw [e] at h2; cases h2
              | some r => exact ⟨r, rfl⟩
            rw [e] at h4
            have e3 := fs_at hno4 hd h4
            rw [← hR3] at e3
            have e2 := fs_at hno3 hc e3
            have e2 : R2 (a, b) = some r := (hR2 (a, b)).trans e2
            have e1 := fs_at hno2 hab e2
            rw [← hR1] at e1
            have e0 := fs_at hno hx e1
            rw [← hN1] at e0
            show RV.sh (nearD (nearBy one other (a, b, c, d))) = RV.sh (nearD NR)
            rw [e, e0]
          · refine bl_nil (bl_nil ⟨fs_next hno4 hd ?_, by walk_at "wk"⟩)
            rw [h4]
            split
            · rename_i h1
              rw [decide_eq_false h1, Bool.not_false, Bool.true_and, Bool.not_eq_false'] at h
              cases e : nearBy one other (a, b, c, d) with
              | none => rfl
              | some r => rw [e] at h; cases h
            · rfl
        · obtain ⟨hno4, hI4⟩ := hI4
          rw [List.length_map, List.take_length] at hno4
          refine bl_wk (bl_nil ⟨fs_next hno3 hc ?_, by walk_at "wk"⟩) hI4
          rw [hR3]
          exact fs_all hno4
      · obtain ⟨hno3, hI3⟩ := hI3
        rw [List.length_map, List.take_length] at hno3
        refine bl_wk (bl_nil ⟨fs_next hno2 hab ?_, by walk_at "wk"⟩) hI3
        rw [hR2]
        exact fs_all hno3
    · obtain ⟨hno2, hI2⟩ := hI2
      rw [List.length_map, List.take_length] at hno2
      refine bl_wk (bl_nil ⟨fs_next hno hx ?_, by walk_at "wk"⟩) hI2
      rw [hR1]
      exact fs_all hno2
  · obtain ⟨hno, hI⟩ := hI
    rw [List.length_map, List.take_length] at hno
    refine bl_wk ?_ hI
    refine bl_ret ev_none ?_
    have e := fs_all hno
    rw [← hN1] at e
    show _ = RV.sh (nearD NR)
    rw [e]
    rfl
end
end KW

namespace KW
open PySem PySem.Spec PyProof.Rows L2 TW
local macro_rules | `(tactic| walk_at "bo") => `(tactic| first | with_reducible exact o_add | with_reducible exact o_sub | with_reducible exact o_lt | with_reducible exact o_le | with_reducible exact o_gt | with_reducible exact o_ge | with_reducible exact o_eqI | with_reducible exact o_neI | with_reducible refine o_mod ?_ <;> omega | with_reducible refine o_fdiv ?_ ?_ <;> omega | with_reducible exact o_isN | with_reducible exact o_notN | exact o_add | exact o_sub | exact o_lt | exact o_le | exact o_gt | exact o_ge | exact o_eqI | exact o_neI | exact o_mod (by omega) | exact o_fdiv (by omega) (by omega) | exact o_mul (.inl (by omega)) | exact o_mul (.inr (by omega)) | exact o_eqS | exact o_neS | exact o_eqB | exact o_neB | exact o_isN | exact o_notN | exact o_cat rfl rfl (by walk_at "le"))
local macro_rules | `(tactic| walk_at "le") => `(tactic| first | decide | omega | (simp only [List.length_append, List.length_cons, List.length_nil, List.length_map, List.length_take, List.length_drop, List.length_range]; omega))
local macro_rules | `(tactic| walk_at "rg") => `(tactic| first | omega | decide)
local macro_rules | `(tactic| walk_at "bc") => `(tactic| first | exact c_len rfl | exact c_min2 rfl | exact c_max2 rfl | exact c_sum rfl rfl | exact c_any rfl rfl | exact c_all rfl rfl | exact c_list (tup := true) (.inl rfl) | exact c_list (tup := true) (.inr rfl) | exact c_tuple rfl | exact c_intB)
local macro_rules | `(tactic| walk_at "sl") => `(tactic| first | exact s_take rfl | exact s_drop rfl)
local macro_rules | `(tactic| walk_at "ns") => `(tactic| first | assumption | rfl)
local macro_rules | `(tactic| walk_at "bk") => `(tactic| first | rfl | decide +kernel)
local macro_rules | `(tactic| walk_at "wk") => `(tactic| repeat (first | exact trivial | refine ⟨Or.inl rfl, ?_⟩ | refine ⟨Or.inr rfl, ?_⟩))
local macro_rules | `(tactic| walk_at "pre") => `(tactic| first | trivial | assumption)
local macro_rules | `(tactic| walk_at "ix") => `(tactic| first | exact x_list rfl rfl | exact x_tup rfl)
section
variable {P : Program} {w : World} {K : KF} {mg : Str → Option Value} {base : Heap} {f : Addr} {fd : FuncData}
abbrev n_turned : List Str := ["exchange", "a", "b", "c", "d"]
theorem sc_turned : FnScope n_turned ["exchange"] (defScope s_turned) := ⟨rfl, rfl, rfl, by decide +kernel, rfl, by decide +kernel, by decide +kernel⟩
abbrev F_turned (P : Program) (w : World) (K : KF) (mg : Str → Option Value) (base : Heap) : Prop :=
  Fn P w K mg base "turned" 1 ["exchange"] (spF K (fun _ : T4 => True) (fun z => [p4 z]) fun z => .ret (.sh (p4 (turn z))))
theorem ok_turned (F : Fun K "turned" "turned" s_turned f fd) (hm : mg "turned" = some (.ref f)) (hb : Binds K fd ["exchange"] []) (T : Bt mg) : F_turned P w K mg base := by
  refine fn_pure F hm hb sc_turned (fun _ => rfl) fun cdv A outer s G H E ⟨a, b, c, d⟩ hr hz hE => ?_
  have hN := sc_turned.nd
  refine bl_unp (evS_sh (ev_nsh (i := 0) rfl)) (tg_tup rfl (tgs_cons (tg_name 1 hN) (tgs_cons (tg_name 2 hN) (tgs_cons (tg_name 3 hN) (tgs_cons (tg_name 4 hN) tgs_nil))))) ?_
  exact bl_ret (ev_tup (as_cons (evS_sh (ev_nsh (i := 1) rfl)) (as_cons (evS_sh (ev_nsh (i := 3) rfl)) (as_cons (evS_sh (ev_nsh (i := 2) rfl)) (as_cons (evS_sh (ev_nsh (i := 4) rfl)) as_nil))))) rfl
end
end KW

namespace KW
open PySem PySem.Spec PyProof.Rows L2 TW
local macro_rules | `(tactic| walk_at "bo") => `(tactic| first | with_reducible exact o_add | with_reducible exact o_sub | with_reducible exact o_lt | with_reducible exact o_le | with_reducible exact o_gt | with_reducible exact o_ge | with_reducible exact o_eqI | with_reducible exact o_neI | with_reducible refine o_mod ?_ <;> omega | with_reducible refine o_fdiv ?_ ?_ <;> omega | with_reducible exact o_isN | with_reducible exact o_notN | exact o_add | exact o_sub | exact o_lt | exact o_le | exact o_gt | exact o_ge | exact o_eqI | exact o_neI | exact o_mod (by omega) | exact o_fdiv (by omega) (by omega) | exact o_mul (.inl (by omega)) | exact o_mul (.inr (by omega)) | exact o_eqS | exact o_neS | exact o_eqB | exact o_neB | exact o_isN | exact o_notN | exact o_cat rfl rfl (by walk_at "le"))
local macro_rules | `(tactic| walk_at "le") => `(tactic| first | decide | omega | (simp only [List.length_append, List.length_cons, List.length_nil, List.length_map, List.length_take, List.length_drop, List.length_range]; omega))
local macro_rules | `(tactic| walk_at "rg") => `(tactic| first | omega | decide)
local macro_rules | `(tactic| walk_at "bc") => `(tactic| first | exact c_len rfl | exact c_min2 rfl | exact c_max2 rfl | exact c_sum rfl rfl | exact c_any rfl rfl | exact c_all rfl rfl | exact c_list (tup := true) (.inl rfl) | exact c_list (tup := true) (.inr rfl) | exact c_tuple rfl | exact c_intB)
local macro_rules | `(tactic| walk_at "sl") => `(tactic| first | exact s_take rfl | exact s_drop rfl)
local macro_rules | `(tactic| walk_at "ns") => `(tactic| first | assumption | rfl)
local macro_rules | `(tactic| walk_at "bk") => `(tactic| first | rfl | decide +kernel)
local macro_rules | `(tactic| walk_at "wk") => `(tactic| repeat (first | exact trivial | refine ⟨Or.inl rfl, ?_⟩ | refine ⟨Or.inr rfl, ?_⟩))
local macro_rules | `(tactic| walk_at "pre") => `(tactic| first | trivial | assumption)
local macro_rules | `(tactic| walk_at "ix") => `(tactic| first | exact x_list rfl rfl | exact x_tup rfl)
section
variable {P : Program} {w : World} {K : KF} {mg : Str → Option Value} {base : Heap} {f : Addr} {fd : FuncData}
abbrev n_way : List Str := ["size", "one", "other", "found", "behind", "here", "there", "of_first", "exchange"]
theorem sc_way : FnScope n_way ["size", "one", "other"] (defScope s_way) := ⟨rfl, rfl, rfl, by decide +kernel, rfl, by decide +kernel, by decide +kernel⟩
noncomputable def wayF (s t : List T2) : List T4 := wayR nearF (gone (srtT s) (srtT t)).length (srtT s) (srtT t)
noncomputable def wayOut (a : ErA) (s x y : PD) : Oc := if webOk s x then (if webOk s y then (if countsL (sizeOf2 s) (tiesOf x) = countsL (sizeOf2 s) (tiesOf y) then .ret (.own ((wayF (tiesOf x) (tiesOf y)).map p4)) else .exc a.un) else .exc a.bw) else .exc a.bw
abbrev F_way (P : Program) (w : World) (K : KF) (mg : Str → Option Value) (base : Heap) (a : ErA) : Prop :=
  Fn P w K mg base "way" 4 ["size", "one", "other"] (spF K (fun z : PD × PD × PD => WebPre (z.1, z.2.1) ∧ WebPre (z.1, z.2.2)) (fun z => [z.1, z.2.1, z.2.2]) fun z => wayOut a z.1 z.2.1 z.2.2)
theorem srt_web {n : Nat} {s : List T2} (w : Web n s) : Web n (srtT s) := ⟨fun x hx => w.r x ((srtT_perm s).mem_iff.mp hx), (srtT_perm s).nodup_iff.mpr w.nd⟩
theorem srt_idem (s : List T2) : srtT (srtT s) = srtT s := up_eq (srtT_perm _) (srtT_up _) (srtT_up _)
theorem deg_of_counts {n : Nat} {s t : List T2} (w1 : Web n s) (w2 : Web n t) (h : countsL n s = countsL n t) (p : Int) : degI s p = degI t p := by
  by_cases hp : 0 ≤ p ∧ p < (n : Int)
  · have e := congrArg (fun l : List Int => l.getD p.toNat 0) h
    have e : (countsL n s).getD p.toNat 0 = (countsL n t).getD p.toNat 0 := e
    unfold countsL at e
    rw [List.getD_eq_getElem?_getD, List.getD_eq_getElem?_getD, List.getElem?_map, List.getElem?_map, List.getElem?_range (by omega)] at e
    have e : (degI s ((p.toNat : Nat) : Int) : Int) = (degI t ((p.toNat : Nat) : Int) : Int) := e
    rw [show ((p.toNat : Nat) : Int) = p by omega] at e
    omega
  · have z : ∀ {T : List T2}, Web n T → degI T p = 0 := fun {T} w => by
      rcases Nat.eq_zero_or_pos (degI T p) with q | q
      · exact q
      · obtain ⟨r, hr⟩ := nb_of w q
        exact absurd (tie_in w hr).1 hp
    rw [z w1, z w2]
theorem pair_of {n : Nat} {s t : List T2} (w1 : Web n s) (w2 : Web n t) (h : countsL n s = countsL n t) : Pair n (srtT s) (srtT t) :=
  ⟨srt_web w1, srt_web w2, fun p => by rw [degI_perm (srtT_perm s), degI_perm (srtT_perm t)]; exact deg_of_counts w1 w2 h p, srt_idem s, srt_idem t⟩
theorem ok_way {a : ErA} (F : Fun K "way" "way" s_way f fd) (hm : mg "way" = some (.ref f)) (hb : Binds K fd ["size", "one", "other"] []) (T : Bt mg) (R : ErrCl K mg "Unlike" a.un) (h_need_web : F_need_web P w K mg base a) (h_counts_by : F_counts_by P w K mg base) (h_nearer : F_nearer P w K mg base) (h_turned : F_turned P w K mg base) (h_left_by : F_left_by P w K mg base) : F_way P w K mg base a := by
  refine fn_pure F hm hb sc_way (fun _ => rfl) fun cdv A outer s G H E ⟨sz, x, y⟩ hr ⟨hz, hz2⟩ hE => ?_
  have hN := sc_way.nd
  dsimp only at hz hz2 hE ⊢
  have hu : ∀ X' : Cx, X'.A = (bodyX P ‹World› K mg base n_way "way" s_way f cdv A outer s H E).A → X'.A.units + 64 < cLine := fun X' e => by rw [e]; have := hr.un; show (A.deeper _).units + 64 < cLine; omega
  by_cases h : webOk sz x = true
  · obtain ⟨e1, e2, w1, g1, g2⟩ := web_nt h
    refine bl_expr (ev_call h_need_web (sz, x) (hr.mono (by decide)) hz (as_cons (evS_sh (ev_nsh (i := 0) rfl)) (as_cons (evS_sh (ev_nsh (i := 1) rfl)) as_nil)) (if_pos h)) ?_
    have hw : wayOut a sz x y = if webOk sz y then (if countsL (sizeOf2 sz) (tiesOf x) = countsL (sizeOf2 sz) (tiesOf y) then .ret (.own ((wayF (tiesOf x) (tiesOf y)).map p4)) else .exc a.un) else .exc a.bw := if_pos h
    rw [hw] at hE ⊢
    clear hw
    by_cases h2 : webOk sz y = true
    · obtain ⟨e3, e4, w2, _, _⟩ := web_nt h2
      refine bl_expr (ev_call h_need_web (sz, y) (hr.mono (by decide)) hz2 (as_cons (evS_sh (ev_nsh (i := 0) rfl)) (as_cons (evS_sh (ev_nsh (i := 2) rfl)) as_nil)) (if_pos h2)) ?_
      rw [if_pos h2] at hE ⊢
      clear h h2 hz hz2 e3
      generalize sizeOf2 sz = n at e1 w1 w2 g1 g2 hE ⊢
      generalize tiesOf x = one at e2 w1 hE ⊢
      generalize tiesOf y = other at e4 w2 hE ⊢
      subst e1 e2 e4
      refine bl_if (k := !decide (countsL n one = countsL n other)) (ts_cmp (ev_call h_counts_by (n, one) (hr.mono (by decide)) ⟨w1, g2⟩ (as_cons (evS_sh (ev_nsh (i := 0) rfl)) (as_cons (evS_sh (ev_nsh (i := 1) rfl)) as_nil)) rfl) (ev_call h_counts_by (n, other) (hr.mono (by decide)) ⟨w2, g2⟩ (as_cons (evS_sh (ev_nsh (i := 0) rfl)) (as_cons (evS_sh (ev_nsh (i := 2) rfl)) as_nil)) rfl) (o_neG (good_list good_int) (hu _ (by rfl)) (countsL n one) (countsL n other) (by rfl) (by rfl))) (fun h => ?_) (fun h => ?_)
      · have h : ¬ countsL n one = countsL n other := by simpa using h
        exact bl_raise rfl (rz_fn (hE _ (by rw [if_neg h]))) R
      · have h : countsL n one = countsL n other := by simpa using h
        rw [if_pos h]
        clear hE
        refine bl_nil ?_
        refine bl_set (r := .own []) 3 hN (ev_lst as_nil) ?_
        refine bl_set (r := .own []) 4 hN (ev_lst as_nil) ?_
        refine bl_setF (d := .list ((srtT one).map p2)) 5 hN (evS_own (ev_bi T.sorted (c_sortP2 (ls := one) (hu _ (by rfl)) (by rfl)) (ar_cons (ev_nsh (i := 1) rfl) ar_nil))) ?_
        refine bl_setF (d := .list ((srtT other).map p2)) 6 hN (evS_own (ev_bi T.sorted (c_sortP2 (ls := other) (hu _ (by rfl)) (by rfl)) (ar_cons (ev_nsh (i := 2) rfl) ar_nil))) ?_
        have hp0 := pair_of w1 w2 h
        have hg45 : (gone (srtT one) (srtT other)).length ≤ 45 := Nat.le_trans (gone_len _ _) (hp0.ws.deg g2 0).2
        have hW : wayF one other = wayR nearF (gone (srtT one) (srtT other)).length (srtT one) (srtT other) := rfl
        generalize wayF one other = WW at hW ⊢
        refine bl_while (passes_of rfl) (fun m env' => ∃ u v fo be, Pair n u v ∧ (gone u v).length ≤ m ∧ WW = fo ++ wayR nearF m u v ++ be ∧ fo.length + m ≤ 45 ∧ be.length + m ≤ 45 ∧ wk env' [some (.sh (.int n)), some (.sh (.list (one.map p2))), some (.sh (.list (other.map p2))), some (.own (fo.map p4)), some (.own (be.map p4)), some (.sh (.list (u.map p2))), some (.sh (.list (v.map p2))), none, none]) (gone (srtT one) (srtT other)).length ⟨srtT one, srtT other, [], [], hp0, Nat.le_refl _, by rw [hW]; simp, by simpa using hg45, by simpa using hg45, by walk_at "wk"⟩ (fun m env1 hI => ?_)
        obtain ⟨u, v, fo, be, hp, hgm, hWW, hf1, hb1, hI⟩ := hI
        refine ⟨!decide (u = v), ?_, fun hk => ?_, fun hk => ?_⟩
        · exact ts_wk hI (ts_cmp (ev_nsh (i := 5) rfl) (ev_nsh (i := 6) rfl) (o_neG (good_list good_p2) (hu _ (by rfl)) u v (by rfl) (by rfl)))
        · have hk : u ≠ v := by simpa using hk
          refine bl_wk ?_ hI
          obtain ⟨⟨k, t⟩, hr1, hr2⟩ := nearF_ok hp hk
          have hul := (hp.ws.deg g2 0).2
          have hvl := (hp.wt.deg g2 0).2
          have hm1 : ∃ m', m = m' + 1 := by
            cases m with
            | zero => exact absurd (gone_eq hp (List.length_eq_zero_iff.mp (by omega))) hk
            | succ m' => exact ⟨m', rfl⟩
          obtain ⟨m', rfl⟩ := hm1
          have hwr : wayR nearF (m' + 1) u v = match nearF u v with
              | some (true, e) => e :: wayR nearF m' (leftL u e) v
              | some (false, e) => wayR nearF m' u (leftL v e) ++ [turn e]
              | none => [] := if_neg hk
          rw [hr1] at hwr
          refine bl_unp (d := .tuple [.bool k, p4 t]) (evS_sh (evP_r (ev_call h_nearer (u, v) (hr.mono (by decide)) ⟨n, hp.ws, hp.wt, g2⟩ (as_cons (evS_sh (ev_nsh (i := 5) rfl)) (as_cons (evS_sh (ev_nsh (i := 6) rfl)) as_nil)) rfl) (by show RV.sh (nearD (nearF u v)) = _; rw [hr1]; rfl))) (tg_tup rfl (tgs_cons (tg_name 7 hN) (tgs_cons (tg_name 8 hN) tgs_nil))) ?_
          rcases hr2 with ⟨e, hf, hl⟩ | ⟨e, hf, hl⟩
          · dsimp only at e hf hl
            subst e
            dsimp only at hwr
            refine bl_if (k := true) (ts_val (ev_nsh (i := 7) rfl)) (fun _ => ?_) (fun h => by cases h)
            refine bl_append (i := 3) (d := p4 t) (pe_bm PySem.F.plainAttrs_list PySem.F.slot_list_append PySem.F.type_list_append mt_append (pv 3) pa_sem) rfl (as_cons (evS_sh (ev_nsh (i := 8) rfl)) as_nil) (by rw [List.length_map]; omega) ?_
            refine bl_setF (d := .list ((leftL u t).map p2)) 5 hN (evS_own (ev_call h_left_by (u, t) (hr.mono (by decide)) (by show u.length ≤ 1000; omega) (as_cons (evS_sh (ev_nsh (i := 5) rfl)) (as_cons (evS_sh (ev_nsh (i := 8) rfl)) as_nil)) rfl)) ?_
            refine bl_nil (bl_nil ⟨m', by omega, leftL u t, v, fo ++ [t], be, pair_left hp hf, by omega, by rw [hWW, hwr]; simp, by rw [List.length_append]; show _ + 1 + _ ≤ _; omega, by omega, ?_⟩)
            rw [List.map_append]
            walk_at "wk"
          · dsimp only at e hf hl
            subst e
            dsimp only at hwr
            refine bl_if (k := false) (ts_val (ev_nsh (i := 7) rfl)) (fun h => by cases h) (fun _ => ?_)
            refine bl_insert (i := 4) (j := 0) (d := p4 (turn t)) (pe_bm PySem.F.plainAttrs_list PySem.F.slot_list_insert PySem.F.type_list_insert mt_insert' (pv 4) pa_sem) rfl (as_cons (evS_sh ev_int) (as_cons (evS_sh (ev_call h_turned t (hr.mono (by decide)) trivial (as_cons (evS_sh (ev_nsh (i := 8) rfl)) as_nil) rfl)) as_nil)) (by decide) (by decide) (by rw [List.length_map]; omega) ?_
            refine bl_setF (d := .list ((leftL v t).map p2)) 6 hN (evS_own (ev_call h_left_by (v, t) (hr.mono (by decide)) (by show v.length ≤ 1000; omega) (as_cons (evS_sh (ev_nsh (i := 6) rfl)) (as_cons (evS_sh (ev_nsh (i := 8) rfl)) as_nil)) rfl)) ?_
            refine bl_nil (bl_nil ⟨m', by omega, u, leftL v t, fo, turn t :: be, pair_right hp hf, by omega, by rw [hWW, hwr]; simp, by omega, by rw [List.length_cons]; omega, ?_⟩)
            walk_at "wk"
        · have hk : u = v := by simpa using hk
          subst hk
          have e0 : wayR nearF m u u = [] := by
            cases m with
            | zero => rfl
            | succ m' => exact if_pos rfl
          rw [e0, List.append_nil] at hWW
          refine bl_wk ?_ hI
          rw [hWW, List.map_append]
          exact bl_ret (ev_bin (ev_name (i := 3) rfl) (ev_name (i := 4) rfl) (o_cat rfl rfl (by rw [List.length_map, List.length_map]; omega))) rfl
    · rw [if_neg h2] at hE
      exact bl_exprN (ev_callN h_need_web (sz, y) (hr.mono (by decide)) hz2 (as_cons (evS_sh (ev_nsh (i := 0) rfl)) (as_cons (evS_sh (ev_nsh (i := 2) rfl)) as_nil)) (if_neg h2) (rz_fn (hE _ rfl)))
  · have hw : wayOut a sz x y = .exc a.bw := if_neg h
    rw [hw] at hE
    exact bl_exprN (ev_callN h_need_web (sz, x) (hr.mono (by decide)) hz (as_cons (evS_sh (ev_nsh (i := 0) rfl)) (as_cons (evS_sh (ev_nsh (i := 1) rfl)) as_nil)) (if_neg h) (rz_fn (hE _ rfl)))
end
end KW

namespace KW
open PySem PySem.Spec PyProof.Rows L2 TW
local macro_rules | `(tactic| walk_at "bo") => `(tactic| first | with_reducible exact o_add | with_reducible exact o_sub | with_reducible exact o_lt | with_reducible exact o_le | with_reducible exact o_gt | with_reducible exact o_ge | with_reducible exact o_eqI | with_reducible exact o_neI | with_reducible refine o_mod ?_ <;> omega | with_reducible refine o_fdiv ?_ ?_ <;> omega | with_reducible exact o_isN | with_reducible exact o_notN | exact o_add | exact o_sub | exact o_lt | exact o_le | exact o_gt | exact o_ge | exact o_eqI | exact o_neI | exact o_mod (by omega) | exact o_fdiv (by omega) (by omega) | exact o_mul (.inl (by omega)) | exact o_mul (.inr (by omega)) | exact o_eqS | exact o_neS | exact o_eqB | exact o_neB | exact o_isN | exact o_notN | exact o_cat rfl rfl (by walk_at "le"))
local macro_rules | `(tactic| walk_at "le") => `(tactic| first | decide | omega | (simp only [List.length_append, List.length_cons, List.length_nil, List.length_map, List.length_take, List.length_drop, List.length_range]; omega))
local macro_rules | `(tactic| walk_at "rg") => `(tactic| first | omega | decide)
local macro_rules | `(tactic| walk_at "bc") => `(tactic| first | exact c_len rfl | exact c_min2 rfl | exact c_max2 rfl | exact c_sum rfl rfl | exact c_any rfl rfl | exact c_all rfl rfl | exact c_list (tup := true) (.inl rfl) | exact c_list (tup := true) (.inr rfl) | exact c_tuple rfl | exact c_intB)
local macro_rules | `(tactic| walk_at "sl") => `(tactic| first | exact s_take rfl | exact s_drop rfl)
local macro_rules | `(tactic| walk_at "ns") => `(tactic| first | assumption | rfl)
local macro_rules | `(tactic| walk_at "bk") => `(tactic| first | rfl | decide +kernel)
local macro_rules | `(tactic| walk_at "wk") => `(tactic| repeat (first | exact trivial | refine ⟨Or.inl rfl, ?_⟩ | refine ⟨Or.inr rfl, ?_⟩))
local macro_rules | `(tactic| walk_at "pre") => `(tactic| first | trivial | assumption)
local macro_rules | `(tactic| walk_at "ix") => `(tactic| first | exact x_list rfl rfl | exact x_tup rfl)
section
variable {P : Program} {w : World} {K : KF} {mg : Str → Option Value} {base : Heap} {f : Addr} {fd : FuncData}
abbrev lamArgs (ap : Pos) : Arguments := { posonlyargs := [], args := [{ arg := "point", annotation := none, pos := ap : PySem.Arg }], vararg := none, kwonlyargs := [], kw_defaults := [], kwarg := none, defaults := [] : PySem.Arguments }
abbrev lamScope : Scope := { kind := .function, names := [("point", .local), ("lacks", .free)], isGenerator := false, isCoroutine := false, more := [] : PySem.Scope }
abbrev lamBody (p1 p2 p3 p4 p5 p6 : Pos) : Expr := .Tuple [.UnaryOp .USub (.Subscript (.Name "lacks" p1) (.Name "point" p2) p3) p4, .Name "point" p5] 0 p6
section
variable {P : Program} {w : World} {A : Around} {s : Shared}
/-- the key of one point -/
theorem lam_turn {f c' la cc : Addr} {qual : Str} {cl : List (Str × Addr)} {i z : Int} {t u : Tok} {its : List Value} {p1 p2 p3 p4 p5 p6 ap : Pos} {pm ctv : Value} (hroom : A.depth < recursionLimit)
    (hf : s.heap.get? f = some (PySem.W.kla_obj "<lambda>" qual (lamArgs ap) (lamBody p1 p2 p3 p4 p5 p6) lamScope cl pm c' ctv)) (hcd : s.heap.CodeRec (.ref c') qual) (lim : s.heap.NoLimit)
    (hcl : cl.lookup ("lacks" : Str) = some cc) (hcell : s.heap.IsCell cc (some (.ref la))) (hlist : s.heap.IsList la its.toArray) (h0 : 0 ≤ i) (h1 : i < 1000000) (hx : its[i.toNat]? = some (.int z u)) :
    wpAny (model P w) A (call (.ref f) [.int i t]) (PySem.W.KeyPure (.tuple [.int (-z), .int i]) s) (fun _ _ => False) s := by
  refine wpAny_call (PySem.W.kla_callFunE hroom hf rfl rfl rfl rfl hcd ?_)
  have hb : bindArgs (PySem.W.kla_fn "<lambda>" qual (lamArgs ap) (lamBody p1 p2 p3 p4 p5 p6) lamScope cl pm (.ref c') ctv) ⟨[.int i t], []⟩ = pure [(("point" : Str), Value.int i t)] := rfl
  rw [hb]
  have nc : ∀ y ∈ lamScope.names, y.2 ≠ .cell := by decide +kernel
  have lp : lamScope.names.lookup ("point" : Str) = some .local := by decide +kernel
  have ll : lamScope.names.lookup ("lacks" : Str) = some .free := by decide +kernel
  refine wpAny_pure (wpAny_newFunctionEnv nc (fun x hx => ?_) (fun h₁ hns hsb => ⟨lim.fresh _ hsb, ?_⟩) rfl)
  · obtain rfl := List.mem_singleton.mp hx
    exact lp
  have kp : ∀ b o, s.heap.get? b = some o → h₁.get? b = some o := fun b o e => hsb.extBut b o (Nat.ne_of_lt (Heap.lt_size e)) (Heap.get?_push_of_some _ e)
  have cell1 : h₁.IsCell cc (some (.ref la)) := by
    obtain ⟨o, e, d⟩ := hcell
    exact ⟨o, kp _ _ e, d⟩
  have list1 : h₁.IsList la its.toArray := by
    obtain ⟨o, e, d⟩ := hlist
    exact ⟨o, kp _ _ e, d⟩
  have loc : ([("point", Value.int i t)] : List (Str × Value)).reverse.lookup ("point" : Str) = some (.int i t) := by rfl
  have line := line63
  refine PySem.W.kla_codeExpr ?_
  refine wpAny_Tuple_spliced (PyProof.Rows.args_cons (UnaryOp_ (Subscript_ (wpAny_Name (wpAny_loadName_free rfl ll hcl cell1 (wpAny_Name (wpAny_loadName_local rfl lp hns loc (item_listR (x := .int z u) list1 h0 (by omega) (by simpa using hx) (PySem.P.neg_int (PyProof.Rows.args_cons (wpAny_Name (wpAny_loadName_local rfl lp hns loc (PyProof.Rows.args_nil ?_))) rfl))))))))) rfl)
  refine ⟨by rw [sizeLine_eq]; show 2 ≤ _; omega, ?_⟩
  exact ⟨_, _, rfl, fun b o e => Heap.get?_push_of_some _ (kp b o e), .tuple (Heap.get?_push_size _ rfl) rfl rfl (.cons (.int _ _) (.cons (.int _ _) .nil))⟩
end
section
open PySem.W PySem.F
variable {P : Program} {w : World} {A : Around} {E : Value → Shared → Prop} {s : Shared}
def ksOf (g : Int → Int) (i : Int) : PD := .tuple [.int (g i), .int i]
/-- sorted(range(n), key=..) by a number and the point -/
theorem sorted_range_key {r q : Addr} {n : Nat} {t u v : Tok} {Q : Value → Shared → Prop} (g : Int → Int) (hh : A.handled = none) (hr : IsRange s.heap r 0 n 1 t u v) (hn : n ≤ 1000) (hu : A.units + 64 < cLine)
    (turn : ∀ (i : Int) (tt : Tok), 0 ≤ i → i < n → ∀ (h : Heap) (tk : Nat), (∀ b o, s.heap.get? b = some o → h.get? b = some o) →
      wpAny (model P w) A.in1.in1 (call (.ref q) [.int i tt]) (KeyPure (ksOf g i) { s with heap := h, toks := tk }) (fun _ _ => False) { s with heap := h, toks := tk })
    (h : ∀ out c h' tk a, (∀ b o, s.heap.get? b = some o → h'.get? b = some o) → s.heap.get? a = none → (∃ h1 : Heap, (∀ b o, s.heap.get? b = some o → h1.get? b = some o) ∧ a = h1.objs.size) → h'.get? a = some (PyProof.Rows.seqObj "list" (List.toArray out) c) → EachIs (fun (x : Value) (i : Int) => ∃ t, x = .int i t) out ((ptsL n).mergeSort (dataLe false (ksOf g))) →
      Q (.ref a) { s with heap := h', toks := tk }) :
    wpAny (model P w) A (call (.builtin "sorted") [.ref r] [(Str.ofString "key", .ref q)]) Q E s := by
  refine call_function_entry_kw kind_sorted plain_sorted entry_sorted (ksk_s1 _ _) ?_
  unfold Builtin.«sorted»
  refine wpAny_bind (m := checkCount "sorted" 1 1 _) (wpAny_pure ?_)
  have hsm := small_one (a := 0) (b := (n : Int)) (by omega) (by omega) (by omega) (by omega)
  refine wpAny_bind (L2.collect_range (n := n) hh hr hsm ((rangeSize_nat 0 n).trans (by rw [Int.sub_zero, Int.toNat_natCast])) (by omega) fun h1 tk1 acc hk1 hi => ?_)
  have hsz : acc.toList.length = n := by rw [Array.length_toList]; exact hi.1
  have line := line63
  refine wpAny_bind (wpAny_newList ?_ (by rw [hsz, sizeLine_eq]; omega))
  have he : EachIs (fun (x : Value) (i : Int) => ∃ t, x = .int i t) acc.toList (ptsL n) := by
    have key : ∀ (us : List Value) (k : Nat), (∀ j x, us[j]? = some x → ∃ t, x = Value.int ((k + j : Nat) : Int) t) → EachIs (fun (x : Value) (i : Int) => ∃ t, x = .int i t) us ((List.range' k us.length).map fun (j : Nat) => (j : Int)) := by
      intro us
      induction us with
      | nil => intro k _; exact .nil
      | cons x us ih =>
        intro k hx
        rw [List.length_cons, List.range'_succ, List.map_cons]
        refine .cons (by simpa using hx 0 x rfl) (ih (k + 1) fun j y hy => ?_)
        have := hx (j + 1) y (by rw [List.getElem?_cons_succ]; exact hy)
        rwa [show k + (j + 1) = k + 1 + j by omega] at this
    have := key acc.toList 0 fun j x hx => by
      obtain ⟨t, e⟩ := hi.2 j x (by rw [← hx, Array.getElem?_toList])
      exact ⟨t, by rw [e, Int.mul_one, Nat.zero_add, Int.zero_add]⟩
    rw [hsz, ← List.range_eq_range'] at this
    exact this
  have hL : (ptsL n).length = n := by unfold ptsL; rw [List.length_map, List.length_range]
  have kp : ∀ b o, s.heap.get? b = some o → (h1.push { cls := .type "list", data := .seq acc.toList.toArray }).get? b = some o := fun b o e => Heap.get?_push_of_some _ (hk1 b o e)
  refine wpAny_bind (wpAny_holding (list_sort_key_data (b := false) (ksOf g) (Heap.get?_push_size _ rfl) he ?_ ?_ ?_ ?_ (ksk_l1 _ _) (ksk_t1 _ _) ?_ ?_))
  · intro d hd d' hd'
    obtain ⟨i, _, rfl⟩ := List.mem_map.mp hd
    obtain ⟨j, _, rfl⟩ := List.mem_map.mp hd'
    exact alike_tI [g i, i] [g j, j]
  · exact .inl fun d hd => by
      obtain ⟨i, _, rfl⟩ := List.mem_map.mp hd
      exact ⟨_, _, rfl⟩
  · rw [hL, sizeLine_eq]; omega
  · intro x _
    have : (ksOf g x).depth ≤ 1 := (lay_tuple (n := 0) (ds := [.int (g x), .int x]) (by simp [lay_int])).2
    show A.units + 1 + 1 + _ < cLine
    omega
  · intro v x hR hx h tk kb
    obtain ⟨t, rfl⟩ := hR
    have hx := pts_mem.mp hx
    refine turn x t hx.1 hx.2 h tk fun b o e => kb b o ?_ (kp b o e)
    exact Nat.ne_of_lt (Heap.lt_size (hk1 b o e))
  · intro out c h' tk kb ho hl hE
    have hfr : s.heap.get? h1.objs.size = none := by
      cases e : s.heap.get? h1.objs.size with
      | none => rfl
      | some o => exact absurd (Heap.lt_size (hk1 _ _ e)) (Nat.lt_irrefl _)
    exact wpAny_pure ⟨_, rfl, h out c h' tk h1.objs.size (fun b o e => kb b o (Nat.ne_of_lt (Heap.lt_size (hk1 b o e))) (kp b o e)) hfr ⟨h1, hk1, rfl⟩ ho hE⟩
end
section
open LamX
variable {X : Cx} {pins : List (Addr × Obj)} {σ : L2.St} {H : Hp} {s : Shared}
theorem codeO_tbl {c : Addr} {ps : Array Value} {q : Str} : (HO.tbl ps) ≠ CodeO c q := fun z => by
  unfold CodeO at z
  cases z
/-- how the heap looks behind: the table one longer -/
theorem same_table {P c : Addr} {ps : Array Value} {pos : Pos} {q : Str} (hq : tabTag P = q) (hP : H P = some (.tbl ps)) (hc : H c = none) : SameH H (upd (upd H P (.tbl (ps ++ #[rawInt pos.line, rawInt pos.col, .ref c]))) c (CodeO c q)) := by
  have away : ∀ b, b ≠ P → b ≠ c → upd (upd H P (.tbl (ps ++ #[rawInt pos.line, rawInt pos.col, .ref c]))) c (CodeO c q) b = H b := fun b e1 e2 => (upd_ne e2).trans (upd_ne e1)
  have atP : upd (upd H P (.tbl (ps ++ #[rawInt pos.line, rawInt pos.col, .ref c]))) c (CodeO c q) P = some (.tbl (ps ++ #[rawInt pos.line, rawInt pos.col, .ref c])) := (upd_ne (ne_of_none hP hc)).trans upd_same
  have kk : ∀ b o, H b = some o → (∀ qs, o ≠ .tbl qs) → upd (upd H P (.tbl (ps ++ #[rawInt pos.line, rawInt pos.col, .ref c]))) c (CodeO c q) b = some o := fun b o e n =>
    (away b (fun z => by subst z; rw [hP] at e; exact n ps (Option.some.inj e).symm) (ne_of_none e hc)).trans e
  refine ⟨⟨kk, fun b qs e => ?_⟩, fun T t => ?_⟩
  · by_cases hb : b = P
    · subst hb; exact ⟨_, atP⟩
    · exact ⟨qs, (away b hb (ne_of_none e hc)).trans e⟩
  · obtain ⟨qs, t1, t2, t3⟩ := t
    have codes : ∀ {d : Addr} {q' : Str}, H d = some (CodeO d q') → upd (upd H P (.tbl (ps ++ #[rawInt pos.line, rawInt pos.col, .ref c]))) c (CodeO c q) d = some (CodeO d q') := fun {d q'} e => kk d _ e fun r z => codeO_tbl z.symm
    by_cases hb : T = P
    · subst hb
      rw [hq] at t3 ⊢
      rw [hP] at t1; cases t1
      have el : (ps ++ #[rawInt pos.line, rawInt pos.col, Value.ref c]).toList = ps.toList ++ [rawInt pos.line, rawInt pos.col, Value.ref c] := by simp
      refine ⟨_, atP, by rw [el]; exact PySem.TriplesOk_snoc _ _ _ _ t2, fun pos' cv hcv => ?_⟩
      rw [el] at hcv
      rcases among_app _ t2 hcv with z | z
      · obtain ⟨d, d1, d2⟩ := t3 pos' cv z
        exact ⟨d, d1, codes d2⟩
      · exact ⟨c, z, upd_same⟩
    · refine ⟨qs, (away T hb (ne_of_none t1 hc)).trans t1, t2, fun pos' cv hcv => ?_⟩
      obtain ⟨d, d1, d2⟩ := t3 pos' cv hcv
      exact ⟨d, d1, codes d2⟩
theorem lam_mk {c P : Addr} {q : Str} (hq2 : tabTag P = q) {params : Arguments} {body : Expr} {scope : Scope} {pos : Pos} {E : Value → Shared → Prop} {Q : Value → Shared → Prop} (I : Inv X pins σ H s) (TB : TabB X.base X.mg c P) (hcode : X.env.code = .ref c) (hq : X.env.qual ++ "<lambda>" = q)
    (hT : TabS H P q) (hdef : defaultsOf params X.env = ([], [])) (hfree : ∀ y ∈ scope.names, y.2 = .free → ∃ c, X.env.cells.lookup y.1 = some c)
    (h : ∀ (f c' : Addr) (pm ctv : Value) (H1 : Hp) (s' : Shared), Inv X pins σ H1 s' → SameH H H1 → (∀ b o, b ≠ P → s.heap.get? b = some o → s'.heap.get? b = some o) → s'.heap.get? f = some (PySem.W.kla_obj "<lambda>" q params body scope (cloFrom X.env.cells scope.names []) pm c' ctv) → s'.heap.CodeRec (.ref c') q → Q (.ref f) s') :
    wpAny (model X.prog X.w) X.A (eval (.Lambda params body scope pos) X.env) Q E s := by
  obtain ⟨ps, hP, ht, ha⟩ := id hT
  refine PySem.W.kla_eval hdef ?_
  rw [hq]
  have hB := TB.bm.keeps I.bk
  have hO : s.heap.get? P = some { cls := .none, data := .fields ps } := I.hok P _ hP
  by_cases hc : ∃ cv, codeAmong pos ps.toList = some cv
  · obtain ⟨cv, hc⟩ := hc
    obtain ⟨c', rfl, hco⟩ := ha pos cv hc
    refine PySem.W.kla_makeFunctionHit (mg := X.mg) (c := c) (P := P) (ps := ps) (closure_ok hfree) I.ok.glob (I.mod.glob.keeps I.bk) hcode (TB.code.keeps I.bk) hO ht hc hB fun ctv h' tk hx hsz => ?_
    obtain ⟨⟨oc, vs, t, g1, g2, g3⟩, _, _⟩ := I.hok c' _ hco
    refine h h'.objs.size c' ((X.mg "__name__").getD .none) ctv H _ (I.kept fun b o e => Heap.get?_push_of_some _ (hx b o e)) (SameH.refl H) (fun b o _ e => Heap.get?_push_of_some _ (hx b o e)) (Heap.get?_push_size _ rfl) ⟨c', oc, vs, t, rfl, Heap.get?_push_of_some _ (hx _ _ g1), g2, g3⟩
  · have hc : codeAmong pos ps.toList = none := by
      cases e : codeAmong pos ps.toList with
      | none => rfl
      | some cv => exact absurd ⟨cv, e⟩ hc
    refine PySem.W.kla_makeFunction (mg := X.mg) (c := c) (P := P) (ps := ps) (closure_ok hfree) I.ok.glob (I.mod.glob.keeps I.bk) hcode (TB.code.keeps I.bk) hO ht hc TB.gP hB fun c' ctv h' tk hx hge hlt hrec htb => ?_
    obtain ⟨c2, oc, vs, t, e2, g1, g2, g3⟩ := hrec
    cases e2
    have nC : H c' = none := I.hok.fresh hge
    refine h h'.objs.size c' ((X.mg "__name__").getD .none) ctv _ _ (inv_table (more := #[rawInt pos.line, rawInt pos.col, .ref c']) I hP (fun b o hb e => Heap.get?_push_of_some _ (hx b o hb e)) (Heap.get?_push_of_some _ htb) hge ⟨oc, vs, t, Heap.get?_push_of_some _ g1, g2, g3⟩) (same_table hq2 hP nC) (fun b o hb e => Heap.get?_push_of_some _ (hx b o hb e)) (Heap.get?_push_size _ rfl) ⟨c', oc, vs, t, rfl, Heap.get?_push_of_some _ g1, g2, g3⟩
end
/-- the points by what they lack, the most first -/
def ordF (ns : List Int) : List Int := (ptsL ns.length).mergeSort (PySem.W.dataLe false (ksOf fun i => -(ns.getD i.toNat 0)))
theorem vals_eachInt : ∀ {us : List Value} {is : List Int}, PySem.W.EachIs (fun (x : Value) (i : Int) => ∃ t, x = .int i t) us is → Vals (is.map V.int) us
  | _, _, .nil => .nil
  | _, _, .cons ⟨t, e⟩ h => .cons ⟨t, e⟩ (vals_eachInt h)
section
variable {X : Cx} {b : Bs} {env : PEnv} {e : Expr}
theorem ev_sortLam {ns : List Int} {P c : Addr} (i : Nat) {p q2 q3 pos lpos kpos ap p1 p2 p3 p4 p5 p6 : Pos} (TB : LamX.TabB X.base X.mg c P) (hcode : X.env.code = .ref c) (hq : X.env.qual ++ "<lambda>" = qLam) (hT : LamX.TabS b.H P (tabTag P)) (hq2 : tabTag P = qLam)
    (he : env[i]? = some (some (.own (ns.map .int)))) (hN : X.N[i]? = some ("lacks" : Str)) (hcell : X.env.scope.names.lookup ("lacks" : Str) = some .cell)
    (hc : X.calm = true) (hm : X.mg "sorted" = none) (hm2 : X.mg "range" = none) (h : EvP X b e env (.sh (.int ns.length))) (hn : ns.length ≤ 1000) (hu : X.A.units + 64 < cLine) (hdp : X.A.depth + 5 < recursionLimit)
    (hg : Gl X "sorted" := by rfl) (hg2 : Gl X "range" := by rfl) (na : starEach [e] X.env = (false, eval e X.env) :: starEach [] X.env := by rfl)
    (nb : starEach [.Call (.Name "range" q2) [e] [] q3] X.env = (false, eval (.Call (.Name "range" q2) [e] [] q3) X.env) :: starEach [] X.env := by rfl) :
    EvP X b (.Call (.Name "sorted" p) [.Call (.Name "range" q2) [e] [] q3] [⟨some "key", .Lambda (lamArgs ap) (lamBody p1 p2 p3 p4 p5 p6) lamScope lpos, kpos⟩] pos) env (.own ((ordF ns).map .int)) := fun σ G H Q E kk => ⟨fun pins s I => by
  obtain ⟨cc, hcl⟩ := I.ok.has ("lacks" : Str) (.inl hcell)
  refine wpAny_Call_Name_kw (ld_blt I hg hm boot_sorted ?_)
  refine PyProof.Rows.callWith_kw (PyProof.Rows.args_cons (thn (prg_1 hg2 hm2 pe_sem na pins s σ H (fun a b' H1 => a = 0 ∧ b' = (ns.length : Int) ∧ ∃ G1, Ext G H G1 H1) I (h σ G H _ E fun v G1 H1 x q => ⟨ns.length, dp_int q, rfl, rfl, G1, x⟩)) fun x s1 ⟨r, a, b', t, u, v, H1, ex, hr, I1, ha, hb, G1, x1⟩ => PyProof.Rows.args_nil ?_) nb)
  subst ex ha hb
  have E1 := E.ext x1
  have hT1 : LamX.TabS H1 P qLam := hq2 ▸ E1.x.h.m P hT
  show wpAny (model X.prog X.w) X.A (evalAll [do let v ← eval (.Lambda (lamArgs ap) (lamBody p1 p2 p3 p4 p5 p6) lamScope lpos) X.env; standAt pos; pure v]) (fun kvs s₂ => wpAny (model X.prog X.w) X.A (call (.builtin "sorted") [.ref r] ([Str.ofString "key"].zip kvs)) (EP X pins σ Q) X.xe s₂) X.xe s1
  refine wpAny_evalAll_cons (wpAny_bind (lam_mk hq2 I1 TB hcode hq hT1 rfl (fun y hy hf => ?_) fun f c' pm ctv H2 s2 I2 sm kp hf hcd => wpAny_bind (wpAny_standAt (wpAny_pure (wpAny_evalAll_nil ?_)))))
  · have e1 : y = (("lacks" : Str), NameKind.free) := by
      simp only [List.mem_cons, List.not_mem_nil, or_false] at hy
      rcases hy with rfl | rfl
      · cases hf
      · rfl
    subst e1
    exact ⟨cc, hcl⟩
  show wpAny (model X.prog X.w) X.A (call (.builtin "sorted") [.ref r] [(Str.ofString "key", .ref f)]) (EP X pins σ Q) X.xe s2
  have x2 : Ext G1 H1 G1 H2 := Ext.only sm x1.s
  have E2 := E1.ext x2
  have line := line63
  obtain ⟨v0, hv0, la, rfl, o1, o2, vs, o3, o4⟩ := E2.get he
  have hvs := dpAll_ints o4
  subst hvs
  obtain ⟨its, rv, hl, hz⟩ := I2.list (SqL.of o3)
  have hr2 : IsRange s2.heap r 0 ns.length 1 t u v := kp r _ (fun z => by
    obtain ⟨ps, hP, _⟩ := hT1
    have h1 : s1.heap.get? P = some { cls := .none, data := .fields ps } := I1.hok P _ hP
    have h2 : s1.heap.get? r = _ := hr
    rw [z, h1] at h2
    cases h2) hr
  obtain ⟨m, hn2, hl2⟩ := I2.loc
  obtain ⟨u0, ru, hloc⟩ := hl2 i _ _ hN hv0 (.inr (.inl hcell))
  cases ru
  have hcc : s2.heap.IsCell cc (some (.ref la)) := by
    rcases hloc with ⟨hk, _⟩ | ⟨_, c2, hc2, hcell2⟩
    · have := hk.symm.trans hcell
      cases this
    · rw [hcl] at hc2
      cases hc2
      exact hcell2
  have hclo : (cloFrom X.env.cells lamScope.names []).lookup ("lacks" : Str) = some cc := by
    exact NdefX.clo_has (fun y hy hf => by
      simp only [List.mem_cons, List.not_mem_nil, or_false] at hy
      rcases hy with rfl | rfl
      · cases hf
      · exact ⟨cc, hcl⟩) (by simp) hcl
  refine sorted_range_key (n := ns.length) (fun i => -(ns.getD i.toNat 0)) (I2.ok.hd hc) hr2 hn hu (fun j tt hj0 hj1 h3 tk k3 => ?_) fun out cap h' tk a kept hfr hex ho hE => ?_
  · obtain ⟨w0, hw0, rw0⟩ := rv.get (i := j.toNat) (x := V.int (ns.getD j.toNat 0)) (by
      rw [List.getElem?_map, List.getD_eq_getElem?_getD, List.getElem?_eq_getElem (by omega)]
      rfl)
    obtain ⟨tz, rfl⟩ := rw0
    have hcd3 : h3.CodeRec (.ref c') qLam := by
      obtain ⟨c1, oc, vs2, tq, g1, g2, g3, g4⟩ := hcd
      exact ⟨c1, oc, vs2, tq, g1, k3 _ _ g2, g3, g4⟩
    have cell3 : h3.IsCell cc (some (.ref la)) := by
      obtain ⟨o, g1, g2⟩ := hcc
      exact ⟨o, k3 _ _ g1, g2⟩
    have list3 : h3.IsList la its.toArray := by
      obtain ⟨o, g1, g2⟩ := hl.isList
      exact ⟨o, k3 _ _ g1, g2⟩
    refine lam_turn (s := { s2 with heap := h3, toks := tk }) (by rw [show X.A.in1.in1.depth = X.A.depth from rfl]; omega) (k3 _ _ hf) hcd3 (I2.nolimit.keeps k3) hclo cell3 list3 hj0 (by omega) hw0
  · obtain ⟨h1, hk1, ea⟩ := hex
    have hna : H2 a = none := by
      rw [ea]
      exact (I2.kept (t' := 0) hk1).hok.fresh (Nat.le_refl _)
    have ext : Ext G1 H2 G1 (upd H2 a (.lst ((ordF ns).map V.int))) := Ext.own E2.x.s hna
    refine ⟨.ref a, upd H2 a (.lst ((ordF ns).map V.int)), I2.laidN kept hfr hna ⟨?_, out, cap, vals_eachInt hE, ho⟩, rfl, kk (.ref a) G1 _ ((x1.trans x2).trans ext) ⟨a, rfl, (x1.trans x2).h.free hna, E2.x.s.free hna, _, upd_same, dpAll_of_ints⟩⟩
    rw [List.length_map, sizeLine_eq]
    unfold ordF
    rw [List.length_mergeSort, ptsL, List.length_map, List.length_range]
    omega⟩
end
/-! ### promises that ask for the table -/
def spT (K : KF) (P0 : Addr) {α : Type} (pre : α → Prop) (args : α → List PD) (out : α → Oc) : Sp := fun vs H Q E => LamX.TabS H P0 (tabTag P0) ∧ spF K pre args out vs H Q E
theorem fnT_pure {P : Program} {w : World} {K : KF} {mg : Str → Option Value} {base : Heap} {x : Str} {st : Stmt} {f P0 : Addr} {fd : FuncData} {N ps : List Str} {n : Nat} {α : Type} {pre : α → Prop} {args : α → List PD} {out : α → Oc} (F : Fun K x x st f fd) (hm : mg x = some (.ref f)) (hb : Binds K fd ps []) (S : FnScope N ps (defScope st)) (hl : ∀ z, (args z).length = ps.length)
    (body : ∀ (A : Around) (outer : List Env) (s : Shared) (G H : Hp) (E : XK) (z : α), LamX.TabS H P0 (tabTag P0) → Room n (A.deeper (envOfC x (defScope st) s.heap.objs.size f fd.code)) → pre z → (∀ C, out z = .exc C → ∀ H', SameH H H' → E (.ref C) none H') →
      BlP (bodyX P w K mg base N x st f fd.code A outer s H E) ⟨G, H⟩ (defBody st) (startE N (args z)) (outR (out z))) : Fn P w K mg base x (n + 1) ps (spT K P0 pre args out) := by
  refine ⟨f, fd, ?_, hm, F.kp, hb, by obtain ⟨oc, od, _, _, _, _, _, _, sl, _, lk, _⟩ := F.ex; exact ⟨oc, od, sl, lk⟩⟩
  obtain ⟨oc, od, kV, doc, pm, an, cdv, ct, osl, rfl, lk, hcd⟩ := F.ex
  refine fn_of lk hcd S (fun vs H Q E h => ?_) fun A outer s H vs Q E hr hsp => ?_
  · obtain ⟨_, z, G, _, _, hd, _⟩ := h
    rw [dpAll_len hd, hl]
  · obtain ⟨hT, z, G, hz, hs, hd, ho⟩ := hsp
    refine ⟨semB _ _, pb_sem, body A outer s G H E z hT hr hz (fun C e H' k => by rw [e] at ho; exact ho H' k) _ G H _ (env_start hs hd) ?_⟩
    cases e : out z with
    | ret r =>
      rw [e] at ho
      refine ⟨fun env σ G' H' h E' => ?_, fun r' v G' H' h x' q => ?_, fun _ _ _ _ h => h.elim, fun _ _ _ _ h => h.elim⟩
      · have hr : r = .sh .none := h
        subst hr
        exact ho .non G' H' E'.x .non
      · have hr : r' = r := h
        subst hr
        exact ho v G' H' x' q
    | exc C => exact ⟨fun _ _ _ _ h => h.elim, fun _ _ _ _ h => h.elim, fun _ _ _ _ h => h.elim, fun _ _ _ _ h => h.elim⟩
section
variable {X : Cx} {b : Bs} {env : PEnv} {r : RV} {e : Expr} {es : List Expr} {p pos : Pos} {x : Str} {n : Nat} {ps : List Str} {α : Type} {pre : α → Prop} {args : α → List PD} {out : α → Oc} {P0 : Addr}
theorem ev_callT (F : Fn X.prog X.w X.K X.mg X.base x n ps (spT X.K P0 pre args out)) (z : α) (hT : LamX.TabS b.H P0 (tabTag P0)) (hr : Room n X.A) (hz : pre z) (ha : ArS X b (e :: es) env (args z)) (ho : out z = .ret r) (hg : Gl X x := by rfl)
    (hdb : (x == ("__debug__" : Str)) = false := by decide) (he : starEach (e :: es) X.env = (false, eval e X.env) :: starEach es X.env := by rfl) (hpl : (backTo pos (starEach es X.env)).any (·.1) = false := by rfl) :
    EvP X b (.Call (.Name x p) (e :: es) [] pos) env r := by
  obtain ⟨f, fd, hF, hm, hk, hb, _⟩ := F.ex
  intro σ G H Q E kk
  refine sem_e (pe_call hF hr hg hm hk hb .nil passN pa_sem hdb he hpl) (ha σ G H _ E fun vs G1 H1 x q => ?_)
  rw [List.append_nil]
  refine ⟨(E.x.trans x).h.m P0 hT, z, G1, hz, x.s, q, ?_⟩
  rw [ho]
  exact fun v G2 H2 x2 q2 => kk v G2 H2 (x.trans x2) (q2.base x.h)
end
end
end KW

namespace KW
open PySem TW
/-! ### plain: what counts want, by points -/
def S (l : List Int) (g : Int → Int) : Int := (l.map g).sum
theorem S_cons (p : Int) (l : List Int) (g : Int → Int) : S (p :: l) g = g p + S l g := by unfold S; rw [List.map_cons, List.sum_cons]
theorem S_nil (g : Int → Int) : S [] g = 0 := rfl
theorem S_le {l : List Int} {g h : Int → Int} (q : ∀ p ∈ l, g p ≤ h p) : S l g ≤ S l h := by
  induction l with
  | nil => exact Int.le_refl _
  | cons p l ih =>
    rw [S_cons, S_cons]
    have := q p List.mem_cons_self
    have := ih fun x hx => q x (List.mem_cons_of_mem _ hx)
    omega
theorem S_eq {l : List Int} {g h : Int → Int} (q : ∀ p ∈ l, g p = h p) : S l g = S l h := by
  unfold S
  rw [List.map_congr_left q]
theorem S_add (l : List Int) (g h : Int → Int) : S l (fun p => g p + h p) = S l g + S l h := by
  induction l with
  | nil => rfl
  | cons p l ih => rw [S_cons, S_cons, S_cons, ih]; omega
theorem S_sub (l : List Int) (g h : Int → Int) : S l (fun p => g p - h p) = S l g - S l h := by
  induction l with
  | nil => rfl
  | cons p l ih => rw [S_cons, S_cons, S_cons, ih]; omega
theorem S_mul (l : List Int) (c : Int) (g : Int → Int) : S l (fun p => c * g p) = c * S l g := by
  induction l with
  | nil => show (0 : Int) = c * 0; omega
  | cons p l ih => rw [S_cons, S_cons, ih, Int.mul_add]
theorem S_one (l : List Int) : S l (fun _ => 1) = l.length := by
  induction l with
  | nil => rfl
  | cons p l ih => rw [S_cons, ih, List.length_cons]; omega
theorem S_perm {l m : List Int} (h : l.Perm m) (g : Int → Int) : S l g = S m g := by
  induction h with
  | nil => rfl
  | cons x _ ih => rw [S_cons, S_cons, ih]
  | swap x y l => rw [S_cons, S_cons, S_cons, S_cons]; omega
  | trans _ _ h1 h2 => exact h1.trans h2
theorem S_app (l m : List Int) (g : Int → Int) : S (l ++ m) g = S l g + S m g := by unfold S; rw [List.map_append, List.sum_append]
theorem S_nn {l : List Int} {g : Int → Int} (q : ∀ p ∈ l, 0 ≤ g p) : 0 ≤ S l g := by
  have := S_le (l := l) (g := fun _ => 0) (h := g) q
  have e : S l (fun _ => 0) = 0 := by
    have := S_mul l 0 (fun _ => 0)
    simpa using this
  omega
theorem S_tight {l : List Int} {g h : Int → Int} (q : ∀ p ∈ l, g p ≤ h p) (e : S l h ≤ S l g) : ∀ p ∈ l, g p = h p := by
  induction l with
  | nil => intro p hp; cases hp
  | cons x l ih =>
    rw [S_cons, S_cons] at e
    have h1 := q x List.mem_cons_self
    have h2 := S_le (l := l) fun p hp => q p (List.mem_cons_of_mem _ hp)
    intro p hp
    rcases List.mem_cons.mp hp with rfl | hp
    · omega
    · exact ih (fun p hp => q p (List.mem_cons_of_mem _ hp)) (by omega) p hp
theorem mul_pred_even (x : Int) : x * (x - 1) % 2 = 0 := by
  rcases Int.emod_two_eq x with h | h
  · rw [Int.mul_emod, h]; simp
  · rw [Int.mul_emod, show (x - 1) % 2 = 0 by omega]; simp
/-- no points want more than there can be -/
def EGp (ps : List Int) (f : Int → Int) : Prop := ∀ K Q : List Int, (K ++ Q).Perm ps → S K f ≤ (K.length : Int) * ((K.length : Int) - 1) + S Q fun q => min (f q) K.length
def ind (A : Int → Bool) (p : Int) : Int := if A p then 1 else 0
/-- the point v that lacks most is tied to those of A -/
def stepF (f : Int → Int) (v : Int) (A : Int → Bool) (p : Int) : Int := if p = v then 0 else f p - ind A p
theorem ind_01 (A : Int → Bool) (p : Int) : ind A p = 0 ∧ A p = false ∨ ind A p = 1 ∧ A p = true := by
  unfold ind
  cases A p <;> simp
theorem eg_step {v : Int} {rest : List Int} {f : Int → Int} {A : Int → Bool} (hv : v ∉ rest) (h0 : ∀ p ∈ rest, 0 ≤ f p) (hm : ∀ p ∈ rest, f p ≤ f v) (hA : S rest (ind A) = f v) (hA1 : ∀ p ∈ rest, A p = true → 1 ≤ f p)
    (htop : ∀ p ∈ rest, ∀ q ∈ rest, A p = true → A q = false → f q ≤ f p) (hE : EGp (v :: rest) f) (hpar : (f v + S rest f) % 2 = 0) : EGp (v :: rest) (stepF f v A) := by
  have key : ∀ (k : Nat) (K Q : List Int), K.length = k → (K ++ Q).Perm (v :: rest) → S K (stepF f v A) ≤ (k : Int) * ((k : Int) - 1) + S Q fun q => min (stepF f v A q) (k : Int) := by
    intro k
    induction k with
    | zero =>
      intro K Q hK hp
      have : K = [] := List.eq_nil_of_length_eq_zero hK
      subst this
      rw [S_nil]
      have := S_nn (l := Q) (g := fun q => min (stepF f v A q) ((0 : Nat) : Int)) fun q hq => by
        have hq2 := hp.mem_iff.mp (List.mem_append_right _ hq)
        unfold stepF
        split
        · omega
        · rename_i hne
          have hr := (List.mem_cons.mp hq2).resolve_left hne
          have := h0 q hr
          have := hA1 q hr
          rcases ind_01 A q with ⟨e, e2⟩ | ⟨e, e2⟩
          · rw [e]; omega
          · have := this e2; rw [e]; omega
      omega
    | succ k ih =>
      intro K Q hK hp
      apply Classical.byContradiction
      intro hviol
      have hviol := Int.lt_of_not_ge hviol
      have nnS : ∀ q ∈ v :: rest, 0 ≤ stepF f v A q := fun q hq2 => by
        unfold stepF
        split
        · omega
        · rename_i hne
          have hr := (List.mem_cons.mp hq2).resolve_left hne
          have := h0 q hr
          have := hA1 q hr
          rcases ind_01 A q with ⟨e, e2⟩ | ⟨e, e2⟩
          · rw [e]; omega
          · have := this e2; rw [e]; omega
      have memK : ∀ p ∈ K, p ∈ v :: rest := fun p hp2 => hp.mem_iff.mp (List.mem_append_left _ hp2)
      have memQ : ∀ p ∈ Q, p ∈ v :: rest := fun p hp2 => hp.mem_iff.mp (List.mem_append_right _ hp2)
      -- no small one stands in K
      have big : ∀ x ∈ K, (k : Int) + 1 ≤ stepF f v A x := by
        intro x hx
        apply Classical.byContradiction
        intro hs
        have hs := Int.lt_of_not_ge hs
        obtain ⟨K1, K2, eK⟩ := List.append_of_mem hx
        have pK : K.Perm (x :: (K1 ++ K2)) := by rw [eK]; exact List.perm_middle
        have hl : (K1 ++ K2).length = k := by
          have := pK.length_eq
          rw [List.length_cons] at this; omega
        have hp2 : ((K1 ++ K2) ++ (x :: Q)).Perm (v :: rest) := by
          refine List.Perm.trans ?_ hp
          refine (List.perm_middle).trans ?_
          exact (pK.append_right Q).symm
        have h1 := ih _ _ hl hp2
        rw [S_cons] at h1
        have h2 := S_perm pK (stepF f v A)
        rw [S_cons] at h2
        have h3 := S_le (l := Q) (g := fun q => min (stepF f v A q) (k : Int)) (h := fun q => min (stepF f v A q) ((k + 1 : Nat) : Int)) fun q _ => by omega
        have kc : (((k + 1 : Nat) : Int)) = (k : Int) + 1 := by omega
        have e1 : ((k : Int) + 1) * ((k : Int) + 1 - 1) = (k : Int) * ((k : Int) - 1) + 2 * (k : Int) := by
          rw [Int.add_sub_cancel, Int.add_mul, Int.mul_sub, Int.mul_one, Int.one_mul]; omega
        rw [kc] at h3
        rw [kc, e1] at hviol
        omega
      have hvK : v ∉ K := fun hx => by
        have := big v hx
        unfold stepF at this
        rw [if_pos rfl] at this
        omega
      have hvQ : v ∈ Q := by
        have := hp.mem_iff.mpr (List.mem_cons_self : v ∈ v :: rest)
        exact (List.mem_append.mp this).resolve_left hvK
      obtain ⟨Q1, Q2, eQ⟩ := List.append_of_mem hvQ
      have pQ : Q.Perm (v :: (Q1 ++ Q2)) := by rw [eQ]; exact List.perm_middle
      generalize Q1 ++ Q2 = R at pQ
      have pR : (K ++ R).Perm rest := by
        have : (v :: (K ++ R)).Perm (v :: rest) := by
          refine List.Perm.trans ?_ hp
          refine (List.perm_middle).symm.trans ?_
          exact (pQ.append_left K).symm
        exact this.cons_inv
      have inK : ∀ p ∈ K, p ∈ rest := fun p h => pR.mem_iff.mp (List.mem_append_left _ h)
      have inR : ∀ p ∈ R, p ∈ rest := fun p h => pR.mem_iff.mp (List.mem_append_right _ h)
      have neK : ∀ p ∈ K, stepF f v A p = f p - ind A p := fun p h => if_neg fun e : p = v => hv (e ▸ inK p h)
      have neR : ∀ p ∈ R, stepF f v A p = f p - ind A p := fun p h => if_neg fun e : p = v => hv (e ▸ inR p h)
      have kc : (((k + 1 : Nat) : Int)) = (k : Int) + 1 := by omega
      rw [kc] at hviol
      generalize hx : (k : Int) + 1 = x at hviol big
      have x1 : 1 ≤ x := by omega
      have hKx : (K.length : Int) = x := by rw [hK]; omega
      have hv0 := hviol
      -- the counts
      have ea : S K (stepF f v A) = S K f - S K (ind A) := by rw [S_eq neK, S_sub]
      let T : Int → Bool := fun p => A p && decide (f p ≤ x)
      have eb : S Q (fun q => min (stepF f v A q) x) = S R (fun q => min (f q) x) - S R (ind T) := by
        rw [S_perm pQ, S_cons, ← S_sub]
        have e0 : min (stepF f v A v) x = 0 := by unfold stepF; rw [if_pos rfl]; omega
        rw [e0, Int.zero_add]
        refine S_eq fun p hp3 => ?_
        show min (stepF f v A p) x = _
        rw [neR p hp3]
        show min (f p - ind A p) x = min (f p) x - ind T p
        have eT : ind T p = if A p && decide (f p ≤ x) then 1 else 0 := rfl
        rw [eT]
        rcases ind_01 A p with ⟨e, e2⟩ | ⟨e, e2⟩
        · rw [e, e2]; simp
        · rw [e, e2, Bool.true_and]
          by_cases hle : f p ≤ x
          · rw [decide_eq_true hle, if_pos rfl]; omega
          · rw [decide_eq_false hle, if_neg Bool.false_ne_true]; omega
      rw [ea, eb] at hviol
      have hab : S K (ind A) + S R (ind A) = f v := by rw [← S_app, S_perm pR, hA]
      have hE1 := hE K Q hp
      rw [hKx, S_perm pQ (fun q => min (f q) x), S_cons] at hE1
      have hE2 := hE (v :: K) R (by
        show (v :: (K ++ R)).Perm _
        exact pR.cons v)
      rw [S_cons, List.length_cons, Int.natCast_add, hKx] at hE2
      have haK : S K (ind A) ≤ x := by
        have := S_le (l := K) (g := ind A) (h := fun _ => 1) fun p _ => by rcases ind_01 A p with ⟨e, _⟩ | ⟨e, _⟩ <;> omega
        rw [S_one, hKx] at this
        exact this
      have ha0 : 0 ≤ S K (ind A) := S_nn fun p _ => by rcases ind_01 A p with ⟨e, _⟩ | ⟨e, _⟩ <;> omega
      have hb0 : 0 ≤ S R (ind A) := S_nn fun p _ => by rcases ind_01 A p with ⟨e, _⟩ | ⟨e, _⟩ <;> omega
      have htb : S R (ind T) ≤ S R (ind A) := S_le fun p _ => by
        have eT : ind T p = if A p && decide (f p ≤ x) then 1 else 0 := rfl
        rw [eT]
        rcases ind_01 A p with ⟨e, e2⟩ | ⟨e, e2⟩
        · rw [e, e2]; simp
        · rw [e, e2]; split <;> omega
      have ht0 : 0 ≤ S R (ind T) := S_nn fun p _ => by rcases ind_01 T p with ⟨e, _⟩ | ⟨e, _⟩ <;> omega
      have hfK : ∀ p ∈ K, x + ind A p ≤ f p := fun p hp3 => by
        have h1 := big p hp3
        have h2 := neK p hp3
        omega
      by_cases ht : ∃ u ∈ R, A u = true ∧ f u ≤ x
      · obtain ⟨u, hu, hu1, hu2⟩ := ht
        by_cases hall : ∀ p ∈ K, A p = true
        · have hax : S K (ind A) = x := by
            have := S_eq (l := K) (g := ind A) (h := fun _ => 1) fun p hp3 => by
              rcases ind_01 A p with ⟨e, e2⟩ | ⟨e, e2⟩
              · rw [hall p hp3] at e2; cases e2
              · exact e
            rw [this, S_one, hKx]
          have hR2 : S R (fun q => min (f q) (x + 1)) ≤ S R (fun q => min (f q) x) + (S R (ind A) - S R (ind T)) := by
            rw [← S_sub, ← S_add]
            refine S_le fun p hp3 => ?_
            have eT : ind T p = if A p && decide (f p ≤ x) then 1 else 0 := rfl
            rw [eT]
            rcases ind_01 A p with ⟨e, e2⟩ | ⟨e, e2⟩
            · have := htop u (inR u hu) p (inR p hp3) hu1 e2
              rw [e, e2, Bool.false_and, if_neg Bool.false_ne_true]; omega
            · rw [e, e2, Bool.true_and]
              by_cases hle : f p ≤ x
              · rw [decide_eq_true hle, if_pos rfl]; omega
              · rw [decide_eq_false hle, if_neg Bool.false_ne_true]; omega
          have e1 : (x + ((1 : Nat) : Int)) * (x + ((1 : Nat) : Int) - 1) = x * (x - 1) + 2 * x := by
            rw [show ((1 : Nat) : Int) = 1 from rfl, Int.add_sub_cancel, Int.add_mul, Int.mul_sub, Int.mul_one, Int.one_mul]; omega
          rw [e1, show ((1 : Nat) : Int) = 1 from rfl] at hE2
          omega
        · obtain ⟨p, hall⟩ := Classical.not_forall.mp hall
          obtain ⟨hpK, hpA⟩ := Classical.not_imp.mp hall
          have hpA : A p = false := by simpa using hpA
          have h1 := htop u (inR u hu) p (inK p hpK) hu1 hpA
          have h2 := big p hpK
          have h3 : ind A p = 0 := by unfold ind; rw [hpA]; rfl
          have h4 := neK p hpK
          have h5 : stepF f v A p = x := by omega
          obtain ⟨K1, K2, eK⟩ := List.append_of_mem hpK
          have pK : K.Perm (p :: (K1 ++ K2)) := by rw [eK]; exact List.perm_middle
          have hl : (K1 ++ K2).length = k := by
            have := pK.length_eq
            rw [List.length_cons] at this; omega
          have hp2 : ((K1 ++ K2) ++ (p :: Q)).Perm (v :: rest) := by
            refine List.Perm.trans ?_ hp
            refine (List.perm_middle).trans ?_
            exact (pK.append_right Q).symm
          have g1 := ih _ _ hl hp2
          rw [S_cons, h5] at g1
          have g2 := S_perm pK (stepF f v A)
          rw [S_cons, h5] at g2
          have hk : (k : Int) = x - 1 := by omega
          rw [hk] at g1
          have e1 : (x - 1) * (x - 1 - 1) = x * (x - 1) - 2 * (x - 1) := by
            rw [Int.mul_sub (x - 1) (x - 1) 1, Int.sub_mul x 1 (x - 1)]; omega
          rw [e1] at g1
          have g3 := S_tight (l := Q) (g := fun q => min (stepF f v A q) (x - 1)) (h := fun q => min (stepF f v A q) x) (fun q _ => by omega) (by omega)
          have g4 : S Q (fun q => min (stepF f v A q) x) = S Q (stepF f v A) := S_eq fun q hq => by
            have := g3 q hq
            omega
          have g5 : S Q (fun q => min (stepF f v A q) (x - 1)) = S Q (stepF f v A) := (S_eq g3).trans g4
          have g6 : S K (stepF f v A) + S Q (stepF f v A) = S rest f - f v := by
            rw [← S_app, S_perm hp, S_cons, ← hA, ← S_sub]
            have : stepF f v A v = 0 := if_pos rfl
            rw [this, Int.zero_add]
            exact S_eq fun q hq => if_neg fun e : q = v => hv (e ▸ hq)
          have := mul_pred_even x
          omega
      · -- all of A outside K lack more
        have hbig : ∀ p ∈ R, A p = true → x + 1 ≤ f p := fun p hp3 hp4 => by
          apply Classical.byContradiction
          intro hq
          exact ht ⟨p, hp3, hp4, by omega⟩
        have et : S R (ind T) ≤ 0 := by
          have := S_le (l := R) (g := ind T) (h := fun _ => 0 * 1) fun p hp3 => by
            rcases ind_01 T p with ⟨e, _⟩ | ⟨e, e2⟩
            · omega
            · have e2 : (A p && decide (f p ≤ x)) = true := e2
              obtain ⟨e3, e4⟩ := Bool.and_eq_true_iff.mp e2
              have := hbig p hp3 e3
              have := of_decide_eq_true e4
              omega
          rw [S_mul] at this
          omega
        have hak : S K (ind A) ≤ x - 1 := by omega
        have hKm : S K f ≤ f v * x := by
          have := S_le (l := K) (g := f) (h := fun _ => f v * 1) fun p hp3 => by have := hm p (inK p hp3); omega
          rw [S_mul, S_one, hKx] at this
          exact this
        have hRb : x * S R (ind A) ≤ S R fun q => min (f q) x := by
          rw [← S_mul]
          refine S_le fun p hp3 => ?_
          have := h0 p (inR p hp3)
          rcases ind_01 A p with ⟨e, _⟩ | ⟨e, e2⟩
          · rw [e]; omega
          · have := hbig p hp3 e2
            rw [e]; omega
        generalize S K (ind A) = a at *
        generalize S R (ind A) = b at *
        generalize S R (fun q => min (f q) x) = W at *
        generalize S K f = V at *
        generalize f v = m at *
        have e1 : m * x = a * x + b * x := by rw [← hab, Int.add_mul]
        have e2 : x * b = b * x := Int.mul_comm _ _
        have e3 : a * (x - 1) ≤ (x - 1) * (x - 1) := Int.mul_le_mul_of_nonneg_right hak (by omega)
        have e4 : a * (x - 1) = a * x - a := by rw [Int.mul_sub, Int.mul_one]
        have e5 : (x - 1) * (x - 1) = x * (x - 1) - (x - 1) := by rw [Int.sub_mul, Int.one_mul]
        omega
  intro K Q hp
  exact key K.length K Q rfl hp
end KW

namespace KW
open PySem TW
/-! ### plain: the web of counts, point by point -/
def lk (L : List Int) (p : Int) : Int := L.getD p.toNat 0
theorem lk_set {L : List Int} {i p : Int} {x : Int} (hi : 0 ≤ i) (hl : i < L.length) (hp : 0 ≤ p) : lk (L.set i.toNat x) p = if p = i then x else lk L p := by
  unfold lk
  rw [List.getD_eq_getElem?_getD, List.getD_eq_getElem?_getD, List.getElem?_set]
  by_cases h : p = i
  · subst h
    rw [if_pos rfl, if_pos rfl, if_pos (by omega)]
    rfl
  · rw [if_neg (by omega), if_neg h]
theorem ordF_perm (L : List Int) : (ordF L).Perm (ptsL L.length) := List.mergeSort_perm _ _
theorem ordF_down (L : List Int) : (ordF L).Pairwise fun a b => lk L b ≤ lk L a := by
  unfold ordF
  refine (List.pairwise_mergeSort (le := PySem.W.dataLe false (ksOf fun i => -(L.getD i.toNat 0))) (fun a b c h1 h2 => (PySem.W.sortLe_total _ false _).trans a b c h1 h2) (fun a b => ?_) _).imp fun {a b} q => ?_
  · exact Bool.or_eq_true_iff.mpr ((PySem.W.sortLe_total _ false _).total a b)
  · have e : PySem.W.dataLe false (ksOf fun i => -(L.getD i.toNat 0)) a b = !ltL [-(L.getD b.toNat 0), b] [-(L.getD a.toNat 0), a] := dataLe_tI [-(L.getD a.toNat 0), a] [-(L.getD b.toNat 0), b]
    rw [e, ltL2, Bool.not_eq_true', decide_eq_false_iff_not] at q
    unfold lk
    omega
theorem EGp.perm {ps qs : List Int} {f : Int → Int} (h : EGp ps f) (p : ps.Perm qs) : EGp qs f := fun K Q k => h K Q (k.trans p.symm)
theorem EGp.congr {ps : List Int} {f g : Int → Int} (h : EGp ps f) (e : ∀ p ∈ ps, f p = g p) : EGp ps g := fun K Q k => by
  have h1 := h K Q k
  rw [S_eq (l := K) fun p hp => e p (k.mem_iff.mp (List.mem_append_left _ hp)), S_eq (l := Q) (h := fun q => min (g q) (K.length : Int)) fun p hp => by rw [e p (k.mem_iff.mp (List.mem_append_right _ hp))]] at h1
  exact h1
theorem nodup_pts (n : Nat) : (ptsL n).Nodup := pts_nodup n
/-- the first of a sorted row lack something -/
theorem take_pos {f : Int → Int} : ∀ {r : List Int} {m : Nat}, r.Pairwise (fun a b => f b ≤ f a) → (∀ p ∈ r, 0 ≤ f p) → (m : Int) ≤ S r (fun p => min (f p) 1) → m ≤ r.length ∧ ∀ p ∈ r.take m, 1 ≤ f p
  | [], m, _, _, h => by
    have : m = 0 := by rw [S_nil] at h; omega
    subst this
    exact ⟨Nat.le_refl _, fun p hp => by cases hp⟩
  | q :: r, 0, _, _, _ => ⟨Nat.zero_le _, fun p hp => by cases hp⟩
  | q :: r, m + 1, hs, h0, h => by
    rw [S_cons] at h
    have hs' := List.pairwise_cons.mp hs
    have hq := h0 q List.mem_cons_self
    by_cases h1 : 1 ≤ f q
    · obtain ⟨i1, i2⟩ := take_pos (m := m) hs'.2 (fun p hp => h0 p (List.mem_cons_of_mem _ hp)) (by omega)
      refine ⟨by rw [List.length_cons]; omega, fun p hp => ?_⟩
      rw [List.take_succ_cons] at hp
      rcases List.mem_cons.mp hp with rfl | hp
      · exact h1
      · exact i2 p hp
    · have hz : S r (fun p => min (f p) 1) ≤ S r (fun _ => 0 * 1) := S_le fun p hp => by
        have := hs'.1 p hp
        omega
      rw [S_mul] at hz
      omega
def decs (L : List Int) (ps : List Int) : List Int := ps.foldl (fun L p => L.set p.toNat (lk L p - 1)) L
theorem decs_snoc (L ps : List Int) (p : Int) : decs L (ps ++ [p]) = (decs L ps).set p.toNat (lk (decs L ps) p - 1) := by
  unfold decs
  rw [List.foldl_append]
  rfl
theorem decs_len (L : List Int) : ∀ ps : List Int, (decs L ps).length = L.length := by
  intro ps
  unfold decs
  induction ps generalizing L with
  | nil => rfl
  | cons p ps ih => rw [List.foldl_cons, ih, List.length_set]
theorem decs_lk : ∀ {ps L : List Int}, ps.Nodup → (∀ p ∈ ps, 0 ≤ p ∧ p < L.length) → ∀ q, 0 ≤ q → lk (decs L ps) q = lk L q - if q ∈ ps then 1 else 0
  | [], L, _, _, q, _ => by
    show lk L q = lk L q - _
    rw [if_neg (by simp)]; omega
  | p :: ps, L, hn, hr, q, hq => by
    have hn' := List.nodup_cons.mp hn
    have hp := hr p List.mem_cons_self
    have ih := decs_lk (L := L.set p.toNat (lk L p - 1)) hn'.2 (fun x hx => by rw [List.length_set]; exact hr x (List.mem_cons_of_mem _ hx)) q hq
    show lk (decs (L.set p.toNat (lk L p - 1)) ps) q = _
    rw [ih, lk_set hp.1 hp.2 hq]
    by_cases e : q = p
    · subst e
      rw [if_pos rfl, if_neg hn'.1, if_pos List.mem_cons_self]; omega
    · rw [if_neg e]
      by_cases m : q ∈ ps
      · rw [if_pos m, if_pos (List.mem_cons_of_mem _ m)]
      · rw [if_neg m, if_neg (fun z => (List.mem_cons.mp z).elim e m)]
def hhV (L : List Int) : Int := (ordF L).headD 0
def hhA (L : List Int) : List Int := ((ordF L).drop 1).take (lk L (hhV L)).toNat
def hhL (L : List Int) : List Int := (decs L (hhA L)).set (hhV L).toNat 0
def hhT (L : List Int) : List T2 := (hhA L).map (tie (hhV L))
/-- some point lacks something -/
def anyPos (L : List Int) : Bool := L.any fun x => decide (0 < x)
def hhAt (ns : List Int) : Nat → List T2 × List Int
  | 0 => ([], ns)
  | k + 1 => if anyPos (hhAt ns k).2 then ((hhAt ns k).1 ++ hhT (hhAt ns k).2, hhL (hhAt ns k).2) else hhAt ns k
def builtF (ns : List Int) : List T2 := srtT (hhAt ns ns.length).1
structure HInv (ns : List Int) (s : List T2 × List Int) : Prop where
  len : s.2.length = ns.length
  nn : ∀ p, 0 ≤ p → p < (ns.length : Int) → 0 ≤ lk s.2 p
  w : Web ns.length s.1
  deg : ∀ p, 0 ≤ p → p < (ns.length : Int) → lk ns p = (degI s.1 p : Int) + lk s.2 p
  eg : EGp (ptsL ns.length) (lk s.2)
  par : S (ptsL ns.length) (lk s.2) % 2 = 0
  dn : ∀ t ∈ s.1, lk s.2 t.1 = 0 ∨ lk s.2 t.2 = 0
theorem lk_mem {L : List Int} {p : Int} (h0 : 0 ≤ p) (h1 : p < L.length) : lk L p ∈ L := by
  unfold lk
  rw [List.getD_eq_getElem?_getD, List.getElem?_eq_getElem (by omega)]
  exact List.getElem_mem _
theorem mem_lk {L : List Int} {x : Int} (h : x ∈ L) : ∃ p : Int, 0 ≤ p ∧ p < L.length ∧ lk L p = x := by
  obtain ⟨i, hi, e⟩ := List.mem_iff_getElem.mp h
  refine ⟨i, by omega, by omega, ?_⟩
  unfold lk
  rw [Int.toNat_natCast, List.getD_eq_getElem?_getD, List.getElem?_eq_getElem hi, ← e]
  rfl
theorem degI_map (v q : Int) : ∀ A : List Int, v ∉ A → A.Nodup → (degI (A.map (tie v)) q : Int) = (if q = v then (A.length : Int) else 0) + if q ∈ A then 1 else 0
  | [], _, _ => by simp [degI]
  | p :: A, hv, hn => by
    have hn' := List.nodup_cons.mp hn
    have hvp : v ≠ p := fun e => hv (e ▸ List.mem_cons_self)
    have ih := degI_map v q A (fun h => hv (List.mem_cons_of_mem _ h)) hn'.2
    rw [List.map_cons, show tie v p :: A.map (tie v) = [tie v p] ++ A.map (tie v) from rfl, degI_app, degI_one _ _ _ hvp, Int.natCast_add, ih, List.length_cons]
    by_cases e1 : q = v
    · subst e1
      have : q ∉ p :: A := hv
      have : q ∉ A := fun h => hv (List.mem_cons_of_mem _ h)
      rw [if_pos rfl, if_neg hvp, if_pos rfl, if_neg ‹q ∉ A›, if_pos rfl, if_neg ‹q ∉ p :: A›]
      omega
    · rw [if_neg e1, if_neg e1, if_neg e1]
      by_cases e2 : q = p
      · subst e2
        rw [if_pos rfl, if_neg hn'.1, if_pos List.mem_cons_self]; rfl
      · rw [if_neg e2]
        by_cases m : q ∈ A
        · rw [if_pos m, if_pos (List.mem_cons_of_mem _ m)]; omega
        · rw [if_neg m, if_neg (fun z => (List.mem_cons.mp z).elim e2 m)]; omega
/-- what the step is made of -/
structure HStep (n : Nat) (L : List Int) : Prop where
  v : 0 ≤ hhV L ∧ hhV L < (n : Int)
  ord : ∃ rest, ordF L = hhV L :: rest
  d : 1 ≤ lk L (hhV L) ∧ lk L (hhV L) < (n : Int)
  dl : ((hhA L).length : Int) = lk L (hhV L)
  a : ∀ p ∈ hhA L, (0 ≤ p ∧ p < (n : Int)) ∧ p ≠ hhV L ∧ 1 ≤ lk L p
  nd : (hhA L).Nodup
theorem hh_step {ns : List Int} {s : List T2 × List Int} (h : HInv ns s) (hp : anyPos s.2 = true) : HStep ns.length s.2 ∧ HInv ns (s.1 ++ hhT s.2, hhL s.2) ∧ S (ptsL ns.length) (fun p => if 0 < lk (hhL s.2) p then 1 else 0) + 1 ≤ S (ptsL ns.length) (fun p => if 0 < lk s.2 p then 1 else 0) := by
  obtain ⟨T, L⟩ := s
  obtain ⟨len, nn, w, deg, eg, par, dn⟩ := h
  dsimp only at len nn w deg eg par dn hp ⊢
  generalize hnn : ns.length = n at *
  obtain ⟨x0, hx0, hx1⟩ := List.any_eq_true.mp hp
  have hx1 := of_decide_eq_true hx1
  obtain ⟨p0, q0, q1, q2⟩ := mem_lk hx0
  rw [len] at q1
  have po := ordF_perm L
  rw [len] at po
  have pd := ordF_down L
  obtain ⟨v, rest, eo⟩ : ∃ v rest, ordF L = v :: rest := by
    cases e : ordF L with
    | nil =>
      have := po.mem_iff.mpr (pts_mem.mpr ⟨q0, q1⟩)
      rw [e] at this; cases this
    | cons v rest => exact ⟨v, rest, rfl⟩
  have ev : hhV L = v := by unfold hhV; rw [eo]; rfl
  rw [eo] at po pd
  have pd' := List.pairwise_cons.mp pd
  have ndp : (v :: rest).Nodup := po.nodup_iff.mpr (pts_nodup n)
  have ndp' := List.nodup_cons.mp ndp
  have hv := pts_mem.mp (po.mem_iff.mp List.mem_cons_self)
  have inr : ∀ p ∈ rest, 0 ≤ p ∧ p < (n : Int) := fun p hp => pts_mem.mp (po.mem_iff.mp (List.mem_cons_of_mem _ hp))
  have nnr : ∀ p ∈ rest, 0 ≤ lk L p := fun p hp => nn p (inr p hp).1 (inr p hp).2
  have hmax : ∀ p ∈ rest, lk L p ≤ lk L v := pd'.1
  have hd1 : 1 ≤ lk L v := by
    rcases List.mem_cons.mp (po.mem_iff.mpr (pts_mem.mpr ⟨q0, q1⟩)) with e | e
    · rw [← e, q2]; omega
    · have := hmax p0 e; omega
  have egv := eg.perm po.symm
  have hcnt := egv [v] rest (List.Perm.refl _)
  rw [S_cons, S_nil, show (([v] : List Int).length : Int) = 1 from rfl] at hcnt
  obtain ⟨m, hm⟩ := Int.eq_ofNat_of_zero_le (show 0 ≤ lk L v by omega)
  obtain ⟨hml, hmp⟩ := take_pos (m := m) (f := lk L) pd'.2 nnr (by omega)
  have eA : hhA L = rest.take m := by unfold hhA; rw [ev, eo, hm]; rfl
  have hrl : (rest.length : Int) = n - 1 := by
    have := po.length_eq
    rw [List.length_cons, pts_len] at this
    omega
  have hAl : (rest.take m).length = m := by rw [List.length_take]; omega
  have hAr : ∀ p ∈ rest.take m, p ∈ rest := fun p hp => List.mem_of_mem_take hp
  have hAn : (rest.take m).Nodup := ndp'.2.sublist (List.take_sublist _ _)
  have hst : HStep n L := by
    refine ⟨by rw [ev]; exact hv, ⟨rest, by rw [ev]; exact eo⟩, by rw [ev]; omega, by rw [eA, ev, hAl]; exact hm.symm, fun p hp => ?_, by rw [eA]; exact hAn⟩
    rw [eA] at hp
    rw [ev]
    exact ⟨inr p (hAr p hp), fun e => ndp'.1 (e ▸ hAr p hp), hmp p hp⟩
  let A : Int → Bool := fun p => decide (p ∈ rest.take m)
  have hfar : ∀ p ∈ rest, A p = false → p ∈ rest.drop m := fun p hp hq => by
    have hq := of_decide_eq_false hq
    rw [← List.take_append_drop m rest] at hp
    exact (List.mem_append.mp hp).resolve_left hq
  have hS : S rest (ind A) = lk L v := by
    rw [show S rest (ind A) = S (rest.take m ++ rest.drop m) (ind A) by rw [List.take_append_drop], S_app]
    have h1 : S (rest.take m) (ind A) = S (rest.take m) fun _ => 1 := S_eq fun p hp => by
      show (if A p then (1 : Int) else 0) = 1
      rw [if_pos (decide_eq_true hp)]
    have h2 : S (rest.drop m) (ind A) = S (rest.drop m) fun _ => 0 * 1 := S_eq fun p hp => by
      show (if A p then (1 : Int) else 0) = 0 * 1
      have hnd := ndp'.2
      rw [← List.take_append_drop m rest, List.nodup_append] at hnd
      rw [if_neg (by rw [Bool.not_eq_true]; exact decide_eq_false fun z => hnd.2.2 p z p hp rfl)]; rfl
    rw [h1, h2, S_one, S_mul, hAl, hm]; omega
  have htop : ∀ p ∈ rest, ∀ q ∈ rest, A p = true → A q = false → lk L q ≤ lk L p := fun p _ q hq h1 h2 => by
    have hps := pd'.2
    rw [← List.take_append_drop m rest, List.pairwise_append] at hps
    exact hps.2.2 p (of_decide_eq_true h1) q (hfar q hq h2)
  have hpar : (lk L v + S rest (lk L)) % 2 = 0 := by
    rw [← S_cons, S_perm po]; exact par
  have eg1 := eg_step (A := A) ndp'.1 nnr hmax hS (fun p _ h1 => hmp p (of_decide_eq_true h1)) htop egv hpar
  have el : ∀ p, 0 ≤ p → p < (n : Int) → lk (hhL L) p = stepF (lk L) v A p := fun p p1 p2 => by
    unfold hhL
    rw [ev, eA, lk_set hv.1 (by rw [decs_len, len]; exact hv.2) p1]
    unfold stepF
    by_cases e : p = v
    · rw [if_pos e, if_pos e]
    · rw [if_neg e, if_neg e, decs_lk hAn (fun q hq => by rw [len]; exact inr q (hAr q hq)) p p1]
      show _ = lk L p - (if A p then 1 else 0)
      by_cases m2 : p ∈ rest.take m
      · rw [if_pos m2, if_pos (decide_eq_true m2)]
      · rw [if_neg m2, if_neg (by rw [Bool.not_eq_true]; exact decide_eq_false m2)]
  have step_nn : ∀ p, 0 ≤ p → p < (n : Int) → 0 ≤ lk (hhL L) p ∧ lk (hhL L) p ≤ lk L p := fun p p1 p2 => by
    rw [el p p1 p2]
    unfold stepF
    have := nn p p1 p2
    by_cases e : p = v
    · rw [if_pos e]; omega
    · rw [if_neg e]
      rcases ind_01 A p with ⟨e1, _⟩ | ⟨e1, e2⟩
      · omega
      · have := hmp p (of_decide_eq_true e2); omega
  have elv : lk (hhL L) v = 0 := by
    rw [el v hv.1 hv.2]
    unfold stepF
    rw [if_pos rfl]
  refine ⟨hst, ⟨?_, fun p p1 p2 => ?_, ?_, fun p p1 p2 => ?_, ?_, ?_, fun t ht => ?_⟩, ?_⟩
  · show (hhL L).length = _
    unfold hhL
    rw [List.length_set, decs_len, len, hnn]
  · rw [hnn] at p2
    exact (step_nn p p1 p2).1
  · rw [hnn]
    unfold hhT
    rw [ev, eA]
    refine ⟨fun t ht => ?_, List.nodup_append.mpr ⟨w.nd, ?_, fun t ht u hu e => ?_⟩⟩
    · rcases List.mem_append.mp ht with ht | ht
      · exact w.r t ht
      · obtain ⟨p, hp, rfl⟩ := List.mem_map.mp ht
        have h1 := inr p (hAr p hp)
        have h2 : p ≠ v := fun e => ndp'.1 (e ▸ hAr p hp)
        simp only [tie]
        omega
    · refine List.Pairwise.map (R := fun a b : Int => a ≠ b) (tie v) (fun a b hab e => ?_) hAn |>.imp (fun h => h)
      rcases tie_eq.mp e with ⟨_, e⟩ | ⟨e1, e2⟩
      · exact hab e
      · exact hab (by rw [e2, e1])
    · subst e
      obtain ⟨p, hp, rfl⟩ := List.mem_map.mp hu
      have h1 := hmp p hp
      have := dn _ ht
      simp only [tie] at this
      rcases Int.le_total v p with hle | hle
      · rw [Int.min_eq_left hle, Int.max_eq_right hle] at this; omega
      · rw [Int.min_eq_right hle, Int.max_eq_left hle] at this; omega
  · rw [hnn] at p2
    rw [degI_app, Int.natCast_add]
    unfold hhT
    rw [ev, eA, degI_map v p _ (fun z => ndp'.1 (hAr v z)) hAn, deg p p1 p2, hAl]
    show (degI T p : Int) + lk L p = _ + _ + lk (hhL L) p
    rw [el p p1 p2]
    unfold stepF
    by_cases e : p = v
    · subst e
      rw [if_pos rfl, if_pos rfl, if_neg (fun z => ndp'.1 (hAr p z)), hm]; omega
    · rw [if_neg e, if_neg e]
      show _ = _ + (lk L p - (if A p then 1 else 0))
      by_cases m2 : p ∈ rest.take m
      · rw [if_pos m2, if_pos (decide_eq_true m2)]; omega
      · rw [if_neg m2, if_neg (by rw [Bool.not_eq_true]; exact decide_eq_false m2)]; omega
  · rw [hnn]
    exact (eg1.perm po).congr fun p hp => (el p (pts_mem.mp hp).1 (pts_mem.mp hp).2).symm
  · rw [hnn]
    show S (ptsL n) (lk (hhL L)) % 2 = 0
    have e1 : S (ptsL n) (lk (hhL L)) = S (v :: rest) (stepF (lk L) v A) := by
      rw [S_perm po]
      exact S_eq fun p hp => el p (pts_mem.mp hp).1 (pts_mem.mp hp).2
    have e2 : S rest (stepF (lk L) v A) = S rest (lk L) - S rest (ind A) := by
      rw [← S_sub]
      exact S_eq fun p hp => if_neg fun e : p = v => ndp'.1 (e ▸ hp)
    rw [e1, S_cons, e2, hS]
    have e3 : stepF (lk L) v A v = 0 := if_pos rfl
    rw [e3]
    omega
  · show lk (hhL L) t.1 = 0 ∨ lk (hhL L) t.2 = 0
    rcases List.mem_append.mp ht with ht | ht
    · have r := w.r t ht
      rcases dn t ht with e | e
      · have := step_nn t.1 r.1 (by omega)
        left; omega
      · have := step_nn t.2 (by omega) r.2.2
        right; omega
    · unfold hhT at ht
      rw [ev, eA] at ht
      obtain ⟨p, hp, rfl⟩ := List.mem_map.mp ht
      simp only [tie]
      rcases Int.le_total v p with hle | hle
      · left; rw [Int.min_eq_left hle]; exact elv
      · right; rw [Int.max_eq_left hle]; exact elv
  · rw [← S_perm po, ← S_perm po, S_cons, S_cons, if_neg (by rw [elv]; omega), if_pos (by omega)]
    have := S_le (l := rest) (g := fun p => if 0 < lk (hhL L) p then 1 else 0) (h := fun p => if 0 < lk L p then 1 else 0) fun p hp => by
      have := step_nn p (inr p hp).1 (inr p hp).2
      split <;> split <;> omega
    omega
theorem hh_start {ns : List Int} (h0 : ∀ x ∈ ns, 0 ≤ x) (eg : EGp (ptsL ns.length) (lk ns)) (par : ns.sum % 2 = 0) (hs : S (ptsL ns.length) (lk ns) = ns.sum) : HInv ns ([], ns) :=
  ⟨rfl, fun p p1 p2 => h0 _ (lk_mem p1 p2), ⟨fun t ht => (by cases ht), List.nodup_nil⟩, fun p _ _ => by show lk ns p = ((0 : Nat) : Int) + lk ns p; omega, eg, by rw [hs]; exact par, fun t ht => by cases ht⟩
theorem hh_at {ns : List Int} (h : HInv ns ([], ns)) : ∀ k, HInv ns (hhAt ns k) ∧ (anyPos (hhAt ns k).2 = true → S (ptsL ns.length) (fun p => if 0 < lk (hhAt ns k).2 p then 1 else 0) + k ≤ ns.length)
  | 0 => ⟨h, fun _ => by
    have := S_le (l := ptsL ns.length) (g := fun p => if 0 < lk (hhAt ns 0).2 p then 1 else 0) (h := fun _ => 1) fun p _ => by split <;> omega
    rw [S_one, pts_len] at this
    omega⟩
  | k + 1 => by
    obtain ⟨i1, i2⟩ := hh_at h k
    by_cases hp : anyPos (hhAt ns k).2 = true
    · have e : hhAt ns (k + 1) = ((hhAt ns k).1 ++ hhT (hhAt ns k).2, hhL (hhAt ns k).2) := if_pos hp
      obtain ⟨_, g2, g3⟩ := hh_step i1 hp
      rw [e]
      refine ⟨g2, fun _ => ?_⟩
      have := i2 hp
      dsimp only
      omega
    · have e : hhAt ns (k + 1) = hhAt ns k := if_neg hp
      rw [e]
      exact ⟨i1, fun q => absurd q hp⟩
theorem anyPos_no {ns : List Int} {s : List T2 × List Int} (h : HInv ns s) (hp : anyPos s.2 = false) : ∀ p, 0 ≤ p → p < (ns.length : Int) → lk s.2 p = 0 := fun p p1 p2 => by
  have h1 := h.nn p p1 p2
  have h2 := List.any_eq_false.mp hp _ (lk_mem (L := s.2) p1 (by rw [h.len]; exact p2))
  have h2 : ¬ 0 < lk s.2 p := by simpa using h2
  omega
theorem hh_end {ns : List Int} (h : HInv ns ([], ns)) : anyPos (hhAt ns ns.length).2 = false := by
  obtain ⟨i1, i2⟩ := hh_at h ns.length
  cases hp : anyPos (hhAt ns ns.length).2 with
  | false => rfl
  | true =>
    obtain ⟨_, _, g3⟩ := hh_step i1 hp
    have h1 := S_nn (l := ptsL ns.length) (g := fun p => if 0 < lk (hhL (hhAt ns ns.length).2) p then 1 else 0) fun p _ => by split <;> omega
    have := i2 hp
    omega
/-- what is built has the counts -/
theorem built_ok {ns : List Int} (h : HInv ns ([], ns)) : Web ns.length (builtF ns) ∧ countsL ns.length (builtF ns) = ns := by
  obtain ⟨i1, _⟩ := hh_at h ns.length
  have hz := anyPos_no i1 (hh_end h)
  unfold builtF
  have pw := srtT_perm (hhAt ns ns.length).1
  refine ⟨⟨fun t ht => i1.w.r t (pw.mem_iff.mp ht), pw.nodup_iff.mpr i1.w.nd⟩, ?_⟩
  refine List.ext_getElem (by unfold countsL; rw [List.length_map, List.length_range]) fun i h1 h2 => ?_
  have ec : (countsL ns.length (srtT (hhAt ns ns.length).1))[i] = (degI (srtT (hhAt ns ns.length).1) (i : Int) : Int) :=
    (List.getElem_of_eq (show countsL ns.length (srtT (hhAt ns ns.length).1) = (List.range ns.length).map fun p : Nat => ((degI (srtT (hhAt ns ns.length).1) (p : Int) : Nat) : Int) from rfl) h1).trans (by rw [List.getElem_map, List.getElem_range])
  rw [ec, degI_perm pw]
  have := i1.deg (i : Int) (by omega) (by omega)
  rw [hz (i : Int) (by omega) (by omega)] at this
  have e : lk ns (i : Int) = ns[i] := by
    unfold lk
    rw [Int.toNat_natCast, List.getD_eq_getElem?_getD, List.getElem?_eq_getElem h2]
    rfl
  omega
end KW

namespace KW
open PySem TW
/-! ### plain: the greatest counts want the most -/
theorem S_top {g : Int → Int} : ∀ {o K Q : List Int}, o.Pairwise (fun a b => g b ≤ g a) → (K ++ Q).Perm o → S K g ≤ S (o.take K.length) g
  | [], K, Q, _, h => by
    have : K ++ Q = [] := List.perm_nil.mp h
    rw [List.append_eq_nil_iff] at this
    rw [this.1]; exact Int.le_refl _
  | x :: o, K, Q, hs, h => by
    have hs' := List.pairwise_cons.mp hs
    cases K with
    | nil => exact Int.le_refl _
    | cons y K =>
      rw [List.length_cons, List.take_succ_cons, S_cons, S_cons]
      by_cases hx : x ∈ y :: K
      · obtain ⟨K1, K2, eK⟩ := List.append_of_mem hx
        have pK : (y :: K).Perm (x :: (K1 ++ K2)) := by rw [eK]; exact List.perm_middle
        have hl : (K1 ++ K2).length = K.length := by
          have := pK.length_eq
          rw [List.length_cons, List.length_cons] at this; omega
        have hp : ((K1 ++ K2) ++ Q).Perm o := by
          have : (x :: ((K1 ++ K2) ++ Q)).Perm (x :: o) := ((pK.append_right Q).symm).trans h
          exact this.cons_inv
        have ih := S_top (g := g) hs'.2 hp
        rw [hl] at ih
        have e := S_perm pK g
        rw [S_cons, S_cons] at e
        omega
      · have hxQ : x ∈ Q := (List.mem_append.mp (h.mem_iff.mpr List.mem_cons_self)).resolve_left hx
        obtain ⟨Q1, Q2, eQ⟩ := List.append_of_mem hxQ
        have pQ : Q.Perm (x :: (Q1 ++ Q2)) := by rw [eQ]; exact List.perm_middle
        have hp : (K ++ (y :: (Q1 ++ Q2))).Perm o := by
          have h1 : (x :: ((y :: K) ++ (Q1 ++ Q2))).Perm (x :: o) := by
            refine List.Perm.trans ?_ h
            refine List.Perm.trans (List.perm_middle).symm ?_
            exact (pQ.append_left (y :: K)).symm
          exact (List.perm_middle).trans h1.cons_inv
        have ih := S_top (g := g) hs'.2 hp
        have hy : g y ≤ g x := hs'.1 y (hp.mem_iff.mp (List.mem_append_right _ List.mem_cons_self))
        omega
theorem lk_pts (ns : List Int) : (ptsL ns.length).map (lk ns) = ns := by
  refine List.ext_getElem (by rw [List.length_map, pts_len]) fun i h1 h2 => ?_
  have e : (ptsL ns.length)[i]'(by rw [pts_len]; exact h2) = (i : Int) := by
    have := pts_get h2
    rw [List.getElem?_eq_getElem (by rw [pts_len]; exact h2)] at this
    exact Option.some.inj this
  rw [List.getElem_map, e]
  unfold lk
  rw [Int.toNat_natCast, List.getD_eq_getElem?_getD, List.getElem?_eq_getElem h2]
  rfl
theorem S_lk (ns : List Int) : S (ptsL ns.length) (lk ns) = ns.sum := by unfold S; rw [lk_pts]
theorem ord_desc (ns : List Int) : (ordF ns).map (lk ns) = desc ns := by
  refine TW.perm_down_eq ?_ ?_ (desc_down ns)
  · refine ((ordF_perm ns).map (lk ns)).trans ?_
    rw [lk_pts]
    exact (desc_perm ns).symm
  · exact List.Pairwise.map (lk ns) (fun a b h => h) (ordF_down ns)
theorem want_ord (ns : List Int) (k : Nat) : wantF ns k = (S ((ordF ns).take k) (lk ns), (k : Int) * ((k : Int) - 1) + S ((ordF ns).drop k) fun q => min (lk ns q) (k : Int)) := by
  unfold wantF S
  rw [← ord_desc, List.map_take, List.map_drop, List.map_drop, List.map_map]
  rfl
/-- what no greatest want too much of, no points want too much of -/
theorem eg_of_want {ns : List Int} (h0 : ∀ x ∈ ns, 0 ≤ x) (h : ∀ k, 1 ≤ k → k ≤ ns.length → (wantF ns k).1 ≤ (wantF ns k).2) : EGp (ptsL ns.length) (lk ns) := by
  intro K Q hp
  have po := hp.trans (ordF_perm ns).symm
  have nn : ∀ p ∈ K ++ Q, 0 ≤ lk ns p := fun p hp2 => by
    have := pts_mem.mp (hp.mem_iff.mp hp2)
    exact h0 _ (lk_mem this.1 this.2)
  by_cases hk : K.length = 0
  · have : K = [] := List.eq_nil_of_length_eq_zero hk
    subst this
    rw [S_nil]
    have := S_nn (l := Q) (g := fun q => min (lk ns q) ((([] : List Int).length : Nat) : Int)) fun q hq => by
      have := nn q (List.mem_append_right _ hq)
      have e : ((([] : List Int).length : Nat) : Int) = 0 := rfl
      rw [e]; omega
    have e : ((([] : List Int).length : Nat) : Int) = 0 := rfl
    rw [e] at this ⊢
    omega
  · have hl : K.length ≤ ns.length := by
      have := hp.length_eq
      rw [List.length_append, pts_len] at this; omega
    have hw := h K.length (by omega) hl
    rw [want_ord] at hw
    dsimp only at hw
    generalize hx : ((K.length : Nat) : Int) = x at *
    have ht := S_top (g := fun p => lk ns p + min (lk ns p) x) ((ordF_down ns).imp fun {a b} q => by omega) po
    rw [S_add, S_add] at ht
    have e1 := S_perm po fun q => min (lk ns q) x
    rw [S_app] at e1
    have e2 : S (ordF ns) (fun q => min (lk ns q) x) = S ((ordF ns).take K.length) (fun q => min (lk ns q) x) + S ((ordF ns).drop K.length) (fun q => min (lk ns q) x) := by
      rw [← S_app, List.take_append_drop]
    omega
/-- counts that ask for no more than there can be have a web -/
theorem built_is {ns : List Int} (h0 : ∀ x ∈ ns, 0 ≤ x) (hp : ns.sum % 2 = 0) (h : ∀ k, 1 ≤ k → k ≤ ns.length → (wantF ns k).1 ≤ (wantF ns k).2) : HInv ns ([], ns) := hh_start h0 (eg_of_want h0 h) hp (S_lk ns)
/-! ### plain: a web's counts ask for no more -/
def ajI (T : List T2) (p q : Int) : Int := if tie p q ∈ T then 1 else 0
theorem ajI_symm (T : List T2) (p q : Int) : ajI T p q = ajI T q p := by unfold ajI; rw [show tie p q = tie q p from tie_eq.mpr (.inr ⟨rfl, rfl⟩)]
theorem ajI_01 (T : List T2) (p q : Int) : 0 ≤ ajI T p q ∧ ajI T p q ≤ 1 := by unfold ajI; split <;> omega
theorem S_is {x : Int} : ∀ {l : List Int}, l.Nodup → x ∈ l → S l (fun q => if q = x then 1 else 0) = 1
  | [], _, h => by cases h
  | y :: l, hn, h => by
    have hn' := List.nodup_cons.mp hn
    rw [S_cons]
    by_cases e : y = x
    · subst e
      rw [if_pos rfl]
      have : S l (fun q => if q = y then 1 else 0) = S l fun _ => 0 * 1 := S_eq fun p hp => by
        rw [if_neg fun e : p = y => hn'.1 (e ▸ hp)]; rfl
      rw [this, S_mul]; omega
    · rw [if_neg e, S_is hn'.2 ((List.mem_cons.mp h).resolve_left fun z => e z.symm)]; rfl
theorem S_zero {l : List Int} {g : Int → Int} (h : ∀ p ∈ l, g p = 0) : S l g = 0 := by
  have : S l g = S l fun _ => 0 * 1 := S_eq fun p hp => by rw [h p hp]; rfl
  rw [this, S_mul]; omega
theorem S_swap (l m : List Int) (g : Int → Int → Int) : S l (fun p => S m (g p)) = S m fun q => S l fun p => g p q := by
  induction l with
  | nil => exact (S_zero fun _ _ => rfl).symm
  | cons p l ih =>
    rw [S_cons, ih, ← S_add]
    exact S_eq fun q _ => (S_cons p l fun p => g p q).symm
theorem deg_aj {n : Nat} {p : Int} (hp : 0 ≤ p ∧ p < (n : Int)) : ∀ {T : List T2}, (∀ t ∈ T, 0 ≤ t.1 ∧ t.1 < t.2 ∧ t.2 < (n : Int)) → T.Nodup → (degI T p : Int) = S (ptsL n) (ajI T p)
  | [], _, _ => by
    rw [S_zero fun q _ => show ajI [] p q = 0 from if_neg fun h => by cases h]
    rfl
  | t :: T, hr, hn => by
    have hn' := List.nodup_cons.mp hn
    have ht := hr t List.mem_cons_self
    have ih := deg_aj hp (fun x hx => hr x (List.mem_cons_of_mem _ hx)) hn'.2
    have e1 : degI (t :: T) p = degI [t] p + degI T p := degI_app [t] T p
    have e2 : degI [t] p = (if p = t.1 then 1 else 0) + if p = t.2 then 1 else 0 := by
      have := degI_one t.1 t.2 p (by omega)
      rwa [tie_of ht.2.1] at this
    have e3 : S (ptsL n) (ajI (t :: T) p) = S (ptsL n) (fun q => if tie p q = t then 1 else 0) + S (ptsL n) (ajI T p) := by
      rw [← S_add]
      refine S_eq fun q _ => ?_
      unfold ajI
      by_cases h : tie p q = t
      · rw [if_pos h, if_pos (h ▸ List.mem_cons_self), h, if_neg hn'.1]; rfl
      · rw [if_neg h]
        by_cases h2 : tie p q ∈ T
        · rw [if_pos h2, if_pos (List.mem_cons_of_mem _ h2)]; rfl
        · rw [if_neg h2, if_neg fun z => (List.mem_cons.mp z).elim h h2]; rfl
    have e4 : S (ptsL n) (fun q => if tie p q = t then 1 else 0) = (if p = t.1 then 1 else 0) + if p = t.2 then 1 else 0 := by
      have iff : ∀ q, tie p q = t ↔ (p = t.1 ∧ q = t.2) ∨ (p = t.2 ∧ q = t.1) := fun q => by
        have := tie_eq (a := p) (b := q) (c := t.1) (d := t.2)
        rwa [tie_of ht.2.1] at this
      by_cases a : p = t.1
      · rw [if_pos a, if_neg (by omega), Int.add_zero]
        rw [show S (ptsL n) (fun q => if tie p q = t then (1 : Int) else 0) = S (ptsL n) fun q => if q = t.2 then 1 else 0 from S_eq fun q _ => by
          by_cases h : q = t.2
          · rw [if_pos h, if_pos ((iff q).mpr (.inl ⟨a, h⟩))]
          · rw [if_neg h, if_neg fun z => ((iff q).mp z).elim (fun y => h y.2) fun y => by omega]]
        exact S_is (pts_nodup n) (pts_mem.mpr ⟨by omega, by omega⟩)
      · rw [if_neg a]
        by_cases b : p = t.2
        · rw [if_pos b, Int.zero_add]
          rw [show S (ptsL n) (fun q => if tie p q = t then (1 : Int) else 0) = S (ptsL n) fun q => if q = t.1 then 1 else 0 from S_eq fun q _ => by
            by_cases h : q = t.1
            · rw [if_pos h, if_pos ((iff q).mpr (.inr ⟨b, h⟩))]
            · rw [if_neg h, if_neg fun z => ((iff q).mp z).elim (fun y => a y.1) fun y => h y.2]]
          exact S_is (pts_nodup n) (pts_mem.mpr ⟨by omega, by omega⟩)
        · rw [if_neg b]
          exact S_zero fun q _ => if_neg fun z => ((iff q).mp z).elim (fun y => a y.1) fun y => b y.1
    rw [e1, e2, e3, e4, Int.natCast_add, ih]
    split <;> split <;> omega
theorem web_eg {n : Nat} {T : List T2} (w : Web n T) : EGp (ptsL n) (fun p => (degI T p : Int)) := by
  intro K Q hp
  have nd := hp.nodup_iff.mpr (pts_nodup n)
  have ndK : K.Nodup := (List.nodup_append.mp nd).1
  have inK : ∀ p ∈ K, 0 ≤ p ∧ p < (n : Int) := fun p h => pts_mem.mp (hp.mem_iff.mp (List.mem_append_left _ h))
  have inQ : ∀ p ∈ Q, 0 ≤ p ∧ p < (n : Int) := fun p h => pts_mem.mp (hp.mem_iff.mp (List.mem_append_right _ h))
  have dg : ∀ p, 0 ≤ p ∧ p < (n : Int) → (degI T p : Int) = S K (ajI T p) + S Q (ajI T p) := fun p h => by rw [deg_aj h w.r w.nd, ← S_app, S_perm hp]
  have e1 : S K (fun p => (degI T p : Int)) = S K (fun p => S K (ajI T p)) + S K fun p => S Q (ajI T p) := by
    rw [← S_add]
    exact S_eq fun p h => dg p (inK p h)
  have e2 : S K (fun p => S K (ajI T p)) ≤ (K.length : Int) * ((K.length : Int) - 1) := by
    have h1 : S K (fun p => S K (ajI T p)) ≤ S K fun _ => ((K.length : Int) - 1) * 1 := S_le fun p h => by
      have h2 : S K (ajI T p) ≤ S K fun q => 1 - if q = p then 1 else 0 := S_le fun q _ => by
        by_cases e : q = p
        · subst e
          have : ajI T q q = 0 := if_neg fun z => by
            have := w.r _ z
            unfold tie at this
            dsimp only at this
            omega
          rw [this, if_pos rfl]; omega
        · rw [if_neg e]
          have := ajI_01 T p q
          omega
      rw [S_sub, S_one, S_is ndK h] at h2
      omega
    rw [S_mul, S_one, Int.mul_comm] at h1
    exact h1
  have e3 : S K (fun p => S Q (ajI T p)) ≤ S Q fun q => min (degI T q : Int) (K.length : Int) := by
    rw [S_swap]
    refine S_le fun q h => ?_
    have h1 : S K (fun p => ajI T p q) ≤ S K fun _ => 1 := S_le fun p _ => (ajI_01 T p q).2
    rw [S_one] at h1
    have h2 : S K (fun p => ajI T p q) = S K (ajI T q) := S_eq fun p _ => ajI_symm T p q
    have h3 := dg q (inQ q h)
    have h4 : 0 ≤ S Q (ajI T q) := S_nn fun p _ => (ajI_01 T q p).1
    omega
  show S K (fun p => (degI T p : Int)) ≤ (K.length : Int) * ((K.length : Int) - 1) + S Q fun q => min (degI T q : Int) (K.length : Int)
  omega
theorem lk_counts {n : Nat} (T : List T2) {p : Int} (hp : 0 ≤ p ∧ p < (n : Int)) : lk (countsL n T) p = (degI T p : Int) := by
  unfold lk countsL
  rw [List.getD_eq_getElem?_getD, List.getElem?_map, List.getElem?_range (by omega), Option.map_some, Option.getD_some, Int.toNat_of_nonneg hp.1]

theorem web_want {n : Nat} {T : List T2} (w : Web n T) (k : Nat) (hk : k ≤ n) : (wantF (countsL n T) k).1 ≤ (wantF (countsL n T) k).2 := by
  have e := web_eg w
  have pc := ordF_perm (countsL n T)
  rw [countsL_len] at pc
  have hl : ((ordF (countsL n T)).take k).length = k := by
    rw [List.length_take, pc.length_eq, pts_len]; omega
  have e1 : EGp (ptsL n) (lk (countsL n T)) := e.congr fun p hp => (lk_counts T (pts_mem.mp hp)).symm
  have := e1 ((ordF (countsL n T)).take k) ((ordF (countsL n T)).drop k) (by rw [List.take_append_drop]; exact pc)
  rw [hl] at this
  rw [want_ord]
  exact this
/-- the first many of which the greatest want too much, from i on -/
def firstBad (ns : List Int) : Nat → Nat → Option Nat
  | _, 0 => none
  | i, k + 1 => if (wantF ns i).2 < (wantF ns i).1 then some i else firstBad ns (i + 1) k
def badF (ns : List Int) : Option Nat := firstBad ns 1 ns.length
theorem firstBad_none {ns : List Int} : ∀ {k i : Nat}, firstBad ns i k = none → ∀ j, i ≤ j → j < i + k → (wantF ns j).1 ≤ (wantF ns j).2
  | 0, i, _, j, h1, h2 => by omega
  | k + 1, i, h, j, h1, h2 => by
    unfold firstBad at h
    by_cases hb : (wantF ns i).2 < (wantF ns i).1
    · rw [if_pos hb] at h; cases h
    · rw [if_neg hb] at h
      by_cases e : j = i
      · subst e; omega
      · exact firstBad_none h j (by omega) (by omega)
theorem firstBad_all {ns : List Int} : ∀ {k i : Nat}, (∀ j, i ≤ j → j < i + k → (wantF ns j).1 ≤ (wantF ns j).2) → firstBad ns i k = none
  | 0, i, _ => rfl
  | k + 1, i, h => by
    unfold firstBad
    rw [if_neg (by have := h i (by omega) (by omega); omega)]
    exact firstBad_all fun j h1 h2 => h j (by omega) (by omega)
theorem firstBad_some {ns : List Int} : ∀ {k i b : Nat}, firstBad ns i k = some b → i ≤ b ∧ b < i + k ∧ (wantF ns b).2 < (wantF ns b).1 ∧ ∀ j, i ≤ j → j < b → (wantF ns j).1 ≤ (wantF ns j).2
  | 0, i, b, h => by cases h
  | k + 1, i, b, h => by
    unfold firstBad at h
    by_cases hb : (wantF ns i).2 < (wantF ns i).1
    · rw [if_pos hb] at h
      cases h
      exact ⟨by omega, by omega, hb, fun j h1 h2 => by omega⟩
    · rw [if_neg hb] at h
      obtain ⟨h1, h2, h3, h4⟩ := firstBad_some h
      refine ⟨by omega, by omega, h3, fun j j1 j2 => ?_⟩
      by_cases e : j = i
      · subst e; omega
      · exact h4 j (by omega) j2
theorem firstBad_app {ns : List Int} : ∀ {k i m : Nat}, firstBad ns i k = none → firstBad ns i (k + m) = firstBad ns (i + k) m
  | 0, i, m, _ => by rw [Nat.zero_add, Nat.add_zero]
  | k + 1, i, m, h => by
    unfold firstBad at h
    by_cases hb : (wantF ns i).2 < (wantF ns i).1
    · rw [if_pos hb] at h; cases h
    · rw [if_neg hb] at h
      rw [show k + 1 + m = (k + m) + 1 by omega]
      have : firstBad ns i (k + m + 1) = firstBad ns (i + 1) (k + m) := if_neg hb
      rw [this, firstBad_app h, show i + 1 + k = i + (k + 1) by omega]
theorem badF_perm {a b : List Int} (h : a.Perm b) : badF a = badF b := by
  unfold badF
  rw [h.length_eq]
  have : ∀ k i, firstBad a i k = firstBad b i k := fun k => by
    induction k with
    | zero => intro i; rfl
    | succ k ih =>
      intro i
      unfold firstBad
      rw [show wantF a i = wantF b i by unfold wantF; rw [desc_of_perm h], ih]
  exact this _ _
/-- the word that is due -/
inductive Word where
  | odd | many (k : Nat) | web
  deriving DecidableEq
def wordF (ns : List Int) : Word := if ns.sum % 2 = 1 then .odd else match badF ns with | some k => .many k | none => .web
theorem word_perm {a b : List Int} (h : a.Perm b) : wordF a = wordF b := by unfold wordF; rw [perm_sum h, badF_perm h]
theorem word_web {n : Nat} {T : List T2} (w : Web n T) : wordF (countsL n T) = .web := by
  unfold wordF
  have e : badF (countsL n T) = none := by
    unfold badF
    rw [countsL_len]
    exact firstBad_all fun j _ h2 => web_want w j (by omega)
  rw [counts_sum w.r, if_neg (by omega), e]
theorem word_built {ns : List Int} (h0 : ∀ x ∈ ns, 0 ≤ x) (h : wordF ns = .web) : HInv ns ([], ns) := by
  unfold wordF at h
  by_cases e : ns.sum % 2 = 1
  · rw [if_pos e] at h; cases h
  · rw [if_neg e] at h
    cases eb : badF ns with
    | some k => rw [eb] at h; cases h
    | none => exact built_is h0 (by omega) fun k h1 h2 => firstBad_none eb k h1 (by omega)
end KW

namespace KW
open PySem PySem.Spec PyProof.Rows L2 TW
local macro_rules | `(tactic| walk_at "bo") => `(tactic| first | with_reducible exact o_add | with_reducible exact o_sub | with_reducible exact o_lt | with_reducible exact o_le | with_reducible exact o_gt | with_reducible exact o_ge | with_reducible exact o_eqI | with_reducible exact o_neI | with_reducible refine o_mod ?_ <;> omega | with_reducible refine o_fdiv ?_ ?_ <;> omega | with_reducible exact o_isN | with_reducible exact o_notN | exact o_add | exact o_sub | exact o_lt | exact o_le | exact o_gt | exact o_ge | exact o_eqI | exact o_neI | exact o_mod (by omega) | exact o_fdiv (by omega) (by omega) | exact o_mul (.inl (by omega)) | exact o_mul (.inr (by omega)) | exact o_eqS | exact o_neS | exact o_eqB | exact o_neB | exact o_isN | exact o_notN | exact o_cat rfl rfl (by walk_at "le"))
local macro_rules | `(tactic| walk_at "le") => `(tactic| first | decide | omega | (simp only [List.length_append, List.length_cons, List.length_nil, List.length_map, List.length_take, List.length_drop, List.length_range]; omega))
local macro_rules | `(tactic| walk_at "rg") => `(tactic| first | omega | decide)
local macro_rules | `(tactic| walk_at "bc") => `(tactic| first | exact c_len rfl | exact c_min2 rfl | exact c_max2 rfl | exact c_sum rfl rfl | exact c_any rfl rfl | exact c_all rfl rfl | exact c_list (tup := true) (.inl rfl) | exact c_list (tup := true) (.inr rfl) | exact c_tuple rfl | exact c_intB)
local macro_rules | `(tactic| walk_at "sl") => `(tactic| first | exact s_take rfl | exact s_drop rfl)
local macro_rules | `(tactic| walk_at "ns") => `(tactic| first | assumption | rfl)
local macro_rules | `(tactic| walk_at "bk") => `(tactic| first | rfl | decide +kernel)
local macro_rules | `(tactic| walk_at "wk") => `(tactic| repeat (first | exact trivial | refine ⟨Or.inl rfl, ?_⟩ | refine ⟨Or.inr rfl, ?_⟩))
local macro_rules | `(tactic| walk_at "pre") => `(tactic| first | trivial | assumption)
local macro_rules | `(tactic| walk_at "ix") => `(tactic| first | exact x_list rfl rfl | exact x_tup rfl)
section
variable {P : Program} {w : World} {K : KF} {mg : Str → Option Value} {base : Heap} {f : Addr} {fd : FuncData}
abbrev n_too_many : List Str := ["counts", "many", "want", "room"]
theorem sc_too_many : FnScope n_too_many ["counts"] (defScope s_too_many) := ⟨rfl, rfl, rfl, by decide +kernel, rfl, by decide +kernel, by decide +kernel⟩
def manyD : Option Nat → PD
  | some k => .int (k : Int)
  | none => .none
abbrev F_too_many (P : Program) (w : World) (K : KF) (mg : Str → Option Value) (base : Heap) : Prop :=
  Fn P w K mg base "too_many" 2 ["counts"] (spF K (fun ns : List Int => ns.length ≤ 100) (fun ns => [.list (ns.map .int)]) fun ns => .ret (.sh (manyD (badF ns))))
theorem ok_too_many (F : Fun K "too_many" "too_many" s_too_many f fd) (hm : mg "too_many" = some (.ref f)) (hb : Binds K fd ["counts"] []) (T : Bt mg) (h_wanted_by : F_wanted_by P w K mg base) : F_too_many P w K mg base := by
  refine fn_pure F hm hb sc_too_many (fun _ => rfl) fun cdv A outer s G H E ns hr hl hE => ?_
  have hN := sc_too_many.nd
  have hl : ns.length ≤ 100 := hl
  refine bl_for (ds := rangeD 1 ns.length) (passes_of rfl) rfl (by rw [show ns.length = ((ns.length : Int) + 1 - 1).toNat by omega]; exact it_range2 T.range (ar_cons ev_int (ar_cons (ev_bin (ev_bi T.len (c_len (n := ns.length) (by show some _ = _; rw [List.length_map])) (ar_cons (ev_nsh (i := 0) rfl) ar_nil)) ev_int (by walk_at "bo")) ar_nil)) (by omega)) (fun i env' => firstBad ns 1 i = none ∧ wk env' [some (.sh (.list (ns.map .int))), none, none, none]) ⟨rfl, by walk_at "wk"⟩ (fun Gb i d env1 hi hI => ?_) (fun env1 hI => ?_)
  · obtain ⟨hi, rfl⟩ := rangeD_get hi
    obtain ⟨hn, hI⟩ := hI
    have e1 : (1 : Int) + (i : Int) = ((1 + i : Nat) : Int) := by omega
    rw [e1]
    refine ⟨_, tg_name 1 hN, bl_wkset hI ?_⟩
    refine bl_unp (d := p2 (wantF ns (1 + i))) (evS_sh (ev_call h_wanted_by (ns, 1 + i) hr ⟨by show ns.length ≤ 1000; omega, by show 1 + i ≤ 1000; omega⟩ (as_cons (evS_sh (ev_nsh (i := 0) rfl)) (as_cons (evS_sh (ev_nsh (i := 1) rfl)) as_nil)) rfl)) (tg_tup rfl (tgs_cons (tg_name 2 hN) (tgs_cons (tg_name 3 hN) tgs_nil))) ?_
    have hs : firstBad ns 1 (i + 1) = firstBad ns (1 + i) 1 := firstBad_app hn
    refine bl_if (ts_cmp (ev_nsh (i := 2) rfl) (ev_nsh (i := 3) rfl) (by walk_at "bo")) (fun h => ?_) (fun h => ?_)
    · have h := of_decide_eq_true h
      refine bl_retV (r := .sh (.int ((1 + i : Nat) : Int))) 1 rfl ?_
      have hb : badF ns = some (1 + i) := by
        unfold badF
        obtain ⟨m, hm⟩ := Nat.exists_eq_add_of_le (show i + 1 ≤ ns.length by omega)
        have : firstBad ns (1 + i) 1 = some (1 + i) := if_pos (by omega)
        rw [hm, show i + 1 + m = i + (1 + m) by omega, firstBad_app hn, Nat.add_comm 1 m]
        exact if_pos (by omega)
      show _ = RV.sh (manyD (badF ns))
      rw [hb]
      rfl
    · have h := of_decide_eq_false h
      refine bl_nil (bl_nil ⟨?_, by walk_at "wk"⟩)
      rw [hs]
      exact if_neg (by omega)
  · obtain ⟨hn, hI⟩ := hI
    rw [rangeD_len] at hn
    refine bl_wk ?_ hI
    refine bl_ret ev_none ?_
    show _ = RV.sh (manyD (badF ns))
    rw [show badF ns = none from hn]
    rfl
end
end KW

namespace KW
open PySem PySem.Spec PyProof.Rows L2 TW
local macro_rules | `(tactic| walk_at "bo") => `(tactic| first | with_reducible exact o_add | with_reducible exact o_sub | with_reducible exact o_lt | with_reducible exact o_le | with_reducible exact o_gt | with_reducible exact o_ge | with_reducible exact o_eqI | with_reducible exact o_neI | with_reducible refine o_mod ?_ <;> omega | with_reducible refine o_fdiv ?_ ?_ <;> omega | with_reducible exact o_isN | with_reducible exact o_notN | exact o_add | exact o_sub | exact o_lt | exact o_le | exact o_gt | exact o_ge | exact o_eqI | exact o_neI | exact o_mod (by omega) | exact o_fdiv (by omega) (by omega) | exact o_mul (.inl (by omega)) | exact o_mul (.inr (by omega)) | exact o_eqS | exact o_neS | exact o_eqB | exact o_neB | exact o_isN | exact o_notN | exact o_cat rfl rfl (by walk_at "le"))
local macro_rules | `(tactic| walk_at "le") => `(tactic| first | decide | omega | (simp only [List.length_append, List.length_cons, List.length_nil, List.length_map, List.length_take, List.length_drop, List.length_range]; omega))
local macro_rules | `(tactic| walk_at "rg") => `(tactic| first | omega | decide)
local macro_rules | `(tactic| walk_at "bc") => `(tactic| first | exact c_len rfl | exact c_min2 rfl | exact c_max2 rfl | exact c_sum rfl rfl | exact c_any rfl rfl | exact c_all rfl rfl | exact c_list (tup := true) (.inl rfl) | exact c_list (tup := true) (.inr rfl) | exact c_tuple rfl | exact c_intB)
local macro_rules | `(tactic| walk_at "sl") => `(tactic| first | exact s_take rfl | exact s_drop rfl)
local macro_rules | `(tactic| walk_at "ns") => `(tactic| first | assumption | rfl)
local macro_rules | `(tactic| walk_at "bk") => `(tactic| first | rfl | decide +kernel)
local macro_rules | `(tactic| walk_at "wk") => `(tactic| repeat (first | exact trivial | refine ⟨Or.inl rfl, ?_⟩ | refine ⟨Or.inr rfl, ?_⟩))
local macro_rules | `(tactic| walk_at "pre") => `(tactic| first | trivial | assumption)
local macro_rules | `(tactic| walk_at "ix") => `(tactic| first | exact x_list rfl rfl | exact x_tup rfl)
section
variable {P : Program} {w : World} {K : KF} {mg : Str → Option Value} {base : Heap} {f : Addr} {fd : FuncData}
abbrev n_built : List Str := ["counts", "ties", "order", "first", "point", "lacks"]
theorem sc_built : FnScope n_built ["counts"] (defScope s_built) := ⟨rfl, rfl, rfl, by decide +kernel, rfl, by decide +kernel, by decide +kernel⟩
abbrev BuiltPre (ns : List Int) : Prop := HInv ns ([], ns) ∧ 1 ≤ ns.length ∧ ns.length ≤ 10
abbrev F_built (P : Program) (w : World) (K : KF) (mg : Str → Option Value) (base : Heap) (P0 : Addr) : Prop :=
  Fn P w K mg base "built" 3 ["counts"] (spT K P0 BuiltPre (fun ns => [.list (ns.map .int)]) fun ns => .ret (.own ((builtF ns).map p2)))
theorem max_of : ∀ {l : List Int}, l ≠ [] → ∃ m ∈ l, ∀ y ∈ l, y ≤ m
  | [], h => absurd rfl h
  | [x], _ => ⟨x, List.mem_cons_self, fun y hy => by rw [List.mem_singleton] at hy; omega⟩
  | x :: y :: l, _ => by
    obtain ⟨m, h1, h2⟩ := max_of (l := y :: l) (by simp)
    by_cases h : x ≤ m
    · exact ⟨m, List.mem_cons_of_mem _ h1, fun z hz => (List.mem_cons.mp hz).elim (fun e => by omega) (h2 z)⟩
    · exact ⟨x, List.mem_cons_self, fun z hz => (List.mem_cons.mp hz).elim (fun e => by omega) fun q => by have := h2 z q; omega⟩
theorem anyPos_max {l : List Int} {m : Int} (h1 : m ∈ l) (h2 : ∀ y ∈ l, y ≤ m) : anyPos l = decide (m > 0) := by
  unfold anyPos
  by_cases h : m > 0
  · rw [decide_eq_true h]
    exact List.any_eq_true.mpr ⟨m, h1, decide_eq_true h⟩
  · rw [decide_eq_false h]
    exact List.any_eq_false.mpr fun y hy => by
      have := h2 y hy
      simp
      omega
theorem hh_stop {ns : List Int} {j : Nat} (h : anyPos (hhAt ns j).2 = false) : ∀ k, hhAt ns (j + k) = hhAt ns j
  | 0 => rfl
  | k + 1 => by
    have ih := hh_stop h k
    show (if anyPos (hhAt ns (j + k)).2 then _ else hhAt ns (j + k)) = _
    rw [ih, h]
    rfl
theorem cut_one (ds : List PD) {m : Int} (h : 0 ≤ m) : (ds.drop (HT.sIx ds.length 0 (some 1))).take (HT.sIx ds.length ds.length (some (m + 1)) - HT.sIx ds.length 0 (some 1)) = (ds.drop 1).take m.toNat := by
  obtain ⟨k, rfl⟩ := Int.eq_ofNat_of_zero_le h
  rw [show ((k : Int) + 1) = ((k + 1 : Nat) : Int) by omega, show (1 : Int) = ((1 : Nat) : Int) from rfl, HT.sIx_nat, HT.sIx_nat, Int.toNat_natCast]
  cases ds with
  | nil => simp
  | cons x ds =>
    rw [show min 1 (x :: ds).length = 1 by rw [List.length_cons]; omega, List.drop_succ_cons, List.drop_zero]
    have e : min (k + 1) (x :: ds).length - 1 = min k ds.length := by rw [List.length_cons]; omega
    rw [e]
    rcases Nat.le_total k ds.length with q | q
    · rw [Nat.min_eq_left q]
    · rw [Nat.min_eq_right q, List.take_of_length_le (Nat.le_refl _), List.take_of_length_le q]
theorem lk_at {L : List Int} {p : Int} (h0 : 0 ≤ p) (h1 : p < L.length) : atI (L.map PyData.int) p = some (.int (lk L p)) := by
  obtain ⟨k, rfl⟩ := Int.eq_ofNat_of_zero_le h0
  refine atI_nat ?_
  unfold lk
  rw [List.getElem?_map, Int.toNat_natCast, List.getD_eq_getElem?_getD, List.getElem?_eq_getElem (by omega)]
  rfl
theorem ok_built {P0 c : Addr} (F : Fun K "built" "built" s_built f fd) (hm : mg "built" = some (.ref f)) (hb : Binds K fd ["counts"] []) (T : Bt mg) (TB : LamX.TabB base mg c P0) (hc : fd.code = .ref c) (hq2 : tabTag P0 = qLam) (h_tied : F_tied P w K mg base) : F_built P w K mg base P0 := by
  refine fnT_pure F hm hb sc_built (fun _ => rfl) fun A outer s G H E ns hT hr hz hE => ?_
  have hN := sc_built.nd
  obtain ⟨hI0, hn1, hn10⟩ : BuiltPre ns := hz
  have hun : (A.deeper (envOfC "built" (defScope s_built) s.heap.objs.size f fd.code)).units + 64 < cLine := by have := hr.un; omega
  have hrd := hr.dp
  refine bl_set (r := .own (ns.map .int)) 5 hN (ev_ty T.list (c_list (tup := true) (.inl rfl)) (ar_cons (ev_nsh (i := 0) rfl) ar_nil)) ?_
  refine bl_set (r := .own []) 1 hN (ev_lst as_nil) ?_
  refine bl_while (passes_of rfl) (fun m env' => ∃ j, j + m = ns.length ∧ wk env' [some (.sh (.list (ns.map .int))), some (.own ((hhAt ns j).1.map p2)), none, none, none, some (.own ((hhAt ns j).2.map .int))]) ns.length ⟨0, Nat.zero_add _, by walk_at "wk"⟩ (fun m env1 hI => ?_)
  obtain ⟨j, hjm, hI⟩ := hI
  obtain ⟨hi1, hi2⟩ := hh_at hI0 j
  have hL : (hhAt ns j).2.length = ns.length := hi1.len
  have hne : (hhAt ns j).2 ≠ [] := fun e => by rw [e] at hL; simp at hL; omega
  obtain ⟨mx, hm1, hm2⟩ := max_of hne
  refine ⟨anyPos (hhAt ns j).2, ?_, fun hk => ?_, fun hk => ?_⟩
  · exact ts_wk hI (tsP_r (ts_cmp (ev_bi T.max (c_maxL (ns := (hhAt ns j).2) rfl (by exact rfl) hm1 hm2) (ar_cons (ev_name (i := 5) rfl) ar_nil)) ev_int o_gt) (anyPos_max hm1 hm2).symm)
  · obtain ⟨hst, hnx, hlt⟩ := hh_step hi1 hk
    have hj : hhAt ns (j + 1) = ((hhAt ns j).1 ++ hhT (hhAt ns j).2, hhL (hhAt ns j).2) := if_pos hk
    have hS := S_nn (l := ptsL ns.length) (g := fun p => if 0 < lk (hhL (hhAt ns j).2) p then 1 else 0) fun p _ => by split <;> omega
    have hi2 := hi2 hk
    have hw45 := (hi1.w.deg hn10 0).2
    have hw45' := (hnx.w.deg hn10 0).2
    rw [← hj] at hw45'
    generalize hs : hhAt ns j = st at *
    obtain ⟨ts, L⟩ := st
    dsimp only at *
    obtain ⟨hv, ⟨rest, ho⟩, hd, hdl, ha, hand⟩ := hst
    refine bl_wk ?_ hI
    refine bl_setF (d := .list ((ordF L).map .int)) 2 hN (evS_own (ev_sortLam (ns := L) 5 TB hc rfl hT hq2 rfl rfl rfl rfl T.sorted T.range (ev_bi T.len (c_len (n := L.length) (by show some _ = _; rw [List.length_map])) (ar_cons (ev_name (i := 5) rfl) ar_nil)) (by omega) hun (by show (A.deeper _).depth + 5 < recursionLimit; omega))) ?_
    refine bl_setF (d := .int (hhV L)) 3 hN (evS_sh (ev_ix (ev_nsh (i := 2) rfl) ev_int (x_list (d := .int (hhV L)) rfl (by rw [ho]; exact atI_nat (j := 0) rfl)))) ?_
    have hA : (((ordF L).map PyData.int).drop 1).take (lk L (hhV L)).toNat = (hhA L).map .int := by
      unfold hhA
      rw [List.map_take, List.map_drop]
    refine bl_for (ds := (hhA L).map .int) (passes_of rfl) rfl (by
      rw [← hA, ← cut_one _ (by omega)]
      exact it_list (evS_own (ev_slice (ev_nsh (i := 2) rfl) (PrtP.yes ev_int) (PrtP.yes (ev_bin (ev_ix (ev_name (i := 5) rfl) (ev_nsh (i := 3) rfl) (x_list (d := .int (lk L (hhV L))) rfl (lk_at hv.1 (by omega)))) ev_int o_add)) (s_list rfl)))) (fun i env' => wk env' [some (.sh (.list (ns.map .int))), some (.own ((ts ++ ((hhA L).take i).map (tie (hhV L))).map p2)), some (.sh (.list ((ordF L).map .int))), some (.sh (.int (hhV L))), none, some (.own ((decs L ((hhA L).take i)).map .int))]) (by rw [show ts ++ ((hhA L).take 0).map (tie (hhV L)) = ts from List.append_nil _]; walk_at "wk") (fun Gb i d env2 hi hI2 => ?_) (fun env2 hI2 => ?_)
    · obtain ⟨p, hp, rfl⟩ := map_get hi
      have hpm := List.mem_of_getElem? hp
      obtain ⟨⟨p0, p1⟩, p2', p3⟩ := ha p hpm
      have hdc : (decs L ((hhA L).take i)).length = ns.length := by rw [decs_len, hL]
      have tk : (hhA L).take (i + 1) = (hhA L).take i ++ [p] := by rw [List.take_add_one, hp]; rfl
      refine ⟨_, tg_name 4 hN, bl_wkset hI2 ?_⟩
      refine bl_append (i := 1) (d := p2 (tie (hhV L) p)) (pe_bm PySem.F.plainAttrs_list PySem.F.slot_list_append PySem.F.type_list_append mt_append (pv 1) pa_sem) rfl (as_cons (evS_sh (ev_call h_tied (hhV L, p) (hr.mono (by decide)) trivial (as_cons (evS_sh (ev_nsh (i := 3) rfl)) (as_cons (evS_sh (ev_nsh (i := 4) rfl)) as_nil)) rfl)) as_nil) (by
        have : ((hhA L).take i).length ≤ (hhA L).length := by rw [List.length_take]; omega
        rw [List.length_map, List.length_append, List.length_map]; omega) ?_
      refine bl_setix 5 (m := p.toNat) rfl (evS_sh (ev_bin (ev_ix (ev_name (i := 5) rfl) (ev_nsh (i := 4) rfl) (x_list (d := .int (lk (decs L ((hhA L).take i)) p)) rfl (lk_at p0 (by omega)))) ev_int o_sub)) (ev_nsh (i := 4) rfl) (by
        rw [List.length_map, hdc, show p = ((p.toNat : Nat) : Int) by omega]
        exact ixN_lt (by omega)) ?_
      refine bl_nil ?_
      show wk _ _
      have et : (ts ++ ((hhA L).take (i + 1)).map (tie (hhV L))).map p2 = (ts ++ ((hhA L).take i).map (tie (hhV L))).map p2 ++ [p2 (tie (hhV L) p)] := by rw [tk]; simp
      have ed : (decs L ((hhA L).take (i + 1))).map PyData.int = ((decs L ((hhA L).take i)).map PyData.int).set p.toNat (.int (lk (decs L ((hhA L).take i)) p - 1)) := by rw [tk, decs_snoc, List.map_set]
      rw [et, ed]
      walk_at "wk"
    · rw [List.length_map, List.take_length] at hI2
      refine bl_wk ?_ hI2
      refine bl_setix 5 (m := (hhV L).toNat) rfl (evS_sh ev_int) (ev_nsh (i := 3) rfl) (by
        rw [List.length_map, decs_len, hL, show hhV L = (((hhV L).toNat : Nat) : Int) by omega]
        exact ixN_lt (by omega)) ?_
      refine bl_nil ⟨m - 1, by omega, j + 1, by omega, ?_⟩
      rw [hj]
      show wk _ [_, some (.own ((ts ++ hhT L).map p2)), _, _, _, some (.own ((hhL L).map .int))]
      unfold hhT hhL
      rw [List.map_set]
      walk_at "wk"
  · refine bl_wk ?_ hI
    have e := hh_stop hk (ns.length - j)
    rw [show j + (ns.length - j) = ns.length by omega] at e
    refine bl_ret (ev_bi T.sorted (c_sortP2 (ls := (hhAt ns j).1) hun (by exact rfl)) (ar_cons (ev_name (i := 1) rfl) ar_nil)) ?_
    show _ = RV.own ((builtF ns).map p2)
    unfold builtF
    rw [e]
end
end KW

namespace KW
open PySem PySem.Spec PyProof.Rows L2 TW
local macro_rules | `(tactic| walk_at "bo") => `(tactic| first | with_reducible exact o_add | with_reducible exact o_sub | with_reducible exact o_lt | with_reducible exact o_le | with_reducible exact o_gt | with_reducible exact o_ge | with_reducible exact o_eqI | with_reducible exact o_neI | with_reducible refine o_mod ?_ <;> omega | with_reducible refine o_fdiv ?_ ?_ <;> omega | with_reducible exact o_isN | with_reducible exact o_notN | exact o_add | exact o_sub | exact o_lt | exact o_le | exact o_gt | exact o_ge | exact o_eqI | exact o_neI | exact o_mod (by omega) | exact o_fdiv (by omega) (by omega) | exact o_mul (.inl (by omega)) | exact o_mul (.inr (by omega)) | exact o_eqS | exact o_neS | exact o_eqB | exact o_neB | exact o_isN | exact o_notN | exact o_cat rfl rfl (by walk_at "le"))
local macro_rules | `(tactic| walk_at "le") => `(tactic| first | decide | omega | (simp only [List.length_append, List.length_cons, List.length_nil, List.length_map, List.length_take, List.length_drop, List.length_range]; omega))
local macro_rules | `(tactic| walk_at "rg") => `(tactic| first | omega | decide)
local macro_rules | `(tactic| walk_at "bc") => `(tactic| first | exact c_len rfl | exact c_min2 rfl | exact c_max2 rfl | exact c_sum rfl rfl | exact c_any rfl rfl | exact c_all rfl rfl | exact c_list (tup := true) (.inl rfl) | exact c_list (tup := true) (.inr rfl) | exact c_tuple rfl | exact c_intB)
local macro_rules | `(tactic| walk_at "sl") => `(tactic| first | exact s_take rfl | exact s_drop rfl)
local macro_rules | `(tactic| walk_at "ns") => `(tactic| first | assumption | rfl)
local macro_rules | `(tactic| walk_at "bk") => `(tactic| first | rfl | decide +kernel)
local macro_rules | `(tactic| walk_at "wk") => `(tactic| repeat (first | exact trivial | refine ⟨Or.inl rfl, ?_⟩ | refine ⟨Or.inr rfl, ?_⟩))
local macro_rules | `(tactic| walk_at "pre") => `(tactic| first | trivial | assumption)
local macro_rules | `(tactic| walk_at "ix") => `(tactic| first | exact x_list rfl rfl | exact x_tup rfl)
section
variable {P : Program} {w : World} {K : KF} {mg : Str → Option Value} {base : Heap} {f : Addr} {fd : FuncData}
abbrev n_told_of : List Str := ["counts", "many"]
theorem sc_told_of : FnScope n_told_of ["counts"] (defScope s_told_of) := ⟨rfl, rfl, rfl, by decide +kernel, rfl, by decide +kernel, by decide +kernel⟩
abbrev CntPre (ns : List Int) : Prop := 1 ≤ ns.length ∧ ns.length ≤ 10 ∧ ∀ x ∈ ns, 0 ≤ x
def wordD : Word → List PD
  | .odd => [.str "odd"]
  | .many k => [.str "many", .int (k : Int)]
  | .web => [.str "web"]
def toldR (ns : List Int) : Word → RV
  | .web => .box true [.str "web"] ((builtF ns).map p2) []
  | x => .sh (.tuple (wordD x))
def toldF (ns : List Int) : RV := toldR ns (wordF ns)
abbrev F_told_of (P : Program) (w : World) (K : KF) (mg : Str → Option Value) (base : Heap) (P0 : Addr) : Prop :=
  Fn P w K mg base "told_of" 4 ["counts"] (spT K P0 CntPre (fun ns => [.list (ns.map .int)]) fun ns => .ret (toldF ns))
theorem ok_told_of {P0 : Addr} (F : Fun K "told_of" "told_of" s_told_of f fd) (hm : mg "told_of" = some (.ref f)) (hb : Binds K fd ["counts"] []) (T : Bt mg) (h_too_many : F_too_many P w K mg base) (h_built : F_built P w K mg base P0) : F_told_of P w K mg base P0 := by
  refine fnT_pure F hm hb sc_told_of (fun _ => rfl) fun A outer s G H E ns hT hr hz hE => ?_
  have hN := sc_told_of.nd
  obtain ⟨hn1, hn10, h0⟩ : CntPre ns := hz
  refine bl_if (k := decide (ns.sum % 2 = 1)) (ts_cmp (ev_bin (ev_bi T.sum (c_sum (r := .sh (.list (ns.map .int))) (ns := ns) rfl rfl) (ar_cons (ev_nsh (i := 0) rfl) ar_nil)) ev_int (o_mod (by omega))) ev_int o_eqI) (fun h => ?_) (fun h => ?_)
  · have h := of_decide_eq_true h
    refine bl_ret (ev_tup (as_cons (evS_sh ev_str) as_nil)) ?_
    have : wordF ns = .odd := if_pos h
    show _ = toldF ns
    unfold toldF
    rw [this]
    rfl
  · have h := of_decide_eq_false h
    refine bl_nil ?_
    refine bl_setF 1 hN (evS_sh (ev_call h_too_many ns (hr.mono (by decide)) (by show ns.length ≤ 100; omega) (as_cons (evS_sh (ev_nsh (i := 0) rfl)) as_nil) rfl)) ?_
    have hw : wordF ns = match badF ns with | some k => .many k | none => .web := if_neg h
    cases hb2 : badF ns with
    | some k =>
      rw [hb2] at hw
      refine bl_if (k := true) (tsP_r (ts_cmp (ev_nsh (i := 1) rfl) ev_none o_notN) (by rfl)) (fun _ => ?_) (fun h => by cases h)
      refine bl_ret (ev_tup (as_cons (evS_sh ev_str) (as_cons (evS_sh (ev_nsh (i := 1) rfl)) as_nil))) ?_
      show _ = toldF ns
      unfold toldF
      rw [hw]
      rfl
    | none =>
      rw [hb2] at hw
      refine bl_if (k := false) (tsP_r (ts_cmp (ev_nsh (i := 1) rfl) ev_none o_notN) (by rfl)) (fun h => by cases h) (fun _ => bl_nil ?_)
      refine bl_ret (ev_tupPre (evS_sh ev_str) (ev_callT h_built ns hT hr ⟨word_built h0 hw, hn1, hn10⟩ (as_cons (evS_sh (ev_nsh (i := 0) rfl)) as_nil) rfl)) ?_
      show _ = toldF ns
      unfold toldF
      rw [hw]
      rfl
abbrev n_told : List Str := ["counts"]
theorem sc_told : FnScope n_told ["counts"] (defScope s_told) := ⟨rfl, rfl, rfl, by decide +kernel, rfl, by decide +kernel, by decide +kernel⟩
def toldOut (a : ErA) (d : PD) : Oc := if countsOk d then .ret (toldF (intsOf d)) else .exc a.bc
abbrev F_told (P : Program) (w : World) (K : KF) (mg : Str → Option Value) (base : Heap) (P0 : Addr) (a : ErA) : Prop :=
  Fn P w K mg base "told" 5 ["counts"] (spT K P0 (fun d : PD => topOk2 d = true) (fun d => [d]) fun d => toldOut a d)
theorem ok_told {a : ErA} {P0 : Addr} (F : Fun K "told" "told" s_told f fd) (hm : mg "told" = some (.ref f)) (hb : Binds K fd ["counts"] []) (T : Bt mg) (h_need_counts : F_need_counts P w K mg base a) (h_told_of : F_told_of P w K mg base P0) : F_told P w K mg base P0 a := by
  refine fnT_pure F hm hb sc_told (fun _ => rfl) fun A outer s G H E d hT hr hz hE => ?_
  have hN := sc_told.nd
  have hz : topOk2 d = true := hz
  by_cases h1 : countsOk d = true
  · obtain ⟨e, l1, l2, l3⟩ := counts_ints h1
    have hw : toldOut a d = .ret (toldF (intsOf d)) := if_pos h1
    rw [hw]
    refine bl_expr (ev_call h_need_counts d (hr.mono (by decide)) hz (as_cons (evS_sh (ev_nsh (i := 0) rfl)) as_nil) (by rw [h1]; rfl)) ?_
    generalize intsOf d = ns at *
    subst e
    exact bl_ret (ev_callT h_told_of ns hT hr ⟨l1, l2, fun x hx => (l3 x hx).1⟩ (as_cons (evS_sh (ev_nsh (i := 0) rfl)) as_nil) rfl) rfl
  · have hw : toldOut a d = .exc a.bc := if_neg h1
    rw [hw] at hE
    exact bl_exprN (ev_callN h_need_counts d (hr.mono (by decide)) hz (as_cons (evS_sh (ev_nsh (i := 0) rfl)) as_nil) (if_neg h1) (rz_fn (hE _ rfl)))
end
end KW

namespace KW
open PySem PySem.Spec PyProof.Rows L2 TW
local macro_rules | `(tactic| walk_at "bo") => `(tactic| first | with_reducible exact o_add | with_reducible exact o_sub | with_reducible exact o_lt | with_reducible exact o_le | with_reducible exact o_gt | with_reducible exact o_ge | with_reducible exact o_eqI | with_reducible exact o_neI | with_reducible refine o_mod ?_ <;> omega | with_reducible refine o_fdiv ?_ ?_ <;> omega | with_reducible exact o_isN | with_reducible exact o_notN | exact o_add | exact o_sub | exact o_lt | exact o_le | exact o_gt | exact o_ge | exact o_eqI | exact o_neI | exact o_mod (by omega) | exact o_fdiv (by omega) (by omega) | exact o_mul (.inl (by omega)) | exact o_mul (.inr (by omega)) | exact o_eqS | exact o_neS | exact o_eqB | exact o_neB | exact o_isN | exact o_notN | exact o_cat rfl rfl (by walk_at "le"))
local macro_rules | `(tactic| walk_at "le") => `(tactic| first | decide | omega | (simp only [List.length_append, List.length_cons, List.length_nil, List.length_map, List.length_take, List.length_drop, List.length_range]; omega))
local macro_rules | `(tactic| walk_at "rg") => `(tactic| first | omega | decide)
local macro_rules | `(tactic| walk_at "bc") => `(tactic| first | exact c_len rfl | exact c_min2 rfl | exact c_max2 rfl | exact c_sum rfl rfl | exact c_any rfl rfl | exact c_all rfl rfl | exact c_list (tup := true) (.inl rfl) | exact c_list (tup := true) (.inr rfl) | exact c_tuple rfl | exact c_intB)
local macro_rules | `(tactic| walk_at "sl") => `(tactic| first | exact s_take rfl | exact s_drop rfl)
local macro_rules | `(tactic| walk_at "ns") => `(tactic| first | assumption | rfl)
local macro_rules | `(tactic| walk_at "bk") => `(tactic| first | rfl | decide +kernel)
local macro_rules | `(tactic| walk_at "wk") => `(tactic| repeat (first | exact trivial | refine ⟨Or.inl rfl, ?_⟩ | refine ⟨Or.inr rfl, ?_⟩))
local macro_rules | `(tactic| walk_at "pre") => `(tactic| first | trivial | assumption)
local macro_rules | `(tactic| walk_at "ix") => `(tactic| first | exact x_list rfl rfl | exact x_tup rfl)
section
variable {P : Program} {w : World} {K : KF} {mg : Str → Option Value} {base : Heap} {f : Addr} {fd : FuncData}
section
variable {prog : Program} {w : World} {A : Around} {E : Value → Shared → Prop} {s : Shared} {l : Addr} {its : List Value} {ns : List Int} {Q : Value → Shared → Prop}
open PySem.W in
theorem max_rawT (hh : A.handled = none) (hl : s.heap.IsTuple l its.toArray) (hi : IntsAre its ns) (hne : 0 < ns.length)
    (h : ∀ h' tk M t', (∀ b o, s.heap.get? b = some o → h'.get? b = some o) → M ∈ ns → (∀ a, a ∈ ns → a ≤ M) → Q (.int M t') { s with heap := h', toks := tk }) : wpAny (model prog w) A (call (.builtin "max") [.ref l]) Q E s := by
  obtain ⟨xs, e⟩ := hi.allInts.items
  have hn : numsOf (intItems xs).toList = ns := by rw [← e]; exact hi.numsOf
  rw [nums_intItems] at hn
  subst hn
  rw [e] at hl
  have hsz : 0 < xs.size := by simpa using hne
  refine call_max_walkS (PySem.W.iter_tupleW (A := A.in1) hh hl fun s₂ e W st hfp hw hk => ?_)
  refine ⟨_, _, _, _, _, _, _, _, rfl, W, st, hfp, by simpa [intItems] using hsz, CmpOf.ints_gt (PySem.numAt xs) (fun _ _ => intItems_at), fun v s' hP hm => ?_⟩
  obtain ⟨t, rfl⟩ := intItems_at hP
  have e1 : (intItems xs).size = xs.size := by simp [intItems]
  rw [e1]
  obtain ⟨h1, h2⟩ := argBest_gt (PySem.numAt xs) (xs.size - 1)
  obtain ⟨h', tk, rfl, hk'⟩ := PySem.W.moved_old e rfl hm
  refine h h' tk _ t hk' ?_ fun a ha => ?_
  · rw [numAt_eq]; exact PySem.getD_mem (by rw [List.length_map, Array.length_toList]; omega)
  · obtain ⟨j, hj, rfl⟩ := mem_getD ha
    rw [List.length_map, Array.length_toList] at hj
    rw [← numAt_eq]; exact h2 j (by omega)
open PySem.W in
theorem min_rawT (hh : A.handled = none) (hl : s.heap.IsTuple l its.toArray) (hi : IntsAre its ns) (hne : 0 < ns.length)
    (h : ∀ h' tk M t', (∀ b o, s.heap.get? b = some o → h'.get? b = some o) → M ∈ ns → (∀ a, a ∈ ns → M ≤ a) → Q (.int M t') { s with heap := h', toks := tk }) : wpAny (model prog w) A (call (.builtin "min") [.ref l]) Q E s := by
  obtain ⟨xs, e⟩ := hi.allInts.items
  have hn : numsOf (intItems xs).toList = ns := by rw [← e]; exact hi.numsOf
  rw [nums_intItems] at hn
  subst hn
  rw [e] at hl
  have hsz : 0 < xs.size := by simpa using hne
  refine call_min_walkS (PySem.W.iter_tupleW (A := A.in1) hh hl fun s₂ e W st hfp hw hk => ?_)
  refine ⟨_, _, _, _, _, _, _, _, rfl, W, st, hfp, by simpa [intItems] using hsz, CmpOf.ints_lt (PySem.numAt xs) (fun _ _ => intItems_at), fun v s' hP hm => ?_⟩
  obtain ⟨t, rfl⟩ := intItems_at hP
  have e1 : (intItems xs).size = xs.size := by simp [intItems]
  rw [e1]
  obtain ⟨h1, h2⟩ := argBest_lt (PySem.numAt xs) (xs.size - 1)
  obtain ⟨h', tk, rfl, hk'⟩ := PySem.W.moved_old e rfl hm
  refine h h' tk _ t hk' ?_ fun a ha => ?_
  · rw [numAt_eq]; exact PySem.getD_mem (by rw [List.length_map, Array.length_toList]; omega)
  · obtain ⟨j, hj, rfl⟩ := mem_getD ha
    rw [List.length_map, Array.length_toList] at hj
    rw [← numAt_eq]; exact h2 j (by omega)
end
section
variable {X : Cx} {r : RV}
def rMaxT (K : PySem.W.Frag) : List V → Hp → VK → Prop := fun vs H Q => ∃ (a : Addr) (ns : List Int), vs = [V.ref a] ∧ SqT K H a (ns.map V.int) ∧ 0 < ns.length ∧ ∀ m, m ∈ ns → (∀ y, y ∈ ns → y ≤ m) → Q (.int m) H
def rMinT (K : PySem.W.Frag) : List V → Hp → VK → Prop := fun vs H Q => ∃ (a : Addr) (ns : List Int), vs = [V.ref a] ∧ SqT K H a (ns.map V.int) ∧ 0 < ns.length ∧ ∀ m, m ∈ ns → (∀ y, y ∈ ns → m ≤ y) → Q (.int m) H
theorem cr_maxT (hc : X.calm = true) : CallR X (.builtin "max") (rMaxT X.K) := by
  intro pins s σ H vs us Q I r h
  obtain ⟨a, ns, rfl, hs, hne, q⟩ := h
  obtain ⟨its, rv, hl, _⟩ := I.tuple hs
  rw [Vals.ref1 r]
  exact max_rawT (I.ok.hd hc) (show s.heap.IsTuple a its.toArray from hl) rv.ints hne fun h' tk m t' hk h1 h2 => ⟨.int _, H, I.kept hk, ⟨_, rfl⟩, q m h1 h2⟩
theorem cr_minT (hc : X.calm = true) : CallR X (.builtin "min") (rMinT X.K) := by
  intro pins s σ H vs us Q I r h
  obtain ⟨a, ns, rfl, hs, hne, q⟩ := h
  obtain ⟨its, rv, hl, _⟩ := I.tuple hs
  rw [Vals.ref1 r]
  exact min_rawT (I.ok.hd hc) (show s.heap.IsTuple a its.toArray from hl) rv.ints hne fun h' tk m t' hk h1 h2 => ⟨.int _, H, I.kept hk, ⟨_, rfl⟩, q m h1 h2⟩
/-- max, min of a tuple of ints -/
theorem c_maxT {ns : List Int} {m : Int} (hc : X.calm = true) (h : r = .sh (.tuple (ns.map .int))) (hm : m ∈ ns) (hle : ∀ y ∈ ns, y ≤ m) : Cl X (.builtin "max") [r] (.sh (.int m)) := ⟨_, cr_maxT hc, fun G H vs Q s q k => by
  subst h
  obtain ⟨v, B, rfl, q0⟩ := rvl1 q
  obtain ⟨a, xs, rfl, h1, h2⟩ := dp_tuple (q0.dp s)
  rw [dpAll_ints h2] at h1
  refine ⟨a, ns, rfl, SqT.of h1, List.length_pos_of_mem hm, fun m' h2 h3 => ?_⟩
  have e : m' = m := Int.le_antisymm (hle _ h2) (h3 _ hm)
  rw [e]
  exact k _ G H (Ext.refl s) (.int _)⟩
theorem c_minT {ns : List Int} {m : Int} (hc : X.calm = true) (h : r = .sh (.tuple (ns.map .int))) (hm : m ∈ ns) (hle : ∀ y ∈ ns, m ≤ y) : Cl X (.builtin "min") [r] (.sh (.int m)) := ⟨_, cr_minT hc, fun G H vs Q s q k => by
  subst h
  obtain ⟨v, B, rfl, q0⟩ := rvl1 q
  obtain ⟨a, xs, rfl, h1, h2⟩ := dp_tuple (q0.dp s)
  rw [dpAll_ints h2] at h1
  refine ⟨a, ns, rfl, SqT.of h1, List.length_pos_of_mem hm, fun m' h2 h3 => ?_⟩
  have e : m' = m := Int.le_antisymm (h3 _ hm) (hle _ h2)
  rw [e]
  exact k _ G H (Ext.refl s) (.int _)⟩
/-- is, is not of truths -/
theorem o_isB {a b : Bool} : Op2 X (compareOp .Is) (.sh (.bool a)) (.sh (.bool b)) (.sh (.bool (decide (a = b)))) := ⟨_, op_isBl, fun B1 B2 G H v1 v2 Q s q1 q2 k => ⟨a, b, dp_bool q1, dp_bool q2, k _ G H (Ext.refl s) (.bl _)⟩⟩
theorem o_notB {a b : Bool} : Op2 X (compareOp .IsNot) (.sh (.bool a)) (.sh (.bool b)) (.sh (.bool (!decide (a = b)))) := ⟨_, op_notBl, fun B1 B2 G H v1 v2 Q s q1 q2 k => ⟨a, b, dp_bool q1, dp_bool q2, k _ G H (Ext.refl s) (.bl _)⟩⟩
end
end
end KW

namespace KW
open PySem PySem.Spec PyProof.Rows L2 TW
local macro_rules | `(tactic| walk_at "bo") => `(tactic| first | with_reducible exact o_add | with_reducible exact o_sub | with_reducible exact o_lt | with_reducible exact o_le | with_reducible exact o_gt | with_reducible exact o_ge | with_reducible exact o_eqI | with_reducible exact o_neI | with_reducible refine o_mod ?_ <;> omega | with_reducible refine o_fdiv ?_ ?_ <;> omega | with_reducible exact o_isN | with_reducible exact o_notN | exact o_add | exact o_sub | exact o_lt | exact o_le | exact o_gt | exact o_ge | exact o_eqI | exact o_neI | exact o_mod (by omega) | exact o_fdiv (by omega) (by omega) | exact o_mul (.inl (by omega)) | exact o_mul (.inr (by omega)) | exact o_eqS | exact o_neS | exact o_eqB | exact o_neB | exact o_isN | exact o_notN | exact o_cat rfl rfl (by walk_at "le"))
local macro_rules | `(tactic| walk_at "le") => `(tactic| first | decide | omega | (simp only [List.length_append, List.length_cons, List.length_nil, List.length_map, List.length_take, List.length_drop, List.length_range]; omega))
local macro_rules | `(tactic| walk_at "rg") => `(tactic| first | omega | decide)
local macro_rules | `(tactic| walk_at "bc") => `(tactic| first | exact c_len rfl | exact c_min2 rfl | exact c_max2 rfl | exact c_sum rfl rfl | exact c_any rfl rfl | exact c_all rfl rfl | exact c_list (tup := true) (.inl rfl) | exact c_list (tup := true) (.inr rfl) | exact c_tuple rfl | exact c_intB)
local macro_rules | `(tactic| walk_at "sl") => `(tactic| first | exact s_take rfl | exact s_drop rfl)
local macro_rules | `(tactic| walk_at "ns") => `(tactic| first | assumption | rfl)
local macro_rules | `(tactic| walk_at "bk") => `(tactic| first | rfl | decide +kernel)
local macro_rules | `(tactic| walk_at "wk") => `(tactic| repeat (first | exact trivial | refine ⟨Or.inl rfl, ?_⟩ | refine ⟨Or.inr rfl, ?_⟩))
local macro_rules | `(tactic| walk_at "pre") => `(tactic| first | trivial | assumption)
local macro_rules | `(tactic| walk_at "ix") => `(tactic| first | exact x_list rfl rfl | exact x_tup rfl)
section
variable {P : Program} {w : World} {K : KF} {mg : Str → Option Value} {base : Heap} {f : Addr} {fd : FuncData}
abbrev n_law_tied : List Str := ["_law_one", "_law_other"]
theorem sc_law_tied : FnScope n_law_tied ["_law_one", "_law_other"] (defScope s_law_tied) := ⟨rfl, rfl, rfl, by decide +kernel, rfl, by decide +kernel, by decide +kernel⟩
abbrev F_law_tied (P : Program) (w : World) (K : KF) (mg : Str → Option Value) (base : Heap) : Prop :=
  Fn P w K mg base "_law_tied" 1 ["_law_one", "_law_other"] (spF K (fun _ : Int × Int => True) (fun z => [.int z.1, .int z.2]) fun z => .ret (.sh (p2 (tie z.1 z.2))))
theorem ok_law_tied (F : Fun K "_law_tied" "_law_tied" s_law_tied f fd) (hm : mg "_law_tied" = some (.ref f)) (hb : Binds K fd ["_law_one", "_law_other"] []) (T : Bt mg) : F_law_tied P w K mg base := by
  refine fn_pure F hm hb sc_law_tied (fun _ => rfl) fun cdv A outer s G H E ⟨a, b⟩ hr hz hE => ?_
  have hN := sc_law_tied.nd
  dsimp only
  refine bl_if (ts_cmp (ev_nsh (i := 0) rfl) (ev_nsh (i := 1) rfl) (by walk_at "bo")) (fun h => ?_) (fun h => ?_)
  · have h := of_decide_eq_true h
    rw [tie_lt h]
    exact bl_ret (ev_tup (as_cons (evS_sh (ev_nsh (i := 0) rfl)) (as_cons (evS_sh (ev_nsh (i := 1) rfl)) as_nil))) rfl
  · have h := of_decide_eq_false h
    have e : tie a b = (b, a) := by
      unfold tie
      exact Prod.ext (by dsimp only; omega) (by dsimp only; omega)
    rw [e]
    refine bl_nil ?_
    exact bl_ret (ev_tup (as_cons (evS_sh (ev_nsh (i := 1) rfl)) (as_cons (evS_sh (ev_nsh (i := 0) rfl)) as_nil))) rfl
end
end KW

namespace KW
open PySem PySem.Spec PyProof.Rows L2 TW
local macro_rules | `(tactic| walk_at "bo") => `(tactic| first | with_reducible exact o_add | with_reducible exact o_sub | with_reducible exact o_lt | with_reducible exact o_le | with_reducible exact o_gt | with_reducible exact o_ge | with_reducible exact o_eqI | with_reducible exact o_neI | with_reducible refine o_mod ?_ <;> omega | with_reducible refine o_fdiv ?_ ?_ <;> omega | with_reducible exact o_isN | with_reducible exact o_notN | exact o_add | exact o_sub | exact o_lt | exact o_le | exact o_gt | exact o_ge | exact o_eqI | exact o_neI | exact o_mod (by omega) | exact o_fdiv (by omega) (by omega) | exact o_mul (.inl (by omega)) | exact o_mul (.inr (by omega)) | exact o_eqS | exact o_neS | exact o_eqB | exact o_neB | exact o_isN | exact o_notN | exact o_cat rfl rfl (by walk_at "le"))
local macro_rules | `(tactic| walk_at "le") => `(tactic| first | decide | omega | (simp only [List.length_append, List.length_cons, List.length_nil, List.length_map, List.length_take, List.length_drop, List.length_range]; omega))
local macro_rules | `(tactic| walk_at "rg") => `(tactic| first | omega | decide)
local macro_rules | `(tactic| walk_at "bc") => `(tactic| first | exact c_len rfl | exact c_min2 rfl | exact c_max2 rfl | exact c_sum rfl rfl | exact c_any rfl rfl | exact c_all rfl rfl | exact c_list (tup := true) (.inl rfl) | exact c_list (tup := true) (.inr rfl) | exact c_tuple rfl | exact c_intB)
local macro_rules | `(tactic| walk_at "sl") => `(tactic| first | exact s_take rfl | exact s_drop rfl)
local macro_rules | `(tactic| walk_at "ns") => `(tactic| first | assumption | rfl)
local macro_rules | `(tactic| walk_at "bk") => `(tactic| first | rfl | decide +kernel)
local macro_rules | `(tactic| walk_at "wk") => `(tactic| repeat (first | exact trivial | refine ⟨Or.inl rfl, ?_⟩ | refine ⟨Or.inr rfl, ?_⟩))
local macro_rules | `(tactic| walk_at "pre") => `(tactic| first | trivial | assumption)
local macro_rules | `(tactic| walk_at "ix") => `(tactic| first | exact x_list rfl rfl | exact x_tup rfl)
section
variable {P : Program} {w : World} {K : KF} {mg : Str → Option Value} {base : Heap} {f : Addr} {fd : FuncData}
abbrev n_law_fits : List Str := ["_law_ties", "_law_row", "_law_a", "_law_b", "_law_c", "_law_d", "_law_gone"]
theorem sc_law_fits : FnScope n_law_fits ["_law_ties", "_law_row"] (defScope s_law_fits) := ⟨rfl, rfl, rfl, by decide +kernel, rfl, by decide +kernel, by decide +kernel⟩
def lawFits (ties : List T2) (t : T4) : Bool := (decide (tie t.1 t.2.1 ∈ ties) && decide (tie t.2.2.1 t.2.2.2 ∈ ties)) && (!decide (tie t.1 t.2.2.1 ∈ ties) && !decide (tie t.2.1 t.2.2.2 ∈ ties))
theorem lawFits_eq {ties : List T2} {t : T4} (h : (q4 t).Nodup) : lawFits ties t = fitsB ties t := by
  unfold lawFits fitsB
  rw [Bool.eq_iff_iff, decide_eq_true_iff]
  unfold Fits
  simp [h, and_assoc]
abbrev F_law_fits (P : Program) (w : World) (K : KF) (mg : Str → Option Value) (base : Heap) : Prop :=
  Fn P w K mg base "_law_fits" 2 ["_law_ties", "_law_row"] (spF K (fun _ : List T2 × T4 => True) (fun z => [.list (z.1.map p2), p4 z.2]) fun z => .ret (.sh (.bool (lawFits z.1 z.2))))
theorem ok_law_fits (F : Fun K "_law_fits" "_law_fits" s_law_fits f fd) (hm : mg "_law_fits" = some (.ref f)) (hb : Binds K fd ["_law_ties", "_law_row"] []) (T : Bt mg) (h_law_tied : F_law_tied P w K mg base) : F_law_fits P w K mg base := by
  refine fn_pure F hm hb sc_law_fits (fun _ => rfl) fun cdv A outer s G H E ⟨ties, a, b, c, d⟩ hr hz hE => ?_
  have hN := sc_law_fits.nd
  dsimp only
  have hu : ∀ X' : Cx, X'.A = (bodyX P ‹World› K mg base n_law_fits "_law_fits" s_law_fits f cdv A outer s H E).A → X'.A.units + 65 < cLine := fun X' e => by rw [e]; have := hr.un; show (A.deeper _).units + 65 < cLine; omega
  refine bl_unp (evS_sh (ev_nsh (i := 1) rfl)) (tg_tup rfl (tgs_cons (tg_name 2 hN) (tgs_cons (tg_name 3 hN) (tgs_cons (tg_name 4 hN) (tgs_cons (tg_name 5 hN) tgs_nil))))) ?_
  refine bl_setF (d := .bool (decide (tie a b ∈ ties) && decide (tie c d ∈ ties))) 6 hN (evS_sh (ev_and (ev_cmp (ev_call h_law_tied (a, b) hr trivial (as_cons (evS_sh (ev_nsh (i := 2) rfl)) (as_cons (evS_sh (ev_nsh (i := 3) rfl)) as_nil)) rfl) (ev_nsh (i := 0) rfl) (o_inP (hu _ (by rfl)) (tie a b) ties rfl rfl)) fun h1 => (ev_one (ev_cmp (ev_call h_law_tied (c, d) hr trivial (as_cons (evS_sh (ev_nsh (i := 4) rfl)) (as_cons (evS_sh (ev_nsh (i := 5) rfl)) as_nil)) rfl) (ev_nsh (i := 0) rfl) (o_inP (hu _ (by rfl)) (tie c d) ties rfl rfl))))) ?_
  exact bl_ret (ev_and (ev_nsh (i := 6) rfl) fun h1 => (ev_and (ev_cmp (ev_call h_law_tied (a, c) hr trivial (as_cons (evS_sh (ev_nsh (i := 2) rfl)) (as_cons (evS_sh (ev_nsh (i := 4) rfl)) as_nil)) rfl) (ev_nsh (i := 0) rfl) (o_notInP (hu _ (by rfl)) (tie a c) ties rfl rfl)) fun h2 => (ev_one (ev_cmp (ev_call h_law_tied (b, d) hr trivial (as_cons (evS_sh (ev_nsh (i := 3) rfl)) (as_cons (evS_sh (ev_nsh (i := 5) rfl)) as_nil)) rfl) (ev_nsh (i := 0) rfl) (o_notInP (hu _ (by rfl)) (tie b d) ties rfl rfl))))) rfl
end
end KW

namespace KW
open PySem PySem.Spec PyProof.Rows L2 TW
local macro_rules | `(tactic| walk_at "bo") => `(tactic| first | with_reducible exact o_add | with_reducible exact o_sub | with_reducible exact o_lt | with_reducible exact o_le | with_reducible exact o_gt | with_reducible exact o_ge | with_reducible exact o_eqI | with_reducible exact o_neI | with_reducible refine o_mod ?_ <;> omega | with_reducible refine o_fdiv ?_ ?_ <;> omega | with_reducible exact o_isN | with_reducible exact o_notN | exact o_add | exact o_sub | exact o_lt | exact o_le | exact o_gt | exact o_ge | exact o_eqI | exact o_neI | exact o_mod (by omega) | exact o_fdiv (by omega) (by omega) | exact o_mul (.inl (by omega)) | exact o_mul (.inr (by omega)) | exact o_eqS | exact o_neS | exact o_eqB | exact o_neB | exact o_isN | exact o_notN | exact o_cat rfl rfl (by walk_at "le"))
local macro_rules | `(tactic| walk_at "le") => `(tactic| first | decide | omega | (simp only [List.length_append, List.length_cons, List.length_nil, List.length_map, List.length_take, List.length_drop, List.length_range]; omega))
local macro_rules | `(tactic| walk_at "rg") => `(tactic| first | omega | decide)
local macro_rules | `(tactic| walk_at "bc") => `(tactic| first | exact c_len rfl | exact c_min2 rfl | exact c_max2 rfl | exact c_sum rfl rfl | exact c_any rfl rfl | exact c_all rfl rfl | exact c_list (tup := true) (.inl rfl) | exact c_list (tup := true) (.inr rfl) | exact c_tuple rfl | exact c_intB)
local macro_rules | `(tactic| walk_at "sl") => `(tactic| first | exact s_take rfl | exact s_drop rfl)
local macro_rules | `(tactic| walk_at "ns") => `(tactic| first | assumption | rfl)
local macro_rules | `(tactic| walk_at "bk") => `(tactic| first | rfl | decide +kernel)
local macro_rules | `(tactic| walk_at "wk") => `(tactic| repeat (first | exact trivial | refine ⟨Or.inl rfl, ?_⟩ | refine ⟨Or.inr rfl, ?_⟩))
local macro_rules | `(tactic| walk_at "pre") => `(tactic| first | trivial | assumption)
local macro_rules | `(tactic| walk_at "ix") => `(tactic| first | exact x_list rfl rfl | exact x_tup rfl)
section
variable {P : Program} {w : World} {K : KF} {mg : Str → Option Value} {base : Heap} {f : Addr} {fd : FuncData}
abbrev n_law_left : List Str := ["_law_ties", "_law_row", "_law_a", "_law_b", "_law_c", "_law_d", "_law_found", "_law_tie"]
theorem sc_law_left : FnScope n_law_left ["_law_ties", "_law_row"] (defScope s_law_left) := ⟨rfl, rfl, rfl, by decide +kernel, rfl, by decide +kernel, by decide +kernel⟩
abbrev F_law_left (P : Program) (w : World) (K : KF) (mg : Str → Option Value) (base : Heap) : Prop :=
  Fn P w K mg base "_law_left" 2 ["_law_ties", "_law_row"] (spF K (fun z : List T2 × T4 => z.1.length ≤ 1000) (fun z => [.list (z.1.map p2), p4 z.2]) fun z => .ret (.own ((leftL z.1 z.2).map p2)))
theorem ok_law_left (F : Fun K "_law_left" "_law_left" s_law_left f fd) (hm : mg "_law_left" = some (.ref f)) (hb : Binds K fd ["_law_ties", "_law_row"] []) (T : Bt mg) (h_law_tied : F_law_tied P w K mg base) : F_law_left P w K mg base := by
  refine fn_pure F hm hb sc_law_left (fun _ => rfl) fun cdv A outer s G H E ⟨ties, a, b, c, d⟩ hr hl hE => ?_
  have hN := sc_law_left.nd
  have hl : ties.length ≤ 1000 := hl
  dsimp only
  have hu : ∀ X' : Cx, X'.A = (bodyX P ‹World› K mg base n_law_left "_law_left" s_law_left f cdv A outer s H E).A → X'.A.units + 64 < cLine := fun X' e => by rw [e]; have := hr.un; show (A.deeper _).units + 64 < cLine; omega
  have hu5 : ∀ X' : Cx, X'.A = (bodyX P ‹World› K mg base n_law_left "_law_left" s_law_left f cdv A outer s H E).A → X'.A.units + 65 < cLine := fun X' e => by rw [e]; have := hr.un; show (A.deeper _).units + 65 < cLine; omega
  have hk : ((keepX ties (a, b, c, d)).map p2).length ≤ 1000 := by
    rw [List.length_map]; exact Nat.le_trans (List.length_filter_le _ _) hl
  refine bl_unp (evS_sh (ev_nsh (i := 1) rfl)) (tg_tup rfl (tgs_cons (tg_name 2 hN) (tgs_cons (tg_name 3 hN) (tgs_cons (tg_name 4 hN) (tgs_cons (tg_name 5 hN) tgs_nil))))) ?_
  refine bl_setLc (r := .own ((keepX ties (a, b, c, d)).map p2)) (xs := ties) (enc := p2) (f := fun x => if keepB (a, b, c, d) x then some (p2 x) else none) (own := [("_law_tie", 7)]) 6 rfl hN (blkOk_by (by walk_at "bk")) (sw_true rfl rfl rfl rfl) (it_list (evS_sh (ev_nsh (i := 0) rfl))) (by omega) (fun z hz => turn_if (k := keepB (a, b, c, d) z) (fun _ _ _ _ _ => tw_name 7 hN) (fun _ _ _ _ _ => (tsP_r (ts_cmp (ev_nsh (i := 7) rfl) (ev_lst (as_cons (evS_sh (ev_call h_law_tied (a, b) hr trivial (as_cons (evS_sh (ev_nsh (i := 2) rfl)) (as_cons (evS_sh (ev_nsh (i := 3) rfl)) as_nil)) rfl)) (as_cons (evS_sh (ev_call h_law_tied (c, d) hr trivial (as_cons (evS_sh (ev_nsh (i := 4) rfl)) (as_cons (evS_sh (ev_nsh (i := 5) rfl)) as_nil)) rfl)) as_nil))) (o_notInG good_p2 (hu5 _ (by rfl)) z [tie a b, tie c d] (by rfl) (by rfl))) (by unfold keepB; simp))) (fun h => fun _ _ _ _ _ => (evS_sh (ev_nsh (i := 7) rfl)))) (.inl (by rw [filterMap_if]; rfl)) ?_
  refine bl_ret (ev_bi T.sorted (c_sortP2 (ls := keepX ties (a, b, c, d) ++ [tie a c, tie b d]) (hu _ (by rfl)) (by rw [List.map_append]; rfl)) (ar_cons (ev_bin (r := .own ((keepX ties (a, b, c, d)).map p2 ++ [p2 (tie a c), p2 (tie b d)])) (ev_name (i := 6) rfl) (ev_lst (as_cons (evS_sh (ev_call h_law_tied (a, c) hr trivial (as_cons (evS_sh (ev_nsh (i := 2) rfl)) (as_cons (evS_sh (ev_nsh (i := 4) rfl)) as_nil)) rfl)) (as_cons (evS_sh (ev_call h_law_tied (b, d) hr trivial (as_cons (evS_sh (ev_nsh (i := 3) rfl)) (as_cons (evS_sh (ev_nsh (i := 5) rfl)) as_nil)) rfl)) as_nil))) (o_cat rfl rfl (by show _ + 2 ≤ 1000000; omega))) ar_nil)) rfl
end
end KW

namespace KW
open PySem PySem.Spec PyProof.Rows L2 TW
local macro_rules | `(tactic| walk_at "bo") => `(tactic| first | with_reducible exact o_add | with_reducible exact o_sub | with_reducible exact o_lt | with_reducible exact o_le | with_reducible exact o_gt | with_reducible exact o_ge | with_reducible exact o_eqI | with_reducible exact o_neI | with_reducible refine o_mod ?_ <;> omega | with_reducible refine o_fdiv ?_ ?_ <;> omega | with_reducible exact o_isN | with_reducible exact o_notN | exact o_add | exact o_sub | exact o_lt | exact o_le | exact o_gt | exact o_ge | exact o_eqI | exact o_neI | exact o_mod (by omega) | exact o_fdiv (by omega) (by omega) | exact o_mul (.inl (by omega)) | exact o_mul (.inr (by omega)) | exact o_eqS | exact o_neS | exact o_eqB | exact o_neB | exact o_isN | exact o_notN | exact o_cat rfl rfl (by walk_at "le"))
local macro_rules | `(tactic| walk_at "le") => `(tactic| first | decide | omega | (simp only [List.length_append, List.length_cons, List.length_nil, List.length_map, List.length_take, List.length_drop, List.length_range]; omega))
local macro_rules | `(tactic| walk_at "rg") => `(tactic| first | omega | decide)
local macro_rules | `(tactic| walk_at "bc") => `(tactic| first | exact c_len rfl | exact c_min2 rfl | exact c_max2 rfl | exact c_sum rfl rfl | exact c_any rfl rfl | exact c_all rfl rfl | exact c_list (tup := true) (.inl rfl) | exact c_list (tup := true) (.inr rfl) | exact c_tuple rfl | exact c_intB)
local macro_rules | `(tactic| walk_at "sl") => `(tactic| first | exact s_take rfl | exact s_drop rfl)
local macro_rules | `(tactic| walk_at "ns") => `(tactic| first | assumption | rfl)
local macro_rules | `(tactic| walk_at "bk") => `(tactic| first | rfl | decide +kernel)
local macro_rules | `(tactic| walk_at "wk") => `(tactic| repeat (first | exact trivial | refine ⟨Or.inl rfl, ?_⟩ | refine ⟨Or.inr rfl, ?_⟩))
local macro_rules | `(tactic| walk_at "pre") => `(tactic| first | trivial | assumption)
local macro_rules | `(tactic| walk_at "ix") => `(tactic| first | exact x_list rfl rfl | exact x_tup rfl)
section
variable {P : Program} {w : World} {K : KF} {mg : Str → Option Value} {base : Heap} {f : Addr} {fd : FuncData}
abbrev n_law_is_row : List Str := ["_law_found", "_law_size", "_law_point"]
theorem sc_law_is_row : FnScope n_law_is_row ["_law_found", "_law_size"] (defScope s_law_is_row) := ⟨rfl, rfl, rfl, by decide +kernel, rfl, by decide +kernel, by decide +kernel⟩
theorem exM : ∀ l : List Int, l ≠ [] → (∃ m ∈ l, ∀ y ∈ l, y ≤ m) ∧ ∃ m ∈ l, ∀ y ∈ l, m ≤ y
  | [], h => absurd rfl h
  | [x], _ => ⟨⟨x, by simp, by simp⟩, ⟨x, by simp, by simp⟩⟩
  | x :: y :: l, _ => by
    obtain ⟨⟨m, hm, h1⟩, n, hn, h2⟩ := exM (y :: l) (by simp)
    refine ⟨?_, ?_⟩
    · by_cases h : m ≤ x
      · refine ⟨x, by simp, fun z hz => ?_⟩
        rcases List.mem_cons.mp hz with rfl | hz
        · exact Int.le_refl _
        · exact Int.le_trans (h1 z hz) h
      · refine ⟨m, List.mem_cons_of_mem _ hm, fun z hz => ?_⟩
        rcases List.mem_cons.mp hz with rfl | hz
        · omega
        · exact h1 z hz
    · by_cases h : x ≤ n
      · refine ⟨x, by simp, fun z hz => ?_⟩
        rcases List.mem_cons.mp hz with rfl | hz
        · exact Int.le_refl _
        · exact Int.le_trans h (h2 z hz)
      · refine ⟨n, List.mem_cons_of_mem _ hn, fun z hz => ?_⟩
        rcases List.mem_cons.mp hz with rfl | hz
        · omega
        · exact h2 z hz
abbrev F_law_is_row (P : Program) (w : World) (K : KF) (mg : Str → Option Value) (base : Heap) : Prop :=
  Fn P w K mg base "_law_is_row" 2 ["_law_found", "_law_size"] (spF K (fun z : T4 × Nat => (q4 z.1).Nodup ∧ InR z.2 z.1) (fun z => [p4 z.1, .int z.2]) fun _ => .ret (.sh (.bool true)))
theorem ok_law_is_row (F : Fun K "_law_is_row" "_law_is_row" s_law_is_row f fd) (hm : mg "_law_is_row" = some (.ref f)) (hb : Binds K fd ["_law_found", "_law_size"] []) (T : Bt mg) (h_law_whole : F_law_whole P w K mg base) : F_law_is_row P w K mg base := by
  refine fn_pure F hm hb sc_law_is_row (fun _ => rfl) fun cdv A outer s G H E ⟨t, n⟩ hr ⟨hz1, hz2⟩ hE => ?_
  have hN := sc_law_is_row.nd
  dsimp only at hz1 hz2 ⊢
  obtain ⟨⟨M, hM, hM2⟩, m, hm', hm2⟩ := exM (q4 t) (by unfold q4; simp)
  refine bl_if (k := false) (ts_w (tw_or (k := false) (ts_not (k := true) (ts_val (ev_isi T.isinstance T.tuple (ev_nsh (i := 0) rfl) (kit_tup _) rfl))) fun h1 => (tw_or (k := false) (tsP_r (ts_cmp (ev_bi T.len (c_len (r := .sh (p4 t)) (n := 4) rfl) (ar_cons (ev_nsh (i := 0) rfl) ar_nil)) ev_int (by walk_at "bo")) rfl) fun h2 => (tw_or1 (tsP_r (ts_not (ts_val (ev_bi T.all (c_all (ns := (q4 t).map fun _ => true) rfl (by exact (congrArg PyData.list (List.map_map (f := fun _ : Int => true) (g := PyData.bool)).symm))) (ar_cons (ev_lcM (xs := q4 t) (enc := PyData.int) (g := fun _ => .bool true) (own := [("_law_point", 2)]) rfl hN (blkOk_by (by walk_at "bk")) (it_tup (evS_sh (ev_nsh (i := 0) rfl))) (by show 4 ≤ 1000000; decide) fun z hz => turn_all (fun _ _ _ _ _ => tw_name 2 hN) (fun _ _ _ _ _ => (evS_sh (ev_call h_law_whole (.int z) hr rfl (as_cons (evS_sh (ev_nsh (i := 2) rfl)) as_nil) rfl)))) ar_nil)))) rfl))))) (fun h => by cases h) (fun h => ?_)
  refine bl_nil ?_
  have e4 : decide (((dd (q4 t)).length : Int) = 4) = true := by
    have h2 := (dd_full (q4 t)).mpr hz1
    have h3 : (q4 t).length = 4 := rfl
    exact decide_eq_true (by omega)
  have g1 := (hz2 m hm').1
  have g2 := (hz2 M hM).2
  refine bl_ret (ev_and (k := true) (k1 := true) (evP_r (ev_cmp (ev_lenSetT (ns := q4 t) rfl T.len T.set (ev_nsh (i := 0) rfl) (by show 4 ≤ 1000; decide)) ev_int (by walk_at "bo")) (by rw [e4])) fun h1 => (ev_and (k := true) (k1 := true) (evP_r (ev_cmp (ev_bi T.min (c_minT (ns := q4 t) (m := m) rfl rfl hm' hm2) (ar_cons (ev_nsh (i := 0) rfl) ar_nil)) ev_int (by walk_at "bo")) (by rw [decide_eq_true g1])) fun h2 => (ev_one (evP_r (ev_cmp (ev_bi T.max (c_maxT (ns := q4 t) (m := M) rfl rfl hM hM2) (ar_cons (ev_nsh (i := 0) rfl) ar_nil)) (ev_nsh (i := 1) rfl) (by walk_at "bo")) (by rw [decide_eq_true g2]))))) rfl
end
end KW

namespace KW
open PySem PySem.Spec PyProof.Rows L2 TW
local macro_rules | `(tactic| walk_at "bo") => `(tactic| first | with_reducible exact o_add | with_reducible exact o_sub | with_reducible exact o_lt | with_reducible exact o_le | with_reducible exact o_gt | with_reducible exact o_ge | with_reducible exact o_eqI | with_reducible exact o_neI | with_reducible refine o_mod ?_ <;> omega | with_reducible refine o_fdiv ?_ ?_ <;> omega | with_reducible exact o_isN | with_reducible exact o_notN | exact o_add | exact o_sub | exact o_lt | exact o_le | exact o_gt | exact o_ge | exact o_eqI | exact o_neI | exact o_mod (by omega) | exact o_fdiv (by omega) (by omega) | exact o_mul (.inl (by omega)) | exact o_mul (.inr (by omega)) | exact o_eqS | exact o_neS | exact o_eqB | exact o_neB | exact o_isN | exact o_notN | exact o_cat rfl rfl (by walk_at "le"))
local macro_rules | `(tactic| walk_at "le") => `(tactic| first | decide | omega | (simp only [List.length_append, List.length_cons, List.length_nil, List.length_map, List.length_take, List.length_drop, List.length_range]; omega))
local macro_rules | `(tactic| walk_at "rg") => `(tactic| first | omega | decide)
local macro_rules | `(tactic| walk_at "bc") => `(tactic| first | exact c_len rfl | exact c_min2 rfl | exact c_max2 rfl | exact c_sum rfl rfl | exact c_any rfl rfl | exact c_all rfl rfl | exact c_list (tup := true) (.inl rfl) | exact c_list (tup := true) (.inr rfl) | exact c_tuple rfl | exact c_intB)
local macro_rules | `(tactic| walk_at "sl") => `(tactic| first | exact s_take rfl | exact s_drop rfl)
local macro_rules | `(tactic| walk_at "ns") => `(tactic| first | assumption | rfl)
local macro_rules | `(tactic| walk_at "bk") => `(tactic| first | rfl | decide +kernel)
local macro_rules | `(tactic| walk_at "wk") => `(tactic| repeat (first | exact trivial | refine ⟨Or.inl rfl, ?_⟩ | refine ⟨Or.inr rfl, ?_⟩))
local macro_rules | `(tactic| walk_at "pre") => `(tactic| first | trivial | assumption)
local macro_rules | `(tactic| walk_at "ix") => `(tactic| first | exact x_list rfl rfl | exact x_tup rfl)
section
variable {P : Program} {w : World} {K : KF} {mg : Str → Option Value} {base : Heap} {f : Addr} {fd : FuncData}
abbrev n_law_changed : List Str := ["_law_script", "_law_first", "_law_size", "_law_ties", "_law_found", "_law_k", "_law_j", "_law_number", "_law_row", "_law_turn"]
theorem sc_law_changed : FnScope n_law_changed ["_law_script", "_law_first", "_law_size", "_law_ties"] (defScope s_law_changed) := ⟨rfl, rfl, rfl, by decide +kernel, rfl, by decide +kernel, by decide +kernel⟩
/-! the law's own exchanges -/
def chNum (ns : List Int) (first : Int) (k j : Nat) : Int := mixF (cellF ns (first + 1 + (k : Int) % 4)) (7 * k + j)
def chRow (n : Nat) (q : Int) : T4 := (q % n, q / 10 % n, q / 100 % n, q / 1000 % n)
def chOne (T : List T2) (t : T4) : List T2 := if fitsB T t then leftL T t else T
def chJ (ns : List Int) (first : Int) (n k : Nat) : Nat → List T2 → List T2
  | 0, T => T
  | j + 1, T => chOne (chJ ns first n k j T) (chRow n (chNum ns first k j))
def chK (ns : List Int) (first : Int) (n : Nat) : Nat → List T2 → List T2
  | 0, T => T
  | k + 1, T => chJ ns first n k 6 (chK ns first n k T)
def chAll (ns : List Int) (first : Int) (n : Nat) (T : List T2) : List T2 := chK ns first n (cellF ns first % 13).toNat (srtT T)
def chTurn (ns : List Int) (first : Int) (T : List T2) : Nat := (cellF ns first / 13 % (1 + (T.length : Int))).toNat
def changedF (ns : List Int) (first : Int) (n : Nat) (T : List T2) : List T2 := (chAll ns first n T).drop (chTurn ns first (chAll ns first n T)) ++ (chAll ns first n T).take (chTurn ns first (chAll ns first n T))
def Like (n : Nat) (T U : List T2) : Prop := Web n U ∧ countsL n U = countsL n T
theorem like_one {n : Nat} {T U : List T2} (h : Like n T U) (t : T4) : Like n T (chOne U t) := by
  unfold chOne
  by_cases hf : fitsB U t = true
  · rw [if_pos hf]
    have f := of_decide_eq_true hf
    exact ⟨left_web h.1 f, (left_counts h.1 f).trans h.2⟩
  · rw [if_neg hf]; exact h
theorem like_J (ns : List Int) (first : Int) {n : Nat} (k : Nat) {T : List T2} : ∀ (j : Nat) {U : List T2}, Like n T U → Like n T (chJ ns first n k j U)
  | 0, _, h => h
  | j + 1, _, h => like_one (like_J ns first k j h) _
theorem like_K (ns : List Int) (first : Int) {n : Nat} {T : List T2} : ∀ (k : Nat) {U : List T2}, Like n T U → Like n T (chK ns first n k U)
  | 0, _, h => h
  | k + 1, _, h => like_J ns first k 6 (like_K ns first k h)
theorem perm_counts {n : Nat} {s t : List T2} (h : s.Perm t) : countsL n s = countsL n t := by
  unfold countsL
  exact List.map_congr_left fun p _ => by rw [degI_perm h]
theorem like_perm {n : Nat} {T U V : List T2} (h : Like n T U) (p : V.Perm U) : Like n T V := ⟨⟨fun x hx => h.1.r x (p.mem_iff.mp hx), p.nodup_iff.mpr h.1.nd⟩, (perm_counts p).trans h.2⟩
theorem changed_like (ns : List Int) (first : Int) {n : Nat} {T : List T2} (w : Web n T) : Like n T (changedF ns first n T) := by
  have h : Like n T (chAll ns first n T) := like_K ns first _ (like_perm ⟨w, rfl⟩ (srtT_perm T))
  refine like_perm h ?_
  unfold changedF
  refine List.perm_append_comm.trans ?_
  rw [List.take_append_drop]
abbrev F_law_changed (P : Program) (w : World) (K : KF) (mg : Str → Option Value) (base : Heap) : Prop :=
  Fn P w K mg base "_law_changed" 3 ["_law_script", "_law_first", "_law_size", "_law_ties"] (spF K (fun z : List Int × Nat × Nat × List T2 => Scr z.1 ∧ z.2.1 ≤ 1000 ∧ Web z.2.2.1 z.2.2.2 ∧ 1 ≤ z.2.2.1 ∧ z.2.2.1 ≤ 10) (fun z => [scrD z.1, .int z.2.1, .int z.2.2.1, .list (z.2.2.2.map p2)]) fun z => .ret (.own ((changedF z.1 z.2.1 z.2.2.1 z.2.2.2).map p2)))
theorem ok_law_changed (F : Fun K "_law_changed" "_law_changed" s_law_changed f fd) (hm : mg "_law_changed" = some (.ref f)) (hb : Binds K fd ["_law_script", "_law_first", "_law_size", "_law_ties"] []) (T : Bt mg) (h_law_cell : F_law_cell P w K mg base) (h_law_mixed : F_law_mixed P w K mg base) (h_law_fits : F_law_fits P w K mg base) (h_law_left : F_law_left P w K mg base) : F_law_changed P w K mg base := by
  refine fn_pure F hm hb sc_law_changed (fun _ => rfl) fun cdv A outer s G H E ⟨ns, first, n, ties⟩ hr ⟨hS, hf, w, h1, h10⟩ hE => ?_
  have hN := sc_law_changed.nd
  dsimp only at hS hf w h1 h10 ⊢
  have hu : ∀ X' : Cx, X'.A = (bodyX P ‹World› K mg base n_law_changed "_law_changed" s_law_changed f cdv A outer s H E).A → X'.A.units + 64 < cLine := fun X' e => by rw [e]; have := hr.un; show (A.deeper _).units + 64 < cLine; omega
  have hmx : ∀ j : Nat, j ≤ 1000 → Bd 1048600 (j : Int) := fun j hj => bd_mono (n := 10) (bd_small (by show (j : Int).natAbs < 2 ^ 11; omega)) (by decide)
  refine bl_setF (d := .list ((srtT ties).map p2)) 4 hN (evS_own (ev_bi T.sorted (c_sortP2 (ls := ties) (hu _ (by rfl)) (by rfl)) (ar_cons (ev_nsh (i := 3) rfl) ar_nil))) ?_
  have lk : ∀ k, Like n ties (chK ns first n k (srtT ties)) := fun k => like_K ns first k (like_perm ⟨w, rfl⟩ (srtT_perm ties))
  obtain ⟨m, hm13⟩ := Int.eq_ofNat_of_zero_le (show 0 ≤ cellF ns (first : Int) % 13 by omega)
  refine bl_for (ds := (List.range m).map natD) (passes_of rfl) rfl (by
    rw [show m = (cellF ns (first : Int) % 13).toNat by omega]
    exact it_rng (j := cellF ns (first : Int) % 13) T.range (ar_cons (ev_bin (ev_call h_law_cell (ns, (first : Int)) (hr.mono (by decide)) (show (0 : Int) ≤ (first : Int) by omega) (as_cons (evS_sh (ev_nsh (i := 0) rfl)) (as_cons (evS_sh (ev_nsh (i := 1) rfl)) as_nil)) rfl) ev_int (o_mod (by omega))) ar_nil) (by omega)) (fun k env' => wk env' [some (.sh (scrD ns)), some (.sh (.int first)), some (.sh (.int n)), some (.sh (.list (ties.map p2))), some (.sh (.list ((chK ns first n k (srtT ties)).map p2))), none, none, none, none, none]) (by walk_at "wk") (fun Gb k d env1 hi hI => ?_) (fun env1 hI => ?_)
  · obtain ⟨hk, rfl⟩ := rng_get hi
    refine ⟨_, tg_name 5 hN, bl_wkset hI ?_⟩
    have lJ : ∀ j, Like n ties (chJ ns first n k j (chK ns first n k (srtT ties))) := fun j => like_J ns first k j (lk k)
    have e6 : chK ns first n (k + 1) (srtT ties) = chJ ns first n k 6 (chK ns first n k (srtT ties)) := rfl
    rw [e6]
    generalize chK ns first n k (srtT ties) = U at lJ
    refine bl_for (ds := (List.range 6).map natD) (passes_of rfl) rfl (it_rng (j := 6) T.range (ar_cons ev_int ar_nil) (by omega)) (fun j env' => wk env' [some (.sh (scrD ns)), some (.sh (.int first)), some (.sh (.int n)), some (.sh (.list (ties.map p2))), some (.sh (.list ((chJ ns first n k j U).map p2))), some (.sh (.int k)), none, none, none, none]) (by walk_at "wk") (fun Gb2 j d env2 hj hI2 => ?_) (fun env2 hI2 => ?_)
    · obtain ⟨hj, rfl⟩ := rng_get hj
      refine ⟨_, tg_name 6 hN, bl_wkset hI2 ?_⟩
      have e1 : chJ ns first n k (j + 1) U = chOne (chJ ns first n k j U) (chRow n (chNum ns first k j)) := rfl
      rw [e1]
      have hlj := (lJ j).1
      have hl45 := (hlj.deg h10 0).2
      generalize chJ ns first n k j U = V at hlj hl45
      have hcn : mixF (cellF ns ((first : Int) + 1 + (k : Int) % 4)) (7 * (k : Int) + (j : Int)) = chNum ns first k j := rfl
      refine bl_setF (d := .int (chNum ns first k j)) 7 hN (evS_sh (ev_call h_law_mixed (cellF ns ((first : Int) + 1 + (k : Int) % 4), 7 * (k : Int) + (j : Int)) (hr.mono (by decide)) ⟨bd_mono (cell_bd hS _) (by decide), by have := hmx (7 * k + j) (by omega); simpa using this⟩ (as_cons (evS_sh (ev_call h_law_cell (ns, (first : Int) + 1 + (k : Int) % 4) (hr.mono (by decide)) (show (0 : Int) ≤ (first : Int) + 1 + (k : Int) % 4 by omega) (as_cons (evS_sh (ev_nsh (i := 0) rfl)) (as_cons (evS_sh (ev_bin (ev_bin (ev_nsh (i := 1) rfl) ev_int o_add) (ev_bin (ev_nsh (i := 5) rfl) ev_int (o_mod (by omega))) o_add)) as_nil)) rfl)) (as_cons (evS_sh (ev_bin (ev_bin ev_int (ev_nsh (i := 5) rfl) (o_mul (.inl (by omega)))) (ev_nsh (i := 6) rfl) o_add)) as_nil)) rfl)) ?_
      generalize chNum ns first k j = q
      refine bl_setF (d := p4 (chRow n q)) 8 hN (evS_sh (ev_tup (as_cons (evS_sh (ev_bin (ev_nsh (i := 7) rfl) (ev_nsh (i := 2) rfl) (o_mod (by omega)))) (as_cons (evS_sh (ev_bin (ev_bin (ev_nsh (i := 7) rfl) ev_int (o_fdiv (by omega) (by omega))) (ev_nsh (i := 2) rfl) (o_mod (by omega)))) (as_cons (evS_sh (ev_bin (ev_bin (ev_nsh (i := 7) rfl) ev_int (o_fdiv (by omega) (by omega))) (ev_nsh (i := 2) rfl) (o_mod (by omega)))) (as_cons (evS_sh (ev_bin (ev_bin (ev_nsh (i := 7) rfl) ev_int (o_fdiv (by omega) (by omega))) (ev_nsh (i := 2) rfl) (o_mod (by omega)))) as_nil)))))) ?_
      generalize chRow n q = t
      have e4 : decide (((dd (q4 t)).length : Int) = 4) = decide ((q4 t).Nodup) := by
        rw [decide_eq_decide]
        have h2 := dd_full (q4 t)
        have h3 : (q4 t).length = 4 := rfl
        rw [← h2]
        omega
      refine bl_if (k := decide ((q4 t).Nodup) && lawFits V t) (ts_w (tw_and (tsP_r (ts_cmp (ev_lenSetT (ns := q4 t) rfl T.len T.set (ev_nsh (i := 8) rfl) (by show 4 ≤ 1000; decide)) ev_int o_eqI) e4) fun h1 => (tw_and1 (ts_val (ev_call h_law_fits (V, t) (hr.mono (by decide)) trivial (as_cons (evS_sh (ev_nsh (i := 4) rfl)) (as_cons (evS_sh (ev_nsh (i := 8) rfl)) as_nil)) rfl))))) (fun h => ?_) (fun h => ?_)
      · obtain ⟨g1, g2⟩ := Bool.and_eq_true_iff.mp h
        rw [lawFits_eq (of_decide_eq_true g1)] at g2
        refine bl_setF (d := .list ((leftL V t).map p2)) 4 hN (evS_own (ev_call h_law_left (V, t) (hr.mono (by decide)) (by show V.length ≤ 1000; omega) (as_cons (evS_sh (ev_nsh (i := 4) rfl)) (as_cons (evS_sh (ev_nsh (i := 8) rfl)) as_nil)) rfl)) ?_
        refine bl_nil (bl_nil ?_)
        show wk _ _
        rw [show chOne V t = leftL V t from if_pos g2]
        walk_at "wk"
      · have g2 : ¬ fitsB V t = true := fun g => by
          have hf := of_decide_eq_true g
          rw [decide_eq_true hf.1, lawFits_eq hf.1, g] at h
          cases h
        refine bl_nil (bl_nil ?_)
        show wk _ _
        rw [show chOne V t = V from if_neg g2]
        walk_at "wk"
    · rw [rng_len] at hI2
      refine bl_wk (bl_nil ?_) hI2
      show wk _ _
      walk_at "wk"
  · rw [rng_len] at hI
    refine bl_wk ?_ hI
    have hall : chK ns first n m (srtT ties) = chAll ns first n ties := by
      unfold chAll
      rw [hm13, Int.toNat_natCast]
    rw [hall]
    have hla : (chAll ns first n ties).length ≤ 45 := by
      rw [← hall]
      exact ((lk m).1.deg h10 0).2
    have hch : changedF ns first n ties = (chAll ns first n ties).drop (chTurn ns first (chAll ns first n ties)) ++ (chAll ns first n ties).take (chTurn ns first (chAll ns first n ties)) := rfl
    rw [hch]
    generalize chAll ns first n ties = U at hla
    have ht : ((chTurn ns first U : Nat) : Int) = cellF ns (first : Int) / 13 % (1 + (U.length : Int)) := by
      unfold chTurn
      have := Int.emod_nonneg (cellF ns (first : Int) / 13) (show (1 + (U.length : Int)) ≠ 0 by omega)
      omega
    generalize chTurn ns first U = t at ht
    refine bl_setF (d := .int (t : Int)) 9 hN (evS_sh (evP_r (ev_bin (ev_bin (ev_call h_law_cell (ns, (first : Int)) (hr.mono (by decide)) (show (0 : Int) ≤ (first : Int) by omega) (as_cons (evS_sh (ev_nsh (i := 0) rfl)) (as_cons (evS_sh (ev_nsh (i := 1) rfl)) as_nil)) rfl) ev_int (o_fdiv (by omega) (by omega))) (ev_bin ev_int (ev_bi T.len (c_len (n := U.length) (by show some _ = some _; rw [List.length_map])) (ar_cons (ev_nsh (i := 4) rfl) ar_nil)) o_add) (o_mod (by omega))) (by rw [ht]))) ?_
    rw [List.map_append, List.map_drop, List.map_take]
    exact bl_ret (ev_bin (ev_slice (ev_nsh (i := 4) rfl) (PrtP.yes (ev_nsh (i := 9) rfl)) PrtP.no (s_drop rfl)) (ev_slice (ev_nsh (i := 4) rfl) PrtP.no (PrtP.yes (ev_nsh (i := 9) rfl)) (s_take rfl)) (o_cat rfl rfl (by rw [List.length_drop, List.length_take, List.length_map]; omega))) rfl
end
end KW

namespace KW
open PySem PySem.Spec PyProof.Rows L2 TW
local macro_rules | `(tactic| walk_at "bo") => `(tactic| first | with_reducible exact o_add | with_reducible exact o_sub | with_reducible exact o_lt | with_reducible exact o_le | with_reducible exact o_gt | with_reducible exact o_ge | with_reducible exact o_eqI | with_reducible exact o_neI | with_reducible refine o_mod ?_ <;> omega | with_reducible refine o_fdiv ?_ ?_ <;> omega | with_reducible exact o_isN | with_reducible exact o_notN | exact o_add | exact o_sub | exact o_lt | exact o_le | exact o_gt | exact o_ge | exact o_eqI | exact o_neI | exact o_mod (by omega) | exact o_fdiv (by omega) (by omega) | exact o_mul (.inl (by omega)) | exact o_mul (.inr (by omega)) | exact o_eqS | exact o_neS | exact o_eqB | exact o_neB | exact o_isN | exact o_notN | exact o_cat rfl rfl (by walk_at "le"))
local macro_rules | `(tactic| walk_at "le") => `(tactic| first | decide | omega | (simp only [List.length_append, List.length_cons, List.length_nil, List.length_map, List.length_take, List.length_drop, List.length_range]; omega))
local macro_rules | `(tactic| walk_at "rg") => `(tactic| first | omega | decide)
local macro_rules | `(tactic| walk_at "bc") => `(tactic| first | exact c_len rfl | exact c_min2 rfl | exact c_max2 rfl | exact c_sum rfl rfl | exact c_any rfl rfl | exact c_all rfl rfl | exact c_list (tup := true) (.inl rfl) | exact c_list (tup := true) (.inr rfl) | exact c_tuple rfl | exact c_intB)
local macro_rules | `(tactic| walk_at "sl") => `(tactic| first | exact s_take rfl | exact s_drop rfl)
local macro_rules | `(tactic| walk_at "ns") => `(tactic| first | assumption | rfl)
local macro_rules | `(tactic| walk_at "bk") => `(tactic| first | rfl | decide +kernel)
local macro_rules | `(tactic| walk_at "wk") => `(tactic| repeat (first | exact trivial | refine ⟨Or.inl rfl, ?_⟩ | refine ⟨Or.inr rfl, ?_⟩))
local macro_rules | `(tactic| walk_at "pre") => `(tactic| first | trivial | assumption)
local macro_rules | `(tactic| walk_at "ix") => `(tactic| first | exact x_list rfl rfl | exact x_tup rfl)
section
variable {P : Program} {w : World} {K : KF} {mg : Str → Option Value} {base : Heap} {f : Addr} {fd : FuncData}
abbrev n_law_led : List Str := ["_law_size", "_law_one", "_law_other", "_law_found", "_law_here", "_law_row", "_law_tie"]
theorem sc_law_led : FnScope n_law_led ["_law_size", "_law_one", "_law_other", "_law_found"] (defScope s_law_led) := ⟨rfl, rfl, rfl, by decide +kernel, rfl, by decide +kernel, by decide +kernel⟩
theorem led_at {n : Nat} : ∀ {rows : List T4} {s t : List T2}, Led s rows t → Web n s → ∀ i, Web n ((rows.take i).foldl leftL s) ∧ ∀ e, rows[i]? = some e → Fits ((rows.take i).foldl leftL s) e
  | [], s, t, _, w, i => ⟨by simpa using w, fun e he => by simp at he⟩
  | r :: rows, s, t, h, w, 0 => ⟨w, fun e he => by
    have : r = e := by simpa using he
    subst this; exact h.1⟩
  | r :: rows, s, t, h, w, i + 1 => by
    have := led_at h.2 (left_web w h.1) i
    exact ⟨this.1, fun e he => this.2 e (by simpa using he)⟩
theorem led_end : ∀ {rows : List T4} {s t : List T2}, Led s rows t → rows.foldl leftL s = t
  | [], _, _, h => h
  | _ :: rows, _, _, h => led_end (rows := rows) h.2
abbrev LedPre (z : Nat × List T2 × List T2 × List T4) : Prop := Web z.1 z.2.1 ∧ z.1 ≤ 10 ∧ Led (srtT z.2.1) z.2.2.2 (srtT z.2.2.1) ∧ z.2.2.2.length ≤ (gone z.2.1 z.2.2.1).length
abbrev F_law_led (P : Program) (w : World) (K : KF) (mg : Str → Option Value) (base : Heap) : Prop :=
  Fn P w K mg base "_law_led" 3 ["_law_size", "_law_one", "_law_other", "_law_found"] (spF K LedPre (fun z => [.int z.1, .list (z.2.1.map p2), .list (z.2.2.1.map p2), .list (z.2.2.2.map p4)]) fun _ => .ret (.sh (.bool true)))
theorem ok_law_led (F : Fun K "_law_led" "_law_led" s_law_led f fd) (hm : mg "_law_led" = some (.ref f)) (hb : Binds K fd ["_law_size", "_law_one", "_law_other", "_law_found"] []) (T : Bt mg) (h_law_is_row : F_law_is_row P w K mg base) (h_law_fits : F_law_fits P w K mg base) (h_law_left : F_law_left P w K mg base) : F_law_led P w K mg base := by
  refine fn_pure F hm hb sc_law_led (fun _ => rfl) fun cdv A outer s G H E ⟨n, one, other, rows⟩ hr ⟨w, h10, hl, hlen⟩ hE => ?_
  have hN := sc_law_led.nd
  dsimp only at w h10 hl hlen ⊢
  have hu5 : ∀ X' : Cx, X'.A = (bodyX P ‹World› K mg base n_law_led "_law_led" s_law_led f cdv A outer s H E).A → X'.A.units + 65 < cLine := fun X' e => by rw [e]; have := hr.un; show (A.deeper _).units + 65 < cLine; omega
  have hu : ∀ X' : Cx, X'.A = (bodyX P ‹World› K mg base n_law_led "_law_led" s_law_led f cdv A outer s H E).A → X'.A.units + 64 < cLine := fun X' e => by have := hu5 X' e; omega
  have hol := (w.deg h10 0).2
  refine bl_if (k := false) (ts_w (tw_or (k := false) (ts_not (k := true) (ts_val (ev_isi T.isinstance T.list (ev_nsh (i := 3) rfl) (kit_list _) rfl))) fun h1 => (tw_or1 (tsP_r (ts_cmp (ev_bi T.len (c_len (n := rows.length) (by show some _ = some _; rw [List.length_map])) (ar_cons (ev_nsh (i := 3) rfl) ar_nil)) (ev_bi T.len (c_len (r := .own ((gone one other).map p2)) (n := (gone one other).length) (by show some _ = some _; rw [List.length_map])) (ar_cons (ev_lcF (xs := one) (enc := p2) (p := fun x => !decide (x ∈ other)) (g := p2) (own := [("_law_tie", 6)]) rfl hN (blkOk_by (by walk_at "bk")) (it_list (evS_sh (ev_nsh (i := 1) rfl))) (by omega) fun z hz => turn_if (fun _ _ _ _ _ => tw_name 6 hN) (fun _ _ _ _ _ => (ts_cmp (ev_nsh (i := 6) rfl) (ev_nsh (i := 2) rfl) (o_notInP (hu5 _ (by rfl)) z other (by rfl) (by rfl)))) (fun h => fun _ _ _ _ _ => (evS_sh (ev_nsh (i := 6) rfl)))) ar_nil)) o_gt) (decide_eq_false (by omega)))))) (fun h => by cases h) (fun _ => bl_nil ?_)
  refine bl_setF (d := .list ((srtT one).map p2)) 4 hN (evS_own (ev_bi T.sorted (c_sortP2 (ls := one) (hu _ (by rfl)) (by rfl)) (ar_cons (ev_nsh (i := 1) rfl) ar_nil))) ?_
  have w' : Web n (srtT one) := ⟨fun x hx => w.r x ((srtT_perm one).mem_iff.mp hx), (srtT_perm one).nodup_iff.mpr w.nd⟩
  have hat := led_at hl w'
  have hen := led_end hl
  refine bl_for (passes_of rfl) rfl (it_list (evS_sh (ev_nsh (i := 3) rfl))) (fun i env' => wk env' [some (.sh (.int n)), some (.sh (.list (one.map p2))), some (.sh (.list (other.map p2))), some (.sh (.list (rows.map p4))), some (.sh (.list (((rows.take i).foldl leftL (srtT one)).map p2))), none, none]) (by walk_at "wk") (fun Gb i d env1 hi hI => ?_) (fun env1 hI => ?_)
  · obtain ⟨t, ht, rfl⟩ := map_get hi
    obtain ⟨wh, hf⟩ := hat i
    have hf := hf t ht
    have hin := fits_in wh hf
    have htl := (wh.deg h10 0).2
    have e1 : (rows.take (i + 1)).foldl leftL (srtT one) = leftL ((rows.take i).foldl leftL (srtT one)) t := by
      rw [List.take_add_one, ht, List.foldl_append]
      rfl
    rw [e1]
    generalize (rows.take i).foldl leftL (srtT one) = here at wh hf hin htl hI
    refine ⟨_, tg_name 5 hN, bl_wkset hI ?_⟩
    refine bl_if (k := false) (ts_w (tw_or (k := false) (ts_not (k := true) (ts_val (ev_call h_law_is_row (t, n) (hr.mono (by decide)) ⟨hf.1, hin⟩ (as_cons (evS_sh (ev_nsh (i := 5) rfl)) (as_cons (evS_sh (ev_nsh (i := 0) rfl)) as_nil)) rfl))) fun h1 => (tw_or1 (tsP_r (ts_not (ts_val (ev_call h_law_fits (here, t) (hr.mono (by decide)) trivial (as_cons (evS_sh (ev_nsh (i := 4) rfl)) (as_cons (evS_sh (ev_nsh (i := 5) rfl)) as_nil)) rfl))) (by show (!lawFits here t) = false; rw [lawFits_eq hf.1, show fitsB here t = true from decide_eq_true hf]; rfl))))) (fun h => by cases h) (fun _ => bl_nil ?_)
    refine bl_setF (d := .list ((leftL here t).map p2)) 4 hN (evS_own (ev_call h_law_left (here, t) (hr.mono (by decide)) (by show here.length ≤ 1000; omega) (as_cons (evS_sh (ev_nsh (i := 4) rfl)) (as_cons (evS_sh (ev_nsh (i := 5) rfl)) as_nil)) rfl)) ?_
    refine bl_nil ?_
    show wk _ _
    walk_at "wk"
  · rw [List.length_map, List.take_length, hen] at hI
    refine bl_wk ?_ hI
    exact bl_ret (ev_cmp (ev_nsh (i := 4) rfl) (ev_bi T.sorted (c_sortP2 (ls := other) (hu _ (by rfl)) (by rfl)) (ar_cons (ev_nsh (i := 2) rfl) ar_nil)) (o_eqR (hu _ (by rfl)) (lay_lst (srtT other) good_p2.lay) rfl rfl)) rfl
end
end KW

namespace KW
open PySem PySem.Spec PyProof.Rows L2 TW
local macro_rules | `(tactic| walk_at "bo") => `(tactic| first | with_reducible exact o_add | with_reducible exact o_sub | with_reducible exact o_lt | with_reducible exact o_le | with_reducible exact o_gt | with_reducible exact o_ge | with_reducible exact o_eqI | with_reducible exact o_neI | with_reducible refine o_mod ?_ <;> omega | with_reducible refine o_fdiv ?_ ?_ <;> omega | with_reducible exact o_isN | with_reducible exact o_notN | exact o_add | exact o_sub | exact o_lt | exact o_le | exact o_gt | exact o_ge | exact o_eqI | exact o_neI | exact o_mod (by omega) | exact o_fdiv (by omega) (by omega) | exact o_mul (.inl (by omega)) | exact o_mul (.inr (by omega)) | exact o_eqS | exact o_neS | exact o_eqB | exact o_neB | exact o_isN | exact o_notN | exact o_cat rfl rfl (by walk_at "le"))
local macro_rules | `(tactic| walk_at "le") => `(tactic| first | decide | omega | (simp only [List.length_append, List.length_cons, List.length_nil, List.length_map, List.length_take, List.length_drop, List.length_range]; omega))
local macro_rules | `(tactic| walk_at "rg") => `(tactic| first | omega | decide)
local macro_rules | `(tactic| walk_at "bc") => `(tactic| first | exact c_len rfl | exact c_min2 rfl | exact c_max2 rfl | exact c_sum rfl rfl | exact c_any rfl rfl | exact c_all rfl rfl | exact c_list (tup := true) (.inl rfl) | exact c_list (tup := true) (.inr rfl) | exact c_tuple rfl | exact c_intB)
local macro_rules | `(tactic| walk_at "sl") => `(tactic| first | exact s_take rfl | exact s_drop rfl)
local macro_rules | `(tactic| walk_at "ns") => `(tactic| first | assumption | rfl)
local macro_rules | `(tactic| walk_at "bk") => `(tactic| first | rfl | decide +kernel)
local macro_rules | `(tactic| walk_at "wk") => `(tactic| repeat (first | exact trivial | refine ⟨Or.inl rfl, ?_⟩ | refine ⟨Or.inr rfl, ?_⟩))
local macro_rules | `(tactic| walk_at "pre") => `(tactic| first | trivial | assumption)
local macro_rules | `(tactic| walk_at "ix") => `(tactic| first | exact x_list rfl rfl | exact x_tup rfl)
section
variable {P : Program} {w : World} {K : KF} {mg : Str → Option Value} {base : Heap} {f : Addr} {fd : FuncData}
abbrev n_law_told : List Str := ["_law_size", "_law_one", "_law_other", "_law_error"]
theorem sc_law_told : FnScope n_law_told ["_law_size", "_law_one", "_law_other"] (defScope s_law_told) := ⟨rfl, rfl, rfl, by decide +kernel, rfl, by decide +kernel, by decide +kernel⟩
def refD (x : Str) : PD := .tuple [.str "refused", .list [.str x]]
noncomputable def toldY (s x y : PD) : RV := if webOk s x then (if webOk s y then (if countsL (sizeOf2 s) (tiesOf x) = countsL (sizeOf2 s) (tiesOf y) then .own ((wayF (tiesOf x) (tiesOf y)).map p4) else .sh (refD "unlike")) else .sh (refD "web")) else .sh (refD "web")
abbrev F_law_told (P : Program) (w : World) (K : KF) (mg : Str → Option Value) (base : Heap) : Prop :=
  Fn P w K mg base "_law_told" 5 ["_law_size", "_law_one", "_law_other"] (spF K (fun z : PD × PD × PD => WebPre (z.1, z.2.1) ∧ WebPre (z.1, z.2.2)) (fun z => [z.1, z.2.1, z.2.2]) fun z => .ret (toldY z.1 z.2.1 z.2.2))
theorem ok_law_told {a : ErA} (F : Fun K "_law_told" "_law_told" s_law_told f fd) (hm : mg "_law_told" = some (.ref f)) (hb : Binds K fd ["_law_size", "_law_one", "_law_other"] []) (T : Bt mg) (N : ErN mg a) (R : Raised K mg a "BadWeb" a.bw "web") (R2 : Raised K mg a "Unlike" a.un "unlike") (h_way : F_way P w K mg base a) (h_law_kind : F_law_kind P w K mg base a) : F_law_told P w K mg base := by
  refine fn_pure F hm hb sc_law_told (fun _ => rfl) fun cdv A outer s G H E ⟨sz, x, y⟩ hr hz hE => ?_
  have hN := sc_law_told.nd
  dsimp only at hE ⊢
  refine bl_try (i := 3) rfl rfl hN (names_T rfl N) fun pn xe hR => ?_
  by_cases hw : webOk sz x = true
  · by_cases hw2 : webOk sz y = true
    · by_cases hc : countsL (sizeOf2 sz) (tiesOf x) = countsL (sizeOf2 sz) (tiesOf y)
      · refine bl_ret (ev_call h_way (sz, x, y) hr hz (as_cons (evS_sh (ev_nsh (i := 0) rfl)) (as_cons (evS_sh (ev_nsh (i := 1) rfl)) (as_cons (evS_sh (ev_nsh (i := 2) rfl)) as_nil))) ((if_pos hw).trans ((if_pos hw2).trans (if_pos hc)))) ?_
        show _ = toldY sz x y
        unfold toldY
        rw [if_pos hw, if_pos hw2, if_pos hc]
      · have ht : toldY sz x y = .sh (refD "unlike") := by unfold toldY; rw [if_pos hw, if_pos hw2, if_neg hc]
        have hC := hR a.un R2.tm (suite_refused h_law_kind R2 (hr.mono (by decide)) (show _ = toldY sz x y from ht.symm) (show 3 < 4 by decide))
        exact bl_retN1 (ev_callN h_way (sz, x, y) hr hz (as_cons (evS_sh (ev_nsh (i := 0) rfl)) (as_cons (evS_sh (ev_nsh (i := 1) rfl)) (as_cons (evS_sh (ev_nsh (i := 2) rfl)) as_nil))) ((if_pos hw).trans ((if_pos hw2).trans (if_neg hc))) hC)
    · have ht : toldY sz x y = .sh (refD "web") := by unfold toldY; rw [if_pos hw, if_neg hw2]
      have hC := hR a.bw R.tm (suite_refused h_law_kind R (hr.mono (by decide)) (show _ = toldY sz x y from ht.symm) (show 3 < 4 by decide))
      exact bl_retN1 (ev_callN h_way (sz, x, y) hr hz (as_cons (evS_sh (ev_nsh (i := 0) rfl)) (as_cons (evS_sh (ev_nsh (i := 1) rfl)) (as_cons (evS_sh (ev_nsh (i := 2) rfl)) as_nil))) ((if_pos hw).trans (if_neg hw2)) hC)
  · have ht : toldY sz x y = .sh (refD "web") := by unfold toldY; rw [if_neg hw]
    have hC := hR a.bw R.tm (suite_refused h_law_kind R (hr.mono (by decide)) (show _ = toldY sz x y from ht.symm) (show 3 < 4 by decide))
    exact bl_retN1 (ev_callN h_way (sz, x, y) hr hz (as_cons (evS_sh (ev_nsh (i := 0) rfl)) (as_cons (evS_sh (ev_nsh (i := 1) rfl)) (as_cons (evS_sh (ev_nsh (i := 2) rfl)) as_nil))) (if_neg hw) hC)
end
end KW

namespace KW
open PySem PySem.Spec PyProof.Rows L2 TW
local macro_rules | `(tactic| walk_at "bo") => `(tactic| first | with_reducible exact o_add | with_reducible exact o_sub | with_reducible exact o_lt | with_reducible exact o_le | with_reducible exact o_gt | with_reducible exact o_ge | with_reducible exact o_eqI | with_reducible exact o_neI | with_reducible refine o_mod ?_ <;> omega | with_reducible refine o_fdiv ?_ ?_ <;> omega | with_reducible exact o_isN | with_reducible exact o_notN | exact o_add | exact o_sub | exact o_lt | exact o_le | exact o_gt | exact o_ge | exact o_eqI | exact o_neI | exact o_mod (by omega) | exact o_fdiv (by omega) (by omega) | exact o_mul (.inl (by omega)) | exact o_mul (.inr (by omega)) | exact o_eqS | exact o_neS | exact o_eqB | exact o_neB | exact o_isN | exact o_notN | exact o_cat rfl rfl (by walk_at "le"))
local macro_rules | `(tactic| walk_at "le") => `(tactic| first | decide | omega | (simp only [List.length_append, List.length_cons, List.length_nil, List.length_map, List.length_take, List.length_drop, List.length_range]; omega))
local macro_rules | `(tactic| walk_at "rg") => `(tactic| first | omega | decide)
local macro_rules | `(tactic| walk_at "bc") => `(tactic| first | exact c_len rfl | exact c_min2 rfl | exact c_max2 rfl | exact c_sum rfl rfl | exact c_any rfl rfl | exact c_all rfl rfl | exact c_list (tup := true) (.inl rfl) | exact c_list (tup := true) (.inr rfl) | exact c_tuple rfl | exact c_intB)
local macro_rules | `(tactic| walk_at "sl") => `(tactic| first | exact s_take rfl | exact s_drop rfl)
local macro_rules | `(tactic| walk_at "ns") => `(tactic| first | assumption | rfl)
local macro_rules | `(tactic| walk_at "bk") => `(tactic| first | rfl | decide +kernel)
local macro_rules | `(tactic| walk_at "wk") => `(tactic| repeat (first | exact trivial | refine ⟨Or.inl rfl, ?_⟩ | refine ⟨Or.inr rfl, ?_⟩))
local macro_rules | `(tactic| walk_at "pre") => `(tactic| first | trivial | assumption)
local macro_rules | `(tactic| walk_at "ix") => `(tactic| first | exact x_list rfl rfl | exact x_tup rfl)
section
variable {P : Program} {w : World} {K : KF} {mg : Str → Option Value} {base : Heap} {f : Addr} {fd : FuncData}
/-- an if whose ways meet again, told by a property -/
theorem bl_ifE {X : Cx} {b : Bs} {env : PEnv} {R : Out} {e : Expr} {bA bB rest : List Stmt} {pos : Pos} {k : Bool} (M : PEnv → Prop) (hc : TsP X b e env k)
    (h1 : k = true → BlP X b bA env { R with nx := M }) (h2 : k = false → BlP X b bB env { R with nx := M })
    (kk : ∀ e', M e' → BlP X b rest e' R) : BlP X b (.If e bA bB pos :: rest) env R :=
  bl_if hc (fun h => bl_imp (h1 h) (fun e q => kk e q) (fun _ q => q) (fun _ q => q) fun _ q => q) (fun h => bl_imp (h2 h) (fun e q => kk e q) (fun _ q => q) (fun _ q => q) fun _ q => q)
end
end KW

namespace KW
open PySem PySem.Spec PyProof.Rows L2 TW
local macro_rules | `(tactic| walk_at "bo") => `(tactic| first | with_reducible exact o_add | with_reducible exact o_sub | with_reducible exact o_lt | with_reducible exact o_le | with_reducible exact o_gt | with_reducible exact o_ge | with_reducible exact o_eqI | with_reducible exact o_neI | with_reducible refine o_mod ?_ <;> omega | with_reducible refine o_fdiv ?_ ?_ <;> omega | with_reducible exact o_isN | with_reducible exact o_notN | exact o_add | exact o_sub | exact o_lt | exact o_le | exact o_gt | exact o_ge | exact o_eqI | exact o_neI | exact o_mod (by omega) | exact o_fdiv (by omega) (by omega) | exact o_mul (.inl (by omega)) | exact o_mul (.inr (by omega)) | exact o_eqS | exact o_neS | exact o_eqB | exact o_neB | exact o_isN | exact o_notN | exact o_cat rfl rfl (by walk_at "le"))
local macro_rules | `(tactic| walk_at "le") => `(tactic| first | decide | omega | (simp only [List.length_append, List.length_cons, List.length_nil, List.length_map, List.length_take, List.length_drop, List.length_range]; omega))
local macro_rules | `(tactic| walk_at "rg") => `(tactic| first | omega | decide)
local macro_rules | `(tactic| walk_at "bc") => `(tactic| first | exact c_len rfl | exact c_min2 rfl | exact c_max2 rfl | exact c_sum rfl rfl | exact c_any rfl rfl | exact c_all rfl rfl | exact c_list (tup := true) (.inl rfl) | exact c_list (tup := true) (.inr rfl) | exact c_tuple rfl | exact c_intB)
local macro_rules | `(tactic| walk_at "sl") => `(tactic| first | exact s_take rfl | exact s_drop rfl)
local macro_rules | `(tactic| walk_at "ns") => `(tactic| first | assumption | rfl)
local macro_rules | `(tactic| walk_at "bk") => `(tactic| first | rfl | decide +kernel)
local macro_rules | `(tactic| walk_at "wk") => `(tactic| repeat (first | exact trivial | refine ⟨Or.inl rfl, ?_⟩ | refine ⟨Or.inr rfl, ?_⟩))
local macro_rules | `(tactic| walk_at "pre") => `(tactic| first | trivial | assumption)
local macro_rules | `(tactic| walk_at "ix") => `(tactic| first | exact x_list rfl rfl | exact x_tup rfl)
section
variable {P : Program} {w : World} {K : KF} {mg : Str → Option Value} {base : Heap} {f : Addr} {fd : FuncData}
abbrev n_law_others : List Str := ["_law_size", "_law_one", "_law_cell_here", "_law_tie", "_law_found", "_law_free", "_law_gone", "_law_other", "_law_k", "_law_j", "_law_web_here"]
theorem sc_law_others : FnScope n_law_others ["_law_size", "_law_one", "_law_cell_here"] (defScope s_law_others) := ⟨rfl, rfl, rfl, by decide +kernel, rfl, by decide +kernel, by decide +kernel⟩
/-! webs of other counts -/
def wD (T : List T2) : PD := .list (T.map p2)
def oTie (n : Nat) (c : Int) : T2 := (c / 8 % ((n : Int) - 1), (n : Int) - 1)
def o1 (T : List T2) (t : T2) : List T2 := othersL T t ++ (List.replicate (if t ∈ T then 0 else 1) [t]).flatten
def freeL0 : List T2 := [(0, 1), (1, 2), (0, 2), (2, 3), (1, 3), (0, 3)]
def freeL (n : Nat) (T : List T2) : List T2 := freeL0.filter fun t => decide (t.2 < (n : Int)) && !decide (t ∈ T)
def o2 (T : List T2) (g t : T2) : List T2 := othersL T g ++ [t]
def o3 (n : Nat) (T : List T2) : List T2 := T.map fun t => tie ((t.1 + 1) % (n : Int)) ((t.2 + 1) % (n : Int))
theorem web_sub {n : Nat} {T U : List T2} (w : Web n T) (h : U.Sublist T) : Web n U := ⟨fun x hx => w.r x (h.subset hx), w.nd.sublist h⟩
theorem web_snoc {n : Nat} {T : List T2} (w : Web n T) {t : T2} (h1 : 0 ≤ t.1 ∧ t.1 < t.2 ∧ t.2 < (n : Int)) (h2 : t ∉ T) : Web n (T ++ [t]) := by
  refine ⟨fun x hx => ?_, List.nodup_append.mpr ⟨w.nd, by simp, fun x hx y hy e => ?_⟩⟩
  · rcases List.mem_append.mp hx with q | q
    · exact w.r x q
    · rw [List.mem_singleton.mp q]; exact h1
  · rw [List.mem_singleton] at hy
    subst hy e
    exact h2 hx
theorem o1_web {n : Nat} {T : List T2} (w : Web n T) {t : T2} (h1 : 0 ≤ t.1 ∧ t.1 < t.2 ∧ t.2 < (n : Int)) : Web n (o1 T t) := by
  unfold o1
  have ws : Web n (othersL T t) := web_sub w List.filter_sublist
  by_cases h : t ∈ T
  · rw [if_pos h]
    simpa using ws
  · rw [if_neg h]
    have := web_snoc ws h1 fun q => (others_mem.mp q).2 rfl
    simpa using this
theorem free_ok {n : Nat} {T : List T2} {t : T2} (h : t ∈ freeL n T) : (0 ≤ t.1 ∧ t.1 < t.2 ∧ t.2 < (n : Int)) ∧ t ∉ T := by
  unfold freeL at h
  obtain ⟨h1, h2⟩ := List.mem_filter.mp h
  simp only [Bool.and_eq_true, decide_eq_true_eq, Bool.not_eq_true', decide_eq_false_iff_not] at h2
  refine ⟨?_, h2.2⟩
  have h3 : 0 ≤ t.1 ∧ t.1 < t.2 := by
    unfold freeL0 at h1
    simp only [List.mem_cons, List.not_mem_nil, or_false] at h1
    rcases h1 with rfl | rfl | rfl | rfl | rfl | rfl <;> decide
  exact ⟨h3.1, h3.2, h2.1⟩
theorem o2_web {n : Nat} {T : List T2} (w : Web n T) (g : T2) {t : T2} (h : t ∈ freeL n T) : Web n (o2 T g t) := by
  obtain ⟨h1, h2⟩ := free_ok h
  exact web_snoc (web_sub w List.filter_sublist) h1 fun q => h2 (others_mem.mp q).1
theorem o3_web {n : Nat} {T : List T2} (w : Web n T) : Web n (o3 n T) := by
  unfold o3
  have key : ∀ p : Int, 0 ≤ p → p < n → (p + 1) % (n : Int) = if p = (n : Int) - 1 then 0 else p + 1 := fun p h0 h1 => by
    split
    · rename_i e
      rw [e, show (n : Int) - 1 + 1 = n by omega, Int.emod_self]
    · exact Int.emod_eq_of_lt (by omega) (by omega)
  refine ⟨fun x hx => ?_, List.pairwise_map.mpr (List.Pairwise.imp_of_mem (fun {x y} hx hy hne e => hne ?_) w.nd)⟩
  · obtain ⟨t, ht, rfl⟩ := List.mem_map.mp hx
    have r := w.r t ht
    rw [key t.1 (by omega) (by omega), key t.2 (by omega) (by omega)]
    simp only [tie]
    split <;> split <;> omega
  · have r := w.r x hx
    have r2 := w.r y hy
    rw [key x.1 (by omega) (by omega), key x.2 (by omega) (by omega), key y.1 (by omega) (by omega), key y.2 (by omega) (by omega), tie_eq] at e
    refine Prod.ext ?_ ?_
    · revert e
      repeat' split
      all_goals intro e; omega
    · revert e
      repeat' split
      all_goals intro e; omega
def oMid (n : Nat) (T : List T2) (c : Int) : List (List T2) := if T ≠ [] ∧ freeL n T ≠ [] then [o2 T (T.getD (c / 16 % (T.length : Int)).toNat (0, 0)) ((freeL n T).getD (c / 64 % ((freeL n T).length : Int)).toNat (0, 0))] else []
def oRaw (n : Nat) (T : List T2) (c : Int) : List (List T2) := [o1 T (oTie n c)] ++ oMid n T c ++ [o3 n T]
def othersF (n : Nat) (T : List T2) (c : Int) : List (List T2) := (oRaw n T c).filter fun U => !decide (countsL n U = countsL n T)
theorem oTie_ok {n : Nat} (h : 1 < n) (c : Int) : 0 ≤ (oTie n c).1 ∧ (oTie n c).1 < (oTie n c).2 ∧ (oTie n c).2 < (n : Int) := by
  unfold oTie
  have h1 := Int.emod_nonneg (c / 8) (show ((n : Int) - 1) ≠ 0 by omega)
  have h2 := Int.emod_lt_of_pos (c / 8) (show 0 < ((n : Int) - 1) by omega)
  dsimp only
  omega
theorem getD_mem2 {l : List T2} {i : Int} (h0 : 0 ≤ i) (h1 : i < l.length) (d : T2) : l.getD i.toNat d ∈ l := by
  rw [List.getD_eq_getElem?_getD, List.getElem?_eq_getElem (by omega)]
  exact List.getElem_mem _
theorem oMid_web {n : Nat} {T : List T2} (w : Web n T) (c : Int) : ∀ U ∈ oMid n T c, Web n U := fun U hU => by
  unfold oMid at hU
  split at hU
  · rename_i h
    rw [List.mem_singleton] at hU
    subst hU
    have hl := List.length_pos_iff.mpr h.2
    exact o2_web w _ (getD_mem2 (Int.emod_nonneg _ (by omega)) (Int.emod_lt_of_pos _ (by omega)) _)
  · cases hU
theorem oRaw_web {n : Nat} {T : List T2} (w : Web n T) (h : 1 < n) (c : Int) : ∀ U ∈ oRaw n T c, Web n U := fun U hU => by
  unfold oRaw at hU
  rcases List.mem_append.mp hU with hU | hU
  · rcases List.mem_append.mp hU with hU | hU
    · rw [List.mem_singleton.mp hU]; exact o1_web w (oTie_ok h c)
    · exact oMid_web w c U hU
  · rw [List.mem_singleton.mp hU]; exact o3_web w
theorem oMid_len (n : Nat) (T : List T2) (c : Int) : (oMid n T c).length ≤ 1 := by
  unfold oMid
  split <;> simp
theorem others_ok {n : Nat} {T : List T2} (w : Web n T) (h : 1 < n) (c : Int) : ∀ U ∈ othersF n T c, Web n U ∧ countsL n U ≠ countsL n T := fun U hU => by
  obtain ⟨h1, h2⟩ := List.mem_filter.mp hU
  exact ⟨oRaw_web w h c U h1, by simpa using h2⟩
theorem others_len (n : Nat) (T : List T2) (c : Int) : (othersF n T c).length ≤ 3 := by
  refine Nat.le_trans (List.length_filter_le _ _) ?_
  unfold oRaw
  have := oMid_len n T c
  rw [List.length_append, List.length_append]
  show 1 + _ + 1 ≤ 3
  omega
theorem at_getD {l : List T2} {i : Int} (h0 : 0 ≤ i) (h1 : i < l.length) : atI (l.map p2) i = some (p2 (l.getD i.toNat (0, 0))) := by
  obtain ⟨k, rfl⟩ := Int.eq_ofNat_of_zero_le h0
  refine atI_nat ?_
  rw [List.getElem?_map, Int.toNat_natCast, List.getD_eq_getElem?_getD, List.getElem?_eq_getElem (by omega)]
  rfl
abbrev F_law_others (P : Program) (w : World) (K : KF) (mg : Str → Option Value) (base : Heap) : Prop :=
  Fn P w K mg base "_law_others" 2 ["_law_size", "_law_one", "_law_cell_here"] (spF K (fun z : Nat × List T2 × Int => Web z.1 z.2.1 ∧ 1 < z.1 ∧ z.1 ≤ 10) (fun z => [.int z.1, .list (z.2.1.map p2), .int z.2.2]) fun z => .ret (.own ((othersF z.1 z.2.1 z.2.2).map wD)))
theorem ok_law_others (F : Fun K "_law_others" "_law_others" s_law_others f fd) (hm : mg "_law_others" = some (.ref f)) (hb : Binds K fd ["_law_size", "_law_one", "_law_cell_here"] []) (T : Bt mg) (h_law_tied : F_law_tied P w K mg base) (h_law_counts : F_law_counts P w K mg base) : F_law_others P w K mg base := by
  refine fn_pure F hm hb sc_law_others (fun _ => rfl) fun cdv A outer s G H E ⟨n, one, c⟩ hr ⟨w, h1, h10⟩ hE => ?_
  have hN := sc_law_others.nd
  dsimp only at w h1 h10 ⊢
  have hun : (A.deeper (envOfC "_law_others" (defScope s_law_others) s.heap.objs.size f cdv)).units + 65 < cLine := by have := hr.un; omega
  have hu5 : ∀ X' : Cx, X'.A = (bodyX P ‹World› K mg base n_law_others "_law_others" s_law_others f cdv A outer s H E).A → X'.A.units + 65 < cLine := fun X' e => by rw [e]; exact hun
  have hu : ∀ X' : Cx, X'.A = (bodyX P ‹World› K mg base n_law_others "_law_others" s_law_others f cdv A outer s H E).A → X'.A.units + 64 < cLine := fun X' e => by have := hu5 X' e; omega
  have hol := (w.deg h10 0).2
  have hlen : lenD (.list (one.map p2)) = some one.length := by show some _ = _; rw [List.length_map]
  refine bl_setF (d := p2 (oTie n c)) 3 hN (evS_sh (ev_tup (as_cons (evS_sh (ev_bin (ev_bin (ev_nsh (i := 2) rfl) ev_int (o_fdiv (by omega) (by omega))) (ev_bin (ev_nsh (i := 0) rfl) ev_int o_sub) (o_mod (by omega)))) (as_cons (evS_sh (ev_bin (ev_nsh (i := 0) rfl) ev_int o_sub)) as_nil)))) ?_
  have hraw : oRaw n one c = [o1 one (oTie n c)] ++ oMid n one c ++ [o3 n one] := rfl
  have hoth : othersF n one c = (oRaw n one c).filter fun U => !decide (countsL n U = countsL n one) := rfl
  have hrw := oRaw_web w h1 c
  have hml := oMid_len n one c
  rw [hoth]
  rw [hraw] at hrw ⊢
  clear hraw hoth
  generalize oTie n c = t at hrw ⊢
  have hcount : (if (!decide (t ∈ one)) = true then (1 : Int) else 0).toNat = if t ∈ one then 0 else 1 := by
    by_cases h : t ∈ one <;> simp [h]
  have hcb : 0 ≤ (if (!decide (t ∈ one)) = true then (1 : Int) else 0) ∧ (if (!decide (t ∈ one)) = true then (1 : Int) else 0) ≤ 1000 := by split <;> omega
  refine bl_set (r := .own ([o1 one t].map wD)) 4 hN (evP_r (ev_lst (as_cons (evS_own (ev_bin (r := .own ((o1 one t).map p2)) (ev_lcF (xs := one) (enc := p2) (p := fun x => !decide (x = t)) (g := p2) (own := [("_law_other", 7)]) rfl hN (blkOk_by (by walk_at "bk")) (it_list (evS_sh (ev_nsh (i := 1) rfl))) (by omega) fun z hz => turn_if (fun _ _ _ _ _ => tw_name 7 hN) (fun _ _ _ _ _ => (ts_cmp (ev_nsh (i := 7) rfl) (ev_nsh (i := 3) rfl) (o_neG good_p2 (hu _ (by rfl)) z t (by rfl) (by rfl)))) (fun h => fun _ _ _ _ _ => (evS_sh (ev_nsh (i := 7) rfl)))) (ev_bin (ev_lst (ds := [p2 t]) (as_cons (evS_sh (ev_nsh (i := 3) rfl)) as_nil)) (ev_ty T.int (c_intB (k := !decide (t ∈ one))) (ar_cons (ev_cmp (ev_nsh (i := 3) rfl) (ev_nsh (i := 1) rfl) (o_notInP hun t one rfl rfl)) ar_nil)) (o_rep rfl hcb (by show 1 ≤ 1000; decide))) (by
      have e : (o1 one t).map p2 = (othersL one t).map p2 ++ (List.replicate (if (!decide (t ∈ one)) = true then (1 : Int) else 0).toNat [p2 t]).flatten := by
        rw [hcount]
        unfold o1
        rw [List.map_append]
        by_cases h : t ∈ one <;> simp [h]
      rw [e]
      exact o_cat rfl rfl (by
        have h2 : ((othersL one t).map p2).length ≤ 45 := by rw [List.length_map]; exact Nat.le_trans (List.length_filter_le _ _) hol
        have h3 : (List.replicate (if (!decide (t ∈ one)) = true then (1 : Int) else 0).toNat [p2 t]).flatten.length ≤ 1 := by
          rw [hcount]
          by_cases h : t ∈ one <;> simp [h]
        omega)))) as_nil)) rfl) ?_
  refine bl_setLc (r := .sh (.list ((freeL n one).map p2))) (xs := freeL0) (enc := p2) (f := fun x => if decide (x.2 < (n : Int)) && !decide (x ∈ one) then some (p2 x) else none) (own := [("_law_k", 8), ("_law_j", 9)]) 5 rfl hN (blkOk_by (by walk_at "bk")) (sw_true rfl rfl rfl rfl) (it_zip T.zip (as_cons (evS_own (ev_lst (ds := [.int 0, .int 1, .int 0, .int 2, .int 1, .int 0]) (as_cons (evS_sh ev_int) (as_cons (evS_sh ev_int) (as_cons (evS_sh ev_int) (as_cons (evS_sh ev_int) (as_cons (evS_sh ev_int) (as_cons (evS_sh ev_int) as_nil)))))) (by show 6 ≤ 1000000; decide))) (as_cons (evS_own (ev_lst (ds := [.int 1, .int 2, .int 2, .int 3, .int 3, .int 3]) (as_cons (evS_sh ev_int) (as_cons (evS_sh ev_int) (as_cons (evS_sh ev_int) (as_cons (evS_sh ev_int) (as_cons (evS_sh ev_int) (as_cons (evS_sh ev_int) as_nil)))))) (by show 6 ≤ 1000000; decide))) as_nil))) (by decide) (fun z hz => turn_if (k := decide (z.2 < (n : Int)) && !decide (z ∈ one)) (fun _ _ _ _ _ => tw_tup rfl (tws_cons (tw_name 8 hN) (tws_cons (tw_name 9 hN) tws_nil))) (fun _ _ _ _ _ => (ts_w (tw_and (ts_cmp (ev_nsh (i := 9) rfl) (ev_nsh (i := 0) rfl) o_lt) fun h1 => (tw_and1 (ts_cmp (ev_tup (as_cons (evS_sh (ev_nsh (i := 8) rfl)) (as_cons (evS_sh (ev_nsh (i := 9) rfl)) as_nil))) (ev_nsh (i := 1) rfl) (o_notInP (hu5 _ (by rfl)) z one (by rfl) (by rfl))))))) (fun h => fun _ _ _ _ _ => (evS_sh (ev_tup (as_cons (evS_sh (ev_nsh (i := 8) rfl)) (as_cons (evS_sh (ev_nsh (i := 9) rfl)) as_nil)))))) (.inr (by rw [filterMap_if]; rfl)) ?_
  have hmid : oMid n one c = if one ≠ [] ∧ freeL n one ≠ [] then [o2 one (one.getD (c / 16 % (one.length : Int)).toNat (0, 0)) ((freeL n one).getD (c / 64 % ((freeL n one).length : Int)).toNat (0, 0))] else [] := rfl
  have hfl : (freeL n one).length ≤ 6 := List.length_filter_le _ _
  generalize oMid n one c = mid at hmid hrw hml ⊢
  generalize freeL n one = fr at hmid hfl
  have hflen : lenD (.list (fr.map p2)) = some fr.length := by show some _ = _; rw [List.length_map]
  refine bl_ifE (fun e' => wk e' [some (.sh (.int n)), some (.sh (.list (one.map p2))), some (.sh (.int c)), some (.sh (p2 t)), some (.own (([o1 one t] ++ mid).map wD)), some (.sh (.list (fr.map p2))), none, none, none, none, none]) (k := !decide (one = []) && !decide (fr = [])) (ts_w (tw_and (ts_cmp (ev_nsh (i := 1) rfl) (ev_lst as_nil) (o_neG (good_list good_p2) (hu _ (by rfl)) one [] (by rfl) (by rfl))) fun h1 => (tw_and1 (ts_cmp (ev_nsh (i := 5) rfl) (ev_lst as_nil) (o_neG (good_list good_p2) (hu _ (by rfl)) fr [] (by rfl) (by rfl)))))) (fun h => ?_) (fun h => ?_) (fun e1 hM => ?_)
  · simp only [Bool.and_eq_true, Bool.not_eq_true', decide_eq_false_iff_not] at h
    rw [if_pos ⟨h.1, h.2⟩] at hmid
    have l1 := List.length_pos_iff.mpr h.1
    have l2 := List.length_pos_iff.mpr h.2
    have i1 := Int.emod_nonneg (c / 16) (show (one.length : Int) ≠ 0 by omega)
    have i2 := Int.emod_lt_of_pos (c / 16) (show 0 < (one.length : Int) by omega)
    have i3 := Int.emod_nonneg (c / 64) (show (fr.length : Int) ≠ 0 by omega)
    have i4 := Int.emod_lt_of_pos (c / 64) (show 0 < (fr.length : Int) by omega)
    have a1 := at_getD i1 i2
    have a2 := at_getD i3 i4
    generalize one.getD (c / 16 % (one.length : Int)).toNat (0, 0) = g at a1 hmid
    generalize fr.getD (c / 64 % (fr.length : Int)).toNat (0, 0) = ft at a2 hmid
    refine bl_setF (d := p2 g) 6 hN (evS_sh (ev_ix (ev_nsh (i := 1) rfl) (ev_bin (ev_bin (ev_nsh (i := 2) rfl) ev_int (o_fdiv (by omega) (by omega))) (ev_bi T.len (c_len (r := .sh (.list (one.map p2))) hlen) (ar_cons (ev_nsh (i := 1) rfl) ar_nil)) (o_mod (by omega))) (x_list rfl a1))) ?_
    refine bl_append (i := 4) (d := wD (o2 one g ft)) (pe_bm PySem.F.plainAttrs_list PySem.F.slot_list_append PySem.F.type_list_append mt_append (pv 4) pa_sem) rfl (as_cons (evS_own (ev_bin (r := .own ((o2 one g ft).map p2)) (ev_lcF (xs := one) (enc := p2) (p := fun x => !decide (x = g)) (g := p2) (own := [("_law_other", 7)]) rfl hN (blkOk_by (by walk_at "bk")) (it_list (evS_sh (ev_nsh (i := 1) rfl))) (by omega) fun z hz => turn_if (fun _ _ _ _ _ => tw_name 7 hN) (fun _ _ _ _ _ => (ts_cmp (ev_nsh (i := 7) rfl) (ev_nsh (i := 6) rfl) (o_neG good_p2 (hu _ (by rfl)) z g (by rfl) (by rfl)))) (fun h => fun _ _ _ _ _ => (evS_sh (ev_nsh (i := 7) rfl)))) (ev_lst (ds := [p2 ft]) (as_cons (evS_sh (ev_ix (ev_nsh (i := 5) rfl) (ev_bin (ev_bin (ev_nsh (i := 2) rfl) ev_int (o_fdiv (by omega) (by omega))) (ev_bi T.len (c_len (r := .sh (.list (fr.map p2))) hflen) (ar_cons (ev_nsh (i := 5) rfl) ar_nil)) (o_mod (by omega))) (x_list rfl a2))) as_nil)) (by
        have e : (o2 one g ft).map p2 = (othersL one g).map p2 ++ [p2 ft] := by unfold o2; rw [List.map_append]; rfl
        rw [e]
        exact o_cat rfl rfl (by
          have h2 : ((othersL one g).map p2).length ≤ 45 := by rw [List.length_map]; exact Nat.le_trans (List.length_filter_le _ _) hol
          show _ + 1 ≤ 1000000
          omega)))) as_nil) (by show 1 ≤ 1000000; decide) ?_
    refine bl_nil ?_
    show wk _ _
    rw [hmid, List.map_append]
    walk_at "wk"
  · have : ¬ (one ≠ [] ∧ fr ≠ []) := fun q => by
      rw [decide_eq_false q.1, decide_eq_false q.2] at h
      cases h
    rw [if_neg this] at hmid
    refine bl_nil ?_
    show wk _ _
    rw [hmid, List.append_nil]
    walk_at "wk"
  refine bl_wk ?_ hM
  have hof : ((o3 n one).map p2) = one.map fun x => p2 (tie ((x.1 + 1) % (n : Int)) ((x.2 + 1) % (n : Int))) := by unfold o3; rw [List.map_map]; rfl
  refine bl_append (i := 4) (d := wD (o3 n one)) (pe_bm PySem.F.plainAttrs_list PySem.F.slot_list_append PySem.F.type_list_append mt_append (pv 4) pa_sem) rfl (as_cons (by
    unfold wD
    rw [hof]
    exact evS_own (ev_lcM (xs := one) (enc := p2) (g := fun x => p2 (tie ((x.1 + 1) % (n : Int)) ((x.2 + 1) % (n : Int)))) (own := [("_law_k", 8), ("_law_j", 9)]) rfl hN (blkOk_by (by walk_at "bk")) (it_list (evS_sh (ev_nsh (i := 1) rfl))) (by omega) fun z hz => turn_all (fun _ _ _ _ _ => tw_tup rfl (tws_cons (tw_name 8 hN) (tws_cons (tw_name 9 hN) tws_nil))) (fun _ _ _ _ _ => (evS_sh (ev_call h_law_tied ((z.1 + 1) % (n : Int), (z.2 + 1) % (n : Int)) (hr.mono (by decide)) trivial (as_cons (evS_sh (ev_bin (ev_bin (ev_nsh (i := 8) rfl) ev_int o_add) (ev_nsh (i := 0) rfl) (o_mod (by omega)))) (as_cons (evS_sh (ev_bin (ev_bin (ev_nsh (i := 9) rfl) ev_int o_add) (ev_nsh (i := 0) rfl) (o_mod (by omega)))) as_nil)) rfl))))) as_nil) (by rw [List.length_map, List.length_append]; show 1 + _ ≤ 1000000; omega) ?_
  have ef : ([o1 one t] ++ mid).map wD ++ [wD (o3 n one)] = ([o1 one t] ++ mid ++ [o3 n one]).map wD := by rw [List.map_append (l₂ := [o3 n one])]; rfl
  rw [ef]
  have hll : ([o1 one t] ++ mid ++ [o3 n one]).length ≤ 1000000 := by
    rw [List.length_append, List.length_append]
    show 1 + _ + 1 ≤ 1000000
    omega
  generalize [o1 one t] ++ mid ++ [o3 n one] = raw at hrw hll ⊢
  refine bl_fz 4 rfl rfl ?_
  exact bl_ret (ev_lcF (xs := raw) (enc := wD) (p := fun U => !decide (countsL n U = countsL n one)) (g := wD) (own := [("_law_web_here", 10)]) rfl hN (blkOk_by (by walk_at "bk")) (it_list (evS_sh (ev_nsh (i := 4) rfl))) hll fun z hz => turn_if (fun _ _ _ _ _ => tw_name 10 hN) (fun _ _ _ _ _ => (ts_cmp (ev_call h_law_counts (n, z) (hr.mono (by decide)) ⟨by show n ≤ 1000; omega, by
      have := ((hrw z hz).deg h10 0).2
      show z.length ≤ 1000
      omega⟩ (as_cons (evS_sh (ev_nsh (i := 0) rfl)) (as_cons (evS_sh (ev_nsh (i := 10) rfl)) as_nil)) rfl) (ev_call h_law_counts (n, one) (hr.mono (by decide)) ⟨by show n ≤ 1000; omega, by show one.length ≤ 1000; omega⟩ (as_cons (evS_sh (ev_nsh (i := 0) rfl)) (as_cons (evS_sh (ev_nsh (i := 1) rfl)) as_nil)) rfl) (o_neG (good_list good_int) (hu _ (by rfl)) (countsL n z) (countsL n one) (by rfl) (by rfl)))) (fun h => fun _ _ _ _ _ => (evS_sh (ev_nsh (i := 10) rfl)))) rfl
end
end KW

namespace KW
open PySem PySem.Spec PyProof.Rows L2 TW
local macro_rules | `(tactic| walk_at "bo") => `(tactic| first | with_reducible exact o_add | with_reducible exact o_sub | with_reducible exact o_lt | with_reducible exact o_le | with_reducible exact o_gt | with_reducible exact o_ge | with_reducible exact o_eqI | with_reducible exact o_neI | with_reducible refine o_mod ?_ <;> omega | with_reducible refine o_fdiv ?_ ?_ <;> omega | with_reducible exact o_isN | with_reducible exact o_notN | exact o_add | exact o_sub | exact o_lt | exact o_le | exact o_gt | exact o_ge | exact o_eqI | exact o_neI | exact o_mod (by omega) | exact o_fdiv (by omega) (by omega) | exact o_mul (.inl (by omega)) | exact o_mul (.inr (by omega)) | exact o_eqS | exact o_neS | exact o_eqB | exact o_neB | exact o_isN | exact o_notN | exact o_cat rfl rfl (by walk_at "le"))
local macro_rules | `(tactic| walk_at "le") => `(tactic| first | decide | omega | (simp only [List.length_append, List.length_cons, List.length_nil, List.length_map, List.length_take, List.length_drop, List.length_range]; omega))
local macro_rules | `(tactic| walk_at "rg") => `(tactic| first | omega | decide)
local macro_rules | `(tactic| walk_at "bc") => `(tactic| first | exact c_len rfl | exact c_min2 rfl | exact c_max2 rfl | exact c_sum rfl rfl | exact c_any rfl rfl | exact c_all rfl rfl | exact c_list (tup := true) (.inl rfl) | exact c_list (tup := true) (.inr rfl) | exact c_tuple rfl | exact c_intB)
local macro_rules | `(tactic| walk_at "sl") => `(tactic| first | exact s_take rfl | exact s_drop rfl)
local macro_rules | `(tactic| walk_at "ns") => `(tactic| first | assumption | rfl)
local macro_rules | `(tactic| walk_at "bk") => `(tactic| first | rfl | decide +kernel)
local macro_rules | `(tactic| walk_at "wk") => `(tactic| repeat (first | exact trivial | refine ⟨Or.inl rfl, ?_⟩ | refine ⟨Or.inr rfl, ?_⟩))
local macro_rules | `(tactic| walk_at "pre") => `(tactic| first | trivial | assumption)
local macro_rules | `(tactic| walk_at "ix") => `(tactic| first | exact x_list rfl rfl | exact x_tup rfl)
section
variable {P : Program} {w : World} {K : KF} {mg : Str → Option Value} {base : Heap} {f : Addr} {fd : FuncData}
section
variable {X : Cx} {b : Bs} {env : PEnv} {r : RV} {ds : List PD} {k : Bool} {e : Expr}
theorem dpAll_rev {K : KF} {H : Hp} : ∀ {ds : List PD} {vs : List V}, DqAll K H vs ds → DqAll K H vs.reverse ds.reverse
  | [], _, h => by cases h; exact .nil
  | d :: ds, _, h => by
    cases h with
    | cons h1 h2 =>
      rw [List.reverse_cons, List.reverse_cons]
      exact dpAll_app (dpAll_rev h2) (dpAll_one h1)
/-- xs[::-1] -/
theorem ev_revL {j : Nat} {p1 p2' p3 pos : Pos} (h : EvP X b e env (.sh (.list ds))) : EvP X b (.Subscript e (.Slice none none (some (.UnaryOp .USub (.Constant (.int 1) j p1) p2')) p3) pos) env (.own ds.reverse) := fun σ G H Q E kk => by
  refine sem_e (pe_revL pe_sem) (h σ G H _ E fun v G1 H1 x q => ?_)
  obtain ⟨a, xs, rfl, h1, h2⟩ := dp_list q
  exact ⟨a, xs, rfl, SqL.of (x.s.app h1), fun p hp => kk _ G1 _ (x.trans (Ext.own x.s hp)) ⟨p, rfl, x.h.free hp, x.s.free hp, _, upd_same, dpAll_rev h2⟩⟩
/-- a test read as if a slot were frozen, be it so already or not -/
theorem ts_fzR (i : Nat) (he : env[i]? = some (some r)) (hr : r.owns = true ∨ ∃ d, r = .sh d) (h : TsP X b e (env.set i (some (.sh r.data))) k) : TsP X b e env k := by
  rcases hr with hr | ⟨d, rfl⟩
  · exact ts_fz i he hr h
  · have e1 : env.set i (some (.sh d)) = env := List.ext_getElem? fun j => by
      rw [List.getElem?_set]
      split
      · rename_i e
        subst e
        obtain ⟨hi, e2⟩ := List.getElem?_eq_some_iff.mp he
        rw [if_pos hi, he]
      · rfl
    have h : TsP X b e (env.set i (some (.sh d))) k := h
    rwa [e1] at h
/-- the own list in a tuple of two, looked at -/
theorem ev_ixBor {d0 : PD} {post : List PD} {j : Nat} {x : Str} {p p2' pos : Pos} (i : Nat) (he : env[i]? = some (some (.box true [d0] ds post))) (hN : X.N[i]? = some x := by rfl) (hv : Vis X.env.scope x := by first | exact Or.inl rfl | exact Or.inr (Or.inl rfl) | exact Or.inr (Or.inr rfl))
    (hd : (x == ("__debug__" : Str)) = false := by decide) (hcd : (x == ("__classdict__" : Str)) = false := by decide) : EvP X b (.Subscript (.Name x p) (.Constant (.int 1) j p2') pos) env (.bor ds) := fun σ G H Q E k => by
  refine sem_e (pe_ix ix_tup (pe_var hN hv hd hcd) pe_int (by exact fun _ _ => rfl)) ?_
  obtain ⟨v, e1, q⟩ := E.get he
  refine ⟨v, e1, ?_⟩
  obtain ⟨t, a, us, ws, rfl, h1, h2, h3, o1, o2, vs, o3, o4⟩ := q
  cases h2 with
  | cons h4 h5 =>
    cases h5
    exact ⟨t, _, 1, .ref a, rfl, rfl, SqT.of (E.x.s.app h1), atI_nat (j := 1) rfl, k _ G H (Ext.refl E.x.s) ⟨a, vs, rfl, o3, o4⟩⟩
end
theorem ints_top (l : List Int) : (l.map PyData.int).all topOk = true := by
  rw [List.all_map]
  exact List.all_eq_true.mpr fun _ _ => rfl
end
end KW

namespace KW
open PySem PySem.Spec PyProof.Rows L2 TW
local macro_rules | `(tactic| walk_at "bo") => `(tactic| first | with_reducible exact o_add | with_reducible exact o_sub | with_reducible exact o_lt | with_reducible exact o_le | with_reducible exact o_gt | with_reducible exact o_ge | with_reducible exact o_eqI | with_reducible exact o_neI | with_reducible refine o_mod ?_ <;> omega | with_reducible refine o_fdiv ?_ ?_ <;> omega | with_reducible exact o_isN | with_reducible exact o_notN | exact o_add | exact o_sub | exact o_lt | exact o_le | exact o_gt | exact o_ge | exact o_eqI | exact o_neI | exact o_mod (by omega) | exact o_fdiv (by omega) (by omega) | exact o_mul (.inl (by omega)) | exact o_mul (.inr (by omega)) | exact o_eqS | exact o_neS | exact o_eqB | exact o_neB | exact o_isN | exact o_notN | exact o_cat rfl rfl (by walk_at "le"))
local macro_rules | `(tactic| walk_at "le") => `(tactic| first | decide | omega | (simp only [List.length_append, List.length_cons, List.length_nil, List.length_map, List.length_take, List.length_drop, List.length_range]; omega))
local macro_rules | `(tactic| walk_at "rg") => `(tactic| first | omega | decide)
local macro_rules | `(tactic| walk_at "bc") => `(tactic| first | exact c_len rfl | exact c_min2 rfl | exact c_max2 rfl | exact c_sum rfl rfl | exact c_any rfl rfl | exact c_all rfl rfl | exact c_list (tup := true) (.inl rfl) | exact c_list (tup := true) (.inr rfl) | exact c_tuple rfl | exact c_intB)
local macro_rules | `(tactic| walk_at "sl") => `(tactic| first | exact s_take rfl | exact s_drop rfl)
local macro_rules | `(tactic| walk_at "ns") => `(tactic| first | assumption | rfl)
local macro_rules | `(tactic| walk_at "bk") => `(tactic| first | rfl | decide +kernel)
local macro_rules | `(tactic| walk_at "wk") => `(tactic| repeat (first | exact trivial | refine ⟨Or.inl rfl, ?_⟩ | refine ⟨Or.inr rfl, ?_⟩))
local macro_rules | `(tactic| walk_at "pre") => `(tactic| first | trivial | assumption)
local macro_rules | `(tactic| walk_at "ix") => `(tactic| first | exact x_list rfl rfl | exact x_tup rfl)
section
variable {P : Program} {w : World} {K : KF} {mg : Str → Option Value} {base : Heap} {f : Addr} {fd : FuncData}
theorem no_bad (n : Nat) (l : List T2) (t : T2) (ht : t ∈ l) (hb : ¬ (t.1 < t.2 ∧ t.2 < (n : Int))) : webOk (.int n) (.list (l.map p2)) = false := by
  rw [Bool.eq_false_iff]
  intro q
  obtain ⟨m, ts, e1, e2, w, _⟩ := web_of q
  have e3 : l = ts := by
    have := congrArg tiesOf e2
    rwa [tiesOf_p2, tiesOf_p2] at this
  have e4 : (n : Int) = m := by cases e1; rfl
  have := w.r t (e3 ▸ ht)
  exact hb (by omega)
theorem no_dup (n : Nat) (l : List T2) (hb : ¬ l.Nodup) : webOk (.int n) (.list (l.map p2)) = false := by
  rw [Bool.eq_false_iff]
  intro q
  obtain ⟨m, ts, e1, e2, w, _⟩ := web_of q
  have e3 : l = ts := by
    have := congrArg tiesOf e2
    rwa [tiesOf_p2, tiesOf_p2] at this
  exact hb (e3 ▸ w.nd)
def tieOf2 : PD → Bool
  | .tuple [_, .int _] => true
  | _ => false
theorem lay_t4s (l : List T4) : Lay 60 (.list (l.map p4 ++ [.tuple []])) := lay_list (n := 59) (by
  intro d hd
  rcases List.mem_append.mp hd with hd | hd
  · obtain ⟨t, _, rfl⟩ := List.mem_map.mp hd
    exact (good_p4.lay t).mono (by decide)
  · obtain rfl := List.mem_singleton.mp hd
    exact lay_tuple (n := 58) (by simp))
def noneY (c : Int) : List PD := [.int 0, .int 11, .bool true, .none, .str "3", .int (11 + c / 6 % 10 ^ 9)]
theorem noneY_no {c : Int} {d : PD} (h : d ∈ noneY c) : amongD d 1 10 = false ∧ topOk d = true := by
  unfold noneY at h
  simp only [List.mem_cons, List.not_mem_nil, or_false] at h
  have h0 := Int.emod_nonneg (c / 6) (show (10 ^ 9 : Int) ≠ 0 by decide)
  rcases h with rfl | rfl | rfl | rfl | rfl | rfl
  · exact ⟨by decide +kernel, rfl⟩
  · exact ⟨by decide +kernel, rfl⟩
  · exact ⟨by decide +kernel, rfl⟩
  · exact ⟨by decide +kernel, rfl⟩
  · exact ⟨by decide +kernel, rfl⟩
  · refine ⟨?_, rfl⟩
    simp [amongD, inD]
    intros
    omega
def wrongY (n : Nat) (ties : List T2) : List PD := [.list [p2 (0, 0)], .none, .list (ties.map p2 ++ [p2 (0, (n : Int))]), .list [.tuple [.int 0, .bool true]], .list (ties.map p2 ++ (ties.map p2).take 1 ++ [p2 (0, 0)].drop ties.length)]
theorem wrongY_no {n : Nat} {ties : List T2} (hl : ties.length ≤ 500) {d : PD} (h : d ∈ wrongY n ties) : webOk (.int n) d = false ∧ WebPre (.int n, d) := by
  unfold wrongY at h
  simp only [List.mem_cons, List.not_mem_nil, or_false] at h
  rcases h with rfl | rfl | rfl | rfl | rfl
  · exact ⟨no_bad n [(0, 0)] (0, 0) (by simp) (by dsimp only; omega), webPre_p2 (ties := [(0, 0)]) (by decide)⟩
  · exact ⟨rfl, rfl, rfl, Nat.zero_le _⟩
  · have e : ties.map p2 ++ [p2 (0, (n : Int))] = (ties ++ [((0 : Int), (n : Int))]).map p2 := by rw [List.map_append]; rfl
    rw [e]
    exact ⟨no_bad n _ (0, (n : Int)) (by simp) (by dsimp only; omega), webPre_p2 (by rw [List.length_append]; show _ + 1 ≤ _; omega)⟩
  · refine ⟨?_, rfl, rfl, by show 1 ≤ 1000; decide⟩
    rw [Bool.eq_false_iff]
    intro q
    obtain ⟨m, ts, e1, e2, w, _⟩ := web_of q
    have e3 : [PyData.tuple [.int 0, .bool true]] = ts.map p2 := PyData.list.inj e2
    have : PyData.tuple [.int 0, .bool true] ∈ ts.map p2 := by rw [← e3]; simp
    obtain ⟨t, _, ht⟩ := List.mem_map.mp this
    have := congrArg tieOf2 ht
    cases this
  · have e : ties.map p2 ++ (ties.map p2).take 1 ++ [p2 (0, 0)].drop ties.length = (ties ++ ties.take 1 ++ [((0 : Int), (0 : Int))].drop ties.length).map p2 := by
      rw [List.map_append, List.map_append, List.map_take, List.map_drop]; rfl
    rw [e]
    refine ⟨?_, webPre_p2 (by rw [List.length_append, List.length_append, List.length_take, List.length_drop]; show _ + (1 - _) ≤ _; omega)⟩
    cases ties with
    | nil => exact no_bad n _ (0, 0) (by simp) (by dsimp only; omega)
    | cons t ts => exact no_dup n _ (by simp)
end
end KW

namespace KW
open PySem PySem.Spec PyProof.Rows L2 TW
local macro_rules | `(tactic| walk_at "bo") => `(tactic| first | with_reducible exact o_add | with_reducible exact o_sub | with_reducible exact o_lt | with_reducible exact o_le | with_reducible exact o_gt | with_reducible exact o_ge | with_reducible exact o_eqI | with_reducible exact o_neI | with_reducible refine o_mod ?_ <;> omega | with_reducible refine o_fdiv ?_ ?_ <;> omega | with_reducible exact o_isN | with_reducible exact o_notN | exact o_add | exact o_sub | exact o_lt | exact o_le | exact o_gt | exact o_ge | exact o_eqI | exact o_neI | exact o_mod (by omega) | exact o_fdiv (by omega) (by omega) | exact o_mul (.inl (by omega)) | exact o_mul (.inr (by omega)) | exact o_eqS | exact o_neS | exact o_eqB | exact o_neB | exact o_isN | exact o_notN | exact o_cat rfl rfl (by walk_at "le"))
local macro_rules | `(tactic| walk_at "le") => `(tactic| first | decide | omega | (simp only [List.length_append, List.length_cons, List.length_nil, List.length_map, List.length_take, List.length_drop, List.length_range]; omega))
local macro_rules | `(tactic| walk_at "rg") => `(tactic| first | omega | decide)
local macro_rules | `(tactic| walk_at "bc") => `(tactic| first | exact c_len rfl | exact c_min2 rfl | exact c_max2 rfl | exact c_sum rfl rfl | exact c_any rfl rfl | exact c_all rfl rfl | exact c_list (tup := true) (.inl rfl) | exact c_list (tup := true) (.inr rfl) | exact c_tuple rfl | exact c_intB)
local macro_rules | `(tactic| walk_at "sl") => `(tactic| first | exact s_take rfl | exact s_drop rfl)
local macro_rules | `(tactic| walk_at "ns") => `(tactic| first | assumption | rfl)
local macro_rules | `(tactic| walk_at "bk") => `(tactic| first | rfl | decide +kernel)
local macro_rules | `(tactic| walk_at "wk") => `(tactic| repeat (first | exact trivial | refine ⟨Or.inl rfl, ?_⟩ | refine ⟨Or.inr rfl, ?_⟩))
local macro_rules | `(tactic| walk_at "pre") => `(tactic| first | trivial | assumption)
local macro_rules | `(tactic| walk_at "ix") => `(tactic| first | exact x_list rfl rfl | exact x_tup rfl)
section
variable {P : Program} {w : World} {K : KF} {mg : Str → Option Value} {base : Heap} {f : Addr} {fd : FuncData}
abbrev n_law_refused : List Str := ["_law_size", "_law_one", "_law_cell_here", "_law_others_here", "_law_web_here", "_law_first", "_law_second", "_law_none", "_law_wrong"]
theorem sc_law_refused : FnScope n_law_refused ["_law_size", "_law_one", "_law_cell_here"] (defScope s_law_refused) := ⟨rfl, rfl, rfl, by decide +kernel, rfl, by decide +kernel, by decide +kernel⟩
theorem toldY_unlike {n : Nat} {s t : List T2} (w1 : Web n s) (w2 : Web n t) (h1 : 1 ≤ n) (h10 : n ≤ 10) (h : countsL n s ≠ countsL n t) : toldY (.int n) (.list (s.map p2)) (.list (t.map p2)) = .sh (refD "unlike") := by
  unfold toldY
  rw [if_pos (web_data w1 h1 h10), if_pos (web_data w2 h1 h10), sizeOf2_nat, tiesOf_p2, tiesOf_p2, if_neg h]
theorem toldY_way {n : Nat} {s t : List T2} (w1 : Web n s) (w2 : Web n t) (h1 : 1 ≤ n) (h10 : n ≤ 10) (h : countsL n s = countsL n t) : toldY (.int n) (.list (s.map p2)) (.list (t.map p2)) = .own ((wayF s t).map p4) := by
  unfold toldY
  rw [if_pos (web_data w1 h1 h10), if_pos (web_data w2 h1 h10), sizeOf2_nat, tiesOf_p2, tiesOf_p2, if_pos h]
theorem toldY_no1 {s x : PD} (y : PD) (h : webOk s x = false) : toldY s x y = .sh (refD "web") := by
  unfold toldY
  rw [h]; rfl
theorem toldY_no2 {s x y : PD} (h : webOk s y = false) : toldY s x y = .sh (refD "web") := by
  unfold toldY
  rw [h]
  by_cases h2 : webOk s x = true
  · rw [if_pos h2]; rfl
  · rw [if_neg h2]
theorem wrongY_at {n : Nat} {T : List T2} (hl : T.length ≤ 500) (c : Int) : webOk (.int n) ((wrongY n T).getD (c % 5).toNat .none) = false ∧ WebPre (.int n, (wrongY n T).getD (c % 5).toNat .none) := by
  refine wrongY_no (n := n) (ties := T) hl ?_
  have hq : (c % 5).toNat < (wrongY n T).length := by show _ < 5; omega
  rw [List.getD_eq_getElem?_getD, List.getElem?_eq_getElem hq]
  exact List.getElem_mem hq
theorem noneY_at (c : Int) : amongD ((noneY c).getD (c % 6).toNat .none) 1 10 = false ∧ topOk ((noneY c).getD (c % 6).toNat .none) = true := by
  refine noneY_no (c := c) ?_
  have hq : (c % 6).toNat < (noneY c).length := by show _ < 6; omega
  rw [List.getD_eq_getElem?_getD, List.getElem?_eq_getElem hq]
  exact List.getElem_mem hq
abbrev F_law_refused (P : Program) (w : World) (K : KF) (mg : Str → Option Value) (base : Heap) : Prop :=
  Fn P w K mg base "_law_refused" 6 ["_law_size", "_law_one", "_law_cell_here"] (spF K (fun z : Nat × List T2 × Int => Web z.1 z.2.1 ∧ 1 ≤ z.1 ∧ z.1 ≤ 10) (fun z => [.int z.1, .list (z.2.1.map p2), .int z.2.2]) fun _ => .ret (.sh (.bool true)))
theorem ok_law_refused (F : Fun K "_law_refused" "_law_refused" s_law_refused f fd) (hm : mg "_law_refused" = some (.ref f)) (hb : Binds K fd ["_law_size", "_law_one", "_law_cell_here"] []) (T : Bt mg) (h_law_others : F_law_others P w K mg base) (h_law_told : F_law_told P w K mg base) : F_law_refused P w K mg base := by
  refine fn_pure F hm hb sc_law_refused (fun _ => rfl) fun cdv A outer s G H E ⟨n, one, c⟩ hr ⟨w, h1, h10⟩ hE => ?_
  have hN := sc_law_refused.nd
  dsimp only at w h1 h10 ⊢
  have hu : ∀ X' : Cx, X'.A = (bodyX P ‹World› K mg base n_law_refused "_law_refused" s_law_refused f cdv A outer s H E).A → X'.A.units + 64 < cLine := fun X' e => by rw [e]; have := hr.un; show (A.deeper _).units + 64 < cLine; omega
  have hol := (w.deg h10 0).2
  have lru := lay_refD "unlike" (by decide +kernel)
  have lrw := lay_refD "web" (by decide +kernel)
  have hpre : WebPre (.int n, .list (one.map p2)) := webPre_p2 (by omega)
  refine bl_setF (d := .list []) 3 hN (evS_own (ev_lst as_nil)) ?_
  refine bl_ifE (fun e' => ∃ os : List (List T2), (∀ U ∈ os, Web n U ∧ countsL n U ≠ countsL n one) ∧ wk e' [some (.sh (.int n)), some (.sh (.list (one.map p2))), some (.sh (.int c)), some (.sh (.list (os.map wD))), none, none, none, none, none]) (ts_cmp (ev_nsh (i := 0) rfl) ev_int o_gt) (fun h => ?_) (fun h => ?_) (fun e1 hM => ?_)
  · have h := of_decide_eq_true h
    refine bl_setF (d := .list ((othersF n one c).map wD)) 3 hN (evS_own (ev_call h_law_others (n, one, c) (hr.mono (by decide)) ⟨w, by show 1 < n; omega, h10⟩ (as_cons (evS_sh (ev_nsh (i := 0) rfl)) (as_cons (evS_sh (ev_nsh (i := 1) rfl)) (as_cons (evS_sh (ev_nsh (i := 2) rfl)) as_nil))) rfl)) ?_
    refine bl_nil ⟨othersF n one c, others_ok w (by omega) c, ?_⟩
    walk_at "wk"
  · refine bl_nil ⟨[], (fun U hU => by cases hU), ?_⟩
    walk_at "wk"
  obtain ⟨os, hos, hw1⟩ := hM
  refine bl_wk ?_ hw1
  clear hw1
  refine bl_for (passes_of rfl) rfl (it_list (evS_sh (ev_nsh (i := 3) rfl))) (fun i env' => wk env' [some (.sh (.int n)), some (.sh (.list (one.map p2))), some (.sh (.int c)), some (.sh (.list (os.map wD))), none, none, none, none, none]) (by walk_at "wk") (fun Gb i d env1 hi hI => ?_) (fun env1 hI => ?_)
  · obtain ⟨U, hU, rfl⟩ := map_get hi
    obtain ⟨wU, cU⟩ := hos U (List.mem_of_getElem? hU)
    have hUl := (wU.deg h10 0).2
    refine ⟨_, tg_name 4 hN, bl_wkset hI ?_⟩
    refine bl_for (ds := [(one, U), (U, one)].map fun z : List T2 × List T2 => .tuple [wD z.1, wD z.2]) (passes_of rfl) rfl (it_tup (evS_sh (ev_tup (as_cons (evS_sh (ev_tup (as_cons (evS_sh (ev_nsh (i := 1) rfl)) (as_cons (evS_sh (ev_nsh (i := 4) rfl)) as_nil)))) (as_cons (evS_sh (ev_tup (as_cons (evS_sh (ev_nsh (i := 4) rfl)) (as_cons (evS_sh (ev_nsh (i := 1) rfl)) as_nil)))) as_nil)) (by show 2 ≤ 1000000; decide)))) (fun j env' => wk env' [some (.sh (.int n)), some (.sh (.list (one.map p2))), some (.sh (.int c)), some (.sh (.list (os.map wD))), none, none, none, none, none]) (by walk_at "wk") (fun Gb2 j d env2 hj hI2 => ?_) (fun env2 hI2 => ?_)
    · obtain ⟨z, hz, rfl⟩ := map_get hj
      have hz2 : (Web n z.1 ∧ Web n z.2) ∧ countsL n z.1 ≠ countsL n z.2 ∧ z.1.length ≤ 45 ∧ z.2.length ≤ 45 := by
        rcases List.mem_cons.mp (List.mem_of_getElem? hz) with rfl | q
        · exact ⟨⟨w, wU⟩, fun e => cU e.symm, hol, hUl⟩
        · rw [List.mem_singleton.mp q]
          exact ⟨⟨wU, w⟩, cU, hUl, hol⟩
      obtain ⟨⟨z1, z2⟩, z3, z4, z5⟩ := hz2
      refine ⟨_, tg_tup rfl (tgs_cons (tg_name 5 hN) (tgs_cons (tg_name 6 hN) tgs_nil)), bl_wkset (wk_set hI2) ?_⟩
      refine bl_if (k := false) (ts_cmp (ev_call h_law_told (.int n, wD z.1, wD z.2) (hr.mono (by decide)) ⟨webPre_p2 (by omega), webPre_p2 (by omega)⟩ (as_cons (evS_sh (ev_nsh (i := 0) rfl)) (as_cons (evS_sh (ev_nsh (i := 5) rfl)) (as_cons (evS_sh (ev_nsh (i := 6) rfl)) as_nil))) (congrArg Oc.ret (toldY_unlike z1 z2 h1 h10 z3))) (ev_tup (as_cons (evS_sh ev_str) (as_cons (evS_own (ev_lst (as_cons (evS_sh ev_str) as_nil))) as_nil))) (o_neR (hu _ (by rfl)) lru rfl rfl)) (fun h => by cases h) (fun h => ?_)
      refine bl_nil (bl_nil ?_)
      show wk _ _
      walk_at "wk"
    · refine bl_wk (bl_nil ?_) hI2
      show wk _ _
      walk_at "wk"
  refine bl_wk ?_ hI
  clear hI hos
  have hn0 := Int.emod_nonneg c (show (6 : Int) ≠ 0 by decide)
  have hn1 := Int.emod_lt_of_pos c (show (0 : Int) < 6 by decide)
  have hw0 := Int.emod_nonneg c (show (5 : Int) ≠ 0 by decide)
  have hw1 := Int.emod_lt_of_pos c (show (0 : Int) < 5 by decide)
  refine bl_setF (d := (noneY c).getD (c % 6).toNat .none) 7 hN (evS_sh (ev_ix (r1 := .own (noneY c)) (ev_lst (as_cons (evS_sh ev_int) (as_cons (evS_sh ev_int) (as_cons (evS_sh ev_bool) (as_cons (evS_sh ev_none) (as_cons (evS_sh ev_str) (as_cons (evS_sh (ev_bin ev_int (ev_bin (ev_bin (ev_nsh (i := 2) rfl) ev_int (o_fdiv (by omega) (by omega))) (ev_bin ev_int ev_int (o_pow (n := 9) ⟨by decide, by decide, by decide⟩)) (o_mod (by decide))) o_add)) as_nil)))))) (hl := (by show (6 : Nat) ≤ 1000000; decide))) (ev_bin (ev_nsh (i := 2) rfl) ev_int (o_mod (by omega))) (x_list rfl (getD_at hn0 (by show _ < (6 : Int); omega))))) ?_
  have hnd := noneY_at c
  generalize (noneY c).getD (c % 6).toNat .none = nd at hnd
  have hnw : webOk nd (.list (one.map p2)) = false := by
    show (amongD nd 1 10 && _) = false
    rw [hnd.1]; rfl
  have hnp : WebPre (nd, .list (one.map p2)) := ⟨hnd.2, topOkW_p2 one, by show (one.map p2).length ≤ 1000; rw [List.length_map]; omega⟩
  refine bl_if (k := false) (ts_cmp (ev_call h_law_told (nd, .list (one.map p2), .list (one.map p2)) (hr.mono (by decide)) ⟨hnp, hnp⟩ (as_cons (evS_sh (ev_nsh (i := 7) rfl)) (as_cons (evS_sh (ev_nsh (i := 1) rfl)) (as_cons (evS_sh (ev_nsh (i := 1) rfl)) as_nil))) (congrArg Oc.ret (toldY_no1 _ hnw))) (ev_tup (as_cons (evS_sh ev_str) (as_cons (evS_own (ev_lst (as_cons (evS_sh ev_str) as_nil))) as_nil))) (o_neR (hu _ (by rfl)) lrw rfl rfl)) (fun h => by cases h) (fun _ => bl_nil ?_)
  have hwd := wrongY_at (n := n) (T := one) (by omega) c
  refine bl_setF (d := (wrongY n one).getD (c % 5).toNat .none) 8 hN (evS_sh (ev_ix (r1 := .own (wrongY n one)) (ev_lst (as_cons (evS_own (ev_lst (as_cons (evS_sh (ev_tup (as_cons (evS_sh ev_int) (as_cons (evS_sh ev_int) as_nil)))) as_nil))) (as_cons (evS_sh ev_none) (as_cons (evS_own (ev_bin (ev_nsh (i := 1) rfl) (ev_lst (as_cons (evS_sh (ev_tup (as_cons (evS_sh ev_int) (as_cons (evS_sh (ev_nsh (i := 0) rfl)) as_nil)))) as_nil)) (o_cat rfl rfl (by rw [List.length_map]; show _ + 1 ≤ 1000000; omega)))) (as_cons (evS_own (ev_lst (as_cons (evS_sh (ev_tup (as_cons (evS_sh ev_int) (as_cons (evS_sh ev_bool) as_nil)))) as_nil))) (as_cons (evS_own (ev_bin (ev_bin (ev_nsh (i := 1) rfl) (ev_slice (ev_nsh (i := 1) rfl) PrtP.no (PrtP.yes ev_int) (s_take (n := 1) rfl)) (o_cat rfl rfl (by rw [List.length_take, List.length_map]; omega))) (ev_slice (ev_lst (as_cons (evS_sh (ev_tup (as_cons (evS_sh ev_int) (as_cons (evS_sh ev_int) as_nil)))) as_nil)) (PrtP.yes (ev_bi T.len (c_len (n := one.length) (by show some _ = some _; rw [List.length_map])) (ar_cons (ev_nsh (i := 1) rfl) ar_nil))) PrtP.no (s_drop (n := one.length) rfl)) (o_cat rfl rfl (by rw [List.length_append, List.length_take, List.length_map, List.length_drop]; show _ + (1 - _) ≤ 1000000; omega)))) as_nil))))) (hl := (by show (5 : Nat) ≤ 1000000; decide))) (ev_bin (ev_nsh (i := 2) rfl) ev_int (o_mod (by omega))) (x_list rfl (getD_at hw0 (by show _ < (5 : Int); omega))))) ?_
  generalize (wrongY n one).getD (c % 5).toNat .none = wd at hwd
  refine bl_if (k := false) (ts_cmp (ev_call h_law_told (.int n, .list (one.map p2), wd) (hr.mono (by decide)) ⟨hpre, hwd.2⟩ (as_cons (evS_sh (ev_nsh (i := 0) rfl)) (as_cons (evS_sh (ev_nsh (i := 1) rfl)) (as_cons (evS_sh (ev_nsh (i := 8) rfl)) as_nil))) (congrArg Oc.ret (toldY_no2 hwd.1))) (ev_tup (as_cons (evS_sh ev_str) (as_cons (evS_own (ev_lst (as_cons (evS_sh ev_str) as_nil))) as_nil))) (o_neR (hu _ (by rfl)) lrw rfl rfl)) (fun h => by cases h) (fun _ => bl_nil ?_)
  exact bl_ret (ev_cmp (ev_call h_law_told (.int n, wd, .list [p2 (1, 0)]) (hr.mono (by decide)) ⟨hwd.2, webPre_p2 (ties := [(1, 0)]) (by decide)⟩ (as_cons (evS_sh (ev_nsh (i := 0) rfl)) (as_cons (evS_sh (ev_nsh (i := 8) rfl)) (as_cons (evS_own (ev_lst (as_cons (evS_sh (ev_tup (as_cons (evS_sh ev_int) (as_cons (evS_sh ev_int) as_nil)))) as_nil))) as_nil))) (congrArg Oc.ret (toldY_no1 _ hwd.1))) (ev_tup (as_cons (evS_sh ev_str) (as_cons (evS_own (ev_lst (as_cons (evS_sh ev_str) as_nil))) as_nil))) (o_eqR (hu _ (by rfl)) lrw rfl rfl)) rfl
end
end KW

namespace KW
open PySem PySem.Spec PyProof.Rows L2 TW
local macro_rules | `(tactic| walk_at "bo") => `(tactic| first | with_reducible exact o_add | with_reducible exact o_sub | with_reducible exact o_lt | with_reducible exact o_le | with_reducible exact o_gt | with_reducible exact o_ge | with_reducible exact o_eqI | with_reducible exact o_neI | with_reducible refine o_mod ?_ <;> omega | with_reducible refine o_fdiv ?_ ?_ <;> omega | with_reducible exact o_isN | with_reducible exact o_notN | exact o_add | exact o_sub | exact o_lt | exact o_le | exact o_gt | exact o_ge | exact o_eqI | exact o_neI | exact o_mod (by omega) | exact o_fdiv (by omega) (by omega) | exact o_mul (.inl (by omega)) | exact o_mul (.inr (by omega)) | exact o_eqS | exact o_neS | exact o_eqB | exact o_neB | exact o_isN | exact o_notN | exact o_cat rfl rfl (by walk_at "le"))
local macro_rules | `(tactic| walk_at "le") => `(tactic| first | decide | omega | (simp only [List.length_append, List.length_cons, List.length_nil, List.length_map, List.length_take, List.length_drop, List.length_range]; omega))
local macro_rules | `(tactic| walk_at "rg") => `(tactic| first | omega | decide)
local macro_rules | `(tactic| walk_at "bc") => `(tactic| first | exact c_len rfl | exact c_min2 rfl | exact c_max2 rfl | exact c_sum rfl rfl | exact c_any rfl rfl | exact c_all rfl rfl | exact c_list (tup := true) (.inl rfl) | exact c_list (tup := true) (.inr rfl) | exact c_tuple rfl | exact c_intB)
local macro_rules | `(tactic| walk_at "sl") => `(tactic| first | exact s_take rfl | exact s_drop rfl)
local macro_rules | `(tactic| walk_at "ns") => `(tactic| first | assumption | rfl)
local macro_rules | `(tactic| walk_at "bk") => `(tactic| first | rfl | decide +kernel)
local macro_rules | `(tactic| walk_at "wk") => `(tactic| repeat (first | exact trivial | refine ⟨Or.inl rfl, ?_⟩ | refine ⟨Or.inr rfl, ?_⟩))
local macro_rules | `(tactic| walk_at "pre") => `(tactic| first | trivial | assumption)
local macro_rules | `(tactic| walk_at "ix") => `(tactic| first | exact x_list rfl rfl | exact x_tup rfl)
section
variable {P : Program} {w : World} {K : KF} {mg : Str → Option Value} {base : Heap} {f : Addr} {fd : FuncData}
abbrev n_law : List Str := ["_law_script", "_law_size", "_law_one", "_law_other", "_law_cell_here", "_law_handed", "_law_there", "_law_back", "_law_kept"]
theorem sc_law : FnScope n_law ["_law_script"] (defScope s_law) := ⟨rfl, rfl, rfl, by decide +kernel, rfl, by decide +kernel, by decide +kernel⟩
abbrev F_law (P : Program) (w : World) (K : KF) (mg : Str → Option Value) (base : Heap) (P0 : Addr) : Prop :=
  Fn P w K mg base "law" 7 ["_law_script"] (spT K P0 (fun ns : List Int => Scr ns) (fun ns => [scrD ns]) fun _ => .ret (.sh (.bool true)))
theorem toldF_web {ns : List Int} (h : wordF ns = .web) : toldF ns = .box true [.str "web"] ((builtF ns).map p2) [] := by unfold toldF; rw [h]; rfl
theorem gone_srt (s t : List T2) : (gone (srtT s) (srtT t)).length = (gone s t).length := by
  have h : gone (srtT s) (srtT t) = (srtT s).filter fun x => !decide (x ∈ t) := List.filter_congr fun x _ => by
    rw [decide_eq_decide.mpr ((srtT_perm t).mem_iff (a := x))]
  rw [h]
  exact ((srtT_perm s).filter _).length_eq
theorem way_pre {n : Nat} {s t : List T2} (w1 : Web n s) (w2 : Web n t) (h10 : n ≤ 10) (h : countsL n s = countsL n t) : LedPre (n, s, t, wayF s t) := by
  obtain ⟨h1, h2⟩ := way_led (n := n) (nf := nearF) (fun s t hp hne => nearF_ok hp hne) _ (srtT s) (srtT t) (pair_of w1 w2 h) (Nat.le_refl _)
  rw [gone_srt s t] at h2
  refine ⟨w1, h10, h1, ?_⟩
  show (wayR nearF (gone (srtT s) (srtT t)).length (srtT s) (srtT t)).length ≤ (gone s t).length
  rw [gone_srt s t]
  exact h2
theorem ok_law {a : ErA} {P0 : Addr} (F : Fun K "law" "law" s_law f fd) (hm : mg "law" = some (.ref f)) (hb : Binds K fd ["_law_script"] []) (T : Bt mg) (h_law_web : F_law_web P w K mg base) (h_law_changed : F_law_changed P w K mg base) (h_law_cell : F_law_cell P w K mg base) (h_law_counts : F_law_counts P w K mg base) (h_told : F_told P w K mg base P0 a) (h_law_told : F_law_told P w K mg base) (h_law_led : F_law_led P w K mg base) (h_law_refused : F_law_refused P w K mg base) : F_law P w K mg base P0 := by
  refine fnT_pure F hm hb sc_law (fun _ => rfl) fun A outer s G H E ns hT hr hz hE => ?_
  have hN := sc_law.nd
  have hS : Scr ns := hz
  have hun : (A.deeper (envOfC "law" (defScope s_law) s.heap.objs.size f fd.code)).units + 64 < cLine := by have := hr.un; omega
  have hsz := webSize_le (ns := ns) (first := 1) (most := 10) ⟨by decide, by decide⟩
  have hwm := fun t => webTies_mem (ns := ns) (first := 1) (most := 10) (t := t)
  have hwn := webTies_nodup (ns := ns) (first := 1) (most := 10) ⟨by decide, by decide⟩
  have hwo := countsL_ok (ns := ns) (first := 1) (most := 10) ⟨by decide, by decide⟩
  refine bl_unp (evS_sh (ev_call h_law_web (ns, 1, 10) (hr.mono (by decide)) ⟨hS, show (0 : Int) ≤ 1 by decide, show (1 : Int) ≤ 10 by decide, show (10 : Int) ≤ 10 by decide⟩ (as_cons (evS_sh (ev_nsh (i := 0) rfl)) (as_cons (evS_sh ev_int) (as_cons (evS_sh ev_int) as_nil))) rfl)) (tg_tup rfl (tgs_cons (tg_name 1 hN) (tgs_cons (tg_name 2 hN) tgs_nil))) ?_
  dsimp only
  generalize webSize ns 1 10 = n at hsz hwm hwo
  generalize webTies ns 1 10 = one at hwm hwn hwo
  have w : Web n one := ⟨fun t ht => hwm t ht, hwn⟩
  have h1 : 1 ≤ n := hsz.1
  have h10 : n ≤ 10 := by omega
  have hol := (w.deg h10 0).2
  clear hwm hwn
  have hlk := changed_like ns ((8 : Nat) : Int) w
  refine bl_setF (d := .list ((changedF ns ((8 : Nat) : Int) n one).map p2)) 3 hN (evS_own (ev_call h_law_changed (ns, 8, n, one) (hr.mono (by decide)) ⟨hS, show 8 ≤ 1000 by decide, w, h1, h10⟩ (as_cons (evS_sh (ev_nsh (i := 0) rfl)) (as_cons (evS_sh ev_int) (as_cons (evS_sh (ev_nsh (i := 1) rfl)) (as_cons (evS_sh (ev_nsh (i := 2) rfl)) as_nil)))) rfl)) ?_
  generalize changedF ns ((8 : Nat) : Int) n one = ch at hlk
  refine bl_setF (d := .int (cellF ns 0)) 4 hN (evS_sh (ev_call h_law_cell (ns, 0) (hr.mono (by decide)) (show (0 : Int) ≤ 0 by decide) (as_cons (evS_sh (ev_nsh (i := 0) rfl)) (as_cons (evS_sh ev_int) as_nil)) rfl)) ?_
  generalize cellF ns 0 = cell
  have hcok : countsOk (.list ((countsL n one).map .int)) = true := countsOk_ints (by rw [countsL_len]; omega) (by rw [countsL_len]; omega) fun x hx => by have := hwo x hx; omega
  have htold : toldOut a (.list ((countsL n one).map .int)) = .ret (.box true [.str "web"] ((builtF (countsL n one)).map p2) []) := by
    unfold toldOut
    rw [if_pos hcok, intsOf_ints, toldF_web (word_web w)]
  have hblt : Like n one (builtF (countsL n one)) := by
    obtain ⟨b1, b2⟩ := built_ok (word_built (fun x hx => (hwo x hx).1) (word_web w))
    rw [countsL_len] at b1 b2
    exact ⟨b1, b2⟩
  refine bl_ifE (fun e' => ∃ other, Like n one other ∧ wk e' [some (.sh (scrD ns)), some (.sh (.int n)), some (.sh (.list (one.map p2))), some (.sh (.list (other.map p2))), some (.sh (.int cell)), none, none, none, none]) (ts_cmp (ev_bin (ev_nsh (i := 4) rfl) ev_int (o_mod (by omega))) ev_int o_eqI) (fun h => ?_) (fun h => ?_) (fun e1 hM => ?_)
  · refine bl_setF (d := .list ((builtF (countsL n one)).map p2)) 3 hN (evS_own (ev_ixBoxR (ev_callT h_told (.list ((countsL n one).map .int)) hT (hr.mono (by decide)) (ints_top _) (as_cons (evS_own (ev_call h_law_counts (n, one) (hr.mono (by decide)) ⟨by show n ≤ 1000; omega, by show one.length ≤ 1000; omega⟩ (as_cons (evS_sh (ev_nsh (i := 1) rfl)) (as_cons (evS_sh (ev_nsh (i := 2) rfl)) as_nil)) rfl)) as_nil) htold))) ?_
    refine bl_nil ⟨_, hblt, ?_⟩
    walk_at "wk"
  · refine bl_nil ⟨ch, hlk, ?_⟩
    walk_at "wk"
  obtain ⟨ot, hot, hw1⟩ := hM
  refine bl_wk ?_ hw1
  clear hw1 hblt htold hlk
  refine bl_ifE (fun e' => ∃ other, Like n one other ∧ wk e' [some (.sh (scrD ns)), some (.sh (.int n)), some (.sh (.list (one.map p2))), some (.sh (.list (other.map p2))), some (.sh (.int cell)), none, none, none, none]) (ts_w (tw_and (ts_cmp (ev_bin (ev_nsh (i := 4) rfl) ev_int (o_mod (by omega))) ev_int o_eqI) fun h1 => (tw_and1 (ts_cmp (ev_bin (ev_bin (ev_nsh (i := 4) rfl) ev_int (o_fdiv (by omega) (by omega))) ev_int (o_mod (by omega))) ev_int o_eqI)))) (fun h => ?_) (fun h => ?_) (fun e1 hM => ?_)
  · refine bl_setF (d := .list (one.map p2)) 3 hN (evS_own (ev_ty T.list (c_list (tup := true) (.inl rfl)) (ar_cons (ev_nsh (i := 2) rfl) ar_nil))) ?_
    refine bl_nil ⟨one, ⟨w, rfl⟩, ?_⟩
    walk_at "wk"
  · refine bl_nil ⟨ot, hot, ?_⟩
    walk_at "wk"
  obtain ⟨other, ⟨w2, hc2⟩, hw1⟩ := hM
  refine bl_wk ?_ hw1
  clear hw1 hot ot
  have hol2 := (w2.deg h10 0).2
  have ty1 := toldY_way w w2 h1 h10 hc2.symm
  have ty2 := toldY_way w2 w h1 h10 hc2
  have lp1 := way_pre w w2 h10 hc2.symm
  have lp2 := way_pre w2 w h10 hc2
  have hl1 : (wayF one other).length ≤ 45 := Nat.le_trans lp1.2.2.2 (Nat.le_trans (gone_len _ _) hol)
  have hl2 : (wayF other one).length ≤ 45 := Nat.le_trans lp2.2.2.2 (Nat.le_trans (gone_len _ _) hol2)
  have pr1 : WebPre (.int n, .list (one.map p2)) := webPre_p2 (by omega)
  have pr2 : WebPre (.int n, .list (other.map p2)) := webPre_p2 (by omega)
  generalize wayF one other = wa at ty1 lp1 hl1
  generalize wayF other one = wb at ty2 lp2 hl2
  have layH : Lay 60 (.list [wD one, wD other]) := lay_list (n := 59) (by
    intro d hd
    rcases List.mem_cons.mp hd with rfl | hd
    · exact (lay_list (lay_map (enc := p2) good_p2.lay)).mono (by decide)
    · obtain rfl := List.mem_singleton.mp hd
      exact (lay_list (lay_map (enc := p2) good_p2.lay)).mono (by decide))
  refine bl_setF (d := .list [wD one, wD other]) 5 hN (evS_own (ev_lst (as_cons (evS_own (ev_ty T.list (c_list (tup := true) (.inl rfl)) (ar_cons (ev_nsh (i := 2) rfl) ar_nil))) (as_cons (evS_own (ev_ty T.list (c_list (tup := true) (.inl rfl)) (ar_cons (ev_nsh (i := 3) rfl) ar_nil))) as_nil)))) ?_
  refine bl_set (r := .own (wa.map p4)) 6 hN (ev_call h_law_told (.int n, wD one, wD other) (hr.mono (by decide)) ⟨pr1, pr2⟩ (as_cons (evS_sh (ev_nsh (i := 1) rfl)) (as_cons (evS_sh (ev_ix (ev_nsh (i := 5) rfl) ev_int (x_list (d := wD one) rfl (atI_nat (j := 0) rfl)))) (as_cons (evS_sh (ev_ix (ev_nsh (i := 5) rfl) ev_int (x_list (d := wD other) rfl (atI_nat (j := 1) rfl)))) as_nil))) (congrArg Oc.ret ty1)) ?_
  refine bl_set (r := .own (wb.map p4)) 7 hN (ev_call h_law_told (.int n, wD other, wD one) (hr.mono (by decide)) ⟨pr2, pr1⟩ (as_cons (evS_sh (ev_nsh (i := 1) rfl)) (as_cons (evS_sh (ev_ix (ev_nsh (i := 5) rfl) ev_int (x_list (d := wD other) rfl (atI_nat (j := 1) rfl)))) (as_cons (evS_sh (ev_ix (ev_nsh (i := 5) rfl) ev_int (x_list (d := wD one) rfl (atI_nat (j := 0) rfl)))) as_nil))) (congrArg Oc.ret ty2)) ?_
  refine bl_if (k := false) (ts_fz 6 rfl rfl (ts_fz 7 rfl rfl (ts_w (tw_or (k := false) (ts_cmp (ev_nsh (i := 5) rfl) (ev_lst (as_cons (evS_sh (ev_nsh (i := 2) rfl)) (as_cons (evS_sh (ev_nsh (i := 3) rfl)) as_nil))) (o_neR hun layH rfl rfl)) fun h1 => (tw_or (k := false) (ts_not (k := true) (ts_val (ev_call h_law_led (n, one, other, wa) (hr.mono (by decide)) lp1 (as_cons (evS_sh (ev_nsh (i := 1) rfl)) (as_cons (evS_sh (ev_nsh (i := 2) rfl)) (as_cons (evS_sh (ev_nsh (i := 3) rfl)) (as_cons (evS_sh (ev_nsh (i := 6) rfl)) as_nil)))) rfl))) fun h2 => (tw_or1 (k := false) (ts_not (k := true) (ts_val (ev_call h_law_led (n, other, one, wb) (hr.mono (by decide)) lp2 (as_cons (evS_sh (ev_nsh (i := 1) rfl)) (as_cons (evS_sh (ev_nsh (i := 3) rfl)) (as_cons (evS_sh (ev_nsh (i := 2) rfl)) (as_cons (evS_sh (ev_nsh (i := 7) rfl)) as_nil)))) rfl))))))))) (fun h => by cases h) (fun _ => bl_nil ?_)
  refine bl_setF (d := .list (wa.map p4)) 8 hN (evS_own (ev_ty T.list (c_list (tup := true) (.inl rfl)) (ar_cons (ev_name (i := 6) rfl) ar_nil))) ?_
  refine bl_append (i := 6) (d := .tuple []) (pe_bm PySem.F.plainAttrs_list PySem.F.slot_list_append PySem.F.type_list_append mt_append (pv 6) pa_sem) rfl (as_cons (evS_sh (ev_tup as_nil)) as_nil) (by rw [List.length_map]; omega) ?_
  refine bl_clear (i := 7) (ds := wb.map p4) (pe_bm0 PySem.F.plainAttrs_list PySem.F.slot_list_clear PySem.F.type_list_clear mt_clear (pv 7)) rfl ?_
  refine bl_if (k := false) (ts_fz 6 rfl rfl (ts_w (tw_or (k := false) (ts_not (k := true) (ts_val (ev_call h_law_led (n, one, other, wa) (hr.mono (by decide)) lp1 (as_cons (evS_sh (ev_nsh (i := 1) rfl)) (as_cons (evS_sh (ev_nsh (i := 2) rfl)) (as_cons (evS_sh (ev_nsh (i := 3) rfl)) (as_cons (evS_own (ev_call h_law_told (.int n, wD one, wD other) (hr.mono (by decide)) ⟨pr1, pr2⟩ (as_cons (evS_sh (ev_nsh (i := 1) rfl)) (as_cons (evS_sh (ev_ix (ev_nsh (i := 5) rfl) ev_int (x_list (d := wD one) rfl (atI_nat (j := 0) rfl)))) (as_cons (evS_sh (ev_ix (ev_nsh (i := 5) rfl) ev_int (x_list (d := wD other) rfl (atI_nat (j := 1) rfl)))) as_nil))) (congrArg Oc.ret ty1))) as_nil)))) rfl))) fun h1 => (tw_or1 (k := false) (ts_cmp (ev_nsh (i := 6) rfl) (ev_bin (ev_nsh (i := 8) rfl) (ev_lst (as_cons (evS_sh (ev_tup as_nil)) as_nil)) (o_cat rfl rfl (by rw [List.length_map]; show _ + 1 ≤ 1000000; omega))) (o_neR hun (lay_t4s wa) rfl rfl)))))) (fun h => by cases h) (fun _ => bl_nil ?_)
  exact bl_ret (ev_and (k := true) (k1 := true) (ev_call h_law_refused (n, one, cell / 12) (hr.mono (by decide)) ⟨w, h1, h10⟩ (as_cons (evS_sh (ev_nsh (i := 1) rfl)) (as_cons (evS_own (ev_ty T.list (c_list (tup := true) (.inl rfl)) (ar_cons (ev_nsh (i := 2) rfl) ar_nil))) (as_cons (evS_sh (ev_bin (ev_nsh (i := 4) rfl) ev_int (o_fdiv (by omega) (by omega)))) as_nil))) rfl) fun h1 => (ev_one (ev_cmp (ev_nsh (i := 5) rfl) (ev_lst (as_cons (evS_sh (ev_nsh (i := 2) rfl)) (as_cons (evS_sh (ev_nsh (i := 3) rfl)) as_nil))) (o_eqR hun layH rfl rfl)))) rfl
end
end KW

namespace KW
open PySem PySem.Spec PyProof.Rows L2 TW
theorem bits_bd {z : Int} (h : Builtin.Int.intBits z ≤ 1048576) : Bd 1048577 z := by
  unfold Bd
  unfold Builtin.Int.intBits at h
  split at h
  · rename_i h0; have h0 : z = 0 := by simpa using h0
    subst h0; decide
  · omega
end KW

namespace KW
open PySem PySem.Spec PyProof.Rows L2 TW
/-! ### the end of a law whose road makes a lambda -/
/-- the table of the def nm is empty -/
def OwnOf (K : KF) (mg : Str → Option Value) (nm : Str) (h : Heap) : Prop := ∀ {f c P : Addr} {o : Obj} {fd : FuncData} {e : Value} {dd : Option Addr} {vs : Array Value} {sl : Array (Option Value)}, mg nm = some (.ref f) → K.lookup f = some o → o.data = .func fd → fd.code = .ref c → K.lookup c = some ⟨e, dd, .fields vs, sl⟩ → vs[11]? = some (.ref P) →
  h.get? P = some { cls := .none, data := .fields #[] }
theorem walk_lawT {l : PySem.W.OpenLaw} {k : Nat} {q : Program} {loose : List Str} {XP : (Str → Option Value) → Heap → Prop} {YP : World → Heap → Prop} {d : DefRec} {K : Params → KF} (hn : l.most = some 63) (hdf : d.params.defaults = []) (hr : Room k callerA)
    (hrec : ((recsOf q).any fun e => e.name == ("built" : Str)) = true) (hY : ∀ (w : World) (h : Heap), YP w h → (K w.params).In h)
    (F : ∀ (w : World) (mg : Str → Option Value) (fa : Addr) (h : Heap), (K w.params).In h → h.Ns mainGlobals mg → mg d.name = some (.ref fa) → OwnOf (K w.params) mg "built" h →
      ∃ (fd : FuncData) (cb pb : Addr), h.get? pb = some { cls := .none, data := .fields #[] } ∧ (K w.params).lookup pb = none ∧ PySem.W.CodeHd h cb pb ∧ (∀ (s : Shared) (u : Value), BindsTo s fd ⟨[u], []⟩ [("_law_script", u)]) ∧
        ∀ base : Heap, (K w.params).In base → base.Ns mainGlobals mg → LamX.TabB base mg cb pb → FnOk l.prog w (K w.params) mg base (L2N.CX l.prog w) k fa fd ["_law_script"] (spT (K w.params) pb (fun ns : List Int => Scr ns) (fun ns => [scrD ns]) fun _ => .ret (.sh (.bool true)))) :
    PySem.W.WalkO q loose XP YP l.row.toRowW d [] (fun f vs => PySem.call f vs) := by
  refine Att.attach_callB hn hdf fun w s₀ s₁ mg mb fa o pm cd doc a vs ns G Y ho hd hcd hmg hobj hints hlen hbits hg => ?_
  have KX := hY w _ Y
  have own : OwnOf (K w.params) mg "built" s₁.heap := fun {f c P o1 fd1 e dd vs1 sl} k0 k1 k2 k3 k4 k5 => by
    obtain ⟨dL, hm, hn1⟩ := List.any_eq_true.mp hrec
    have hn2 : dL.name = ("built" : Str) := beq_iff_eq.mp hn1
    obtain ⟨a', o', fd', c', P', h1, h2, h3, h4, h5, h6⟩ := G.T.tab dL hm
    rw [hn2, k0] at h1
    cases h1
    have g1 := KX _ _ k1
    rw [g1] at h2
    cases h2
    rw [k2] at h3
    cases h3
    rw [k3] at h4
    cases h4
    obtain ⟨⟨oc, vc, e1, _, e3, e4⟩, hP⟩ := h6
    have g2 := KX _ _ k4
    rw [g2] at e1
    cases e1
    cases e3
    rw [k5] at e4
    cases e4
    exact hP
  obtain ⟨fd, cb, pb, hT, nT, C, hb, hF⟩ := F w mg fa _ KX G.T.g hmg own
  have one : ∀ {p : Addr × Addr} {X : Addr × Addr → Prop}, X (cb, pb) → p ∈ [(cb, pb)] → X p := fun h hp => by
    obtain rfl := List.mem_singleton.mp hp
    exact h
  exact LamX.law_callTs (cs := [(cb, pb)]) KX G.T.g G.T.b G.T.builtins G.T.nolimit hg (fun p hp => one (X := fun p => s₁.heap.get? p.2 = some { cls := .none, data := .fields #[] }) hT hp) (fun p hp => one (X := fun p => (K w.params).lookup p.2 = none) nT hp) (fun p hp => one (X := fun p => PySem.W.CodeHd s₁.heap p.1 p.2) C hp) G.T.bmain hobj hints (Nat.le_trans hlen (by decide)) hr
    (fun base h1 h2 h3 => hF base h1 h2 (h3 _ List.mem_cons_self)) hb
    (fun H hH hS => ⟨LamX.TabS.nil (hH _ List.mem_cons_self), ns, H, ⟨hlen, fun z hz => bits_bd (hbits z hz)⟩, SameK.refl _, .cons (.scr hS) .nil, fun v G' H' x q => dp_bool q⟩)
    (fun H e s' z => by obtain ⟨_, _, _, _, _, _, _, _, _, _, _, _, q⟩ := z; exact q)
end KW

namespace KW
open PySem PySem.Spec PyProof.Rows L2 TW
section
variable {P : Program} {w : World} {K : KF} {mg : Str → Option Value}
theorem all_mk {h : Heap} {fa : Addr} {a_T a_bc a_bm a_bw a_be a_un a_nw : Addr} (X : K.In h) (G : h.Ns mainGlobals mg) (hfa : mg "law" = some (.ref fa)) (own : OwnOf K mg "built" h) {t_MOST_POINTS : Tok} {t_MOST_COUNT : Tok} {f0 : Addr} {od0 an0 : Option Addr} {sl0 : Array (Option Value)} {oc0 kV0 dc0 pm0 cd0 ct0 : Value} {f1 : Addr} {od1 an1 : Option Addr} {sl1 : Array (Option Value)} {oc1 kV1 dc1 pm1 cd1 ct1 : Value} {f2 : Addr} {od2 an2 : Option Addr} {sl2 : Array (Option Value)} {oc2 kV2 dc2 pm2 cd2 ct2 : Value} {f3 : Addr} {od3 an3 : Option Addr} {sl3 : Array (Option Value)} {oc3 kV3 dc3 pm3 cd3 ct3 : Value} {f4 : Addr} {od4 an4 : Option Addr} {sl4 : Array (Option Value)} {oc4 kV4 dc4 pm4 cd4 ct4 : Value} {f5 : Addr} {od5 an5 : Option Addr} {sl5 : Array (Option Value)} {oc5 kV5 dc5 pm5 cd5 ct5 : Value} {f6 : Addr} {od6 an6 : Option Addr} {sl6 : Array (Option Value)} {oc6 kV6 dc6 pm6 cd6 ct6 : Value} {f7 : Addr} {od7 an7 : Option Addr} {sl7 : Array (Option Value)} {oc7 kV7 dc7 pm7 cd7 ct7 : Value} {f8 : Addr} {od8 an8 : Option Addr} {sl8 : Array (Option Value)} {oc8 kV8 dc8 pm8 cd8 ct8 : Value} {f9 : Addr} {od9 an9 : Option Addr} {sl9 : Array (Option Value)} {oc9 kV9 dc9 pm9 cd9 ct9 : Value} {f10 : Addr} {od10 an10 : Option Addr} {sl10 : Array (Option Value)} {oc10 kV10 dc10 pm10 cd10 ct10 : Value} {f11 : Addr} {od11 an11 : Option Addr} {sl11 : Array (Option Value)} {oc11 kV11 dc11 pm11 cd11 ct11 : Value} {f12 : Addr} {od12 an12 : Option Addr} {sl12 : Array (Option Value)} {oc12 kV12 dc12 pm12 cd12 ct12 : Value} {f13 : Addr} {od13 an13 : Option Addr} {sl13 : Array (Option Value)} {oc13 kV13 dc13 pm13 cd13 ct13 : Value} {f14 : Addr} {od14 an14 : Option Addr} {sl14 : Array (Option Value)} {oc14 kV14 dc14 pm14 cd14 ct14 : Value} {f15 : Addr} {od15 an15 : Option Addr} {sl15 : Array (Option Value)} {oc15 kV15 dc15 pm15 cd15 ct15 : Value} {f16 : Addr} {od16 an16 : Option Addr} {sl16 : Array (Option Value)} {oc16 kV16 dc16 pm16 cd16 ct16 : Value} {f17 : Addr} {od17 an17 : Option Addr} {sl17 : Array (Option Value)} {oc17 kV17 dc17 pm17 cd17 ct17 : Value} {f18 : Addr} {od18 an18 : Option Addr} {sl18 : Array (Option Value)} {oc18 kV18 dc18 pm18 cd18 ct18 : Value} {f19 : Addr} {od19 an19 : Option Addr} {sl19 : Array (Option Value)} {oc19 kV19 dc19 pm19 cd19 ct19 : Value} {f20 : Addr} {od20 an20 : Option Addr} {sl20 : Array (Option Value)} {oc20 kV20 dc20 pm20 cd20 ct20 : Value} {f21 : Addr} {od21 an21 : Option Addr} {sl21 : Array (Option Value)} {oc21 kV21 dc21 pm21 ct21 : Value} {cb pb : Addr} {td : Option Addr} {tv : Array Value} {ts : Array (Option Value)} {f22 : Addr} {od22 an22 : Option Addr} {sl22 : Array (Option Value)} {oc22 kV22 dc22 pm22 cd22 ct22 : Value} {f23 : Addr} {od23 an23 : Option Addr} {sl23 : Array (Option Value)} {oc23 kV23 dc23 pm23 cd23 ct23 : Value} {f24 : Addr} {od24 an24 : Option Addr} {sl24 : Array (Option Value)} {oc24 kV24 dc24 pm24 cd24 ct24 : Value} {f25 : Addr} {od25 an25 : Option Addr} {sl25 : Array (Option Value)} {oc25 kV25 dc25 pm25 cd25 ct25 : Value} {f26 : Addr} {od26 an26 : Option Addr} {sl26 : Array (Option Value)} {oc26 kV26 dc26 pm26 cd26 ct26 : Value} {f27 : Addr} {od27 an27 : Option Addr} {sl27 : Array (Option Value)} {oc27 kV27 dc27 pm27 cd27 ct27 : Value} {f28 : Addr} {od28 an28 : Option Addr} {sl28 : Array (Option Value)} {oc28 kV28 dc28 pm28 cd28 ct28 : Value} {f29 : Addr} {od29 an29 : Option Addr} {sl29 : Array (Option Value)} {oc29 kV29 dc29 pm29 cd29 ct29 : Value} {f30 : Addr} {od30 an30 : Option Addr} {sl30 : Array (Option Value)} {oc30 kV30 dc30 pm30 cd30 ct30 : Value} {f31 : Addr} {od31 an31 : Option Addr} {sl31 : Array (Option Value)} {oc31 kV31 dc31 pm31 cd31 ct31 : Value} {f32 : Addr} {od32 an32 : Option Addr} {sl32 : Array (Option Value)} {oc32 kV32 dc32 pm32 cd32 ct32 : Value} {f33 : Addr} {od33 an33 : Option Addr} {sl33 : Array (Option Value)} {oc33 kV33 dc33 pm33 cd33 ct33 : Value}
    (n_T : PySem.W.nsIn K mainGlobals "TieError" = some (some (.ref a_T)))
    (n_bc : PySem.W.nsIn K mainGlobals "BadCounts" = some (some (.ref a_bc)))
    (n_bm : PySem.W.nsIn K mainGlobals "BadMany" = some (some (.ref a_bm)))
    (n_bw : PySem.W.nsIn K mainGlobals "BadWeb" = some (some (.ref a_bw)))
    (n_be : PySem.W.nsIn K mainGlobals "BadExchange" = some (some (.ref a_be)))
    (n_un : PySem.W.nsIn K mainGlobals "Unlike" = some (some (.ref a_un)))
    (n_nw : PySem.W.nsIn K mainGlobals "NoWeb" = some (some (.ref a_nw)))
    (T1 : PySem.W.subIn K (.ref a_T) (.type "BaseException") = some true)
    (T2 : PySem.W.hasDictIn K a_T = true)
    (T3 : PySem.W.typeIn K (.ref a_T) = some (.type "type"))
    (x1_bc : PySem.W.excIn K a_bc [.type "ValueError", .type "Exception", .type "BaseException", .type "object"] "ValueError.__new__" = true)
    (x2_bc : PySem.W.keepIn K (.ref a_bc) = true)
    (x3_bc : PySem.W.subIn K (.ref a_bc) (.type "BaseException") = some true)
    (x4_bc : PySem.W.typeIn K (.ref a_bc) = some (.type "type"))
    (x5_bc : PySem.W.findIn K (.ref a_bc) "__getattribute__" = some (some (.builtin "BaseException.__getattribute__")))
    (x6_bc : PySem.W.findIn K (.ref a_bc) "__getattr__" = some none)
    (x7_bc : PySem.W.hasDictIn K a_bc = true)
    (x8_bc : PySem.W.findIn K (.ref a_bc) "__class__" = some (some (.builtin "object.__class__")))
    (x9_bc : PySem.W.specialIn K (.builtin "object.__class__") "__get__" = some (some (.builtin "getset_descriptor.__get__")))
    (xa_bc : PySem.W.takesIn K (.builtin "object.__class__") = some true)
    (xb_bc : PySem.W.mroIn K a_bc (.type "object") = some true)
    (xc_bc : PySem.W.subIn K (.ref a_bc) (.ref a_T) = some true)
    (ybc_bc : PySem.W.kitOne K (.ref a_bc) (.ref a_bc) = some true)
    (ybm_bc : PySem.W.kitOne K (.ref a_bc) (.ref a_bm) = some false)
    (ybw_bc : PySem.W.kitOne K (.ref a_bc) (.ref a_bw) = some false)
    (ybe_bc : PySem.W.kitOne K (.ref a_bc) (.ref a_be) = some false)
    (yun_bc : PySem.W.kitOne K (.ref a_bc) (.ref a_un) = some false)
    (ynw_bc : PySem.W.kitOne K (.ref a_bc) (.ref a_nw) = some false)
    (yv_bc : PySem.W.kitOne K (.ref a_bc) (.type "ValueError") = some true)
    (x1_bw : PySem.W.excIn K a_bw [.type "ValueError", .type "Exception", .type "BaseException", .type "object"] "ValueError.__new__" = true)
    (x2_bw : PySem.W.keepIn K (.ref a_bw) = true)
    (x3_bw : PySem.W.subIn K (.ref a_bw) (.type "BaseException") = some true)
    (x4_bw : PySem.W.typeIn K (.ref a_bw) = some (.type "type"))
    (x5_bw : PySem.W.findIn K (.ref a_bw) "__getattribute__" = some (some (.builtin "BaseException.__getattribute__")))
    (x6_bw : PySem.W.findIn K (.ref a_bw) "__getattr__" = some none)
    (x7_bw : PySem.W.hasDictIn K a_bw = true)
    (x8_bw : PySem.W.findIn K (.ref a_bw) "__class__" = some (some (.builtin "object.__class__")))
    (x9_bw : PySem.W.specialIn K (.builtin "object.__class__") "__get__" = some (some (.builtin "getset_descriptor.__get__")))
    (xa_bw : PySem.W.takesIn K (.builtin "object.__class__") = some true)
    (xb_bw : PySem.W.mroIn K a_bw (.type "object") = some true)
    (xc_bw : PySem.W.subIn K (.ref a_bw) (.ref a_T) = some true)
    (ybc_bw : PySem.W.kitOne K (.ref a_bw) (.ref a_bc) = some false)
    (ybm_bw : PySem.W.kitOne K (.ref a_bw) (.ref a_bm) = some false)
    (ybw_bw : PySem.W.kitOne K (.ref a_bw) (.ref a_bw) = some true)
    (ybe_bw : PySem.W.kitOne K (.ref a_bw) (.ref a_be) = some false)
    (yun_bw : PySem.W.kitOne K (.ref a_bw) (.ref a_un) = some false)
    (ynw_bw : PySem.W.kitOne K (.ref a_bw) (.ref a_nw) = some false)
    (yv_bw : PySem.W.kitOne K (.ref a_bw) (.type "ValueError") = some true)
    (x1_un : PySem.W.excIn K a_un [.type "ValueError", .type "Exception", .type "BaseException", .type "object"] "ValueError.__new__" = true)
    (x2_un : PySem.W.keepIn K (.ref a_un) = true)
    (x3_un : PySem.W.subIn K (.ref a_un) (.type "BaseException") = some true)
    (x4_un : PySem.W.typeIn K (.ref a_un) = some (.type "type"))
    (x5_un : PySem.W.findIn K (.ref a_un) "__getattribute__" = some (some (.builtin "BaseException.__getattribute__")))
    (x6_un : PySem.W.findIn K (.ref a_un) "__getattr__" = some none)
    (x7_un : PySem.W.hasDictIn K a_un = true)
    (x8_un : PySem.W.findIn K (.ref a_un) "__class__" = some (some (.builtin "object.__class__")))
    (x9_un : PySem.W.specialIn K (.builtin "object.__class__") "__get__" = some (some (.builtin "getset_descriptor.__get__")))
    (xa_un : PySem.W.takesIn K (.builtin "object.__class__") = some true)
    (xb_un : PySem.W.mroIn K a_un (.type "object") = some true)
    (xc_un : PySem.W.subIn K (.ref a_un) (.ref a_T) = some true)
    (ybc_un : PySem.W.kitOne K (.ref a_un) (.ref a_bc) = some false)
    (ybm_un : PySem.W.kitOne K (.ref a_un) (.ref a_bm) = some false)
    (ybw_un : PySem.W.kitOne K (.ref a_un) (.ref a_bw) = some false)
    (ybe_un : PySem.W.kitOne K (.ref a_un) (.ref a_be) = some false)
    (yun_un : PySem.W.kitOne K (.ref a_un) (.ref a_un) = some true)
    (ynw_un : PySem.W.kitOne K (.ref a_un) (.ref a_nw) = some false)
    (yv_un : PySem.W.kitOne K (.ref a_un) (.type "ValueError") = some true)
    (z_isinstance : PySem.W.nsIn K mainGlobals "isinstance" = some none)
    (z_int : PySem.W.nsIn K mainGlobals "int" = some none)
    (z_bool : PySem.W.nsIn K mainGlobals "bool" = some none)
    (z_list : PySem.W.nsIn K mainGlobals "list" = some none)
    (z_tuple : PySem.W.nsIn K mainGlobals "tuple" = some none)
    (z_len : PySem.W.nsIn K mainGlobals "len" = some none)
    (z_range : PySem.W.nsIn K mainGlobals "range" = some none)
    (z_min : PySem.W.nsIn K mainGlobals "min" = some none)
    (z_max : PySem.W.nsIn K mainGlobals "max" = some none)
    (z_sorted : PySem.W.nsIn K mainGlobals "sorted" = some none)
    (z_sum : PySem.W.nsIn K mainGlobals "sum" = some none)
    (z_any : PySem.W.nsIn K mainGlobals "any" = some none)
    (z_all : PySem.W.nsIn K mainGlobals "all" = some none)
    (z_set : PySem.W.nsIn K mainGlobals "set" = some none)
    (z_zip : PySem.W.nsIn K mainGlobals "zip" = some none)
    (z_ValueError : PySem.W.nsIn K mainGlobals "ValueError" = some none)
    (m_MOST_POINTS : PySem.W.nsIn K mainGlobals "MOST_POINTS" = some (some (.int 10 t_MOST_POINTS)))
    (m_MOST_COUNT : PySem.W.nsIn K mainGlobals "MOST_COUNT" = some (some (.int 20 t_MOST_COUNT)))
    (a0 : PySem.W.nsIn K mainGlobals "is_among" = some (some (.ref f0)))
    (l0 : K.lookup f0 = some ⟨oc0, od0, .func (PySem.W.fnOf "is_among" "is_among" (defArgs s_is_among) (defBody s_is_among) (defScope s_is_among) .none kV0 dc0 pm0 an0 cd0 ct0), sl0⟩)
    (c0 : PySem.W.codeIn K cd0 "is_among" = true)
    (k0 : PySem.W.keepIn K (.ref f0) = true)
    (a1 : PySem.W.nsIn K mainGlobals "_law_cell" = some (some (.ref f1)))
    (l1 : K.lookup f1 = some ⟨oc1, od1, .func (PySem.W.fnOf "_law_cell" "_law_cell" (defArgs s_law_cell) (defBody s_law_cell) (defScope s_law_cell) .none kV1 dc1 pm1 an1 cd1 ct1), sl1⟩)
    (c1 : PySem.W.codeIn K cd1 "_law_cell" = true)
    (k1 : PySem.W.keepIn K (.ref f1) = true)
    (a2 : PySem.W.nsIn K mainGlobals "_law_mixed" = some (some (.ref f2)))
    (l2 : K.lookup f2 = some ⟨oc2, od2, .func (PySem.W.fnOf "_law_mixed" "_law_mixed" (defArgs s_law_mixed) (defBody s_law_mixed) (defScope s_law_mixed) .none kV2 dc2 pm2 an2 cd2 ct2), sl2⟩)
    (c2 : PySem.W.codeIn K cd2 "_law_mixed" = true)
    (k2 : PySem.W.keepIn K (.ref f2) = true)
    (a3 : PySem.W.nsIn K mainGlobals "_law_whole" = some (some (.ref f3)))
    (l3 : K.lookup f3 = some ⟨oc3, od3, .func (PySem.W.fnOf "_law_whole" "_law_whole" (defArgs s_law_whole) (defBody s_law_whole) (defScope s_law_whole) .none kV3 dc3 pm3 an3 cd3 ct3), sl3⟩)
    (c3 : PySem.W.codeIn K cd3 "_law_whole" = true)
    (k3 : PySem.W.keepIn K (.ref f3) = true)
    (a4 : PySem.W.nsIn K mainGlobals "_law_kind" = some (some (.ref f4)))
    (l4 : K.lookup f4 = some ⟨oc4, od4, .func (PySem.W.fnOf "_law_kind" "_law_kind" (defArgs s_law_kind) (defBody s_law_kind) (defScope s_law_kind) .none kV4 dc4 pm4 an4 cd4 ct4), sl4⟩)
    (c4 : PySem.W.codeIn K cd4 "_law_kind" = true)
    (k4 : PySem.W.keepIn K (.ref f4) = true)
    (a5 : PySem.W.nsIn K mainGlobals "need_counts" = some (some (.ref f5)))
    (l5 : K.lookup f5 = some ⟨oc5, od5, .func (PySem.W.fnOf "need_counts" "need_counts" (defArgs s_need_counts) (defBody s_need_counts) (defScope s_need_counts) .none kV5 dc5 pm5 an5 cd5 ct5), sl5⟩)
    (c5 : PySem.W.codeIn K cd5 "need_counts" = true)
    (k5 : PySem.W.keepIn K (.ref f5) = true)
    (a6 : PySem.W.nsIn K mainGlobals "_law_web" = some (some (.ref f6)))
    (l6 : K.lookup f6 = some ⟨oc6, od6, .func (PySem.W.fnOf "_law_web" "_law_web" (defArgs s_law_web) (defBody s_law_web) (defScope s_law_web) .none kV6 dc6 pm6 an6 cd6 ct6), sl6⟩)
    (c6 : PySem.W.codeIn K cd6 "_law_web" = true)
    (k6 : PySem.W.keepIn K (.ref f6) = true)
    (a7 : PySem.W.nsIn K mainGlobals "_law_counts" = some (some (.ref f7)))
    (l7 : K.lookup f7 = some ⟨oc7, od7, .func (PySem.W.fnOf "_law_counts" "_law_counts" (defArgs s_law_counts) (defBody s_law_counts) (defScope s_law_counts) .none kV7 dc7 pm7 an7 cd7 ct7), sl7⟩)
    (c7 : PySem.W.codeIn K cd7 "_law_counts" = true)
    (k7 : PySem.W.keepIn K (.ref f7) = true)
    (a8 : PySem.W.nsIn K mainGlobals "wanted_by" = some (some (.ref f8)))
    (l8 : K.lookup f8 = some ⟨oc8, od8, .func (PySem.W.fnOf "wanted_by" "wanted_by" (defArgs s_wanted_by) (defBody s_wanted_by) (defScope s_wanted_by) .none kV8 dc8 pm8 an8 cd8 ct8), sl8⟩)
    (c8 : PySem.W.codeIn K cd8 "wanted_by" = true)
    (k8 : PySem.W.keepIn K (.ref f8) = true)
    (a9 : PySem.W.nsIn K mainGlobals "is_tie" = some (some (.ref f9)))
    (l9 : K.lookup f9 = some ⟨oc9, od9, .func (PySem.W.fnOf "is_tie" "is_tie" (defArgs s_is_tie) (defBody s_is_tie) (defScope s_is_tie) .none kV9 dc9 pm9 an9 cd9 ct9), sl9⟩)
    (c9 : PySem.W.codeIn K cd9 "is_tie" = true)
    (k9 : PySem.W.keepIn K (.ref f9) = true)
    (a10 : PySem.W.nsIn K mainGlobals "need_web" = some (some (.ref f10)))
    (l10 : K.lookup f10 = some ⟨oc10, od10, .func (PySem.W.fnOf "need_web" "need_web" (defArgs s_need_web) (defBody s_need_web) (defScope s_need_web) .none kV10 dc10 pm10 an10 cd10 ct10), sl10⟩)
    (c10 : PySem.W.codeIn K cd10 "need_web" = true)
    (k10 : PySem.W.keepIn K (.ref f10) = true)
    (a11 : PySem.W.nsIn K mainGlobals "tied" = some (some (.ref f11)))
    (l11 : K.lookup f11 = some ⟨oc11, od11, .func (PySem.W.fnOf "tied" "tied" (defArgs s_tied) (defBody s_tied) (defScope s_tied) .none kV11 dc11 pm11 an11 cd11 ct11), sl11⟩)
    (c11 : PySem.W.codeIn K cd11 "tied" = true)
    (k11 : PySem.W.keepIn K (.ref f11) = true)
    (a12 : PySem.W.nsIn K mainGlobals "left_by" = some (some (.ref f12)))
    (l12 : K.lookup f12 = some ⟨oc12, od12, .func (PySem.W.fnOf "left_by" "left_by" (defArgs s_left_by) (defBody s_left_by) (defScope s_left_by) .none kV12 dc12 pm12 an12 cd12 ct12), sl12⟩)
    (c12 : PySem.W.codeIn K cd12 "left_by" = true)
    (k12 : PySem.W.keepIn K (.ref f12) = true)
    (a13 : PySem.W.nsIn K mainGlobals "beside" = some (some (.ref f13)))
    (l13 : K.lookup f13 = some ⟨oc13, od13, .func (PySem.W.fnOf "beside" "beside" (defArgs s_beside) (defBody s_beside) (defScope s_beside) .none kV13 dc13 pm13 an13 cd13 ct13), sl13⟩)
    (c13 : PySem.W.codeIn K cd13 "beside" = true)
    (k13 : PySem.W.keepIn K (.ref f13) = true)
    (a14 : PySem.W.nsIn K mainGlobals "counts_by" = some (some (.ref f14)))
    (l14 : K.lookup f14 = some ⟨oc14, od14, .func (PySem.W.fnOf "counts_by" "counts_by" (defArgs s_counts_by) (defBody s_counts_by) (defScope s_counts_by) .none kV14 dc14 pm14 an14 cd14 ct14), sl14⟩)
    (c14 : PySem.W.codeIn K cd14 "counts_by" = true)
    (k14 : PySem.W.keepIn K (.ref f14) = true)
    (a15 : PySem.W.nsIn K mainGlobals "lacking" = some (some (.ref f15)))
    (l15 : K.lookup f15 = some ⟨oc15, od15, .func (PySem.W.fnOf "lacking" "lacking" (defArgs s_lacking) (defBody s_lacking) (defScope s_lacking) .none kV15 dc15 pm15 an15 cd15 ct15), sl15⟩)
    (c15 : PySem.W.codeIn K cd15 "lacking" = true)
    (k15 : PySem.W.keepIn K (.ref f15) = true)
    (a16 : PySem.W.nsIn K mainGlobals "nearer_by" = some (some (.ref f16)))
    (l16 : K.lookup f16 = some ⟨oc16, od16, .func (PySem.W.fnOf "nearer_by" "nearer_by" (defArgs s_nearer_by) (defBody s_nearer_by) (defScope s_nearer_by) .none kV16 dc16 pm16 an16 cd16 ct16), sl16⟩)
    (c16 : PySem.W.codeIn K cd16 "nearer_by" = true)
    (k16 : PySem.W.keepIn K (.ref f16) = true)
    (a17 : PySem.W.nsIn K mainGlobals "nearer" = some (some (.ref f17)))
    (l17 : K.lookup f17 = some ⟨oc17, od17, .func (PySem.W.fnOf "nearer" "nearer" (defArgs s_nearer) (defBody s_nearer) (defScope s_nearer) .none kV17 dc17 pm17 an17 cd17 ct17), sl17⟩)
    (c17 : PySem.W.codeIn K cd17 "nearer" = true)
    (k17 : PySem.W.keepIn K (.ref f17) = true)
    (a18 : PySem.W.nsIn K mainGlobals "turned" = some (some (.ref f18)))
    (l18 : K.lookup f18 = some ⟨oc18, od18, .func (PySem.W.fnOf "turned" "turned" (defArgs s_turned) (defBody s_turned) (defScope s_turned) .none kV18 dc18 pm18 an18 cd18 ct18), sl18⟩)
    (c18 : PySem.W.codeIn K cd18 "turned" = true)
    (k18 : PySem.W.keepIn K (.ref f18) = true)
    (a19 : PySem.W.nsIn K mainGlobals "way" = some (some (.ref f19)))
    (l19 : K.lookup f19 = some ⟨oc19, od19, .func (PySem.W.fnOf "way" "way" (defArgs s_way) (defBody s_way) (defScope s_way) .none kV19 dc19 pm19 an19 cd19 ct19), sl19⟩)
    (c19 : PySem.W.codeIn K cd19 "way" = true)
    (k19 : PySem.W.keepIn K (.ref f19) = true)
    (a20 : PySem.W.nsIn K mainGlobals "too_many" = some (some (.ref f20)))
    (l20 : K.lookup f20 = some ⟨oc20, od20, .func (PySem.W.fnOf "too_many" "too_many" (defArgs s_too_many) (defBody s_too_many) (defScope s_too_many) .none kV20 dc20 pm20 an20 cd20 ct20), sl20⟩)
    (c20 : PySem.W.codeIn K cd20 "too_many" = true)
    (k20 : PySem.W.keepIn K (.ref f20) = true)
    (a21 : PySem.W.nsIn K mainGlobals "built" = some (some (.ref f21)))
    (l21 : K.lookup f21 = some ⟨oc21, od21, .func (PySem.W.fnOf "built" "built" (defArgs s_built) (defBody s_built) (defScope s_built) .none kV21 dc21 pm21 an21 (.ref cb) ct21), sl21⟩)
    (t_c : K.lookup cb = some ⟨.type "code", td, .fields tv, ts⟩)
    (t_p : tv[11]? = some (.ref pb))
    (t_h : ∀ K1 : KF, K1.lookup cb = some ⟨.type "code", td, .fields tv, ts⟩ → PySem.W.codeHdIn K1 cb pb = true)
    (t_n : K.lookup pb = none)
    (t_q : tabTag pb = qLam)
    (c21 : PySem.W.codeIn K (.ref cb) "built" = true)
    (k21 : PySem.W.keepIn K (.ref f21) = true)
    (a22 : PySem.W.nsIn K mainGlobals "told_of" = some (some (.ref f22)))
    (l22 : K.lookup f22 = some ⟨oc22, od22, .func (PySem.W.fnOf "told_of" "told_of" (defArgs s_told_of) (defBody s_told_of) (defScope s_told_of) .none kV22 dc22 pm22 an22 cd22 ct22), sl22⟩)
    (c22 : PySem.W.codeIn K cd22 "told_of" = true)
    (k22 : PySem.W.keepIn K (.ref f22) = true)
    (a23 : PySem.W.nsIn K mainGlobals "told" = some (some (.ref f23)))
    (l23 : K.lookup f23 = some ⟨oc23, od23, .func (PySem.W.fnOf "told" "told" (defArgs s_told) (defBody s_told) (defScope s_told) .none kV23 dc23 pm23 an23 cd23 ct23), sl23⟩)
    (c23 : PySem.W.codeIn K cd23 "told" = true)
    (k23 : PySem.W.keepIn K (.ref f23) = true)
    (a24 : PySem.W.nsIn K mainGlobals "_law_tied" = some (some (.ref f24)))
    (l24 : K.lookup f24 = some ⟨oc24, od24, .func (PySem.W.fnOf "_law_tied" "_law_tied" (defArgs s_law_tied) (defBody s_law_tied) (defScope s_law_tied) .none kV24 dc24 pm24 an24 cd24 ct24), sl24⟩)
    (c24 : PySem.W.codeIn K cd24 "_law_tied" = true)
    (k24 : PySem.W.keepIn K (.ref f24) = true)
    (a25 : PySem.W.nsIn K mainGlobals "_law_fits" = some (some (.ref f25)))
    (l25 : K.lookup f25 = some ⟨oc25, od25, .func (PySem.W.fnOf "_law_fits" "_law_fits" (defArgs s_law_fits) (defBody s_law_fits) (defScope s_law_fits) .none kV25 dc25 pm25 an25 cd25 ct25), sl25⟩)
    (c25 : PySem.W.codeIn K cd25 "_law_fits" = true)
    (k25 : PySem.W.keepIn K (.ref f25) = true)
    (a26 : PySem.W.nsIn K mainGlobals "_law_left" = some (some (.ref f26)))
    (l26 : K.lookup f26 = some ⟨oc26, od26, .func (PySem.W.fnOf "_law_left" "_law_left" (defArgs s_law_left) (defBody s_law_left) (defScope s_law_left) .none kV26 dc26 pm26 an26 cd26 ct26), sl26⟩)
    (c26 : PySem.W.codeIn K cd26 "_law_left" = true)
    (k26 : PySem.W.keepIn K (.ref f26) = true)
    (a27 : PySem.W.nsIn K mainGlobals "_law_is_row" = some (some (.ref f27)))
    (l27 : K.lookup f27 = some ⟨oc27, od27, .func (PySem.W.fnOf "_law_is_row" "_law_is_row" (defArgs s_law_is_row) (defBody s_law_is_row) (defScope s_law_is_row) .none kV27 dc27 pm27 an27 cd27 ct27), sl27⟩)
    (c27 : PySem.W.codeIn K cd27 "_law_is_row" = true)
    (k27 : PySem.W.keepIn K (.ref f27) = true)
    (a28 : PySem.W.nsIn K mainGlobals "_law_changed" = some (some (.ref f28)))
    (l28 : K.lookup f28 = some ⟨oc28, od28, .func (PySem.W.fnOf "_law_changed" "_law_changed" (defArgs s_law_changed) (defBody s_law_changed) (defScope s_law_changed) .none kV28 dc28 pm28 an28 cd28 ct28), sl28⟩)
    (c28 : PySem.W.codeIn K cd28 "_law_changed" = true)
    (k28 : PySem.W.keepIn K (.ref f28) = true)
    (a29 : PySem.W.nsIn K mainGlobals "_law_led" = some (some (.ref f29)))
    (l29 : K.lookup f29 = some ⟨oc29, od29, .func (PySem.W.fnOf "_law_led" "_law_led" (defArgs s_law_led) (defBody s_law_led) (defScope s_law_led) .none kV29 dc29 pm29 an29 cd29 ct29), sl29⟩)
    (c29 : PySem.W.codeIn K cd29 "_law_led" = true)
    (k29 : PySem.W.keepIn K (.ref f29) = true)
    (a30 : PySem.W.nsIn K mainGlobals "_law_told" = some (some (.ref f30)))
    (l30 : K.lookup f30 = some ⟨oc30, od30, .func (PySem.W.fnOf "_law_told" "_law_told" (defArgs s_law_told) (defBody s_law_told) (defScope s_law_told) .none kV30 dc30 pm30 an30 cd30 ct30), sl30⟩)
    (c30 : PySem.W.codeIn K cd30 "_law_told" = true)
    (k30 : PySem.W.keepIn K (.ref f30) = true)
    (a31 : PySem.W.nsIn K mainGlobals "_law_others" = some (some (.ref f31)))
    (l31 : K.lookup f31 = some ⟨oc31, od31, .func (PySem.W.fnOf "_law_others" "_law_others" (defArgs s_law_others) (defBody s_law_others) (defScope s_law_others) .none kV31 dc31 pm31 an31 cd31 ct31), sl31⟩)
    (c31 : PySem.W.codeIn K cd31 "_law_others" = true)
    (k31 : PySem.W.keepIn K (.ref f31) = true)
    (a32 : PySem.W.nsIn K mainGlobals "_law_refused" = some (some (.ref f32)))
    (l32 : K.lookup f32 = some ⟨oc32, od32, .func (PySem.W.fnOf "_law_refused" "_law_refused" (defArgs s_law_refused) (defBody s_law_refused) (defScope s_law_refused) .none kV32 dc32 pm32 an32 cd32 ct32), sl32⟩)
    (c32 : PySem.W.codeIn K cd32 "_law_refused" = true)
    (k32 : PySem.W.keepIn K (.ref f32) = true)
    (a33 : PySem.W.nsIn K mainGlobals "law" = some (some (.ref f33)))
    (l33 : K.lookup f33 = some ⟨oc33, od33, .func (PySem.W.fnOf "law" "law" (defArgs s_law) (defBody s_law) (defScope s_law) .none kV33 dc33 pm33 an33 cd33 ct33), sl33⟩)
    (c33 : PySem.W.codeIn K cd33 "law" = true)
    (k33 : PySem.W.keepIn K (.ref f33) = true) :
    ∃ (fd : FuncData) (cb pb : Addr), h.get? pb = some { cls := .none, data := .fields #[] } ∧ K.lookup pb = none ∧ PySem.W.CodeHd h cb pb ∧ (∀ (s : Shared) (u : Value), BindsTo s fd ⟨[u], []⟩ [("_law_script", u)]) ∧ ∀ base : Heap, K.In base → base.Ns mainGlobals mg → LamX.TabB base mg cb pb → FnOk P w K mg base (L2N.CX P w) 7 fa fd ["_law_script"] (spT K pb (fun ns : List Int => Scr ns) (fun ns => [scrD ns]) fun _ => .ret (.sh (.bool true))) := by
  have T : Bt mg := ⟨PySem.W.mg_none_of X G z_isinstance, PySem.W.mg_none_of X G z_int, PySem.W.mg_none_of X G z_bool, PySem.W.mg_none_of X G z_list, PySem.W.mg_none_of X G z_tuple, PySem.W.mg_none_of X G z_len, PySem.W.mg_none_of X G z_range, PySem.W.mg_none_of X G z_min, PySem.W.mg_none_of X G z_max, PySem.W.mg_none_of X G z_sorted, PySem.W.mg_none_of X G z_sum, PySem.W.mg_none_of X G z_any, PySem.W.mg_none_of X G z_all, PySem.W.mg_none_of X G z_set, PySem.W.mg_none_of X G z_zip, PySem.W.mg_none_of X G z_ValueError⟩
  have N : ErN mg (ErA.mk a_T a_bc a_bm a_bw a_be a_un a_nw) := ⟨PySem.W.mg_of X G n_T, PySem.W.mg_of X G n_bc, PySem.W.mg_of X G n_bm, PySem.W.mg_of X G n_bw, PySem.W.mg_of X G n_be, PySem.W.mg_of X G n_un, PySem.W.mg_of X G n_nw⟩
  have R_bc : Raised K mg (ErA.mk a_T a_bc a_bm a_bw a_be a_un a_nw) "BadCounts" a_bc "counts" := ⟨⟨x1_bc, PySem.W.mg_of X G n_bc, x2_bc, x3_bc, x4_bc⟩, ⟨x5_bc, x6_bc, x3_bc, x7_bc, x8_bc, x9_bc, xa_bc, xb_bc⟩, PySem.W.exm_ref T1 T2 T3 xc_bc, .inl ⟨rfl, ⟨ybc_bc, ybm_bc, ybw_bc, ybe_bc, yun_bc, ynw_bc, yv_bc⟩⟩⟩
  have R_bw : Raised K mg (ErA.mk a_T a_bc a_bm a_bw a_be a_un a_nw) "BadWeb" a_bw "web" := ⟨⟨x1_bw, PySem.W.mg_of X G n_bw, x2_bw, x3_bw, x4_bw⟩, ⟨x5_bw, x6_bw, x3_bw, x7_bw, x8_bw, x9_bw, xa_bw, xb_bw⟩, PySem.W.exm_ref T1 T2 T3 xc_bw, .inr (.inr (.inl ⟨rfl, ⟨ybc_bw, ybm_bw, ybw_bw, ybe_bw, yun_bw, ynw_bw, yv_bw⟩⟩))⟩
  have R_un : Raised K mg (ErA.mk a_T a_bc a_bm a_bw a_be a_un a_nw) "Unlike" a_un "unlike" := ⟨⟨x1_un, PySem.W.mg_of X G n_un, x2_un, x3_un, x4_un⟩, ⟨x5_un, x6_un, x3_un, x7_un, x8_un, x9_un, xa_un, xb_un⟩, PySem.W.exm_ref T1 T2 T3 xc_un, .inr (.inr (.inr (.inr (.inl ⟨rfl, ⟨ybc_un, ybm_un, ybw_un, ybe_un, yun_un, ynw_un, yv_un⟩⟩))))⟩
  have C : CtC mg := ⟨⟨_, PySem.W.mg_of X G m_MOST_POINTS⟩, ⟨_, PySem.W.mg_of X G m_MOST_COUNT⟩⟩
  have CW : CtW mg := ⟨⟨_, PySem.W.mg_of X G m_MOST_POINTS⟩⟩
  have e := hfa.symm.trans (PySem.W.mg_of X G a33)
  cases e
  refine ⟨PySem.W.fnOf "law" "law" (defArgs s_law) (defBody s_law) (defScope s_law) .none kV33 dc33 pm33 an33 cd33 ct33, cb, pb, own (PySem.W.mg_of X G a21) l21 rfl rfl t_c t_p, t_n, PySem.W.codeHd_of_K X (t_h K t_c), fun s v => .of_eq rfl, fun base _ _ TB => ?_⟩
  have done : F_law P w K mg base pb := by
    have F0 := fun_mk (st := s_is_among) l0 c0 k0
    have h_is_among : F_is_among P w K mg base := ok_is_among F0 (PySem.W.mg_of X G a0) (F0.binds (ps := ["thing", "least", "most"]) fun _ _ _ _ _ _ us hl => match us, hl with | [_, _, _], _ => rfl) T
    have F1 := fun_mk (st := s_law_cell) l1 c1 k1
    have h_law_cell : F_law_cell P w K mg base := ok_law_cell F1 (PySem.W.mg_of X G a1) (F1.binds (ps := ["_law_script", "_law_k"]) fun _ _ _ _ _ _ us hl => match us, hl with | [_, _], _ => rfl) T
    have F2 := fun_mk (st := s_law_mixed) l2 c2 k2
    have h_law_mixed : F_law_mixed P w K mg base := ok_law_mixed F2 (PySem.W.mg_of X G a2) (F2.binds (ps := ["_law_cell_here", "_law_k"]) fun _ _ _ _ _ _ us hl => match us, hl with | [_, _], _ => rfl) T
    have F3 := fun_mk (st := s_law_whole) l3 c3 k3
    have h_law_whole : F_law_whole P w K mg base := ok_law_whole F3 (PySem.W.mg_of X G a3) (F3.binds (ps := ["_law_found"]) fun _ _ _ _ _ _ us hl => match us, hl with | [_], _ => rfl) T
    have F4 := fun_mk (st := s_law_kind) l4 c4 k4
    have h_law_kind : F_law_kind P w K mg base (ErA.mk a_T a_bc a_bm a_bw a_be a_un a_nw) := ok_law_kind F4 (PySem.W.mg_of X G a4) (F4.binds (ps := ["_law_error"]) fun _ _ _ _ _ _ us hl => match us, hl with | [_], _ => rfl) T N
    have F5 := fun_mk (st := s_need_counts) l5 c5 k5
    have h_need_counts : F_need_counts P w K mg base (ErA.mk a_T a_bc a_bm a_bw a_be a_un a_nw) := ok_need_counts F5 (PySem.W.mg_of X G a5) (F5.binds (ps := ["thing"]) fun _ _ _ _ _ _ us hl => match us, hl with | [_], _ => rfl) T C R_bc.cl h_is_among
    have F6 := fun_mk (st := s_law_web) l6 c6 k6
    have h_law_web : F_law_web P w K mg base := ok_law_web F6 (PySem.W.mg_of X G a6) (F6.binds (ps := ["_law_script", "_law_first", "_law_most"]) fun _ _ _ _ _ _ us hl => match us, hl with | [_, _, _], _ => rfl) T h_law_cell h_law_mixed
    have F7 := fun_mk (st := s_law_counts) l7 c7 k7
    have h_law_counts : F_law_counts P w K mg base := ok_law_counts F7 (PySem.W.mg_of X G a7) (F7.binds (ps := ["_law_size", "_law_ties"]) fun _ _ _ _ _ _ us hl => match us, hl with | [_, _], _ => rfl) T
    have F8 := fun_mk (st := s_wanted_by) l8 c8 k8
    have h_wanted_by : F_wanted_by P w K mg base := ok_wanted_by F8 (PySem.W.mg_of X G a8) (F8.binds (ps := ["counts", "many"]) fun _ _ _ _ _ _ us hl => match us, hl with | [_, _], _ => rfl) T
    have F9 := fun_mk (st := s_is_tie) l9 c9 k9
    have h_is_tie : F_is_tie P w K mg base := ok_is_tie F9 (PySem.W.mg_of X G a9) (F9.binds (ps := ["size", "thing"]) fun _ _ _ _ _ _ us hl => match us, hl with | [_, _], _ => rfl) T h_is_among
    have F10 := fun_mk (st := s_need_web) l10 c10 k10
    have h_need_web : F_need_web P w K mg base (ErA.mk a_T a_bc a_bm a_bw a_be a_un a_nw) := ok_need_web F10 (PySem.W.mg_of X G a10) (F10.binds (ps := ["size", "ties"]) fun _ _ _ _ _ _ us hl => match us, hl with | [_, _], _ => rfl) T CW R_bw.cl h_is_among h_is_tie
    have F11 := fun_mk (st := s_tied) l11 c11 k11
    have h_tied : F_tied P w K mg base := ok_tied F11 (PySem.W.mg_of X G a11) (F11.binds (ps := ["one", "other"]) fun _ _ _ _ _ _ us hl => match us, hl with | [_, _], _ => rfl) T
    have F12 := fun_mk (st := s_left_by) l12 c12 k12
    have h_left_by : F_left_by P w K mg base := ok_left_by F12 (PySem.W.mg_of X G a12) (F12.binds (ps := ["ties", "exchange"]) fun _ _ _ _ _ _ us hl => match us, hl with | [_, _], _ => rfl) T h_tied
    have F13 := fun_mk (st := s_beside) l13 c13 k13
    have h_beside : F_beside P w K mg base := ok_beside F13 (PySem.W.mg_of X G a13) (F13.binds (ps := ["ties", "point"]) fun _ _ _ _ _ _ us hl => match us, hl with | [_, _], _ => rfl) T
    have F14 := fun_mk (st := s_counts_by) l14 c14 k14
    have h_counts_by : F_counts_by P w K mg base := ok_counts_by F14 (PySem.W.mg_of X G a14) (F14.binds (ps := ["size", "ties"]) fun _ _ _ _ _ _ us hl => match us, hl with | [_, _], _ => rfl) T h_beside
    have F15 := fun_mk (st := s_lacking) l15 c15 k15
    have h_lacking : F_lacking P w K mg base := ok_lacking F15 (PySem.W.mg_of X G a15) (F15.binds (ps := ["one", "other"]) fun _ _ _ _ _ _ us hl => match us, hl with | [_, _], _ => rfl) T
    have F16 := fun_mk (st := s_nearer_by) l16 c16 k16
    have h_nearer_by : F_nearer_by P w K mg base := ok_nearer_by F16 (PySem.W.mg_of X G a16) (F16.binds (ps := ["one", "other", "row"]) fun _ _ _ _ _ _ us hl => match us, hl with | [_, _, _], _ => rfl) T h_tied
    have F17 := fun_mk (st := s_nearer) l17 c17 k17
    have h_nearer : F_nearer P w K mg base := ok_nearer F17 (PySem.W.mg_of X G a17) (F17.binds (ps := ["one", "other"]) fun _ _ _ _ _ _ us hl => match us, hl with | [_, _], _ => rfl) T h_lacking h_beside h_nearer_by
    have F18 := fun_mk (st := s_turned) l18 c18 k18
    have h_turned : F_turned P w K mg base := ok_turned F18 (PySem.W.mg_of X G a18) (F18.binds (ps := ["exchange"]) fun _ _ _ _ _ _ us hl => match us, hl with | [_], _ => rfl) T
    have F19 := fun_mk (st := s_way) l19 c19 k19
    have h_way : F_way P w K mg base (ErA.mk a_T a_bc a_bm a_bw a_be a_un a_nw) := ok_way F19 (PySem.W.mg_of X G a19) (F19.binds (ps := ["size", "one", "other"]) fun _ _ _ _ _ _ us hl => match us, hl with | [_, _, _], _ => rfl) T R_un.cl h_need_web h_counts_by h_nearer h_turned h_left_by
    have F20 := fun_mk (st := s_too_many) l20 c20 k20
    have h_too_many : F_too_many P w K mg base := ok_too_many F20 (PySem.W.mg_of X G a20) (F20.binds (ps := ["counts"]) fun _ _ _ _ _ _ us hl => match us, hl with | [_], _ => rfl) T h_wanted_by
    have F21 := fun_mk (st := s_built) l21 c21 k21
    have h_built : F_built P w K mg base pb := ok_built F21 (PySem.W.mg_of X G a21) (F21.binds (ps := ["counts"]) fun _ _ _ _ _ _ us hl => match us, hl with | [_], _ => rfl) T TB rfl t_q h_tied
    have F22 := fun_mk (st := s_told_of) l22 c22 k22
    have h_told_of : F_told_of P w K mg base pb := ok_told_of F22 (PySem.W.mg_of X G a22) (F22.binds (ps := ["counts"]) fun _ _ _ _ _ _ us hl => match us, hl with | [_], _ => rfl) T h_too_many h_built
    have F23 := fun_mk (st := s_told) l23 c23 k23
    have h_told : F_told P w K mg base pb (ErA.mk a_T a_bc a_bm a_bw a_be a_un a_nw) := ok_told F23 (PySem.W.mg_of X G a23) (F23.binds (ps := ["counts"]) fun _ _ _ _ _ _ us hl => match us, hl with | [_], _ => rfl) T h_need_counts h_told_of
    have F24 := fun_mk (st := s_law_tied) l24 c24 k24
    have h_law_tied : F_law_tied P w K mg base := ok_law_tied F24 (PySem.W.mg_of X G a24) (F24.binds (ps := ["_law_one", "_law_other"]) fun _ _ _ _ _ _ us hl => match us, hl with | [_, _], _ => rfl) T
    have F25 := fun_mk (st := s_law_fits) l25 c25 k25
    have h_law_fits : F_law_fits P w K mg base := ok_law_fits F25 (PySem.W.mg_of X G a25) (F25.binds (ps := ["_law_ties", "_law_row"]) fun _ _ _ _ _ _ us hl => match us, hl with | [_, _], _ => rfl) T h_law_tied
    have F26 := fun_mk (st := s_law_left) l26 c26 k26
    have h_law_left : F_law_left P w K mg base := ok_law_left F26 (PySem.W.mg_of X G a26) (F26.binds (ps := ["_law_ties", "_law_row"]) fun _ _ _ _ _ _ us hl => match us, hl with | [_, _], _ => rfl) T h_law_tied
    have F27 := fun_mk (st := s_law_is_row) l27 c27 k27
    have h_law_is_row : F_law_is_row P w K mg base := ok_law_is_row F27 (PySem.W.mg_of X G a27) (F27.binds (ps := ["_law_found", "_law_size"]) fun _ _ _ _ _ _ us hl => match us, hl with | [_, _], _ => rfl) T h_law_whole
    have F28 := fun_mk (st := s_law_changed) l28 c28 k28
    have h_law_changed : F_law_changed P w K mg base := ok_law_changed F28 (PySem.W.mg_of X G a28) (F28.binds (ps := ["_law_script", "_law_first", "_law_size", "_law_ties"]) fun _ _ _ _ _ _ us hl => match us, hl with | [_, _, _, _], _ => rfl) T h_law_cell h_law_mixed h_law_fits h_law_left
    have F29 := fun_mk (st := s_law_led) l29 c29 k29
    have h_law_led : F_law_led P w K mg base := ok_law_led F29 (PySem.W.mg_of X G a29) (F29.binds (ps := ["_law_size", "_law_one", "_law_other", "_law_found"]) fun _ _ _ _ _ _ us hl => match us, hl with | [_, _, _, _], _ => rfl) T h_law_is_row h_law_fits h_law_left
    have F30 := fun_mk (st := s_law_told) l30 c30 k30
    have h_law_told : F_law_told P w K mg base := ok_law_told F30 (PySem.W.mg_of X G a30) (F30.binds (ps := ["_law_size", "_law_one", "_law_other"]) fun _ _ _ _ _ _ us hl => match us, hl with | [_, _, _], _ => rfl) T N R_bw R_un h_way h_law_kind
    have F31 := fun_mk (st := s_law_others) l31 c31 k31
    have h_law_others : F_law_others P w K mg base := ok_law_others F31 (PySem.W.mg_of X G a31) (F31.binds (ps := ["_law_size", "_law_one", "_law_cell_here"]) fun _ _ _ _ _ _ us hl => match us, hl with | [_, _, _], _ => rfl) T h_law_tied h_law_counts
    have F32 := fun_mk (st := s_law_refused) l32 c32 k32
    have h_law_refused : F_law_refused P w K mg base := ok_law_refused F32 (PySem.W.mg_of X G a32) (F32.binds (ps := ["_law_size", "_law_one", "_law_cell_here"]) fun _ _ _ _ _ _ us hl => match us, hl with | [_, _, _], _ => rfl) T h_law_others h_law_told
    have F33 := fun_mk (st := s_law) l33 c33 k33
    have h_law : F_law P w K mg base pb := ok_law F33 (PySem.W.mg_of X G a33) (F33.binds (ps := ["_law_script"]) fun _ _ _ _ _ _ us hl => match us, hl with | [_], _ => rfl) T h_law_web h_law_changed h_law_cell h_law_counts h_told h_law_told h_law_led h_law_refused
    exact h_law
  obtain ⟨f', fd', hF, hm', _, _, oc', od', sl', lk'⟩ := done.ex
  have e1 := hm'.symm.trans (PySem.W.mg_of X G a33)
  cases e1
  have e2 := lk'.symm.trans l33
  cases e2
  exact hF
end
end KW
open PySem PySem.W PyProof.Rows
set_option maxHeartbeats 0 in
theorem PySem.Challenge.cw_tiecount_k06_whole_ways_holds : PySem.Challenge.rw_tiecount_k06_whole_ways.Holds := by
  w_on; o_law; k_head; (case hw => w_witness2)
  k_fill
  refine KW.walk_lawT (k := 7) (l := PySem.Challenge.rw_tiecount_k06_whole_ways) rfl rfl ⟨rfl, by decide, by decide⟩ ?hrec (fun w h Y => by first | exact PySem.W.km_in_of Y | exact PySem.W.kIn_of Y) ?F
  case hrec => first | rfl | decide +kernel
  case F =>
    intro w mg fa h KX G hmg own
    refine' KW.all_mk KX G hmg own ?n_T ?n_bc ?n_bm ?n_bw ?n_be ?n_un ?n_nw ?T1 ?T2 ?T3 ?x1_bc ?x2_bc ?x3_bc ?x4_bc ?x5_bc ?x6_bc ?x7_bc ?x8_bc ?x9_bc ?xa_bc ?xb_bc ?xc_bc ?ybc_bc ?ybm_bc ?ybw_bc ?ybe_bc ?yun_bc ?ynw_bc ?yv_bc ?x1_bw ?x2_bw ?x3_bw ?x4_bw ?x5_bw ?x6_bw ?x7_bw ?x8_bw ?x9_bw ?xa_bw ?xb_bw ?xc_bw ?ybc_bw ?ybm_bw ?ybw_bw ?ybe_bw ?yun_bw ?ynw_bw ?yv_bw ?x1_un ?x2_un ?x3_un ?x4_un ?x5_un ?x6_un ?x7_un ?x8_un ?x9_un ?xa_un ?xb_un ?xc_un ?ybc_un ?ybm_un ?ybw_un ?ybe_un ?yun_un ?ynw_un ?yv_un ?z_isinstance ?z_int ?z_bool ?z_list ?z_tuple ?z_len ?z_range ?z_min ?z_max ?z_sorted ?z_sum ?z_any ?z_all ?z_set ?z_zip ?z_ValueError ?m_MOST_POINTS ?m_MOST_COUNT ?a0 ?l0 ?c0 ?k0 ?a1 ?l1 ?c1 ?k1 ?a2 ?l2 ?c2 ?k2 ?a3 ?l3 ?c3 ?k3 ?a4 ?l4 ?c4 ?k4 ?a5 ?l5 ?c5 ?k5 ?a6 ?l6 ?c6 ?k6 ?a7 ?l7 ?c7 ?k7 ?a8 ?l8 ?c8 ?k8 ?a9 ?l9 ?c9 ?k9 ?a10 ?l10 ?c10 ?k10 ?a11 ?l11 ?c11 ?k11 ?a12 ?l12 ?c12 ?k12 ?a13 ?l13 ?c13 ?k13 ?a14 ?l14 ?c14 ?k14 ?a15 ?l15 ?c15 ?k15 ?a16 ?l16 ?c16 ?k16 ?a17 ?l17 ?c17 ?k17 ?a18 ?l18 ?c18 ?k18 ?a19 ?l19 ?c19 ?k19 ?a20 ?l20 ?c20 ?k20 ?a21 ?l21 ?t_c ?t_p ?t_h ?t_n ?t_q ?c21 ?k21 ?a22 ?l22 ?c22 ?k22 ?a23 ?l23 ?c23 ?k23 ?a24 ?l24 ?c24 ?k24 ?a25 ?l25 ?c25 ?k25 ?a26 ?l26 ?c26 ?k26 ?a27 ?l27 ?c27 ?k27 ?a28 ?l28 ?c28 ?k28 ?a29 ?l29 ?c29 ?k29 ?a30 ?l30 ?c30 ?k30 ?a31 ?l31 ?c31 ?k31 ?a32 ?l32 ?c32 ?k32 ?a33 ?l33 ?c33 ?k33
    (case n_T => first | k_is | kit_is | k_exc); (case n_bc => first | k_is | kit_is | k_exc); (case n_bm => first | k_is | kit_is | k_exc); (case n_bw => first | k_is | kit_is | k_exc)
    (case n_be => first | k_is | kit_is | k_exc); (case n_un => first | k_is | kit_is | k_exc); (case n_nw => first | k_is | kit_is | k_exc); (case T1 => first | k_is | kit_is | k_exc)
    (case T2 => first | k_is | kit_is | k_exc); (case T3 => first | k_is | kit_is | k_exc); (case x1_bc => first | k_is | kit_is | k_exc); (case x2_bc => first | k_is | kit_is | k_exc)
    (case x3_bc => first | k_is | kit_is | k_exc); (case x4_bc => first | k_is | kit_is | k_exc); (case x5_bc => first | k_is | kit_is | k_exc); (case x6_bc => first | k_is | kit_is | k_exc)
    (case x7_bc => first | k_is | kit_is | k_exc); (case x8_bc => first | k_is | kit_is | k_exc); (case x9_bc => first | k_is | kit_is | k_exc); (case xa_bc => first | k_is | kit_is | k_exc)
    (case xb_bc => first | k_is | kit_is | k_exc); (case xc_bc => first | k_is | kit_is | k_exc); (case ybc_bc => first | k_is | kit_is | k_exc); (case ybm_bc => first | k_is | kit_is | k_exc)
    (case ybw_bc => first | k_is | kit_is | k_exc); (case ybe_bc => first | k_is | kit_is | k_exc); (case yun_bc => first | k_is | kit_is | k_exc); (case ynw_bc => first | k_is | kit_is | k_exc)
    (case yv_bc => first | k_is | kit_is | k_exc); (case x1_bw => first | k_is | kit_is | k_exc); (case x2_bw => first | k_is | kit_is | k_exc); (case x3_bw => first | k_is | kit_is | k_exc)
    (case x4_bw => first | k_is | kit_is | k_exc); (case x5_bw => first | k_is | kit_is | k_exc); (case x6_bw => first | k_is | kit_is | k_exc); (case x7_bw => first | k_is | kit_is | k_exc)
    (case x8_bw => first | k_is | kit_is | k_exc); (case x9_bw => first | k_is | kit_is | k_exc); (case xa_bw => first | k_is | kit_is | k_exc); (case xb_bw => first | k_is | kit_is | k_exc)
    (case xc_bw => first | k_is | kit_is | k_exc); (case ybc_bw => first | k_is | kit_is | k_exc); (case ybm_bw => first | k_is | kit_is | k_exc); (case ybw_bw => first | k_is | kit_is | k_exc)
    (case ybe_bw => first | k_is | kit_is | k_exc); (case yun_bw => first | k_is | kit_is | k_exc); (case ynw_bw => first | k_is | kit_is | k_exc); (case yv_bw => first | k_is | kit_is | k_exc)
    (case x1_un => first | k_is | kit_is | k_exc); (case x2_un => first | k_is | kit_is | k_exc); (case x3_un => first | k_is | kit_is | k_exc); (case x4_un => first | k_is | kit_is | k_exc)
    (case x5_un => first | k_is | kit_is | k_exc); (case x6_un => first | k_is | kit_is | k_exc); (case x7_un => first | k_is | kit_is | k_exc); (case x8_un => first | k_is | kit_is | k_exc)
    (case x9_un => first | k_is | kit_is | k_exc); (case xa_un => first | k_is | kit_is | k_exc); (case xb_un => first | k_is | kit_is | k_exc); (case xc_un => first | k_is | kit_is | k_exc)
    (case ybc_un => first | k_is | kit_is | k_exc); (case ybm_un => first | k_is | kit_is | k_exc); (case ybw_un => first | k_is | kit_is | k_exc); (case ybe_un => first | k_is | kit_is | k_exc)
    (case yun_un => first | k_is | kit_is | k_exc); (case ynw_un => first | k_is | kit_is | k_exc); (case yv_un => first | k_is | kit_is | k_exc); (case z_isinstance => first | k_is | kit_is | k_exc)
    (case z_int => first | k_is | kit_is | k_exc); (case z_bool => first | k_is | kit_is | k_exc); (case z_list => first | k_is | kit_is | k_exc); (case z_tuple => first | k_is | kit_is | k_exc)
    (case z_len => first | k_is | kit_is | k_exc); (case z_range => first | k_is | kit_is | k_exc); (case z_min => first | k_is | kit_is | k_exc); (case z_max => first | k_is | kit_is | k_exc)
    (case z_sorted => first | k_is | kit_is | k_exc); (case z_sum => first | k_is | kit_is | k_exc); (case z_any => first | k_is | kit_is | k_exc); (case z_all => first | k_is | kit_is | k_exc)
    (case z_set => first | k_is | kit_is | k_exc); (case z_zip => first | k_is | kit_is | k_exc); (case z_ValueError => first | k_is | kit_is | k_exc); (case m_MOST_POINTS => first | k_is | kit_is | k_exc)
    (case m_MOST_COUNT => first | k_is | kit_is | k_exc); (case a0 => first | k_is | kit_is | k_exc); (case l0 => first | k_is | kit_is | k_exc); (case c0 => first | k_is | kit_is | k_exc)
    (case k0 => first | k_is | kit_is | k_exc); (case a1 => first | k_is | kit_is | k_exc); (case l1 => first | k_is | kit_is | k_exc); (case c1 => first | k_is | kit_is | k_exc)
    (case k1 => first | k_is | kit_is | k_exc); (case a2 => first | k_is | kit_is | k_exc); (case l2 => first | k_is | kit_is | k_exc); (case c2 => first | k_is | kit_is | k_exc)
    (case k2 => first | k_is | kit_is | k_exc); (case a3 => first | k_is | kit_is | k_exc); (case l3 => first | k_is | kit_is | k_exc); (case c3 => first | k_is | kit_is | k_exc)
    (case k3 => first | k_is | kit_is | k_exc); (case a4 => first | k_is | kit_is | k_exc); (case l4 => first | k_is | kit_is | k_exc); (case c4 => first | k_is | kit_is | k_exc)
    (case k4 => first | k_is | kit_is | k_exc); (case a5 => first | k_is | kit_is | k_exc); (case l5 => first | k_is | kit_is | k_exc); (case c5 => first | k_is | kit_is | k_exc)
    (case k5 => first | k_is | kit_is | k_exc); (case a6 => first | k_is | kit_is | k_exc); (case l6 => first | k_is | kit_is | k_exc); (case c6 => first | k_is | kit_is | k_exc)
    (case k6 => first | k_is | kit_is | k_exc); (case a7 => first | k_is | kit_is | k_exc); (case l7 => first | k_is | kit_is | k_exc); (case c7 => first | k_is | kit_is | k_exc)
    (case k7 => first | k_is | kit_is | k_exc); (case a8 => first | k_is | kit_is | k_exc); (case l8 => first | k_is | kit_is | k_exc); (case c8 => first | k_is | kit_is | k_exc)
    (case k8 => first | k_is | kit_is | k_exc); (case a9 => first | k_is | kit_is | k_exc); (case l9 => first | k_is | kit_is | k_exc); (case c9 => first | k_is | kit_is | k_exc)
    (case k9 => first | k_is | kit_is | k_exc); (case a10 => first | k_is | kit_is | k_exc); (case l10 => first | k_is | kit_is | k_exc); (case c10 => first | k_is | kit_is | k_exc)
    (case k10 => first | k_is | kit_is | k_exc); (case a11 => first | k_is | kit_is | k_exc); (case l11 => first | k_is | kit_is | k_exc); (case c11 => first | k_is | kit_is | k_exc)
    (case k11 => first | k_is | kit_is | k_exc); (case a12 => first | k_is | kit_is | k_exc); (case l12 => first | k_is | kit_is | k_exc); (case c12 => first | k_is | kit_is | k_exc)
    (case k12 => first | k_is | kit_is | k_exc); (case a13 => first | k_is | kit_is | k_exc); (case l13 => first | k_is | kit_is | k_exc); (case c13 => first | k_is | kit_is | k_exc)
    (case k13 => first | k_is | kit_is | k_exc); (case a14 => first | k_is | kit_is | k_exc); (case l14 => first | k_is | kit_is | k_exc); (case c14 => first | k_is | kit_is | k_exc)
    (case k14 => first | k_is | kit_is | k_exc); (case a15 => first | k_is | kit_is | k_exc); (case l15 => first | k_is | kit_is | k_exc); (case c15 => first | k_is | kit_is | k_exc)
    (case k15 => first | k_is | kit_is | k_exc); (case a16 => first | k_is | kit_is | k_exc); (case l16 => first | k_is | kit_is | k_exc); (case c16 => first | k_is | kit_is | k_exc)
    (case k16 => first | k_is | kit_is | k_exc); (case a17 => first | k_is | kit_is | k_exc); (case l17 => first | k_is | kit_is | k_exc); (case c17 => first | k_is | kit_is | k_exc)
    (case k17 => first | k_is | kit_is | k_exc); (case a18 => first | k_is | kit_is | k_exc); (case l18 => first | k_is | kit_is | k_exc); (case c18 => first | k_is | kit_is | k_exc)
    (case k18 => first | k_is | kit_is | k_exc); (case a19 => first | k_is | kit_is | k_exc); (case l19 => first | k_is | kit_is | k_exc); (case c19 => first | k_is | kit_is | k_exc)
    (case k19 => first | k_is | kit_is | k_exc); (case a20 => first | k_is | kit_is | k_exc); (case l20 => first | k_is | kit_is | k_exc); (case c20 => first | k_is | kit_is | k_exc)
    (case k20 => first | k_is | kit_is | k_exc); (case a21 => first | k_is | kit_is | k_exc); (case l21 => first | k_is | kit_is | k_exc); (case t_c => first | k_is | kit_is | k_exc)
    (case t_p => exact rfl); (case t_h => intro K1 h1; unfold PySem.W.codeHdIn; rw [h1]; rfl); (case t_n => first | rfl | kernel_rfl); (case t_q => first | rfl | decide)
    (case c21 => first | k_is | kit_is | k_exc); (case k21 => first | k_is | kit_is | k_exc); (case a22 => first | k_is | kit_is | k_exc); (case l22 => first | k_is | kit_is | k_exc)
    (case c22 => first | k_is | kit_is | k_exc); (case k22 => first | k_is | kit_is | k_exc); (case a23 => first | k_is | kit_is | k_exc); (case l23 => first | k_is | kit_is | k_exc)
    (case c23 => first | k_is | kit_is | k_exc); (case k23 => first | k_is | kit_is | k_exc); (case a24 => first | k_is | kit_is | k_exc); (case l24 => first | k_is | kit_is | k_exc)
    (case c24 => first | k_is | kit_is | k_exc); (case k24 => first | k_is | kit_is | k_exc); (case a25 => first | k_is | kit_is | k_exc); (case l25 => first | k_is | kit_is | k_exc)
    (case c25 => first | k_is | kit_is | k_exc); (case k25 => first | k_is | kit_is | k_exc); (case a26 => first | k_is | kit_is | k_exc); (case l26 => first | k_is | kit_is | k_exc)
    (case c26 => first | k_is | kit_is | k_exc); (case k26 => first | k_is | kit_is | k_exc); (case a27 => first | k_is | kit_is | k_exc); (case l27 => first | k_is | kit_is | k_exc)
    (case c27 => first | k_is | kit_is | k_exc); (case k27 => first | k_is | kit_is | k_exc); (case a28 => first | k_is | kit_is | k_exc); (case l28 => first | k_is | kit_is | k_exc)
    (case c28 => first | k_is | kit_is | k_exc); (case k28 => first | k_is | kit_is | k_exc); (case a29 => first | k_is | kit_is | k_exc); (case l29 => first | k_is | kit_is | k_exc)
    (case c29 => first | k_is | kit_is | k_exc); (case k29 => first | k_is | kit_is | k_exc); (case a30 => first | k_is | kit_is | k_exc); (case l30 => first | k_is | kit_is | k_exc)
    (case c30 => first | k_is | kit_is | k_exc); (case k30 => first | k_is | kit_is | k_exc); (case a31 => first | k_is | kit_is | k_exc); (case l31 => first | k_is | kit_is | k_exc)
    (case c31 => first | k_is | kit_is | k_exc); (case k31 => first | k_is | kit_is | k_exc); (case a32 => first | k_is | kit_is | k_exc); (case l32 => first | k_is | kit_is | k_exc)
    (case c32 => first | k_is | kit_is | k_exc); (case k32 => first | k_is | kit_is | k_exc); (case a33 => first | k_is | kit_is | k_exc); (case l33 => first | k_is | kit_is | k_exc)
    (case c33 => first | k_is | kit_is | k_exc); (case k33 => first | k_is | kit_is | k_exc)
